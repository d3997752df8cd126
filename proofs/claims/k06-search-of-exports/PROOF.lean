import PyProof.Rows.All
import Wide.All
import OpenK.AllK
import Wide.FinOn
import HandS.ForMost
import HandS.More
import HandS.Defaults
import HandS.Head0
import HandS.Head1
import HandS.Head2
import HandS.HeadEnd
import HandS.HeadHook1
import HandS.HeadHook2
import HandS.HeadHook3
import HandS.HeadHook4
import HandS.Codes
import HandS.StrMore
import HandS.Walk
import HandS.DictComp
import HandS.Deep
import HandS.Set
import HandS.SetFor
import HandS.SetTxt0
import HandS.WordsDict
import PySem.Challenge.RW_fascicle_k06_search_of_exports
set_option Elab.async false
set_option linter.all false
set_option maxRecDepth 100000
namespace Fz
open PySem L2
def top (i : Nat) : Stmt := PySem.Challenge.pw_fascicle_k06_search_of_exports.main.body.getD i (.Pass ⟨0, 0, 0, 0⟩)
abbrev s_is_letter : Stmt := top 10
abbrev s_is_digit : Stmt := top 11
abbrev s_in_name : Stmt := top 12
abbrev s_run_end : Stmt := top 13
abbrev s_read_word : Stmt := top 15
abbrev s_read_number : Stmt := top 16
abbrev s_read_string : Stmt := top 17
abbrev s_read_sign : Stmt := top 18
abbrev s_read_token : Stmt := top 19
abbrev s_tokens : Stmt := top 20
abbrev m_Reader___init__ : Stmt := inClass (top 26) 0
abbrev m_Reader_at : Stmt := inClass (top 26) 1
abbrev m_Reader_sees : Stmt := inClass (top 26) 2
abbrev m_Reader_sees_kind : Stmt := inClass (top 26) 3
abbrev m_Reader_follows : Stmt := inClass (top 26) 4
abbrev m_Reader_accept : Stmt := inClass (top 26) 5
abbrev m_Reader_expect : Stmt := inClass (top 26) 6
abbrev m_Reader_read : Stmt := inClass (top 26) 7
abbrev s_read_primary : Stmt := top 30
abbrev s_read_call : Stmt := top 31
abbrev s_read_product : Stmt := top 32
abbrev s_read_sum : Stmt := top 33
abbrev s_read_plain : Stmt := top 34
abbrev s_read_both : Stmt := top 35
abbrev s_read_expression : Stmt := top 36
abbrev s_read_let : Stmt := top 38
abbrev s_read_statement : Stmt := top 42
abbrev s_read_pairs : Stmt := top 43
abbrev s_read_from : Stmt := top 44
abbrev s_read_import : Stmt := top 45
abbrev s_read_export : Stmt := top 46
abbrev s_expression_depth : Stmt := top 47
abbrev s_depth : Stmt := top 49
abbrev s_parse : Stmt := top 50
abbrev s_needs : Stmt := top 54
abbrev m_Graph___init__ : Stmt := inClass (top 55) 0
abbrev m_Graph__reach : Stmt := inClass (top 55) 1
abbrev m_Graph_order : Stmt := inClass (top 55) 2
abbrev m_Graph_module_items : Stmt := inClass (top 55) 3
abbrev m_Graph_declared : Stmt := inClass (top 55) 4
abbrev m_Graph_imported : Stmt := inClass (top 55) 5
abbrev m_Graph_spaces : Stmt := inClass (top 55) 6
abbrev m_Graph_local : Stmt := inClass (top 55) 7
abbrev m_Graph_search : Stmt := inClass (top 55) 8
abbrev m_Graph_search_stars : Stmt := inClass (top 55) 9
abbrev m_Graph_resolve : Stmt := inClass (top 55) 10
abbrev m_Graph_told_names : Stmt := inClass (top 55) 11
abbrev m_Graph_exports : Stmt := inClass (top 55) 12
abbrev s__law_cell : Stmt := top 57
abbrev s__law_numbers : Stmt := top 58
abbrev s__law_feed : Stmt := top 59
abbrev s__law_take : Stmt := top 60
abbrev s__law_search : Stmt := top 61
abbrev s__law_local : Stmt := top 62
abbrev s__law_star_modules : Stmt := top 63
abbrev s__law_resolve : Stmt := top 64
abbrev s_law : Stmt := top 65
theorem sc_is_letter : FnScope ["char"] ["char"] (defScope s_is_letter) := ⟨rfl, rfl, rfl, by decide +kernel, rfl, by decide +kernel, by decide +kernel⟩
theorem sc_is_digit : FnScope ["char"] ["char"] (defScope s_is_digit) := ⟨rfl, rfl, rfl, by decide +kernel, rfl, by decide +kernel, by decide +kernel⟩
theorem sc_in_name : FnScope ["char"] ["char"] (defScope s_in_name) := ⟨rfl, rfl, rfl, by decide +kernel, rfl, by decide +kernel, by decide +kernel⟩
theorem sc_run_end : FnScope ["text", "at"] ["text", "at"] (defScope s_run_end) := ⟨rfl, rfl, rfl, by decide +kernel, rfl, by decide +kernel, by decide +kernel⟩
theorem sc_read_word : FnScope ["text", "at", "module", "end", "word"] ["text", "at", "module"] (defScope s_read_word) := ⟨rfl, rfl, rfl, by decide +kernel, rfl, by decide +kernel, by decide +kernel⟩
theorem sc_read_number : FnScope ["text", "at", "module", "end", "digits", "char"] ["text", "at", "module"] (defScope s_read_number) := ⟨rfl, rfl, rfl, by decide +kernel, rfl, by decide +kernel, by decide +kernel⟩
theorem sc_read_string : FnScope ["text", "at", "module", "end"] ["text", "at", "module"] (defScope s_read_string) := ⟨rfl, rfl, rfl, by decide +kernel, rfl, by decide +kernel, by decide +kernel⟩
theorem sc_read_sign : FnScope ["text", "at", "module", "sign"] ["text", "at", "module"] (defScope s_read_sign) := ⟨rfl, rfl, rfl, by decide +kernel, rfl, by decide +kernel, by decide +kernel⟩
theorem sc_read_token : FnScope ["text", "at", "module"] ["text", "at", "module"] (defScope s_read_token) := ⟨rfl, rfl, rfl, by decide +kernel, rfl, by decide +kernel, by decide +kernel⟩
theorem sc_tokens : FnScope ["text", "module", "result", "at", "token"] ["text", "module"] (defScope s_tokens) := ⟨rfl, rfl, rfl, by decide +kernel, rfl, by decide +kernel, by decide +kernel⟩
theorem sc_Reader___init__ : FnScope ["self", "text", "module"] ["self", "text", "module"] (defScope m_Reader___init__) := ⟨rfl, rfl, rfl, by decide +kernel, rfl, by decide +kernel, by decide +kernel⟩
theorem sc_Reader_at : FnScope ["self"] ["self"] (defScope m_Reader_at) := ⟨rfl, rfl, rfl, by decide +kernel, rfl, by decide +kernel, by decide +kernel⟩
theorem sc_Reader_sees : FnScope ["self", "kind", "value"] ["self", "kind", "value"] (defScope m_Reader_sees) := ⟨rfl, rfl, rfl, by decide +kernel, rfl, by decide +kernel, by decide +kernel⟩
theorem sc_Reader_sees_kind : FnScope ["self", "kind"] ["self", "kind"] (defScope m_Reader_sees_kind) := ⟨rfl, rfl, rfl, by decide +kernel, rfl, by decide +kernel, by decide +kernel⟩
theorem sc_Reader_follows : FnScope ["self", "kind", "value"] ["self", "kind", "value"] (defScope m_Reader_follows) := ⟨rfl, rfl, rfl, by decide +kernel, rfl, by decide +kernel, by decide +kernel⟩
theorem sc_Reader_accept : FnScope ["self", "kind", "value"] ["self", "kind", "value"] (defScope m_Reader_accept) := ⟨rfl, rfl, rfl, by decide +kernel, rfl, by decide +kernel, by decide +kernel⟩
theorem sc_Reader_expect : FnScope ["self", "kind", "value"] ["self", "kind", "value"] (defScope m_Reader_expect) := ⟨rfl, rfl, rfl, by decide +kernel, rfl, by decide +kernel, by decide +kernel⟩
theorem sc_Reader_read : FnScope ["self", "kind"] ["self", "kind"] (defScope m_Reader_read) := ⟨rfl, rfl, rfl, by decide +kernel, rfl, by decide +kernel, by decide +kernel⟩
theorem sc_read_primary : FnScope ["reader", "level", "at", "inner", "parameters", "name"] ["reader", "level"] (defScope s_read_primary) := ⟨rfl, rfl, rfl, by decide +kernel, rfl, by decide +kernel, by decide +kernel⟩
theorem sc_read_call : FnScope ["reader", "level", "result"] ["reader", "level"] (defScope s_read_call) := ⟨rfl, rfl, rfl, by decide +kernel, rfl, by decide +kernel, by decide +kernel⟩
theorem sc_read_product : FnScope ["reader", "level", "result"] ["reader", "level"] (defScope s_read_product) := ⟨rfl, rfl, rfl, by decide +kernel, rfl, by decide +kernel, by decide +kernel⟩
theorem sc_read_sum : FnScope ["reader", "level", "result", "sign"] ["reader", "level"] (defScope s_read_sum) := ⟨rfl, rfl, rfl, by decide +kernel, rfl, by decide +kernel, by decide +kernel⟩
theorem sc_read_plain : FnScope ["reader", "level", "result", "sign"] ["reader", "level"] (defScope s_read_plain) := ⟨rfl, rfl, rfl, by decide +kernel, rfl, by decide +kernel, by decide +kernel⟩
theorem sc_read_both : FnScope ["reader", "level", "result"] ["reader", "level"] (defScope s_read_both) := ⟨rfl, rfl, rfl, by decide +kernel, rfl, by decide +kernel, by decide +kernel⟩
theorem sc_read_expression : FnScope ["reader", "level", "result"] ["reader", "level"] (defScope s_read_expression) := ⟨rfl, rfl, rfl, by decide +kernel, rfl, by decide +kernel, by decide +kernel⟩
theorem sc_read_let : FnScope ["reader", "at", "level", "name", "value"] ["reader", "at", "level"] (defScope s_read_let) := ⟨rfl, rfl, rfl, by decide +kernel, rfl, by decide +kernel, by decide +kernel⟩
theorem sc_read_statement : FnScope ["reader", "level", "at", "result"] ["reader", "level"] (defScope s_read_statement) := ⟨rfl, rfl, rfl, by decide +kernel, rfl, by decide +kernel, by decide +kernel⟩
theorem sc_read_pairs : FnScope ["reader", "pairs", "more", "name", "other"] ["reader"] (defScope s_read_pairs) := ⟨rfl, rfl, rfl, by decide +kernel, rfl, by decide +kernel, by decide +kernel⟩
theorem sc_read_from : FnScope ["reader", "name"] ["reader"] (defScope s_read_from) := ⟨rfl, rfl, rfl, by decide +kernel, rfl, by decide +kernel, by decide +kernel⟩
theorem sc_read_import : FnScope ["reader", "at", "name", "local", "pairs"] ["reader", "at"] (defScope s_read_import) := ⟨rfl, rfl, rfl, by decide +kernel, rfl, by decide +kernel, by decide +kernel⟩
theorem sc_read_export : FnScope ["reader", "at", "pairs", "start", "item"] ["reader", "at"] (defScope s_read_export) := ⟨rfl, rfl, rfl, by decide +kernel, rfl, by decide +kernel, by decide +kernel⟩
theorem sc_expression_depth : FnScope ["e", "head", "argument"] ["e"] (defScope s_expression_depth) := ⟨rfl, rfl, rfl, by decide +kernel, rfl, by decide +kernel, by decide +kernel⟩
theorem sc_depth : FnScope ["item", "head"] ["item"] (defScope s_depth) := ⟨rfl, rfl, rfl, by decide +kernel, rfl, by decide +kernel, by decide +kernel⟩
theorem sc_parse : FnScope ["text", "module", "reader", "items", "at"] ["text", "module"] (defScope s_parse) := ⟨rfl, rfl, rfl, by decide +kernel, rfl, by decide +kernel, by decide +kernel⟩
theorem sc_needs : FnScope ["items", "item"] ["items"] (defScope s_needs) := ⟨rfl, rfl, rfl, by decide +kernel, rfl, by decide +kernel, by decide +kernel⟩
theorem sc_Graph___init__ : FnScope ["self", "modules", "entry"] ["self", "modules", "entry"] (defScope m_Graph___init__) := ⟨rfl, rfl, rfl, by decide +kernel, rfl, by decide +kernel, by decide +kernel⟩
theorem sc_Graph__reach : FnScope ["self", "name", "other"] ["self", "name"] (defScope m_Graph__reach) := ⟨rfl, rfl, rfl, by decide +kernel, rfl, by decide +kernel, by decide +kernel⟩
theorem sc_Graph_order : FnScope ["self"] ["self"] (defScope m_Graph_order) := ⟨rfl, rfl, rfl, by decide +kernel, rfl, by decide +kernel, by decide +kernel⟩
theorem sc_Graph_module_items : FnScope ["self", "name"] ["self", "name"] (defScope m_Graph_module_items) := ⟨rfl, rfl, rfl, by decide +kernel, rfl, by decide +kernel, by decide +kernel⟩
theorem sc_Graph_declared : FnScope ["self", "name", "item"] ["self", "name"] (defScope m_Graph_declared) := ⟨rfl, rfl, rfl, by decide +kernel, rfl, by decide +kernel, by decide +kernel⟩
theorem sc_Graph_imported : FnScope ["self", "name", "found", "item", "other", "local"] ["self", "name"] (defScope m_Graph_imported) := ⟨rfl, rfl, rfl, by decide +kernel, rfl, by decide +kernel, by decide +kernel⟩
theorem sc_Graph_spaces : FnScope ["self", "name", "item"] ["self", "name"] (defScope m_Graph_spaces) := ⟨rfl, rfl, rfl, by decide +kernel, rfl, by decide +kernel, by decide +kernel⟩
theorem sc_Graph_local : FnScope ["self", "name", "local", "seen", "imported"] ["self", "name", "local", "seen"] (defScope m_Graph_local) := ⟨rfl, rfl, rfl, by decide +kernel, rfl, by decide +kernel, by decide +kernel⟩
theorem sc_Graph_search : FnScope ["self", "name", "wanted", "seen", "item", "local", "other", "inner"] ["self", "name", "wanted", "seen"] (defScope m_Graph_search) := ⟨rfl, rfl, rfl, by decide +kernel, rfl, by decide +kernel, by decide +kernel⟩
theorem sc_Graph_search_stars : FnScope ["self", "name", "wanted", "seen", "found", "item", "one"] ["self", "name", "wanted", "seen"] (defScope m_Graph_search_stars) := ⟨rfl, rfl, rfl, by decide +kernel, rfl, by decide +kernel, by decide +kernel⟩
theorem sc_Graph_resolve : FnScope ["self", "name", "wanted", "found"] ["self", "name", "wanted"] (defScope m_Graph_resolve) := ⟨rfl, rfl, rfl, by decide +kernel, rfl, by decide +kernel, by decide +kernel⟩
theorem sc_Graph_told_names : FnScope ["self", "name", "seen", "found", "item", "local", "other", "inner"] ["self", "name", "seen", "found"] (defScope m_Graph_told_names) := ⟨rfl, rfl, rfl, by decide +kernel, rfl, by decide +kernel, by decide +kernel⟩
theorem sc_Graph_exports : FnScope ["self", "name", "found", "one"] ["self", "name"] (defScope m_Graph_exports) := ⟨rfl, rfl, rfl, by decide +kernel, rfl, by decide +kernel, by decide +kernel⟩
theorem sc__law_cell : FnScope ["_law_script", "_law_k"] ["_law_script", "_law_k"] (defScope s__law_cell) := ⟨rfl, rfl, rfl, by decide +kernel, rfl, by decide +kernel, by decide +kernel⟩
theorem sc__law_numbers : FnScope ["_law_cell_here", "_law_many", "_law_found", "_law_rest", "_law_k"] ["_law_cell_here", "_law_many"] (defScope s__law_numbers) := ⟨rfl, rfl, rfl, by decide +kernel, rfl, by decide +kernel, by decide +kernel⟩
theorem sc__law_feed : FnScope ["_law_cell_here", "_law_many"] ["_law_cell_here", "_law_many"] (defScope s__law_feed) := ⟨rfl, rfl, rfl, by decide +kernel, rfl, by decide +kernel, by decide +kernel⟩
theorem sc__law_take : FnScope ["_law_feed_here", "_law_limit", "_law_numbers_here", "_law_at"] ["_law_feed_here", "_law_limit"] (defScope s__law_take) := ⟨rfl, rfl, rfl, by decide +kernel, rfl, by decide +kernel, by decide +kernel⟩
theorem sc__law_search : FnScope ["_law_world", "_law_module", "_law_wanted", "_law_seen", "_law_items", "_law_item", "_law_local_here", "_law_other", "_law_inner", "_law_found", "_law_one"] ["_law_world", "_law_module", "_law_wanted", "_law_seen"] (defScope s__law_search) := ⟨rfl, rfl, rfl, by decide +kernel, rfl, by decide +kernel, by decide +kernel⟩
theorem sc__law_local : FnScope ["_law_world", "_law_module", "_law_local_here", "_law_seen", "_law_item", "_law_found", "_law_other", "_law_name"] ["_law_world", "_law_module", "_law_local_here", "_law_seen"] (defScope s__law_local) := ⟨rfl, rfl, rfl, by decide +kernel, rfl, by decide +kernel, by decide +kernel⟩
theorem sc__law_star_modules : FnScope ["_law_cell_here", "_law_feed_here", "_law_count", "_law_modules", "_law_k", "_law_text", "_law_name", "_law_pick", "_law_other", "_law_j"] ["_law_cell_here"] (defScope s__law_star_modules) := ⟨rfl, rfl, rfl, by decide +kernel, rfl, by decide +kernel, by decide +kernel⟩
theorem sc__law_resolve : FnScope ["_law_world", "_law_module", "_law_name", "_law_found"] ["_law_world", "_law_module", "_law_name"] (defScope s__law_resolve) := ⟨rfl, rfl, rfl, by decide +kernel, rfl, by decide +kernel, by decide +kernel⟩
theorem sc_law : FnScope ["_law_script", "_law_modules", "_law_graph", "_law_items", "_law_name", "_law_world", "_law_module", "_law_due", "_law_one", "_law_item", "_law_spaces", "_law_imported"] ["_law_script"] (defScope s_law) := ⟨rfl, rfl, rfl, by decide +kernel, rfl, by decide +kernel, by decide +kernel⟩
end Fz
set_option Elab.async false
set_option linter.all false
set_option maxRecDepth 100000
set_option maxHeartbeats 0
namespace Fz
open PySem L2
def fa : List He.Fa := [.glo "is_letter",
  .glo "is_digit",
  .glo "in_name",
  .glo "run_end",
  .glo "read_word",
  .glo "read_number",
  .glo "read_string",
  .glo "read_sign",
  .glo "read_token",
  .glo "tokens",
  .glo "read_primary",
  .glo "read_call",
  .glo "read_product",
  .glo "read_sum",
  .glo "read_plain",
  .glo "read_both",
  .glo "read_expression",
  .glo "read_let",
  .glo "read_statement",
  .glo "read_pairs",
  .glo "read_from",
  .glo "read_import",
  .glo "read_export",
  .glo "expression_depth",
  .glo "depth",
  .glo "parse",
  .glo "needs",
  .glo "_law_cell",
  .glo "_law_numbers",
  .glo "_law_feed",
  .glo "_law_take",
  .glo "_law_search",
  .glo "_law_local",
  .glo "_law_star_modules",
  .glo "_law_resolve",
  .glo "law",
  .glo "Reader",
  .glo "Graph",
  .glo "RESERVED",
  .glo "SIGNS",
  .glo "NEEDS",
  .glo "COMPARISONS",
  .free "len",
  .free "all",
  .free "int",
  .free "tuple",
  .free "list",
  .free "dict",
  .free "set",
  .free "sorted",
  .free "range",
  .free "abs",
  .free "str",
  .free "max",
  .int "MAX_TEXT" 20000,
  .int "MAX_NAME" 20,
  .int "MAX_DEPTH" 12,
  .int "MAX_MODULES" 40,
  .cls "Reader",
  .cls "Graph",
  .mkr "Reader",
  .mkr "Graph",
  .noat "Reader" "rest",
  .noat "Reader" "module",
  .noat "Reader" "place",
  .noat "Reader" "limit",
  .noat "Reader" "inside",
  .noat "Graph" "entry",
  .noat "Graph" "_texts",
  .noat "Graph" "_items",
  .noat "Graph" "_order",
  .meth "Reader" "__init__",
  .meth "Reader" "at",
  .meth "Reader" "sees",
  .meth "Reader" "sees_kind",
  .meth "Reader" "follows",
  .meth "Reader" "accept",
  .meth "Reader" "expect",
  .meth "Reader" "read",
  .meth "Graph" "__init__",
  .meth "Graph" "_reach",
  .meth "Graph" "order",
  .meth "Graph" "module_items",
  .meth "Graph" "declared",
  .meth "Graph" "imported",
  .meth "Graph" "spaces",
  .meth "Graph" "local",
  .meth "Graph" "search",
  .meth "Graph" "search_stars",
  .meth "Graph" "resolve",
  .meth "Graph" "told_names",
  .meth "Graph" "exports"]
def d_is_letter : He.DefD := ⟨("is_letter", none), "is_letter", "is_letter", defArgs s_is_letter, defBody s_is_letter, defScope s_is_letter, [], []⟩
def d_is_digit : He.DefD := ⟨("is_digit", none), "is_digit", "is_digit", defArgs s_is_digit, defBody s_is_digit, defScope s_is_digit, [], []⟩
def d_in_name : He.DefD := ⟨("in_name", none), "in_name", "in_name", defArgs s_in_name, defBody s_in_name, defScope s_in_name, [], []⟩
def d_run_end : He.DefD := ⟨("run_end", none), "run_end", "run_end", defArgs s_run_end, defBody s_run_end, defScope s_run_end, [], []⟩
def d_read_word : He.DefD := ⟨("read_word", none), "read_word", "read_word", defArgs s_read_word, defBody s_read_word, defScope s_read_word, [], []⟩
def d_read_number : He.DefD := ⟨("read_number", none), "read_number", "read_number", defArgs s_read_number, defBody s_read_number, defScope s_read_number, [], []⟩
def d_read_string : He.DefD := ⟨("read_string", none), "read_string", "read_string", defArgs s_read_string, defBody s_read_string, defScope s_read_string, [], []⟩
def d_read_sign : He.DefD := ⟨("read_sign", none), "read_sign", "read_sign", defArgs s_read_sign, defBody s_read_sign, defScope s_read_sign, [], []⟩
def d_read_token : He.DefD := ⟨("read_token", none), "read_token", "read_token", defArgs s_read_token, defBody s_read_token, defScope s_read_token, [], []⟩
def d_tokens : He.DefD := ⟨("tokens", none), "tokens", "tokens", defArgs s_tokens, defBody s_tokens, defScope s_tokens, [], []⟩
def d_Reader___init__ : He.DefD := ⟨("Reader", some "__init__"), "__init__", "Reader.__init__", defArgs m_Reader___init__, defBody m_Reader___init__, defScope m_Reader___init__, [], []⟩
def d_Reader_at : He.DefD := ⟨("Reader", some "at"), "at", "Reader.at", defArgs m_Reader_at, defBody m_Reader_at, defScope m_Reader_at, [], []⟩
def d_Reader_sees : He.DefD := ⟨("Reader", some "sees"), "sees", "Reader.sees", defArgs m_Reader_sees, defBody m_Reader_sees, defScope m_Reader_sees, [], []⟩
def d_Reader_sees_kind : He.DefD := ⟨("Reader", some "sees_kind"), "sees_kind", "Reader.sees_kind", defArgs m_Reader_sees_kind, defBody m_Reader_sees_kind, defScope m_Reader_sees_kind, [], []⟩
def d_Reader_follows : He.DefD := ⟨("Reader", some "follows"), "follows", "Reader.follows", defArgs m_Reader_follows, defBody m_Reader_follows, defScope m_Reader_follows, [], []⟩
def d_Reader_accept : He.DefD := ⟨("Reader", some "accept"), "accept", "Reader.accept", defArgs m_Reader_accept, defBody m_Reader_accept, defScope m_Reader_accept, [], []⟩
def d_Reader_expect : He.DefD := ⟨("Reader", some "expect"), "expect", "Reader.expect", defArgs m_Reader_expect, defBody m_Reader_expect, defScope m_Reader_expect, [], []⟩
def d_Reader_read : He.DefD := ⟨("Reader", some "read"), "read", "Reader.read", defArgs m_Reader_read, defBody m_Reader_read, defScope m_Reader_read, [], []⟩
def d_read_primary : He.DefD := ⟨("read_primary", none), "read_primary", "read_primary", defArgs s_read_primary, defBody s_read_primary, defScope s_read_primary, [], []⟩
def d_read_call : He.DefD := ⟨("read_call", none), "read_call", "read_call", defArgs s_read_call, defBody s_read_call, defScope s_read_call, [], []⟩
def d_read_product : He.DefD := ⟨("read_product", none), "read_product", "read_product", defArgs s_read_product, defBody s_read_product, defScope s_read_product, [], []⟩
def d_read_sum : He.DefD := ⟨("read_sum", none), "read_sum", "read_sum", defArgs s_read_sum, defBody s_read_sum, defScope s_read_sum, [], []⟩
def d_read_plain : He.DefD := ⟨("read_plain", none), "read_plain", "read_plain", defArgs s_read_plain, defBody s_read_plain, defScope s_read_plain, [], []⟩
def d_read_both : He.DefD := ⟨("read_both", none), "read_both", "read_both", defArgs s_read_both, defBody s_read_both, defScope s_read_both, [], []⟩
def d_read_expression : He.DefD := ⟨("read_expression", none), "read_expression", "read_expression", defArgs s_read_expression, defBody s_read_expression, defScope s_read_expression, [], []⟩
def d_read_let : He.DefD := ⟨("read_let", none), "read_let", "read_let", defArgs s_read_let, defBody s_read_let, defScope s_read_let, [], []⟩
def d_read_statement : He.DefD := ⟨("read_statement", none), "read_statement", "read_statement", defArgs s_read_statement, defBody s_read_statement, defScope s_read_statement, [], []⟩
def d_read_pairs : He.DefD := ⟨("read_pairs", none), "read_pairs", "read_pairs", defArgs s_read_pairs, defBody s_read_pairs, defScope s_read_pairs, [], []⟩
def d_read_from : He.DefD := ⟨("read_from", none), "read_from", "read_from", defArgs s_read_from, defBody s_read_from, defScope s_read_from, [], []⟩
def d_read_import : He.DefD := ⟨("read_import", none), "read_import", "read_import", defArgs s_read_import, defBody s_read_import, defScope s_read_import, [], []⟩
def d_read_export : He.DefD := ⟨("read_export", none), "read_export", "read_export", defArgs s_read_export, defBody s_read_export, defScope s_read_export, [], []⟩
def d_expression_depth : He.DefD := ⟨("expression_depth", none), "expression_depth", "expression_depth", defArgs s_expression_depth, defBody s_expression_depth, defScope s_expression_depth, [], []⟩
def d_depth : He.DefD := ⟨("depth", none), "depth", "depth", defArgs s_depth, defBody s_depth, defScope s_depth, [], []⟩
def d_parse : He.DefD := ⟨("parse", none), "parse", "parse", defArgs s_parse, defBody s_parse, defScope s_parse, [], []⟩
def d_needs : He.DefD := ⟨("needs", none), "needs", "needs", defArgs s_needs, defBody s_needs, defScope s_needs, [], []⟩
def d_Graph___init__ : He.DefD := ⟨("Graph", some "__init__"), "__init__", "Graph.__init__", defArgs m_Graph___init__, defBody m_Graph___init__, defScope m_Graph___init__, [], []⟩
def d_Graph__reach : He.DefD := ⟨("Graph", some "_reach"), "_reach", "Graph._reach", defArgs m_Graph__reach, defBody m_Graph__reach, defScope m_Graph__reach, [], []⟩
def d_Graph_order : He.DefD := ⟨("Graph", some "order"), "order", "Graph.order", defArgs m_Graph_order, defBody m_Graph_order, defScope m_Graph_order, [], []⟩
def d_Graph_module_items : He.DefD := ⟨("Graph", some "module_items"), "module_items", "Graph.module_items", defArgs m_Graph_module_items, defBody m_Graph_module_items, defScope m_Graph_module_items, [], []⟩
def d_Graph_declared : He.DefD := ⟨("Graph", some "declared"), "declared", "Graph.declared", defArgs m_Graph_declared, defBody m_Graph_declared, defScope m_Graph_declared, [], []⟩
def d_Graph_imported : He.DefD := ⟨("Graph", some "imported"), "imported", "Graph.imported", defArgs m_Graph_imported, defBody m_Graph_imported, defScope m_Graph_imported, [], []⟩
def d_Graph_spaces : He.DefD := ⟨("Graph", some "spaces"), "spaces", "Graph.spaces", defArgs m_Graph_spaces, defBody m_Graph_spaces, defScope m_Graph_spaces, [], []⟩
def d_Graph_local : He.DefD := ⟨("Graph", some "local"), "local", "Graph.local", defArgs m_Graph_local, defBody m_Graph_local, defScope m_Graph_local, [], []⟩
def d_Graph_search : He.DefD := ⟨("Graph", some "search"), "search", "Graph.search", defArgs m_Graph_search, defBody m_Graph_search, defScope m_Graph_search, [], []⟩
def d_Graph_search_stars : He.DefD := ⟨("Graph", some "search_stars"), "search_stars", "Graph.search_stars", defArgs m_Graph_search_stars, defBody m_Graph_search_stars, defScope m_Graph_search_stars, [], []⟩
def d_Graph_resolve : He.DefD := ⟨("Graph", some "resolve"), "resolve", "Graph.resolve", defArgs m_Graph_resolve, defBody m_Graph_resolve, defScope m_Graph_resolve, [], []⟩
def d_Graph_told_names : He.DefD := ⟨("Graph", some "told_names"), "told_names", "Graph.told_names", defArgs m_Graph_told_names, defBody m_Graph_told_names, defScope m_Graph_told_names, [], []⟩
def d_Graph_exports : He.DefD := ⟨("Graph", some "exports"), "exports", "Graph.exports", defArgs m_Graph_exports, defBody m_Graph_exports, defScope m_Graph_exports, [], []⟩
def d__law_cell : He.DefD := ⟨("_law_cell", none), "_law_cell", "_law_cell", defArgs s__law_cell, defBody s__law_cell, defScope s__law_cell, [], []⟩
def d__law_numbers : He.DefD := ⟨("_law_numbers", none), "_law_numbers", "_law_numbers", defArgs s__law_numbers, defBody s__law_numbers, defScope s__law_numbers, [], []⟩
def d__law_feed : He.DefD := ⟨("_law_feed", none), "_law_feed", "_law_feed", defArgs s__law_feed, defBody s__law_feed, defScope s__law_feed, [], []⟩
def d__law_take : He.DefD := ⟨("_law_take", none), "_law_take", "_law_take", defArgs s__law_take, defBody s__law_take, defScope s__law_take, [], []⟩
def d__law_search : He.DefD := ⟨("_law_search", none), "_law_search", "_law_search", defArgs s__law_search, defBody s__law_search, defScope s__law_search, [], []⟩
def d__law_local : He.DefD := ⟨("_law_local", none), "_law_local", "_law_local", defArgs s__law_local, defBody s__law_local, defScope s__law_local, [], []⟩
def d__law_star_modules : He.DefD := ⟨("_law_star_modules", none), "_law_star_modules", "_law_star_modules", defArgs s__law_star_modules, defBody s__law_star_modules, defScope s__law_star_modules, [], []⟩
def d__law_resolve : He.DefD := ⟨("_law_resolve", none), "_law_resolve", "_law_resolve", defArgs s__law_resolve, defBody s__law_resolve, defScope s__law_resolve, [], []⟩
def d_law : He.DefD := ⟨("law", none), "law", "law", defArgs s_law, defBody s_law, defScope s_law, [], []⟩
def fn : List He.DefD := [d_is_letter, d_is_digit, d_in_name, d_run_end, d_read_word, d_read_number, d_read_string, d_read_sign, d_read_token, d_tokens, d_Reader___init__, d_Reader_at, d_Reader_sees, d_Reader_sees_kind, d_Reader_follows, d_Reader_accept, d_Reader_expect, d_Reader_read, d_read_primary, d_read_call, d_read_product, d_read_sum, d_read_plain, d_read_both, d_read_expression, d_read_let, d_read_statement, d_read_pairs, d_read_from, d_read_import, d_read_export, d_expression_depth, d_depth, d_parse, d_needs, d_Graph___init__, d_Graph__reach, d_Graph_order, d_Graph_module_items, d_Graph_declared, d_Graph_imported, d_Graph_spaces, d_Graph_local, d_Graph_search, d_Graph_search_stars, d_Graph_resolve, d_Graph_told_names, d_Graph_exports, d__law_cell, d__law_numbers, d__law_feed, d__law_take, d__law_search, d__law_local, d__law_star_modules, d__law_resolve, d_law]
def ts : List He.Tab := [((fun K => He.ga K "COMPARISONS"), ["<", "=="])]
def RES : List Str := ["and", "as", "ask", "catch", "else", "export", "false", "from", "fun", "if", "import", "let", "none", "not", "or", "repeat", "return", "tell", "throw", "true", "try"]
def SIG : List Str := ["==", "=", "<", "+", "-", "*", ".", ",", ";", "(", ")", "{", "}"]
def NEE : List Str := ["import", "space", "need", "from", "star"]
def dvs (l : List Str) : List He.Dv := l.map He.Dv.str
/-- the keys of the written dict at x are these -/
def keysB (K : PySem.W.Frag) (x : Str) (ks : List Str) : Bool := match K.lookup (He.ga K x) with
  | some ⟨_, _, .dict es _, _⟩ => decide (es.toList.map (fun e => match e.key with | .str y _ => some y | _ => none) = ks.map some)
  | _ => false
def ex (K : PySem.W.Frag) : Bool := He.tupB K "RESERVED" (dvs RES) && (He.tupB K "SIGNS" (dvs SIG) && (He.tupB K "NEEDS" (dvs NEE) && keysB K "COMPARISONS" ["<", "=="]))
abbrev R : PySem.W.OpenRow := PySem.W.OpenLaw.row PySem.Challenge.rw_fascicle_k06_search_of_exports
abbrev hk : PySem.W.Hook := He.hookX 4 fa fn ts [] ex
def ob (s : PySem.W.SharedT) : He.AlX := He.obsX 4 fa fn ts [] ex (HandSHeadRun.getT s)
theorem ob_eq (s : PySem.W.SharedT) : ob s = hk.obs s.abs := He.obsX_eq (HandSHeadRun.getT_eq s)
def lo0 : List Str := ["Refused", "Malformed", "Oversized", "NoModule", "MAX_TEXT", "MAX_NAME", "RESERVED", "SIGNS", "is_letter", "is_digit", "in_name", "run_end", "comment_end", "read_word", "read_number", "read_string", "read_sign", "read_token", "tokens", "MAX_NESTING", "MAX_DEPTH", "SUMS", "COMPARISONS", "Reader", "read_parameters", "read_body", "read_arguments", "read_primary", "read_call", "read_product"]
def lo1 : List Str := ["read_sum", "read_plain", "read_both", "read_expression", "read_block", "read_let", "read_fun", "read_compound", "read_simple", "read_statement", "read_pairs", "read_from", "read_import", "read_export", "expression_depth", "block_depth", "depth", "parse", "MAX_MODULES", "NEEDS", "needs", "Graph", "_law_cell", "_law_numbers", "_law_feed", "_law_take", "_law_search", "_law_local", "_law_star_modules", "_law_resolve"]
def loose : List Str := lo0 ++ lo1
end Fz
set_option Elab.async false
set_option linter.all false
set_option maxRecDepth 100000
set_option maxHeartbeats 0
namespace Fz
open PySem L2
theorem run (w : World) : HandSHeadRun.RunEq R (PySem.W.view R.prog [65]) hk ob 4000 loose w := by
  refine PySem.W.byRow2 "special-get-raises" (P := fun w => HandSHeadRun.RunEq R (PySem.W.view R.prog [65]) hk ob 4000 loose w) (fun w => ?_) (fun w => ?_) w
  · show HandSHeadRun.RunEq R (PySem.W.view R.prog [65]) hk ob 4000 loose (w.withFollow "special-get-raises" false)
    intro os
    kernel_rfl
  · show HandSHeadRun.RunEq R (PySem.W.view R.prog [65]) hk ob 4000 loose (w.withFollow "special-get-raises" true)
    intro os
    kernel_rfl
end Fz
set_option Elab.async false
set_option linter.all false
set_option maxRecDepth 100000
namespace Fz
open PySem PyProof.Rows L2
open C8 (Cal Met Mak pe_c pe_mk pe_mt pe_mt0 pe_gc)
abbrev aR (K : PySem.W.Frag) : Addr := He.ga K "Reader"
abbrev aG (K : PySem.W.Frag) : Addr := He.ga K "Graph"
/-- what the top has left -/
structure Tx (K : PySem.W.Frag) (mg : Str → Option Value) (w : World) : Prop where
  ex : ∃ h : Heap, K.In h ∧ h.Ns mainGlobals mg ∧ He.SaysX fa fn ts [] ex w h K
theorem fun_of {K : PySem.W.Frag} {x qual : Str} {st : Stmt} {f : Addr} {fd : FuncData} (F : FunD K x qual (defArgs st) (defBody st) (defScope st) [] [] f fd) : Fun K x qual st f fd := by
  obtain ⟨⟨oc, od, dV, kV, doc, pm, an, cdv, ct, osl, e, lk, hcd, hD, hK⟩, kp⟩ := F
  rcases hD with ⟨_, rfl⟩ | ⟨z, _⟩
  · exact ⟨⟨oc, od, kV, doc, pm, an, cdv, ct, osl, e, lk, hcd⟩, kp⟩
  · exact absurd rfl z
section
variable {P : Program} {w : World} {K : PySem.W.Frag} {mg : Str → Option Value} {base : Heap}
/-- a def, ready to be called -/
theorem calOf {x : Str} {st : Stmt} {f : Addr} {fd : FuncData} {N ps : List Str} {k : Nat} {sp : Sp} (F : Fun K x x st f fd) (g : mg x = some (.ref f)) (b : Binds K fd ps []) (S : FnScope N ps (defScope st)) (len : ∀ vs H Q E, sp vs H Q E → vs.length = ps.length)
    (hbody : ∀ (cdv : Value) (A : Around) (outer : List Env) (s : Shared) (H : Hp) (vs : List V) (Q : VK) (E : XK), Room k (A.deeper (envOfC x (defScope st) s.heap.objs.size f cdv)) → sp vs H Q E →
      ∃ t, PSs (cxOf CX0 P w K mg base N x (defScope st) f cdv A outer s H E).nox (defBody st) t ∧ t { nx := fun _ H' => Q .non H', rt := Q } (start N vs) H) : Cal P w K mg base (k + 1) x sp [] :=
  ⟨f, fd, ps, [], F.ok S len hbody, g, F.kp, b, .nil⟩
/-- a method -/
theorem metOf {m qual : Str} {C : Addr} {st : Stmt} {f : Addr} {fd : FuncData} {N ps : List Str} {k : Nat} {sp : Sp} (c : Cls K C) (me : Meth K C m f) (F : Fun K m qual st f fd) (b : Binds K fd ps []) (S : FnScope N ps (defScope st)) (len : ∀ vs H Q E, sp vs H Q E → vs.length = ps.length)
    (hbody : ∀ (cdv : Value) (A : Around) (outer : List Env) (s : Shared) (H : Hp) (vs : List V) (Q : VK) (E : XK), Room k (A.deeper (envOfC qual (defScope st) s.heap.objs.size f cdv)) → sp vs H Q E →
      ∃ t, PSs (cxOf CX0 P w K mg base N qual (defScope st) f cdv A outer s H E).nox (defBody st) t ∧ t { nx := fun _ H' => Q .non H', rt := Q } (start N vs) H) : Met P w K mg base (k + 1) C m sp [] :=
  ⟨f, fd, ps, [], c, me, F.ok S len hbody, b, .nil⟩
/-- a class, by its __init__ -/
theorem makOf {x qual : Str} {C : Addr} {st : Stmt} {f : Addr} {fd : FuncData} {N ps : List Str} {k : Nat} {sp : Sp} (M : Mk K C f) (hm : mg x = some (.ref C)) (F : Fun K "__init__" qual st f fd) (b : Binds K fd ps []) (S : FnScope N ps (defScope st)) (len : ∀ vs H Q E, sp vs H Q E → vs.length = ps.length)
    (hbody : ∀ (cdv : Value) (A : Around) (outer : List Env) (s : Shared) (H : Hp) (vs : List V) (Q : VK) (E : XK), Room k (A.deeper (envOfC qual (defScope st) s.heap.objs.size f cdv)) → sp vs H Q E →
      ∃ t, PSs (cxOf CX0 P w K mg base N qual (defScope st) f cdv A outer s H E).nox (defBody st) t ∧ t { nx := fun _ H' => Q .non H', rt := Q } (start N vs) H) : Mak P w K mg base (k + 1) x C sp [] :=
  ⟨f, fd, ps, [], M, F.ok S len hbody, hm, b, .nil⟩
theorem strs_v (K : PySem.W.Frag) : ∀ l : List Str, (dvs l).map (He.Dv.v K) = l.map V.str
  | [] => rfl
  | x :: r => congrArg (V.str x :: ·) (strs_v K r)
theorem rel_int {o : Option Value} {i : Int} (h : ∃ t, o = some (.int i t)) : ∃ u, o = some u ∧ RelV (.int i) u := by
  obtain ⟨t, e⟩ := h
  exact ⟨_, e, t, rfl⟩
theorem Tx.f_is_letter (T : Tx K mg w) : ∃ fd, Fun K "is_letter" "is_letter" s_is_letter (He.ga K "is_letter") fd := by
  obtain ⟨h, X, G, c⟩ := T.ex
  exact (c.t.d.def_ 0 (d := d_is_letter) rfl).imp fun _ F => fun_of F
theorem Tx.g_is_letter (T : Tx K mg w) : mg "is_letter" = some (.ref (He.ga K "is_letter")) := by
  obtain ⟨h, X, G, c⟩ := T.ex
  exact He.glo_ok X G (c.t.d.fact 0 (f := .glo "is_letter") rfl)
theorem b_is_letter {f : Addr} {fd : FuncData} (F : Fun K "is_letter" "is_letter" s_is_letter f fd) : Binds K fd ["char"] [] := F.binds (ps := ["char"]) fun _ _ _ _ _ _ us hl => match us, hl with | [_], _ => rfl
theorem Tx.f_is_digit (T : Tx K mg w) : ∃ fd, Fun K "is_digit" "is_digit" s_is_digit (He.ga K "is_digit") fd := by
  obtain ⟨h, X, G, c⟩ := T.ex
  exact (c.t.d.def_ 1 (d := d_is_digit) rfl).imp fun _ F => fun_of F
theorem Tx.g_is_digit (T : Tx K mg w) : mg "is_digit" = some (.ref (He.ga K "is_digit")) := by
  obtain ⟨h, X, G, c⟩ := T.ex
  exact He.glo_ok X G (c.t.d.fact 1 (f := .glo "is_digit") rfl)
theorem b_is_digit {f : Addr} {fd : FuncData} (F : Fun K "is_digit" "is_digit" s_is_digit f fd) : Binds K fd ["char"] [] := F.binds (ps := ["char"]) fun _ _ _ _ _ _ us hl => match us, hl with | [_], _ => rfl
theorem Tx.f_in_name (T : Tx K mg w) : ∃ fd, Fun K "in_name" "in_name" s_in_name (He.ga K "in_name") fd := by
  obtain ⟨h, X, G, c⟩ := T.ex
  exact (c.t.d.def_ 2 (d := d_in_name) rfl).imp fun _ F => fun_of F
theorem Tx.g_in_name (T : Tx K mg w) : mg "in_name" = some (.ref (He.ga K "in_name")) := by
  obtain ⟨h, X, G, c⟩ := T.ex
  exact He.glo_ok X G (c.t.d.fact 2 (f := .glo "in_name") rfl)
theorem b_in_name {f : Addr} {fd : FuncData} (F : Fun K "in_name" "in_name" s_in_name f fd) : Binds K fd ["char"] [] := F.binds (ps := ["char"]) fun _ _ _ _ _ _ us hl => match us, hl with | [_], _ => rfl
theorem Tx.f_run_end (T : Tx K mg w) : ∃ fd, Fun K "run_end" "run_end" s_run_end (He.ga K "run_end") fd := by
  obtain ⟨h, X, G, c⟩ := T.ex
  exact (c.t.d.def_ 3 (d := d_run_end) rfl).imp fun _ F => fun_of F
theorem Tx.g_run_end (T : Tx K mg w) : mg "run_end" = some (.ref (He.ga K "run_end")) := by
  obtain ⟨h, X, G, c⟩ := T.ex
  exact He.glo_ok X G (c.t.d.fact 3 (f := .glo "run_end") rfl)
theorem b_run_end {f : Addr} {fd : FuncData} (F : Fun K "run_end" "run_end" s_run_end f fd) : Binds K fd ["text", "at"] [] := F.binds (ps := ["text", "at"]) fun _ _ _ _ _ _ us hl => match us, hl with | [_, _], _ => rfl
theorem Tx.f_read_word (T : Tx K mg w) : ∃ fd, Fun K "read_word" "read_word" s_read_word (He.ga K "read_word") fd := by
  obtain ⟨h, X, G, c⟩ := T.ex
  exact (c.t.d.def_ 4 (d := d_read_word) rfl).imp fun _ F => fun_of F
theorem Tx.g_read_word (T : Tx K mg w) : mg "read_word" = some (.ref (He.ga K "read_word")) := by
  obtain ⟨h, X, G, c⟩ := T.ex
  exact He.glo_ok X G (c.t.d.fact 4 (f := .glo "read_word") rfl)
theorem b_read_word {f : Addr} {fd : FuncData} (F : Fun K "read_word" "read_word" s_read_word f fd) : Binds K fd ["text", "at", "module"] [] := F.binds (ps := ["text", "at", "module"]) fun _ _ _ _ _ _ us hl => match us, hl with | [_, _, _], _ => rfl
theorem Tx.f_read_number (T : Tx K mg w) : ∃ fd, Fun K "read_number" "read_number" s_read_number (He.ga K "read_number") fd := by
  obtain ⟨h, X, G, c⟩ := T.ex
  exact (c.t.d.def_ 5 (d := d_read_number) rfl).imp fun _ F => fun_of F
theorem Tx.g_read_number (T : Tx K mg w) : mg "read_number" = some (.ref (He.ga K "read_number")) := by
  obtain ⟨h, X, G, c⟩ := T.ex
  exact He.glo_ok X G (c.t.d.fact 5 (f := .glo "read_number") rfl)
theorem b_read_number {f : Addr} {fd : FuncData} (F : Fun K "read_number" "read_number" s_read_number f fd) : Binds K fd ["text", "at", "module"] [] := F.binds (ps := ["text", "at", "module"]) fun _ _ _ _ _ _ us hl => match us, hl with | [_, _, _], _ => rfl
theorem Tx.f_read_string (T : Tx K mg w) : ∃ fd, Fun K "read_string" "read_string" s_read_string (He.ga K "read_string") fd := by
  obtain ⟨h, X, G, c⟩ := T.ex
  exact (c.t.d.def_ 6 (d := d_read_string) rfl).imp fun _ F => fun_of F
theorem Tx.g_read_string (T : Tx K mg w) : mg "read_string" = some (.ref (He.ga K "read_string")) := by
  obtain ⟨h, X, G, c⟩ := T.ex
  exact He.glo_ok X G (c.t.d.fact 6 (f := .glo "read_string") rfl)
theorem b_read_string {f : Addr} {fd : FuncData} (F : Fun K "read_string" "read_string" s_read_string f fd) : Binds K fd ["text", "at", "module"] [] := F.binds (ps := ["text", "at", "module"]) fun _ _ _ _ _ _ us hl => match us, hl with | [_, _, _], _ => rfl
theorem Tx.f_read_sign (T : Tx K mg w) : ∃ fd, Fun K "read_sign" "read_sign" s_read_sign (He.ga K "read_sign") fd := by
  obtain ⟨h, X, G, c⟩ := T.ex
  exact (c.t.d.def_ 7 (d := d_read_sign) rfl).imp fun _ F => fun_of F
theorem Tx.g_read_sign (T : Tx K mg w) : mg "read_sign" = some (.ref (He.ga K "read_sign")) := by
  obtain ⟨h, X, G, c⟩ := T.ex
  exact He.glo_ok X G (c.t.d.fact 7 (f := .glo "read_sign") rfl)
theorem b_read_sign {f : Addr} {fd : FuncData} (F : Fun K "read_sign" "read_sign" s_read_sign f fd) : Binds K fd ["text", "at", "module"] [] := F.binds (ps := ["text", "at", "module"]) fun _ _ _ _ _ _ us hl => match us, hl with | [_, _, _], _ => rfl
theorem Tx.f_read_token (T : Tx K mg w) : ∃ fd, Fun K "read_token" "read_token" s_read_token (He.ga K "read_token") fd := by
  obtain ⟨h, X, G, c⟩ := T.ex
  exact (c.t.d.def_ 8 (d := d_read_token) rfl).imp fun _ F => fun_of F
theorem Tx.g_read_token (T : Tx K mg w) : mg "read_token" = some (.ref (He.ga K "read_token")) := by
  obtain ⟨h, X, G, c⟩ := T.ex
  exact He.glo_ok X G (c.t.d.fact 8 (f := .glo "read_token") rfl)
theorem b_read_token {f : Addr} {fd : FuncData} (F : Fun K "read_token" "read_token" s_read_token f fd) : Binds K fd ["text", "at", "module"] [] := F.binds (ps := ["text", "at", "module"]) fun _ _ _ _ _ _ us hl => match us, hl with | [_, _, _], _ => rfl
theorem Tx.f_tokens (T : Tx K mg w) : ∃ fd, Fun K "tokens" "tokens" s_tokens (He.ga K "tokens") fd := by
  obtain ⟨h, X, G, c⟩ := T.ex
  exact (c.t.d.def_ 9 (d := d_tokens) rfl).imp fun _ F => fun_of F
theorem Tx.g_tokens (T : Tx K mg w) : mg "tokens" = some (.ref (He.ga K "tokens")) := by
  obtain ⟨h, X, G, c⟩ := T.ex
  exact He.glo_ok X G (c.t.d.fact 9 (f := .glo "tokens") rfl)
theorem b_tokens {f : Addr} {fd : FuncData} (F : Fun K "tokens" "tokens" s_tokens f fd) : Binds K fd ["text", "module"] [] := F.binds (ps := ["text", "module"]) fun _ _ _ _ _ _ us hl => match us, hl with | [_, _], _ => rfl
theorem Tx.f_Reader___init__ (T : Tx K mg w) : ∃ fd, Fun K "__init__" "Reader.__init__" m_Reader___init__ (He.ma K (He.ga K "Reader") "__init__") fd := by
  obtain ⟨h, X, G, c⟩ := T.ex
  exact (c.t.d.def_ 10 (d := d_Reader___init__) rfl).imp fun _ F => fun_of F
theorem b_Reader___init__ {f : Addr} {fd : FuncData} (F : Fun K "__init__" "Reader.__init__" m_Reader___init__ f fd) : Binds K fd ["self", "text", "module"] [] := F.binds (ps := ["self", "text", "module"]) fun _ _ _ _ _ _ us hl => match us, hl with | [_, _, _], _ => rfl
theorem Tx.f_Reader_at (T : Tx K mg w) : ∃ fd, Fun K "at" "Reader.at" m_Reader_at (He.ma K (He.ga K "Reader") "at") fd := by
  obtain ⟨h, X, G, c⟩ := T.ex
  exact (c.t.d.def_ 11 (d := d_Reader_at) rfl).imp fun _ F => fun_of F
theorem Tx.m_Reader_at (T : Tx K mg w) : Meth K (He.ga K "Reader") "at" (He.ma K (He.ga K "Reader") "at") := by
  obtain ⟨h, X, G, c⟩ := T.ex
  exact He.meth_ok (c.t.d.fact 72 (f := .meth "Reader" "at") rfl)
theorem b_Reader_at {f : Addr} {fd : FuncData} (F : Fun K "at" "Reader.at" m_Reader_at f fd) : Binds K fd ["self"] [] := F.binds (ps := ["self"]) fun _ _ _ _ _ _ us hl => match us, hl with | [_], _ => rfl
theorem Tx.f_Reader_sees (T : Tx K mg w) : ∃ fd, Fun K "sees" "Reader.sees" m_Reader_sees (He.ma K (He.ga K "Reader") "sees") fd := by
  obtain ⟨h, X, G, c⟩ := T.ex
  exact (c.t.d.def_ 12 (d := d_Reader_sees) rfl).imp fun _ F => fun_of F
theorem Tx.m_Reader_sees (T : Tx K mg w) : Meth K (He.ga K "Reader") "sees" (He.ma K (He.ga K "Reader") "sees") := by
  obtain ⟨h, X, G, c⟩ := T.ex
  exact He.meth_ok (c.t.d.fact 73 (f := .meth "Reader" "sees") rfl)
theorem b_Reader_sees {f : Addr} {fd : FuncData} (F : Fun K "sees" "Reader.sees" m_Reader_sees f fd) : Binds K fd ["self", "kind", "value"] [] := F.binds (ps := ["self", "kind", "value"]) fun _ _ _ _ _ _ us hl => match us, hl with | [_, _, _], _ => rfl
theorem Tx.f_Reader_sees_kind (T : Tx K mg w) : ∃ fd, Fun K "sees_kind" "Reader.sees_kind" m_Reader_sees_kind (He.ma K (He.ga K "Reader") "sees_kind") fd := by
  obtain ⟨h, X, G, c⟩ := T.ex
  exact (c.t.d.def_ 13 (d := d_Reader_sees_kind) rfl).imp fun _ F => fun_of F
theorem Tx.m_Reader_sees_kind (T : Tx K mg w) : Meth K (He.ga K "Reader") "sees_kind" (He.ma K (He.ga K "Reader") "sees_kind") := by
  obtain ⟨h, X, G, c⟩ := T.ex
  exact He.meth_ok (c.t.d.fact 74 (f := .meth "Reader" "sees_kind") rfl)
theorem b_Reader_sees_kind {f : Addr} {fd : FuncData} (F : Fun K "sees_kind" "Reader.sees_kind" m_Reader_sees_kind f fd) : Binds K fd ["self", "kind"] [] := F.binds (ps := ["self", "kind"]) fun _ _ _ _ _ _ us hl => match us, hl with | [_, _], _ => rfl
theorem Tx.f_Reader_follows (T : Tx K mg w) : ∃ fd, Fun K "follows" "Reader.follows" m_Reader_follows (He.ma K (He.ga K "Reader") "follows") fd := by
  obtain ⟨h, X, G, c⟩ := T.ex
  exact (c.t.d.def_ 14 (d := d_Reader_follows) rfl).imp fun _ F => fun_of F
theorem Tx.m_Reader_follows (T : Tx K mg w) : Meth K (He.ga K "Reader") "follows" (He.ma K (He.ga K "Reader") "follows") := by
  obtain ⟨h, X, G, c⟩ := T.ex
  exact He.meth_ok (c.t.d.fact 75 (f := .meth "Reader" "follows") rfl)
theorem b_Reader_follows {f : Addr} {fd : FuncData} (F : Fun K "follows" "Reader.follows" m_Reader_follows f fd) : Binds K fd ["self", "kind", "value"] [] := F.binds (ps := ["self", "kind", "value"]) fun _ _ _ _ _ _ us hl => match us, hl with | [_, _, _], _ => rfl
theorem Tx.f_Reader_accept (T : Tx K mg w) : ∃ fd, Fun K "accept" "Reader.accept" m_Reader_accept (He.ma K (He.ga K "Reader") "accept") fd := by
  obtain ⟨h, X, G, c⟩ := T.ex
  exact (c.t.d.def_ 15 (d := d_Reader_accept) rfl).imp fun _ F => fun_of F
theorem Tx.m_Reader_accept (T : Tx K mg w) : Meth K (He.ga K "Reader") "accept" (He.ma K (He.ga K "Reader") "accept") := by
  obtain ⟨h, X, G, c⟩ := T.ex
  exact He.meth_ok (c.t.d.fact 76 (f := .meth "Reader" "accept") rfl)
theorem b_Reader_accept {f : Addr} {fd : FuncData} (F : Fun K "accept" "Reader.accept" m_Reader_accept f fd) : Binds K fd ["self", "kind", "value"] [] := F.binds (ps := ["self", "kind", "value"]) fun _ _ _ _ _ _ us hl => match us, hl with | [_, _, _], _ => rfl
theorem Tx.f_Reader_expect (T : Tx K mg w) : ∃ fd, Fun K "expect" "Reader.expect" m_Reader_expect (He.ma K (He.ga K "Reader") "expect") fd := by
  obtain ⟨h, X, G, c⟩ := T.ex
  exact (c.t.d.def_ 16 (d := d_Reader_expect) rfl).imp fun _ F => fun_of F
theorem Tx.m_Reader_expect (T : Tx K mg w) : Meth K (He.ga K "Reader") "expect" (He.ma K (He.ga K "Reader") "expect") := by
  obtain ⟨h, X, G, c⟩ := T.ex
  exact He.meth_ok (c.t.d.fact 77 (f := .meth "Reader" "expect") rfl)
theorem b_Reader_expect {f : Addr} {fd : FuncData} (F : Fun K "expect" "Reader.expect" m_Reader_expect f fd) : Binds K fd ["self", "kind", "value"] [] := F.binds (ps := ["self", "kind", "value"]) fun _ _ _ _ _ _ us hl => match us, hl with | [_, _, _], _ => rfl
theorem Tx.f_Reader_read (T : Tx K mg w) : ∃ fd, Fun K "read" "Reader.read" m_Reader_read (He.ma K (He.ga K "Reader") "read") fd := by
  obtain ⟨h, X, G, c⟩ := T.ex
  exact (c.t.d.def_ 17 (d := d_Reader_read) rfl).imp fun _ F => fun_of F
theorem Tx.m_Reader_read (T : Tx K mg w) : Meth K (He.ga K "Reader") "read" (He.ma K (He.ga K "Reader") "read") := by
  obtain ⟨h, X, G, c⟩ := T.ex
  exact He.meth_ok (c.t.d.fact 78 (f := .meth "Reader" "read") rfl)
theorem b_Reader_read {f : Addr} {fd : FuncData} (F : Fun K "read" "Reader.read" m_Reader_read f fd) : Binds K fd ["self", "kind"] [] := F.binds (ps := ["self", "kind"]) fun _ _ _ _ _ _ us hl => match us, hl with | [_, _], _ => rfl
theorem Tx.f_read_primary (T : Tx K mg w) : ∃ fd, Fun K "read_primary" "read_primary" s_read_primary (He.ga K "read_primary") fd := by
  obtain ⟨h, X, G, c⟩ := T.ex
  exact (c.t.d.def_ 18 (d := d_read_primary) rfl).imp fun _ F => fun_of F
theorem Tx.g_read_primary (T : Tx K mg w) : mg "read_primary" = some (.ref (He.ga K "read_primary")) := by
  obtain ⟨h, X, G, c⟩ := T.ex
  exact He.glo_ok X G (c.t.d.fact 10 (f := .glo "read_primary") rfl)
theorem b_read_primary {f : Addr} {fd : FuncData} (F : Fun K "read_primary" "read_primary" s_read_primary f fd) : Binds K fd ["reader", "level"] [] := F.binds (ps := ["reader", "level"]) fun _ _ _ _ _ _ us hl => match us, hl with | [_, _], _ => rfl
theorem Tx.f_read_call (T : Tx K mg w) : ∃ fd, Fun K "read_call" "read_call" s_read_call (He.ga K "read_call") fd := by
  obtain ⟨h, X, G, c⟩ := T.ex
  exact (c.t.d.def_ 19 (d := d_read_call) rfl).imp fun _ F => fun_of F
theorem Tx.g_read_call (T : Tx K mg w) : mg "read_call" = some (.ref (He.ga K "read_call")) := by
  obtain ⟨h, X, G, c⟩ := T.ex
  exact He.glo_ok X G (c.t.d.fact 11 (f := .glo "read_call") rfl)
theorem b_read_call {f : Addr} {fd : FuncData} (F : Fun K "read_call" "read_call" s_read_call f fd) : Binds K fd ["reader", "level"] [] := F.binds (ps := ["reader", "level"]) fun _ _ _ _ _ _ us hl => match us, hl with | [_, _], _ => rfl
theorem Tx.f_read_product (T : Tx K mg w) : ∃ fd, Fun K "read_product" "read_product" s_read_product (He.ga K "read_product") fd := by
  obtain ⟨h, X, G, c⟩ := T.ex
  exact (c.t.d.def_ 20 (d := d_read_product) rfl).imp fun _ F => fun_of F
theorem Tx.g_read_product (T : Tx K mg w) : mg "read_product" = some (.ref (He.ga K "read_product")) := by
  obtain ⟨h, X, G, c⟩ := T.ex
  exact He.glo_ok X G (c.t.d.fact 12 (f := .glo "read_product") rfl)
theorem b_read_product {f : Addr} {fd : FuncData} (F : Fun K "read_product" "read_product" s_read_product f fd) : Binds K fd ["reader", "level"] [] := F.binds (ps := ["reader", "level"]) fun _ _ _ _ _ _ us hl => match us, hl with | [_, _], _ => rfl
theorem Tx.f_read_sum (T : Tx K mg w) : ∃ fd, Fun K "read_sum" "read_sum" s_read_sum (He.ga K "read_sum") fd := by
  obtain ⟨h, X, G, c⟩ := T.ex
  exact (c.t.d.def_ 21 (d := d_read_sum) rfl).imp fun _ F => fun_of F
theorem Tx.g_read_sum (T : Tx K mg w) : mg "read_sum" = some (.ref (He.ga K "read_sum")) := by
  obtain ⟨h, X, G, c⟩ := T.ex
  exact He.glo_ok X G (c.t.d.fact 13 (f := .glo "read_sum") rfl)
theorem b_read_sum {f : Addr} {fd : FuncData} (F : Fun K "read_sum" "read_sum" s_read_sum f fd) : Binds K fd ["reader", "level"] [] := F.binds (ps := ["reader", "level"]) fun _ _ _ _ _ _ us hl => match us, hl with | [_, _], _ => rfl
theorem Tx.f_read_plain (T : Tx K mg w) : ∃ fd, Fun K "read_plain" "read_plain" s_read_plain (He.ga K "read_plain") fd := by
  obtain ⟨h, X, G, c⟩ := T.ex
  exact (c.t.d.def_ 22 (d := d_read_plain) rfl).imp fun _ F => fun_of F
theorem Tx.g_read_plain (T : Tx K mg w) : mg "read_plain" = some (.ref (He.ga K "read_plain")) := by
  obtain ⟨h, X, G, c⟩ := T.ex
  exact He.glo_ok X G (c.t.d.fact 14 (f := .glo "read_plain") rfl)
theorem b_read_plain {f : Addr} {fd : FuncData} (F : Fun K "read_plain" "read_plain" s_read_plain f fd) : Binds K fd ["reader", "level"] [] := F.binds (ps := ["reader", "level"]) fun _ _ _ _ _ _ us hl => match us, hl with | [_, _], _ => rfl
theorem Tx.f_read_both (T : Tx K mg w) : ∃ fd, Fun K "read_both" "read_both" s_read_both (He.ga K "read_both") fd := by
  obtain ⟨h, X, G, c⟩ := T.ex
  exact (c.t.d.def_ 23 (d := d_read_both) rfl).imp fun _ F => fun_of F
theorem Tx.g_read_both (T : Tx K mg w) : mg "read_both" = some (.ref (He.ga K "read_both")) := by
  obtain ⟨h, X, G, c⟩ := T.ex
  exact He.glo_ok X G (c.t.d.fact 15 (f := .glo "read_both") rfl)
theorem b_read_both {f : Addr} {fd : FuncData} (F : Fun K "read_both" "read_both" s_read_both f fd) : Binds K fd ["reader", "level"] [] := F.binds (ps := ["reader", "level"]) fun _ _ _ _ _ _ us hl => match us, hl with | [_, _], _ => rfl
theorem Tx.f_read_expression (T : Tx K mg w) : ∃ fd, Fun K "read_expression" "read_expression" s_read_expression (He.ga K "read_expression") fd := by
  obtain ⟨h, X, G, c⟩ := T.ex
  exact (c.t.d.def_ 24 (d := d_read_expression) rfl).imp fun _ F => fun_of F
theorem Tx.g_read_expression (T : Tx K mg w) : mg "read_expression" = some (.ref (He.ga K "read_expression")) := by
  obtain ⟨h, X, G, c⟩ := T.ex
  exact He.glo_ok X G (c.t.d.fact 16 (f := .glo "read_expression") rfl)
theorem b_read_expression {f : Addr} {fd : FuncData} (F : Fun K "read_expression" "read_expression" s_read_expression f fd) : Binds K fd ["reader", "level"] [] := F.binds (ps := ["reader", "level"]) fun _ _ _ _ _ _ us hl => match us, hl with | [_, _], _ => rfl
theorem Tx.f_read_let (T : Tx K mg w) : ∃ fd, Fun K "read_let" "read_let" s_read_let (He.ga K "read_let") fd := by
  obtain ⟨h, X, G, c⟩ := T.ex
  exact (c.t.d.def_ 25 (d := d_read_let) rfl).imp fun _ F => fun_of F
theorem Tx.g_read_let (T : Tx K mg w) : mg "read_let" = some (.ref (He.ga K "read_let")) := by
  obtain ⟨h, X, G, c⟩ := T.ex
  exact He.glo_ok X G (c.t.d.fact 17 (f := .glo "read_let") rfl)
theorem b_read_let {f : Addr} {fd : FuncData} (F : Fun K "read_let" "read_let" s_read_let f fd) : Binds K fd ["reader", "at", "level"] [] := F.binds (ps := ["reader", "at", "level"]) fun _ _ _ _ _ _ us hl => match us, hl with | [_, _, _], _ => rfl
theorem Tx.f_read_statement (T : Tx K mg w) : ∃ fd, Fun K "read_statement" "read_statement" s_read_statement (He.ga K "read_statement") fd := by
  obtain ⟨h, X, G, c⟩ := T.ex
  exact (c.t.d.def_ 26 (d := d_read_statement) rfl).imp fun _ F => fun_of F
theorem Tx.g_read_statement (T : Tx K mg w) : mg "read_statement" = some (.ref (He.ga K "read_statement")) := by
  obtain ⟨h, X, G, c⟩ := T.ex
  exact He.glo_ok X G (c.t.d.fact 18 (f := .glo "read_statement") rfl)
theorem b_read_statement {f : Addr} {fd : FuncData} (F : Fun K "read_statement" "read_statement" s_read_statement f fd) : Binds K fd ["reader", "level"] [] := F.binds (ps := ["reader", "level"]) fun _ _ _ _ _ _ us hl => match us, hl with | [_, _], _ => rfl
theorem Tx.f_read_pairs (T : Tx K mg w) : ∃ fd, Fun K "read_pairs" "read_pairs" s_read_pairs (He.ga K "read_pairs") fd := by
  obtain ⟨h, X, G, c⟩ := T.ex
  exact (c.t.d.def_ 27 (d := d_read_pairs) rfl).imp fun _ F => fun_of F
theorem Tx.g_read_pairs (T : Tx K mg w) : mg "read_pairs" = some (.ref (He.ga K "read_pairs")) := by
  obtain ⟨h, X, G, c⟩ := T.ex
  exact He.glo_ok X G (c.t.d.fact 19 (f := .glo "read_pairs") rfl)
theorem b_read_pairs {f : Addr} {fd : FuncData} (F : Fun K "read_pairs" "read_pairs" s_read_pairs f fd) : Binds K fd ["reader"] [] := F.binds (ps := ["reader"]) fun _ _ _ _ _ _ us hl => match us, hl with | [_], _ => rfl
theorem Tx.f_read_from (T : Tx K mg w) : ∃ fd, Fun K "read_from" "read_from" s_read_from (He.ga K "read_from") fd := by
  obtain ⟨h, X, G, c⟩ := T.ex
  exact (c.t.d.def_ 28 (d := d_read_from) rfl).imp fun _ F => fun_of F
theorem Tx.g_read_from (T : Tx K mg w) : mg "read_from" = some (.ref (He.ga K "read_from")) := by
  obtain ⟨h, X, G, c⟩ := T.ex
  exact He.glo_ok X G (c.t.d.fact 20 (f := .glo "read_from") rfl)
theorem b_read_from {f : Addr} {fd : FuncData} (F : Fun K "read_from" "read_from" s_read_from f fd) : Binds K fd ["reader"] [] := F.binds (ps := ["reader"]) fun _ _ _ _ _ _ us hl => match us, hl with | [_], _ => rfl
theorem Tx.f_read_import (T : Tx K mg w) : ∃ fd, Fun K "read_import" "read_import" s_read_import (He.ga K "read_import") fd := by
  obtain ⟨h, X, G, c⟩ := T.ex
  exact (c.t.d.def_ 29 (d := d_read_import) rfl).imp fun _ F => fun_of F
theorem Tx.g_read_import (T : Tx K mg w) : mg "read_import" = some (.ref (He.ga K "read_import")) := by
  obtain ⟨h, X, G, c⟩ := T.ex
  exact He.glo_ok X G (c.t.d.fact 21 (f := .glo "read_import") rfl)
theorem b_read_import {f : Addr} {fd : FuncData} (F : Fun K "read_import" "read_import" s_read_import f fd) : Binds K fd ["reader", "at"] [] := F.binds (ps := ["reader", "at"]) fun _ _ _ _ _ _ us hl => match us, hl with | [_, _], _ => rfl
theorem Tx.f_read_export (T : Tx K mg w) : ∃ fd, Fun K "read_export" "read_export" s_read_export (He.ga K "read_export") fd := by
  obtain ⟨h, X, G, c⟩ := T.ex
  exact (c.t.d.def_ 30 (d := d_read_export) rfl).imp fun _ F => fun_of F
theorem Tx.g_read_export (T : Tx K mg w) : mg "read_export" = some (.ref (He.ga K "read_export")) := by
  obtain ⟨h, X, G, c⟩ := T.ex
  exact He.glo_ok X G (c.t.d.fact 22 (f := .glo "read_export") rfl)
theorem b_read_export {f : Addr} {fd : FuncData} (F : Fun K "read_export" "read_export" s_read_export f fd) : Binds K fd ["reader", "at"] [] := F.binds (ps := ["reader", "at"]) fun _ _ _ _ _ _ us hl => match us, hl with | [_, _], _ => rfl
theorem Tx.f_expression_depth (T : Tx K mg w) : ∃ fd, Fun K "expression_depth" "expression_depth" s_expression_depth (He.ga K "expression_depth") fd := by
  obtain ⟨h, X, G, c⟩ := T.ex
  exact (c.t.d.def_ 31 (d := d_expression_depth) rfl).imp fun _ F => fun_of F
theorem Tx.g_expression_depth (T : Tx K mg w) : mg "expression_depth" = some (.ref (He.ga K "expression_depth")) := by
  obtain ⟨h, X, G, c⟩ := T.ex
  exact He.glo_ok X G (c.t.d.fact 23 (f := .glo "expression_depth") rfl)
theorem b_expression_depth {f : Addr} {fd : FuncData} (F : Fun K "expression_depth" "expression_depth" s_expression_depth f fd) : Binds K fd ["e"] [] := F.binds (ps := ["e"]) fun _ _ _ _ _ _ us hl => match us, hl with | [_], _ => rfl
theorem Tx.f_depth (T : Tx K mg w) : ∃ fd, Fun K "depth" "depth" s_depth (He.ga K "depth") fd := by
  obtain ⟨h, X, G, c⟩ := T.ex
  exact (c.t.d.def_ 32 (d := d_depth) rfl).imp fun _ F => fun_of F
theorem Tx.g_depth (T : Tx K mg w) : mg "depth" = some (.ref (He.ga K "depth")) := by
  obtain ⟨h, X, G, c⟩ := T.ex
  exact He.glo_ok X G (c.t.d.fact 24 (f := .glo "depth") rfl)
theorem b_depth {f : Addr} {fd : FuncData} (F : Fun K "depth" "depth" s_depth f fd) : Binds K fd ["item"] [] := F.binds (ps := ["item"]) fun _ _ _ _ _ _ us hl => match us, hl with | [_], _ => rfl
theorem Tx.f_parse (T : Tx K mg w) : ∃ fd, Fun K "parse" "parse" s_parse (He.ga K "parse") fd := by
  obtain ⟨h, X, G, c⟩ := T.ex
  exact (c.t.d.def_ 33 (d := d_parse) rfl).imp fun _ F => fun_of F
theorem Tx.g_parse (T : Tx K mg w) : mg "parse" = some (.ref (He.ga K "parse")) := by
  obtain ⟨h, X, G, c⟩ := T.ex
  exact He.glo_ok X G (c.t.d.fact 25 (f := .glo "parse") rfl)
theorem b_parse {f : Addr} {fd : FuncData} (F : Fun K "parse" "parse" s_parse f fd) : Binds K fd ["text", "module"] [] := F.binds (ps := ["text", "module"]) fun _ _ _ _ _ _ us hl => match us, hl with | [_, _], _ => rfl
theorem Tx.f_needs (T : Tx K mg w) : ∃ fd, Fun K "needs" "needs" s_needs (He.ga K "needs") fd := by
  obtain ⟨h, X, G, c⟩ := T.ex
  exact (c.t.d.def_ 34 (d := d_needs) rfl).imp fun _ F => fun_of F
theorem Tx.g_needs (T : Tx K mg w) : mg "needs" = some (.ref (He.ga K "needs")) := by
  obtain ⟨h, X, G, c⟩ := T.ex
  exact He.glo_ok X G (c.t.d.fact 26 (f := .glo "needs") rfl)
theorem b_needs {f : Addr} {fd : FuncData} (F : Fun K "needs" "needs" s_needs f fd) : Binds K fd ["items"] [] := F.binds (ps := ["items"]) fun _ _ _ _ _ _ us hl => match us, hl with | [_], _ => rfl
theorem Tx.f_Graph___init__ (T : Tx K mg w) : ∃ fd, Fun K "__init__" "Graph.__init__" m_Graph___init__ (He.ma K (He.ga K "Graph") "__init__") fd := by
  obtain ⟨h, X, G, c⟩ := T.ex
  exact (c.t.d.def_ 35 (d := d_Graph___init__) rfl).imp fun _ F => fun_of F
theorem b_Graph___init__ {f : Addr} {fd : FuncData} (F : Fun K "__init__" "Graph.__init__" m_Graph___init__ f fd) : Binds K fd ["self", "modules", "entry"] [] := F.binds (ps := ["self", "modules", "entry"]) fun _ _ _ _ _ _ us hl => match us, hl with | [_, _, _], _ => rfl
theorem Tx.f_Graph__reach (T : Tx K mg w) : ∃ fd, Fun K "_reach" "Graph._reach" m_Graph__reach (He.ma K (He.ga K "Graph") "_reach") fd := by
  obtain ⟨h, X, G, c⟩ := T.ex
  exact (c.t.d.def_ 36 (d := d_Graph__reach) rfl).imp fun _ F => fun_of F
theorem Tx.m_Graph__reach (T : Tx K mg w) : Meth K (He.ga K "Graph") "_reach" (He.ma K (He.ga K "Graph") "_reach") := by
  obtain ⟨h, X, G, c⟩ := T.ex
  exact He.meth_ok (c.t.d.fact 80 (f := .meth "Graph" "_reach") rfl)
theorem b_Graph__reach {f : Addr} {fd : FuncData} (F : Fun K "_reach" "Graph._reach" m_Graph__reach f fd) : Binds K fd ["self", "name"] [] := F.binds (ps := ["self", "name"]) fun _ _ _ _ _ _ us hl => match us, hl with | [_, _], _ => rfl
theorem Tx.f_Graph_order (T : Tx K mg w) : ∃ fd, Fun K "order" "Graph.order" m_Graph_order (He.ma K (He.ga K "Graph") "order") fd := by
  obtain ⟨h, X, G, c⟩ := T.ex
  exact (c.t.d.def_ 37 (d := d_Graph_order) rfl).imp fun _ F => fun_of F
theorem Tx.m_Graph_order (T : Tx K mg w) : Meth K (He.ga K "Graph") "order" (He.ma K (He.ga K "Graph") "order") := by
  obtain ⟨h, X, G, c⟩ := T.ex
  exact He.meth_ok (c.t.d.fact 81 (f := .meth "Graph" "order") rfl)
theorem b_Graph_order {f : Addr} {fd : FuncData} (F : Fun K "order" "Graph.order" m_Graph_order f fd) : Binds K fd ["self"] [] := F.binds (ps := ["self"]) fun _ _ _ _ _ _ us hl => match us, hl with | [_], _ => rfl
theorem Tx.f_Graph_module_items (T : Tx K mg w) : ∃ fd, Fun K "module_items" "Graph.module_items" m_Graph_module_items (He.ma K (He.ga K "Graph") "module_items") fd := by
  obtain ⟨h, X, G, c⟩ := T.ex
  exact (c.t.d.def_ 38 (d := d_Graph_module_items) rfl).imp fun _ F => fun_of F
theorem Tx.m_Graph_module_items (T : Tx K mg w) : Meth K (He.ga K "Graph") "module_items" (He.ma K (He.ga K "Graph") "module_items") := by
  obtain ⟨h, X, G, c⟩ := T.ex
  exact He.meth_ok (c.t.d.fact 82 (f := .meth "Graph" "module_items") rfl)
theorem b_Graph_module_items {f : Addr} {fd : FuncData} (F : Fun K "module_items" "Graph.module_items" m_Graph_module_items f fd) : Binds K fd ["self", "name"] [] := F.binds (ps := ["self", "name"]) fun _ _ _ _ _ _ us hl => match us, hl with | [_, _], _ => rfl
theorem Tx.f_Graph_declared (T : Tx K mg w) : ∃ fd, Fun K "declared" "Graph.declared" m_Graph_declared (He.ma K (He.ga K "Graph") "declared") fd := by
  obtain ⟨h, X, G, c⟩ := T.ex
  exact (c.t.d.def_ 39 (d := d_Graph_declared) rfl).imp fun _ F => fun_of F
theorem Tx.m_Graph_declared (T : Tx K mg w) : Meth K (He.ga K "Graph") "declared" (He.ma K (He.ga K "Graph") "declared") := by
  obtain ⟨h, X, G, c⟩ := T.ex
  exact He.meth_ok (c.t.d.fact 83 (f := .meth "Graph" "declared") rfl)
theorem b_Graph_declared {f : Addr} {fd : FuncData} (F : Fun K "declared" "Graph.declared" m_Graph_declared f fd) : Binds K fd ["self", "name"] [] := F.binds (ps := ["self", "name"]) fun _ _ _ _ _ _ us hl => match us, hl with | [_, _], _ => rfl
theorem Tx.f_Graph_imported (T : Tx K mg w) : ∃ fd, Fun K "imported" "Graph.imported" m_Graph_imported (He.ma K (He.ga K "Graph") "imported") fd := by
  obtain ⟨h, X, G, c⟩ := T.ex
  exact (c.t.d.def_ 40 (d := d_Graph_imported) rfl).imp fun _ F => fun_of F
theorem Tx.m_Graph_imported (T : Tx K mg w) : Meth K (He.ga K "Graph") "imported" (He.ma K (He.ga K "Graph") "imported") := by
  obtain ⟨h, X, G, c⟩ := T.ex
  exact He.meth_ok (c.t.d.fact 84 (f := .meth "Graph" "imported") rfl)
theorem b_Graph_imported {f : Addr} {fd : FuncData} (F : Fun K "imported" "Graph.imported" m_Graph_imported f fd) : Binds K fd ["self", "name"] [] := F.binds (ps := ["self", "name"]) fun _ _ _ _ _ _ us hl => match us, hl with | [_, _], _ => rfl
theorem Tx.f_Graph_spaces (T : Tx K mg w) : ∃ fd, Fun K "spaces" "Graph.spaces" m_Graph_spaces (He.ma K (He.ga K "Graph") "spaces") fd := by
  obtain ⟨h, X, G, c⟩ := T.ex
  exact (c.t.d.def_ 41 (d := d_Graph_spaces) rfl).imp fun _ F => fun_of F
theorem Tx.m_Graph_spaces (T : Tx K mg w) : Meth K (He.ga K "Graph") "spaces" (He.ma K (He.ga K "Graph") "spaces") := by
  obtain ⟨h, X, G, c⟩ := T.ex
  exact He.meth_ok (c.t.d.fact 85 (f := .meth "Graph" "spaces") rfl)
theorem b_Graph_spaces {f : Addr} {fd : FuncData} (F : Fun K "spaces" "Graph.spaces" m_Graph_spaces f fd) : Binds K fd ["self", "name"] [] := F.binds (ps := ["self", "name"]) fun _ _ _ _ _ _ us hl => match us, hl with | [_, _], _ => rfl
theorem Tx.f_Graph_local (T : Tx K mg w) : ∃ fd, Fun K "local" "Graph.local" m_Graph_local (He.ma K (He.ga K "Graph") "local") fd := by
  obtain ⟨h, X, G, c⟩ := T.ex
  exact (c.t.d.def_ 42 (d := d_Graph_local) rfl).imp fun _ F => fun_of F
theorem Tx.m_Graph_local (T : Tx K mg w) : Meth K (He.ga K "Graph") "local" (He.ma K (He.ga K "Graph") "local") := by
  obtain ⟨h, X, G, c⟩ := T.ex
  exact He.meth_ok (c.t.d.fact 86 (f := .meth "Graph" "local") rfl)
theorem b_Graph_local {f : Addr} {fd : FuncData} (F : Fun K "local" "Graph.local" m_Graph_local f fd) : Binds K fd ["self", "name", "local", "seen"] [] := F.binds (ps := ["self", "name", "local", "seen"]) fun _ _ _ _ _ _ us hl => match us, hl with | [_, _, _, _], _ => rfl
theorem Tx.f_Graph_search (T : Tx K mg w) : ∃ fd, Fun K "search" "Graph.search" m_Graph_search (He.ma K (He.ga K "Graph") "search") fd := by
  obtain ⟨h, X, G, c⟩ := T.ex
  exact (c.t.d.def_ 43 (d := d_Graph_search) rfl).imp fun _ F => fun_of F
theorem Tx.m_Graph_search (T : Tx K mg w) : Meth K (He.ga K "Graph") "search" (He.ma K (He.ga K "Graph") "search") := by
  obtain ⟨h, X, G, c⟩ := T.ex
  exact He.meth_ok (c.t.d.fact 87 (f := .meth "Graph" "search") rfl)
theorem b_Graph_search {f : Addr} {fd : FuncData} (F : Fun K "search" "Graph.search" m_Graph_search f fd) : Binds K fd ["self", "name", "wanted", "seen"] [] := F.binds (ps := ["self", "name", "wanted", "seen"]) fun _ _ _ _ _ _ us hl => match us, hl with | [_, _, _, _], _ => rfl
theorem Tx.f_Graph_search_stars (T : Tx K mg w) : ∃ fd, Fun K "search_stars" "Graph.search_stars" m_Graph_search_stars (He.ma K (He.ga K "Graph") "search_stars") fd := by
  obtain ⟨h, X, G, c⟩ := T.ex
  exact (c.t.d.def_ 44 (d := d_Graph_search_stars) rfl).imp fun _ F => fun_of F
theorem Tx.m_Graph_search_stars (T : Tx K mg w) : Meth K (He.ga K "Graph") "search_stars" (He.ma K (He.ga K "Graph") "search_stars") := by
  obtain ⟨h, X, G, c⟩ := T.ex
  exact He.meth_ok (c.t.d.fact 88 (f := .meth "Graph" "search_stars") rfl)
theorem b_Graph_search_stars {f : Addr} {fd : FuncData} (F : Fun K "search_stars" "Graph.search_stars" m_Graph_search_stars f fd) : Binds K fd ["self", "name", "wanted", "seen"] [] := F.binds (ps := ["self", "name", "wanted", "seen"]) fun _ _ _ _ _ _ us hl => match us, hl with | [_, _, _, _], _ => rfl
theorem Tx.f_Graph_resolve (T : Tx K mg w) : ∃ fd, Fun K "resolve" "Graph.resolve" m_Graph_resolve (He.ma K (He.ga K "Graph") "resolve") fd := by
  obtain ⟨h, X, G, c⟩ := T.ex
  exact (c.t.d.def_ 45 (d := d_Graph_resolve) rfl).imp fun _ F => fun_of F
theorem Tx.m_Graph_resolve (T : Tx K mg w) : Meth K (He.ga K "Graph") "resolve" (He.ma K (He.ga K "Graph") "resolve") := by
  obtain ⟨h, X, G, c⟩ := T.ex
  exact He.meth_ok (c.t.d.fact 89 (f := .meth "Graph" "resolve") rfl)
theorem b_Graph_resolve {f : Addr} {fd : FuncData} (F : Fun K "resolve" "Graph.resolve" m_Graph_resolve f fd) : Binds K fd ["self", "name", "wanted"] [] := F.binds (ps := ["self", "name", "wanted"]) fun _ _ _ _ _ _ us hl => match us, hl with | [_, _, _], _ => rfl
theorem Tx.f_Graph_told_names (T : Tx K mg w) : ∃ fd, Fun K "told_names" "Graph.told_names" m_Graph_told_names (He.ma K (He.ga K "Graph") "told_names") fd := by
  obtain ⟨h, X, G, c⟩ := T.ex
  exact (c.t.d.def_ 46 (d := d_Graph_told_names) rfl).imp fun _ F => fun_of F
theorem Tx.m_Graph_told_names (T : Tx K mg w) : Meth K (He.ga K "Graph") "told_names" (He.ma K (He.ga K "Graph") "told_names") := by
  obtain ⟨h, X, G, c⟩ := T.ex
  exact He.meth_ok (c.t.d.fact 90 (f := .meth "Graph" "told_names") rfl)
theorem b_Graph_told_names {f : Addr} {fd : FuncData} (F : Fun K "told_names" "Graph.told_names" m_Graph_told_names f fd) : Binds K fd ["self", "name", "seen", "found"] [] := F.binds (ps := ["self", "name", "seen", "found"]) fun _ _ _ _ _ _ us hl => match us, hl with | [_, _, _, _], _ => rfl
theorem Tx.f_Graph_exports (T : Tx K mg w) : ∃ fd, Fun K "exports" "Graph.exports" m_Graph_exports (He.ma K (He.ga K "Graph") "exports") fd := by
  obtain ⟨h, X, G, c⟩ := T.ex
  exact (c.t.d.def_ 47 (d := d_Graph_exports) rfl).imp fun _ F => fun_of F
theorem Tx.m_Graph_exports (T : Tx K mg w) : Meth K (He.ga K "Graph") "exports" (He.ma K (He.ga K "Graph") "exports") := by
  obtain ⟨h, X, G, c⟩ := T.ex
  exact He.meth_ok (c.t.d.fact 91 (f := .meth "Graph" "exports") rfl)
theorem b_Graph_exports {f : Addr} {fd : FuncData} (F : Fun K "exports" "Graph.exports" m_Graph_exports f fd) : Binds K fd ["self", "name"] [] := F.binds (ps := ["self", "name"]) fun _ _ _ _ _ _ us hl => match us, hl with | [_, _], _ => rfl
theorem Tx.f__law_cell (T : Tx K mg w) : ∃ fd, Fun K "_law_cell" "_law_cell" s__law_cell (He.ga K "_law_cell") fd := by
  obtain ⟨h, X, G, c⟩ := T.ex
  exact (c.t.d.def_ 48 (d := d__law_cell) rfl).imp fun _ F => fun_of F
theorem Tx.g__law_cell (T : Tx K mg w) : mg "_law_cell" = some (.ref (He.ga K "_law_cell")) := by
  obtain ⟨h, X, G, c⟩ := T.ex
  exact He.glo_ok X G (c.t.d.fact 27 (f := .glo "_law_cell") rfl)
theorem b__law_cell {f : Addr} {fd : FuncData} (F : Fun K "_law_cell" "_law_cell" s__law_cell f fd) : Binds K fd ["_law_script", "_law_k"] [] := F.binds (ps := ["_law_script", "_law_k"]) fun _ _ _ _ _ _ us hl => match us, hl with | [_, _], _ => rfl
theorem Tx.f__law_numbers (T : Tx K mg w) : ∃ fd, Fun K "_law_numbers" "_law_numbers" s__law_numbers (He.ga K "_law_numbers") fd := by
  obtain ⟨h, X, G, c⟩ := T.ex
  exact (c.t.d.def_ 49 (d := d__law_numbers) rfl).imp fun _ F => fun_of F
theorem Tx.g__law_numbers (T : Tx K mg w) : mg "_law_numbers" = some (.ref (He.ga K "_law_numbers")) := by
  obtain ⟨h, X, G, c⟩ := T.ex
  exact He.glo_ok X G (c.t.d.fact 28 (f := .glo "_law_numbers") rfl)
theorem b__law_numbers {f : Addr} {fd : FuncData} (F : Fun K "_law_numbers" "_law_numbers" s__law_numbers f fd) : Binds K fd ["_law_cell_here", "_law_many"] [] := F.binds (ps := ["_law_cell_here", "_law_many"]) fun _ _ _ _ _ _ us hl => match us, hl with | [_, _], _ => rfl
theorem Tx.f__law_feed (T : Tx K mg w) : ∃ fd, Fun K "_law_feed" "_law_feed" s__law_feed (He.ga K "_law_feed") fd := by
  obtain ⟨h, X, G, c⟩ := T.ex
  exact (c.t.d.def_ 50 (d := d__law_feed) rfl).imp fun _ F => fun_of F
theorem Tx.g__law_feed (T : Tx K mg w) : mg "_law_feed" = some (.ref (He.ga K "_law_feed")) := by
  obtain ⟨h, X, G, c⟩ := T.ex
  exact He.glo_ok X G (c.t.d.fact 29 (f := .glo "_law_feed") rfl)
theorem b__law_feed {f : Addr} {fd : FuncData} (F : Fun K "_law_feed" "_law_feed" s__law_feed f fd) : Binds K fd ["_law_cell_here", "_law_many"] [] := F.binds (ps := ["_law_cell_here", "_law_many"]) fun _ _ _ _ _ _ us hl => match us, hl with | [_, _], _ => rfl
theorem Tx.f__law_take (T : Tx K mg w) : ∃ fd, Fun K "_law_take" "_law_take" s__law_take (He.ga K "_law_take") fd := by
  obtain ⟨h, X, G, c⟩ := T.ex
  exact (c.t.d.def_ 51 (d := d__law_take) rfl).imp fun _ F => fun_of F
theorem Tx.g__law_take (T : Tx K mg w) : mg "_law_take" = some (.ref (He.ga K "_law_take")) := by
  obtain ⟨h, X, G, c⟩ := T.ex
  exact He.glo_ok X G (c.t.d.fact 30 (f := .glo "_law_take") rfl)
theorem b__law_take {f : Addr} {fd : FuncData} (F : Fun K "_law_take" "_law_take" s__law_take f fd) : Binds K fd ["_law_feed_here", "_law_limit"] [] := F.binds (ps := ["_law_feed_here", "_law_limit"]) fun _ _ _ _ _ _ us hl => match us, hl with | [_, _], _ => rfl
theorem Tx.f__law_search (T : Tx K mg w) : ∃ fd, Fun K "_law_search" "_law_search" s__law_search (He.ga K "_law_search") fd := by
  obtain ⟨h, X, G, c⟩ := T.ex
  exact (c.t.d.def_ 52 (d := d__law_search) rfl).imp fun _ F => fun_of F
theorem Tx.g__law_search (T : Tx K mg w) : mg "_law_search" = some (.ref (He.ga K "_law_search")) := by
  obtain ⟨h, X, G, c⟩ := T.ex
  exact He.glo_ok X G (c.t.d.fact 31 (f := .glo "_law_search") rfl)
theorem b__law_search {f : Addr} {fd : FuncData} (F : Fun K "_law_search" "_law_search" s__law_search f fd) : Binds K fd ["_law_world", "_law_module", "_law_wanted", "_law_seen"] [] := F.binds (ps := ["_law_world", "_law_module", "_law_wanted", "_law_seen"]) fun _ _ _ _ _ _ us hl => match us, hl with | [_, _, _, _], _ => rfl
theorem Tx.f__law_local (T : Tx K mg w) : ∃ fd, Fun K "_law_local" "_law_local" s__law_local (He.ga K "_law_local") fd := by
  obtain ⟨h, X, G, c⟩ := T.ex
  exact (c.t.d.def_ 53 (d := d__law_local) rfl).imp fun _ F => fun_of F
theorem Tx.g__law_local (T : Tx K mg w) : mg "_law_local" = some (.ref (He.ga K "_law_local")) := by
  obtain ⟨h, X, G, c⟩ := T.ex
  exact He.glo_ok X G (c.t.d.fact 32 (f := .glo "_law_local") rfl)
theorem b__law_local {f : Addr} {fd : FuncData} (F : Fun K "_law_local" "_law_local" s__law_local f fd) : Binds K fd ["_law_world", "_law_module", "_law_local_here", "_law_seen"] [] := F.binds (ps := ["_law_world", "_law_module", "_law_local_here", "_law_seen"]) fun _ _ _ _ _ _ us hl => match us, hl with | [_, _, _, _], _ => rfl
theorem Tx.f__law_star_modules (T : Tx K mg w) : ∃ fd, Fun K "_law_star_modules" "_law_star_modules" s__law_star_modules (He.ga K "_law_star_modules") fd := by
  obtain ⟨h, X, G, c⟩ := T.ex
  exact (c.t.d.def_ 54 (d := d__law_star_modules) rfl).imp fun _ F => fun_of F
theorem Tx.g__law_star_modules (T : Tx K mg w) : mg "_law_star_modules" = some (.ref (He.ga K "_law_star_modules")) := by
  obtain ⟨h, X, G, c⟩ := T.ex
  exact He.glo_ok X G (c.t.d.fact 33 (f := .glo "_law_star_modules") rfl)
theorem b__law_star_modules {f : Addr} {fd : FuncData} (F : Fun K "_law_star_modules" "_law_star_modules" s__law_star_modules f fd) : Binds K fd ["_law_cell_here"] [] := F.binds (ps := ["_law_cell_here"]) fun _ _ _ _ _ _ us hl => match us, hl with | [_], _ => rfl
theorem Tx.f__law_resolve (T : Tx K mg w) : ∃ fd, Fun K "_law_resolve" "_law_resolve" s__law_resolve (He.ga K "_law_resolve") fd := by
  obtain ⟨h, X, G, c⟩ := T.ex
  exact (c.t.d.def_ 55 (d := d__law_resolve) rfl).imp fun _ F => fun_of F
theorem Tx.g__law_resolve (T : Tx K mg w) : mg "_law_resolve" = some (.ref (He.ga K "_law_resolve")) := by
  obtain ⟨h, X, G, c⟩ := T.ex
  exact He.glo_ok X G (c.t.d.fact 34 (f := .glo "_law_resolve") rfl)
theorem b__law_resolve {f : Addr} {fd : FuncData} (F : Fun K "_law_resolve" "_law_resolve" s__law_resolve f fd) : Binds K fd ["_law_world", "_law_module", "_law_name"] [] := F.binds (ps := ["_law_world", "_law_module", "_law_name"]) fun _ _ _ _ _ _ us hl => match us, hl with | [_, _, _], _ => rfl
theorem Tx.f_law (T : Tx K mg w) : ∃ fd, Fun K "law" "law" s_law (He.ga K "law") fd := by
  obtain ⟨h, X, G, c⟩ := T.ex
  exact (c.t.d.def_ 56 (d := d_law) rfl).imp fun _ F => fun_of F
theorem Tx.g_law (T : Tx K mg w) : mg "law" = some (.ref (He.ga K "law")) := by
  obtain ⟨h, X, G, c⟩ := T.ex
  exact He.glo_ok X G (c.t.d.fact 35 (f := .glo "law") rfl)
theorem b_law {f : Addr} {fd : FuncData} (F : Fun K "law" "law" s_law f fd) : Binds K fd ["_law_script"] [] := F.binds (ps := ["_law_script"]) fun _ _ _ _ _ _ us hl => match us, hl with | [_], _ => rfl
theorem Tx.g_Reader (T : Tx K mg w) : mg "Reader" = some (.ref (He.ga K "Reader")) := by
  obtain ⟨h, X, G, c⟩ := T.ex
  exact He.glo_ok X G (c.t.d.fact 36 (f := .glo "Reader") rfl)
theorem Tx.g_Graph (T : Tx K mg w) : mg "Graph" = some (.ref (He.ga K "Graph")) := by
  obtain ⟨h, X, G, c⟩ := T.ex
  exact He.glo_ok X G (c.t.d.fact 37 (f := .glo "Graph") rfl)
theorem Tx.g_RESERVED (T : Tx K mg w) : mg "RESERVED" = some (.ref (He.ga K "RESERVED")) := by
  obtain ⟨h, X, G, c⟩ := T.ex
  exact He.glo_ok X G (c.t.d.fact 38 (f := .glo "RESERVED") rfl)
theorem Tx.g_SIGNS (T : Tx K mg w) : mg "SIGNS" = some (.ref (He.ga K "SIGNS")) := by
  obtain ⟨h, X, G, c⟩ := T.ex
  exact He.glo_ok X G (c.t.d.fact 39 (f := .glo "SIGNS") rfl)
theorem Tx.g_NEEDS (T : Tx K mg w) : mg "NEEDS" = some (.ref (He.ga K "NEEDS")) := by
  obtain ⟨h, X, G, c⟩ := T.ex
  exact He.glo_ok X G (c.t.d.fact 40 (f := .glo "NEEDS") rfl)
theorem Tx.g_COMPARISONS (T : Tx K mg w) : mg "COMPARISONS" = some (.ref (He.ga K "COMPARISONS")) := by
  obtain ⟨h, X, G, c⟩ := T.ex
  exact He.glo_ok X G (c.t.d.fact 41 (f := .glo "COMPARISONS") rfl)
theorem Tx.k_RESERVED (T : Tx K mg w) : ∃ u, mg "RESERVED" = some u ∧ RelV (.ref (He.ga K "RESERVED")) u := by
  obtain ⟨h, X, G, c⟩ := T.ex
  exact ⟨_, He.glo_ok X G (c.t.d.fact 38 (f := .glo "RESERVED") rfl), rfl⟩
theorem Tx.k_SIGNS (T : Tx K mg w) : ∃ u, mg "SIGNS" = some u ∧ RelV (.ref (He.ga K "SIGNS")) u := by
  obtain ⟨h, X, G, c⟩ := T.ex
  exact ⟨_, He.glo_ok X G (c.t.d.fact 39 (f := .glo "SIGNS") rfl), rfl⟩
theorem Tx.k_NEEDS (T : Tx K mg w) : ∃ u, mg "NEEDS" = some u ∧ RelV (.ref (He.ga K "NEEDS")) u := by
  obtain ⟨h, X, G, c⟩ := T.ex
  exact ⟨_, He.glo_ok X G (c.t.d.fact 40 (f := .glo "NEEDS") rfl), rfl⟩
theorem Tx.k_COMPARISONS (T : Tx K mg w) : ∃ u, mg "COMPARISONS" = some u ∧ RelV (.ref (He.ga K "COMPARISONS")) u := by
  obtain ⟨h, X, G, c⟩ := T.ex
  exact ⟨_, He.glo_ok X G (c.t.d.fact 41 (f := .glo "COMPARISONS") rfl), rfl⟩
theorem Tx.cl_Reader (T : Tx K mg w) : Cls K (He.ga K "Reader") := by
  obtain ⟨h, X, G, c⟩ := T.ex
  exact He.cls_ok (c.t.d.fact 58 (f := .cls "Reader") rfl)
theorem Tx.mk_Reader (T : Tx K mg w) : Mk K (He.ga K "Reader") (He.ma K (He.ga K "Reader") "__init__") := by
  obtain ⟨h, X, G, c⟩ := T.ex
  exact He.mkr_ok (c.t.d.fact 60 (f := .mkr "Reader") rfl)
theorem Tx.cl_Graph (T : Tx K mg w) : Cls K (He.ga K "Graph") := by
  obtain ⟨h, X, G, c⟩ := T.ex
  exact He.cls_ok (c.t.d.fact 59 (f := .cls "Graph") rfl)
theorem Tx.mk_Graph (T : Tx K mg w) : Mk K (He.ga K "Graph") (He.ma K (He.ga K "Graph") "__init__") := by
  obtain ⟨h, X, G, c⟩ := T.ex
  exact He.mkr_ok (c.t.d.fact 61 (f := .mkr "Graph") rfl)
theorem Tx.n_Reader_rest (T : Tx K mg w) : NoAttr K (He.ga K "Reader") "rest" := by
  obtain ⟨h, X, G, c⟩ := T.ex
  exact He.noat_ok (c.t.d.fact 62 (f := .noat "Reader" "rest") rfl)
theorem Tx.n_Reader_module (T : Tx K mg w) : NoAttr K (He.ga K "Reader") "module" := by
  obtain ⟨h, X, G, c⟩ := T.ex
  exact He.noat_ok (c.t.d.fact 63 (f := .noat "Reader" "module") rfl)
theorem Tx.n_Reader_place (T : Tx K mg w) : NoAttr K (He.ga K "Reader") "place" := by
  obtain ⟨h, X, G, c⟩ := T.ex
  exact He.noat_ok (c.t.d.fact 64 (f := .noat "Reader" "place") rfl)
theorem Tx.n_Reader_limit (T : Tx K mg w) : NoAttr K (He.ga K "Reader") "limit" := by
  obtain ⟨h, X, G, c⟩ := T.ex
  exact He.noat_ok (c.t.d.fact 65 (f := .noat "Reader" "limit") rfl)
theorem Tx.n_Reader_inside (T : Tx K mg w) : NoAttr K (He.ga K "Reader") "inside" := by
  obtain ⟨h, X, G, c⟩ := T.ex
  exact He.noat_ok (c.t.d.fact 66 (f := .noat "Reader" "inside") rfl)
theorem Tx.n_Graph_entry (T : Tx K mg w) : NoAttr K (He.ga K "Graph") "entry" := by
  obtain ⟨h, X, G, c⟩ := T.ex
  exact He.noat_ok (c.t.d.fact 67 (f := .noat "Graph" "entry") rfl)
theorem Tx.n_Graph__texts (T : Tx K mg w) : NoAttr K (He.ga K "Graph") "_texts" := by
  obtain ⟨h, X, G, c⟩ := T.ex
  exact He.noat_ok (c.t.d.fact 68 (f := .noat "Graph" "_texts") rfl)
theorem Tx.n_Graph__items (T : Tx K mg w) : NoAttr K (He.ga K "Graph") "_items" := by
  obtain ⟨h, X, G, c⟩ := T.ex
  exact He.noat_ok (c.t.d.fact 69 (f := .noat "Graph" "_items") rfl)
theorem Tx.n_Graph__order (T : Tx K mg w) : NoAttr K (He.ga K "Graph") "_order" := by
  obtain ⟨h, X, G, c⟩ := T.ex
  exact He.noat_ok (c.t.d.fact 70 (f := .noat "Graph" "_order") rfl)
theorem Tx.z_len (T : Tx K mg w) : mg "len" = none := by
  obtain ⟨h, X, G, c⟩ := T.ex
  exact He.free_ok X G (c.t.d.fact 42 (f := .free "len") rfl)
theorem Tx.z_all (T : Tx K mg w) : mg "all" = none := by
  obtain ⟨h, X, G, c⟩ := T.ex
  exact He.free_ok X G (c.t.d.fact 43 (f := .free "all") rfl)
theorem Tx.z_int (T : Tx K mg w) : mg "int" = none := by
  obtain ⟨h, X, G, c⟩ := T.ex
  exact He.free_ok X G (c.t.d.fact 44 (f := .free "int") rfl)
theorem Tx.z_tuple (T : Tx K mg w) : mg "tuple" = none := by
  obtain ⟨h, X, G, c⟩ := T.ex
  exact He.free_ok X G (c.t.d.fact 45 (f := .free "tuple") rfl)
theorem Tx.z_list (T : Tx K mg w) : mg "list" = none := by
  obtain ⟨h, X, G, c⟩ := T.ex
  exact He.free_ok X G (c.t.d.fact 46 (f := .free "list") rfl)
theorem Tx.z_dict (T : Tx K mg w) : mg "dict" = none := by
  obtain ⟨h, X, G, c⟩ := T.ex
  exact He.free_ok X G (c.t.d.fact 47 (f := .free "dict") rfl)
theorem Tx.z_set (T : Tx K mg w) : mg "set" = none := by
  obtain ⟨h, X, G, c⟩ := T.ex
  exact He.free_ok X G (c.t.d.fact 48 (f := .free "set") rfl)
theorem Tx.z_sorted (T : Tx K mg w) : mg "sorted" = none := by
  obtain ⟨h, X, G, c⟩ := T.ex
  exact He.free_ok X G (c.t.d.fact 49 (f := .free "sorted") rfl)
theorem Tx.z_range (T : Tx K mg w) : mg "range" = none := by
  obtain ⟨h, X, G, c⟩ := T.ex
  exact He.free_ok X G (c.t.d.fact 50 (f := .free "range") rfl)
theorem Tx.z_abs (T : Tx K mg w) : mg "abs" = none := by
  obtain ⟨h, X, G, c⟩ := T.ex
  exact He.free_ok X G (c.t.d.fact 51 (f := .free "abs") rfl)
theorem Tx.z_str (T : Tx K mg w) : mg "str" = none := by
  obtain ⟨h, X, G, c⟩ := T.ex
  exact He.free_ok X G (c.t.d.fact 52 (f := .free "str") rfl)
theorem Tx.z_max (T : Tx K mg w) : mg "max" = none := by
  obtain ⟨h, X, G, c⟩ := T.ex
  exact He.free_ok X G (c.t.d.fact 53 (f := .free "max") rfl)
theorem Tx.k_MAX_TEXT (T : Tx K mg w) : ∃ u, mg "MAX_TEXT" = some u ∧ RelV (.int 20000) u := by
  obtain ⟨h, X, G, c⟩ := T.ex
  exact rel_int (He.int_ok X G (c.t.d.fact 54 (f := .int "MAX_TEXT" 20000) rfl))
theorem Tx.k_MAX_NAME (T : Tx K mg w) : ∃ u, mg "MAX_NAME" = some u ∧ RelV (.int 20) u := by
  obtain ⟨h, X, G, c⟩ := T.ex
  exact rel_int (He.int_ok X G (c.t.d.fact 55 (f := .int "MAX_NAME" 20) rfl))
theorem Tx.k_MAX_DEPTH (T : Tx K mg w) : ∃ u, mg "MAX_DEPTH" = some u ∧ RelV (.int 12) u := by
  obtain ⟨h, X, G, c⟩ := T.ex
  exact rel_int (He.int_ok X G (c.t.d.fact 56 (f := .int "MAX_DEPTH" 12) rfl))
theorem Tx.k_MAX_MODULES (T : Tx K mg w) : ∃ u, mg "MAX_MODULES" = some u ∧ RelV (.int 40) u := by
  obtain ⟨h, X, G, c⟩ := T.ex
  exact rel_int (He.int_ok X G (c.t.d.fact 57 (f := .int "MAX_MODULES" 40) rfl))
theorem Tx.t_RESERVED (T : Tx K mg w) : ∀ H : Hp, SqT K H (He.ga K "RESERVED") (RES.map V.str) := by
  obtain ⟨h, X, G, c⟩ := T.ex
  exact fun H => by rw [← strs_v K RES]; exact He.tupB_ok (He.ba c.more).1 H
theorem Tx.t_SIGNS (T : Tx K mg w) : ∀ H : Hp, SqT K H (He.ga K "SIGNS") (SIG.map V.str) := by
  obtain ⟨h, X, G, c⟩ := T.ex
  exact fun H => by rw [← strs_v K SIG]; exact He.tupB_ok (He.ba (He.ba c.more).2).1 H
theorem Tx.t_NEEDS (T : Tx K mg w) : ∀ H : Hp, SqT K H (He.ga K "NEEDS") (NEE.map V.str) := by
  obtain ⟨h, X, G, c⟩ := T.ex
  exact fun H => by rw [← strs_v K NEE]; exact He.tupB_ok (He.ba (He.ba (He.ba c.more).2).2).1 H
theorem Tx.kd (T : Tx K mg w) : ∃ es n, KDict K w (He.ga K "COMPARISONS") es n := by
  obtain ⟨h, X, G, c⟩ := T.ex
  exact c.t.tab 0 (t := ((fun K => He.ga K "COMPARISONS"), ["<", "=="])) rfl
theorem Tx.kk (T : Tx K mg w) : keysB K "COMPARISONS" ["<", "=="] = true := by
  obtain ⟨h, X, G, c⟩ := T.ex
  exact (He.ba (He.ba (He.ba c.more).2).2).2
end
end Fz
set_option Elab.async false
set_option linter.all false
set_option maxRecDepth 100000
set_option maxHeartbeats 4000000
namespace Fz
open PySem PyProof.Rows L2
open C8 (Cal Met Mak pe_c pe_mk pe_mt pe_mt0 pe_gc)
/-! ## heaps -/
/-- all that was tracked is as it was, but what stands at r -/
def SameX (r : Addr) (H H' : Hp) : Prop := ∀ b o, b ≠ r → H b = some o → H' b = some o
theorem SameX.refl (r : Addr) (H : Hp) : SameX r H H := fun _ _ _ h => h
theorem SameX.trans {r : Addr} {H H1 H2 : Hp} (a : SameX r H H1) (b : SameX r H1 H2) : SameX r H H2 := fun c o n h => b c o n (a c o n h)
theorem SameX.of {r : Addr} {H H' : Hp} (a : Same H H') : SameX r H H' := fun c o _ h => a c o h
theorem SameX.upd {r : Addr} {H : Hp} {o : HO} : SameX r H (upd H r o) := fun b u n h => by rw [upd_ne n]; exact h
theorem same_new {H : Hp} {p : Addr} (h : H p = none) (o : HO) : Same H (upd H p o) := fun b u q => by rw [upd_ne (ne_of_none q h)]; exact q
theorem Same.at {H H' : Hp} {a : Addr} {o : HO} (s : Same H H') (h : H a = some o) : H' a = some o := s a o h
theorem Same.mut {H H' : Hp} {p : Addr} {o : HO} (e : Same H H') (h : H p = none) : Same H (upd H' p o) := fun a u ha => by
  rw [upd_ne (ne_of_none ha h)]
  exact e a u ha
theorem Same.tup {K : PySem.W.Frag} {H H' : Hp} {a : Addr} {xs : List V} (e : Same H H') (h : SqT K H a xs) : SqT K H' a xs := by
  rcases h with (h | ⟨o, h⟩) | h
  · exact .inl (.inl (e _ _ h))
  · exact .inl (.inr ⟨o, e _ _ h⟩)
  · exact .inr h
theorem sz (n : Nat) (h : n ≤ 100000 := by decide) : n ≤ sizeLine := Nat.le_trans h (by decide)
theorem szl {n : Nat} (h : n ≤ 100000) : n < sizeLine := Nat.lt_of_le_of_lt h (by decide)
theorem if_T {A B : Prop} {b : Bool} (e : b = true) (h : A) : if b = true then A else B := by rw [if_pos e]; exact h
theorem if_F {A B : Prop} {b : Bool} (e : b = false) (h : B) : if b = true then A else B := by rw [e]; exact iteF h
theorem not_t {b : Bool} (h : ¬ b = true) : b = false := by cases b <;> simp_all

/-! ## lexing -/
abbrev tl (z : Str) : List Nat := z.cps.toList
abbrev SS (l : List Nat) : Str := ⟨l.toArray⟩
theorem len_tl (z : Str) : z.length = (tl z).length := TL.len_tl z
def isL (c : Nat) : Bool := (decide (97 ≤ c) && decide (c ≤ 122)) || (decide (65 ≤ c) && decide (c ≤ 90))
def isD (c : Nat) : Bool := decide (48 ≤ c) && decide (c ≤ 57)
def isN (c : Nat) : Bool := isL c || isD c || decide (c = 95)
/-- a token: its kind, its value -/
structure Tk where
  kind : Str
  val : V
deriving DecidableEq
def wordTk (w : List Nat) : Option Tk := if SS w ∈ RES then some ⟨"word", .str (SS w)⟩ else if w.length ≤ 20 then some ⟨"name", .str (SS w)⟩ else none
def headN (r : List Nat) : Bool := match r with
  | [] => false
  | c :: _ => isN c
/-- the token at the head, its length -/
def lexTok (l : List Nat) : Option (Tk × Nat) := match l with
  | [] => none
  | c :: r =>
    if isL c then (wordTk ((c :: r).takeWhile isN)).map fun t => (t, ((c :: r).takeWhile isN).length)
    else if isD c then (if headN r then none else some (⟨"number", .int ((c : Int) - 48)⟩, 1))
    else if c = 34 then (if (r.takeWhile isN) ≠ [] ∧ (r.takeWhile isN).length ≤ 20 ∧ r[(r.takeWhile isN).length]? = some 34 then some (⟨"string", .str (SS (r.takeWhile isN))⟩, (r.takeWhile isN).length + 2) else none)
    else if c = 42 ∨ c = 123 ∨ c = 125 ∨ c = 59 ∨ (c = 61 ∧ r.head? ≠ some 61) then some (⟨"sign", .str (SS [c])⟩, 1)
    else none
theorem lexTok_cons (c : Nat) (r : List Nat) : lexTok (c :: r) =
    if isL c then (wordTk ((c :: r).takeWhile isN)).map fun t => (t, ((c :: r).takeWhile isN).length)
    else if isD c then (if headN r then none else some (⟨"number", .int ((c : Int) - 48)⟩, 1))
    else if c = 34 then (if (r.takeWhile isN) ≠ [] ∧ (r.takeWhile isN).length ≤ 20 ∧ r[(r.takeWhile isN).length]? = some 34 then some (⟨"string", .str (SS (r.takeWhile isN))⟩, (r.takeWhile isN).length + 2) else none)
    else if c = 42 ∨ c = 123 ∨ c = 125 ∨ c = 59 ∨ (c = 61 ∧ r.head? ≠ some 61) then some (⟨"sign", .str (SS [c])⟩, 1)
    else none := rfl
inductive Lex : List Nat → List Tk → Prop
  | nil : Lex [] []
  | ws {c : Nat} {r : List Nat} {ts : List Tk} : (c = 32 ∨ c = 10) → Lex r ts → Lex (c :: r) ts
  | tk {l : List Nat} {t : Tk} {n : Nat} {ts : List Tk} : lexTok l = some (t, n) → Lex (l.drop n) ts → Lex l (t :: ts)
def lexF : Nat → List Nat → Option (List Tk)
  | _, [] => some []
  | 0, _ :: _ => none
  | f + 1, c :: r => if c = 32 ∨ c = 10 then lexF f r else match lexTok (c :: r) with
    | some (t, n) => (lexF f ((c :: r).drop n)).map (t :: ·)
    | none => none
theorem lexF_Lex : ∀ {f : Nat} {l : List Nat} {ts : List Tk}, lexF f l = some ts → Lex l ts
  | 0, [], ts, h => by cases h; exact .nil
  | _ + 1, [], ts, h => by cases h; exact .nil
  | 0, _ :: _, ts, h => by cases h
  | f + 1, c :: r, ts, h => by
    unfold lexF at h
    split at h
    · rename_i hc
      exact .ws hc (lexF_Lex h)
    · split at h
      · rename_i t n e
        obtain ⟨ts', h1, rfl⟩ := Option.map_eq_some_iff.mp h
        exact .tk e (lexF_Lex h1)
      · cases h
theorem isN_of_L {c : Nat} (h : isL c = true) : isN c = true := by simp [isN, h]
theorem isN_of_D {c : Nat} (h : isD c = true) : isN c = true := by simp [isN, h]
theorem tw_app : ∀ {l q : List Nat}, (∃ c ∈ l, isN c = false) → (l ++ q).takeWhile isN = l.takeWhile isN
  | [], _, ⟨_, h, _⟩ => by simp at h
  | d :: l, q, ⟨c, h, e⟩ => by
    show (d :: (l ++ q)).takeWhile isN = (d :: l).takeWhile isN
    rw [List.takeWhile_cons, List.takeWhile_cons]
    cases hd : isN d with
    | false => rfl
    | true =>
      have h' : c ∈ l := by
        rcases List.mem_cons.mp h with rfl | h
        · rw [hd] at e; cases e
        · exact h
      simp only [if_true]
      rw [tw_app ⟨c, h', e⟩]
theorem tw_len : ∀ {l : List Nat}, (∃ c ∈ l, isN c = false) → (l.takeWhile isN).length < l.length
  | [], ⟨_, h, _⟩ => by simp at h
  | d :: l, ⟨c, h, e⟩ => by
    rw [List.takeWhile_cons]
    cases hd : isN d with
    | false => simp
    | true =>
      have h' : c ∈ l := by
        rcases List.mem_cons.mp h with rfl | h
        · rw [hd] at e; cases e
        · exact h
      have := tw_len ⟨c, h', e⟩
      simp only [if_true, List.length_cons]
      omega
/-- with a newline at the end what follows is not looked at -/
theorem lexTok_app {l q : List Nat} {t : Tk} {n : Nat} (h : lexTok (l ++ [10]) = some (t, n)) : lexTok (l ++ [10] ++ q) = some (t, n) ∧ n ≤ l.length := by
  cases l with
  | nil => revert h; simp [lexTok, isL, isD]
  | cons c r =>
    have hN : ∃ d ∈ r ++ [10], isN d = false := ⟨10, by simp, by decide⟩
    have hN2 : ∃ d ∈ c :: (r ++ [10]), isN d = false := ⟨10, by simp, by decide⟩
    have e0 : c :: r ++ [10] ++ q = c :: ((r ++ [10]) ++ q) := rfl
    have e1 : (c :: ((r ++ [10]) ++ q)).takeWhile isN = (c :: (r ++ [10])).takeWhile isN := tw_app (q := q) hN2
    have e2 : ((r ++ [10]) ++ q).takeWhile isN = (r ++ [10]).takeWhile isN := tw_app (q := q) hN
    have l1 := tw_len hN
    have l2 := tw_len hN2
    have hh : headN ((r ++ [10]) ++ q) = headN (r ++ [10]) := by cases r <;> rfl
    have hd : ((r ++ [10]) ++ q).head? = (r ++ [10]).head? := by cases r <;> rfl
    rw [e0]
    have h : lexTok (c :: (r ++ [10])) = some (t, n) := h
    rw [lexTok_cons] at h ⊢
    simp only [List.length_cons, List.length_append, List.length_nil] at l1 l2 ⊢
    split at h
    · rename_i hc
      rw [if_pos hc, e1]
      refine ⟨h, ?_⟩
      obtain ⟨a, _, e⟩ := Option.map_eq_some_iff.mp h
      have e := (Prod.mk.inj e).2
      omega
    · rename_i hc
      rw [if_neg hc]
      split at h
      · rename_i hc2
        rw [if_pos hc2, hh]
        refine ⟨h, ?_⟩
        split at h
        · cases h
        · have e := (Prod.mk.inj (Option.some.inj h)).2
          omega
      · rename_i hc2
        rw [if_neg hc2]
        split at h
        · rename_i hc3
          rw [if_pos hc3, e2]
          split at h
          · rename_i hc4
            have l3 : ((r ++ [10]).takeWhile isN).length < (r ++ [10]).length := by
              simp only [List.length_append, List.length_cons, List.length_nil]
              omega
            rw [List.getElem?_append_left l3]
            have g := hc4.2.2
            rw [if_pos hc4]
            refine ⟨h, ?_⟩
            have e := (Prod.mk.inj (Option.some.inj h)).2
            have l4 : ((r ++ [10]).takeWhile isN).length < r.length := by
              rcases Nat.lt_or_ge ((r ++ [10]).takeWhile isN).length r.length with z | z
              · exact z
              · exfalso
                have z2 : ((r ++ [10]).takeWhile isN).length = r.length := by omega
                rw [z2, List.getElem?_append_right (Nat.le_refl _)] at g
                simp at g
            omega
          · cases h
        · rename_i hc3
          rw [if_neg hc3, hd]
          refine ⟨h, ?_⟩
          split at h
          · have e := (Prod.mk.inj (Option.some.inj h)).2
            omega
          · cases h
theorem Lex.app {p q : List Nat} {ts us : List Tk} (h : Lex p ts) (hq : Lex q us) : ∀ {l : List Nat}, p = l ++ [10] → Lex (p ++ q) (ts ++ us) := by
  induction h with
  | nil => intro l e; cases l <;> cases e
  | @ws c r ts hc hr ih =>
    intro l e
    cases l with
    | nil =>
      have e : c :: r = [10] := e
      injection e with e1 e2
      subst e1 e2
      cases hr with
      | nil => exact .ws hc hq
      | tk h _ => simp [lexTok] at h
    | cons d l =>
      have e : c :: r = d :: (l ++ [10]) := e
      injection e with e1 e2
      exact .ws hc (ih e2)
  | @tk l t n ts h hr ih =>
    intro l' e
    subst e
    obtain ⟨h1, h2⟩ := lexTok_app (q := q) h
    refine .tk h1 ?_
    rw [List.append_assoc, List.drop_append_of_le_length h2]
    have e3 : (l' ++ [10]).drop n = l'.drop n ++ [10] := List.drop_append_of_le_length h2
    have := ih (l := l'.drop n) e3
    rw [e3, List.append_assoc] at this
    exact this
end Fz
set_option Elab.async false
set_option linter.all false
set_option maxRecDepth 100000
set_option maxHeartbeats 4000000
namespace Fz
open PySem PyProof.Rows L2
open C8 (Cal Met Mak pe_c pe_mk pe_mt pe_mt0 pe_gc)
theorem lt1 (a b : Nat) : decide (([a] : List Nat) < [b]) = decide (a < b) := by
  by_cases h : a < b
  · rw [decide_eq_true h]; exact decide_eq_true (List.Lex.rel h)
  · rw [decide_eq_false h]
    refine decide_eq_false fun z => ?_
    cases z with
    | rel z => exact h z
    | cons z => cases z
theorem le_lit (c : Nat) {x : Str} {a : Nat} (hx : tl x = [a]) : (!decide ((SS [c]).cps.toList < x.cps.toList)) = decide (a ≤ c) := by
  have e : (SS [c]).cps.toList = [c] := rfl
  have hx : x.cps.toList = [a] := hx
  rw [e, hx, lt1]
  by_cases h : a ≤ c
  · rw [decide_eq_true h, decide_eq_false (by omega)]; rfl
  · rw [decide_eq_false h, decide_eq_true (by omega)]; rfl
theorem ge_lit (c : Nat) {x : Str} {a : Nat} (hx : tl x = [a]) : (!decide (x.cps.toList < (SS [c]).cps.toList)) = decide (c ≤ a) := by
  have e : (SS [c]).cps.toList = [c] := rfl
  have hx : x.cps.toList = [a] := hx
  rw [e, hx, lt1]
  by_cases h : c ≤ a
  · rw [decide_eq_true h, decide_eq_false (by omega)]; rfl
  · rw [decide_eq_false h, decide_eq_true (by omega)]; rfl
section
variable {P : Program} {w : World} {K : PySem.W.Frag} {mg : Str → Option Value} {base : Heap}
def spIsLetter : Sp := fun vs H Q _ => ∃ c : Nat, vs = [.str (SS [c])] ∧ Q (.bl (isL c)) H
theorem c_is_letter (T : Tx K mg w) : Cal P w K mg base 1 "is_letter" spIsLetter [] := by
  obtain ⟨fd, F⟩ := T.f_is_letter
  refine calOf F T.g_is_letter (b_is_letter F) sc_is_letter (fun vs H Q E h => ?_) (fun cdv A outer s H vs Q E hr h => ?_)
  · obtain ⟨_, rfl, _⟩ := h; rfl
  obtain ⟨c, rfl, q⟩ := h
  refine ⟨_, (pss_one (ps_ret (pe_or (pe_chain op_le_str op_le_str pe_str (pv 0) pe_str) (pe_one (pe_chain op_le_str op_le_str pe_str (pv 0) pe_str))))), ?_⟩
  have h97 := le_lit c (x := "a") (a := 97) (by decide +kernel)
  have h122 := ge_lit c (x := "z") (a := 122) (by decide +kernel)
  have h65 := le_lit c (x := "A") (a := 65) (by decide +kernel)
  have h90 := ge_lit c (x := "Z") (a := 90) (by decide +kernel)
  refine ⟨_, rfl, _, _, rfl, rfl, _, rfl, ite2 (fun h1 => ⟨_, _, rfl, rfl, _, rfl, ite2 (fun h2 => ?_) (fun h2 => ?_)⟩) (fun h1 => ⟨_, rfl, iteF ?_⟩)⟩
  · rw [h97] at h1
    rw [h122] at h2
    have e : isL c = true := by simp only [isL, h1, h2]; rfl
    rw [e] at q
    exact q
  all_goals
    have hn : ¬ (97 ≤ c ∧ c ≤ 122) := fun z => by
      first
        | exact h2 (by rw [h122]; exact decide_eq_true z.2)
        | exact h1 (by rw [h97]; exact decide_eq_true z.1)
    refine ⟨_, rfl, _, _, rfl, rfl, _, rfl, ite2 (fun h3 => ⟨_, _, rfl, rfl, ?_⟩) (fun h3 => ?_)⟩
    · rw [h65] at h3
      have e : isL c = (!decide (("Z" : Str).cps.toList < (SS [c]).cps.toList)) := by
        rw [h90]
        have z : (decide (97 ≤ c) && decide (c ≤ 122)) = false := by
          cases hz : (decide (97 ≤ c) && decide (c ≤ 122)) with
          | false => rfl
          | true => simp at hz; exact absurd hz hn
        simp only [isL, h3, z, Bool.true_and, Bool.false_or]
      rw [e] at q
      exact q
    · rw [h65] at h3
      have e : isL c = false := by
        have h3 := not_t h3
        simp only [isL, h3, Bool.false_and, Bool.or_false]
        cases hz : (decide (97 ≤ c) && decide (c ≤ 122)) with
        | false => rfl
        | true => simp at hz; exact absurd hz hn
      rw [e] at q
      exact q
def spIsDigit : Sp := fun vs H Q _ => ∃ c : Nat, vs = [.str (SS [c])] ∧ Q (.bl (isD c)) H
theorem c_is_digit (T : Tx K mg w) : Cal P w K mg base 1 "is_digit" spIsDigit [] := by
  obtain ⟨fd, F⟩ := T.f_is_digit
  refine calOf F T.g_is_digit (b_is_digit F) sc_is_digit (fun vs H Q E h => ?_) (fun cdv A outer s H vs Q E hr h => ?_)
  · obtain ⟨_, rfl, _⟩ := h; rfl
  obtain ⟨c, rfl, q⟩ := h
  refine ⟨_, (pss_one (ps_ret (pe_chain op_le_str op_le_str pe_str (pv 0) pe_str))), ?_⟩
  have h48 := le_lit c (x := "0") (a := 48) (by decide +kernel)
  have h57 := ge_lit c (x := "9") (a := 57) (by decide +kernel)
  refine ⟨_, rfl, _, _, rfl, rfl, _, rfl, ite2 (fun h3 => ⟨_, _, rfl, rfl, ?_⟩) (fun h3 => ?_)⟩
  · rw [h48] at h3
    have e : isD c = (!decide (("9" : Str).cps.toList < (SS [c]).cps.toList)) := by
      rw [h57]
      simp only [isD, h3, Bool.true_and]
    rw [e] at q
    exact q
  · rw [h48] at h3
    have e : isD c = false := by simp only [isD, not_t h3, Bool.false_and]
    rw [e] at q
    exact q
def spInName : Sp := fun vs H Q _ => ∃ c : Nat, vs = [.str (SS [c])] ∧ Q (.bl (isN c)) H
theorem c_in_name (T : Tx K mg w) : Cal P w K mg base 2 "in_name" spInName [] := by
  have c_is_letter : Cal P w K mg base 1 "is_letter" spIsLetter [] := c_is_letter T
  have c_is_digit : Cal P w K mg base 1 "is_digit" spIsDigit [] := c_is_digit T
  obtain ⟨fd, F⟩ := T.f_in_name
  refine calOf F T.g_in_name (b_in_name F) sc_in_name (fun vs H Q E h => ?_) (fun cdv A outer s H vs Q E hr h => ?_)
  · obtain ⟨_, rfl, _⟩ := h; rfl
  obtain ⟨c, rfl, q⟩ := h
  refine ⟨_, (pss_one (ps_ret (pe_or (pe_c c_is_letter hr (by decide) rfl (pa_cons (pv 0) pa_nil)) (pe_or (pe_c c_is_digit hr (by decide) rfl (pa_cons (pv 0) pa_nil)) (pe_one (pe_cmpR op_eq (pv 0) pe_str (nomark _))))))), ?_⟩
  refine ⟨_, rfl, c, rfl, _, rfl, ite2 (fun h1 => ?_) (fun h1 => ⟨_, rfl, c, rfl, _, rfl, ite2 (fun h2 => ?_) (fun h2 => ⟨_, rfl, rfl, ?_⟩)⟩)⟩
  · have e : isN c = true := isN_of_L h1
    rw [e] at q
    exact q
  · have e : isN c = true := isN_of_D h2
    rw [e] at q
    exact q
  · have e : isN c = decide (V.str (SS [c]) = V.str "_") := by
      have e1 : decide (V.str (SS [c]) = V.str "_") = decide (c = 95) := by
        by_cases z : c = 95
        · subst z; decide +kernel
        · rw [decide_eq_false z]
          refine decide_eq_false fun y => z ?_
          have y := congrArg tl (V.str.inj y)
          have y2 : tl ("_" : Str) = [95] := by decide +kernel
          rw [y2] at y
          exact (List.cons.inj (show [c] = [95] from y)).1
      rw [e1]
      simp only [isN, not_t h1, not_t h2, Bool.false_or]
    rw [e] at q
    exact q
end
end Fz
set_option Elab.async false
set_option linter.all false
set_option maxRecDepth 100000
set_option maxHeartbeats 4000000
namespace Fz
open PySem PyProof.Rows L2
open C8 (Cal Met Mak pe_c pe_mk pe_mt pe_mt0 pe_gc)
/-! ## plain -/
theorem drop_cons {l : List Nat} {n c : Nat} {r : List Nat} (h : l.drop n = c :: r) : l[n]? = some c ∧ l.drop (n + 1) = r ∧ n < l.length := by
  have hlt : n < l.length := by
    rcases Nat.lt_or_ge n l.length with z | z
    · exact z
    · rw [List.drop_eq_nil_of_le z] at h; cases h
  rw [List.drop_eq_getElem_cons hlt] at h
  injection h with h1 h2
  exact ⟨by rw [List.getElem?_eq_getElem hlt, h1], h2, hlt⟩
theorem drop_lt {l : List Nat} {n : Nat} (h : n < l.length) : ∃ c r, l.drop n = c :: r := ⟨_, _, List.drop_eq_getElem_cons h⟩
theorem take_tw : ∀ l : List Nat, l.take (l.takeWhile isN).length = l.takeWhile isN
  | [] => rfl
  | c :: r => by
    rw [List.takeWhile_cons]
    cases h : isN c with
    | false => rfl
    | true =>
      simp only [if_true, List.length_cons, List.take_succ_cons]
      rw [take_tw r]
theorem tw_le : ∀ l : List Nat, (l.takeWhile isN).length ≤ l.length
  | [] => Nat.le_refl _
  | c :: r => by
    rw [List.takeWhile_cons]
    cases h : isN c with
    | false => simp
    | true =>
      have := tw_le r
      simp only [if_true, List.length_cons]
      omega
/-- where the run of name signs ends -/
def reN (l : List Nat) (n : Nat) : Nat := n + ((l.drop n).takeWhile isN).length
theorem reN_le {l : List Nat} {n : Nat} (h : n ≤ l.length) : reN l n ≤ l.length := by
  have := tw_le (l.drop n)
  rw [List.length_drop] at this
  unfold reN
  omega
theorem reN_step {l : List Nat} {n c : Nat} (h : l[n]? = some c) (hc : isN c = true) : reN l (n + 1) = reN l n := by
  obtain ⟨hlt, e⟩ := List.getElem?_eq_some_iff.mp h
  unfold reN
  rw [List.drop_eq_getElem_cons hlt, e, List.takeWhile_cons, if_pos hc, List.length_cons]
  omega
theorem reN_stop {l : List Nat} {n c : Nat} (h : l[n]? = some c) (hc : isN c = false) : reN l n = n := by
  obtain ⟨hlt, e⟩ := List.getElem?_eq_some_iff.mp h
  unfold reN
  rw [List.drop_eq_getElem_cons hlt, e, List.takeWhile_cons, hc]
  rfl
theorem reN_end {l : List Nat} {n : Nat} (h : l.length ≤ n) : reN l n = n := by
  unfold reN
  rw [List.drop_eq_nil_of_le h]
  rfl
theorem cut_lem (z : Str) (n k : Nat) (h : n + k ≤ (tl z).length) : cutS z (some (n : Int)) (some ((n + k : Nat) : Int)) = SS (((tl z).drop n).take k) := by
  unfold cutS
  rw [HT.sIx_nat, HT.sIx_nat, len_tl, Nat.min_eq_left h, Nat.min_eq_left (show n ≤ (tl z).length by omega)]
  have e : n + k - n = k := by omega
  rw [e]
theorem inV_strs (x : Str) : ∀ l : List Str, inV (.str x) (l.map V.str) = decide (x ∈ l)
  | [] => rfl
  | y :: r => by
    have ih := inV_strs x r
    show (eqV (.str y) (.str x) || inV (.str x) (r.map V.str)) = _
    rw [ih]
    show ((y == x) || decide (x ∈ r)) = decide (x ∈ y :: r)
    by_cases h : y = x
    · subst h; simp
    · have h2 : (y == x) = false := beq_eq_false_iff_ne.mpr h
      rw [h2, Bool.false_or]
      by_cases h3 : x ∈ r
      · rw [decide_eq_true h3, decide_eq_true (List.mem_cons_of_mem _ h3)]
      · rw [decide_eq_false h3, decide_eq_false]
        intro z
        rcases List.mem_cons.mp z with z | z
        · exact h z.symm
        · exact h3 z
theorem flat_strs (ys : List Str) : (ys.map V.str).all flatV = true := by
  induction ys with
  | nil => rfl
  | cons _ _ ih => simp [flatV]
/-- a token's object -/
def TokAt (H : Hp) (v : V) (t : Tk) : Prop := ∃ (a : Addr) (at_ : Int), v = .ref a ∧ H a = some (.tup [.str t.kind, t.val, .int at_])
theorem TokAt.mono {H H' : Hp} (s : Same H H') {v : V} {t : Tk} (h : TokAt H v t) : TokAt H' v t := by
  obtain ⟨a, i, e, h⟩ := h
  exact ⟨a, i, e, s _ _ h⟩
/-- what reading a token hands back -/
def RetTok (H : Hp) (Q : VK) (t : Tk) (e : Nat) : Prop := ∀ (H' : Hp) (q a : Addr), Same H H' → TokAt H' (.ref a) t → H' q = some (.tup [.ref a, .int (e : Int)]) → Q (.ref q) H'
theorem RetTok.mk {H : Hp} {Q : VK} {t : Tk} {e : Nat} (k : RetTok H Q t e) {a q : Addr} {i : Int} (ha : H a = none) (hq : upd H a (.tup [.str t.kind, t.val, .int i]) q = none) :
    Q (.ref q) (upd (upd H a (.tup [.str t.kind, t.val, .int i])) q (.tup [.ref a, .int (e : Int)])) := by
  have naq : a ≠ q := fun z => by rw [← z, upd_same] at hq; cases hq
  refine k _ q a ((same_new ha _).trans (same_new hq _)) ⟨a, i, rfl, ?_⟩ upd_same
  rw [upd_ne naq, upd_same]
section
variable {P : Program} {w : World} {K : PySem.W.Frag} {mg : Str → Option Value} {base : Heap}
/-! ## run_end -/
def spRunEnd : Sp := fun vs H Q _ => ∃ (z : Str) (n : Nat), vs = [.str z, .int n] ∧ z.length ≤ 20000 ∧ n ≤ z.length ∧ Q (.int (reN (tl z) n : Nat)) H
theorem c_run_end (T : Tx K mg w) : Cal P w K mg base 3 "run_end" spRunEnd [] := by
  have c_in_name : Cal P w K mg base 2 "in_name" spInName [] := c_in_name T
  obtain ⟨fd, F⟩ := T.f_run_end
  refine calOf F T.g_run_end (b_run_end F) sc_run_end (fun vs H Q E h => ?_) (fun cdv A outer s H vs Q E hr h => ?_)
  · obtain ⟨_, _, rfl, _⟩ := h; rfl
  obtain ⟨z, n, rfl, hz, hn, q⟩ := h
  refine ⟨_, (pss_cons (ps_while PassesOwn.never (PW.pt (pw_and (pt_cmpR op_lt (pv 1) (pe_callB call_len_str (by rfl) T.z_len PySem.boot_len (pa_cons (pv 0) pa_nil)) (nomark _)) (pw_and1 (pt_val (pe_c c_in_name hr (by decide) rfl (pa_cons (pe_ix ix_str (pv 0) (pv 1) (fun _ _ => rfl)) pa_nil)))))) (pss_one (ps_set (i := 1) sc_run_end.nd rfl (Or.inl rfl) (pe_op op_add (pv 1) pe_int))))
  (pss_one (ps_ret (pv 1)))), ?_⟩
  have zl : z.length ≤ sizeLine := Nat.le_trans hz (by decide)
  refine ⟨fun m σ H' => H' = H ∧ ∃ i : Nat, σ = [some (.str z), some (.int i)] ∧ i ≤ z.length ∧ reN (tl z) i = reN (tl z) n ∧ m = z.length - i, ⟨_, rfl, n, rfl, hn, rfl, rfl⟩, ?_⟩
  rintro m σ H' ⟨rfl, i, rfl, hi, e, rfl⟩
  refine ⟨_, rfl, _, rfl, z, rfl, zl, _, _, rfl, rfl, _, rfl, ite2 (fun h1 => ?_) (fun h1 => iteF ?_)⟩
  · have hlt : i < (tl z).length := by
      have := of_decide_eq_true h1
      rw [len_tl] at this
      omega
    obtain ⟨c, r, ed⟩ := drop_lt hlt
    have hc := (drop_cons ed).1
    refine ⟨_, rfl, _, rfl, z, _, c, rfl, rfl, zl, atI_nat hc, c, rfl, _, rfl, ite2 (fun h2 => ?_) (fun h2 => ?_)⟩
    · refine ⟨fun σ' H'' => ∃ m', m' < z.length - i ∧ (H'' = H' ∧ ∃ i : Nat, σ' = [some (.str z), some (.int i)] ∧ i ≤ z.length ∧ reN (tl z) i = reN (tl z) n ∧ m' = z.length - i), fun _ _ h => h, ?_⟩
      refine ⟨_, rfl, _, _, rfl, rfl, z.length - (i + 1), ?_, rfl, i + 1, rfl, ?_, ?_, rfl⟩
      · rw [len_tl]; omega
      · rw [len_tl]; omega
      · rw [reN_step hc h2, e]
    · refine ⟨_, rfl, ?_⟩
      rw [← e, reN_stop hc (not_t h2)] at q
      exact q
  · have hge : (tl z).length ≤ i := by
      have : ¬ ((i : Int) < (z.length : Int)) := fun y => h1 (decide_eq_true y)
      rw [len_tl] at this
      omega
    refine ⟨_, rfl, ?_⟩
    rw [← e, reN_end hge] at q
    exact q
/-! ## read_word -/
def spReadWord : Sp := fun vs H Q _ => ∃ (z : Str) (n : Nat) (m : V) (t : Tk), vs = [.str z, .int n, m] ∧ z.length ≤ 20000 ∧ n ≤ z.length ∧ wordTk (((tl z).drop n).takeWhile isN) = some t ∧ RetTok H Q t (reN (tl z) n)
theorem c_read_word (T : Tx K mg w) : Cal P w K mg base 4 "read_word" spReadWord [] := by
  have c_run_end : Cal P w K mg base 3 "run_end" spRunEnd [] := c_run_end T
  obtain ⟨fd, F⟩ := T.f_read_word
  refine calOf F T.g_read_word (b_read_word F) sc_read_word (fun vs H Q E h => ?_) (fun cdv A outer s H vs Q E hr h => ?_)
  · obtain ⟨_, _, _, _, rfl, _⟩ := h; rfl
  obtain ⟨z, n, m, t, rfl, hz, hn, ht, q⟩ := h
  refine ⟨_, (pss_cons (ps_set (i := 3) sc_read_word.nd rfl (Or.inl rfl) (pe_c c_run_end hr (by decide) rfl (pa_cons (pv 0) (pa_cons (pv 1) pa_nil))))
  (pss_cons (ps_set (i := 4) sc_read_word.nd rfl (Or.inl rfl) (pe_slice sl_str (pv 0) (po_some (pv 1)) (po_some (pv 3))))
  (pss_cons (ps_if (pt_cmpR op_in_seq (pv 4) (pe_gc rfl T.k_RESERVED) (by rfl)) (pss_one (ps_ret (pe_tup (pa_cons (pe_tup (pa_cons pe_str (pa_cons (pv 4) (pa_cons (pv 1) pa_nil)))) (pa_cons (pv 3) pa_nil))))) pss_nil)
  (pss_cons (ps_if (pt_cmpR op_gt (pe_callB call_len_str (by rfl) T.z_len PySem.boot_len (pa_cons (pv 4) pa_nil)) (pe_gc rfl T.k_MAX_NAME) (nomark _)) (pss_one (ps_never)) pss_nil)
  (pss_one (ps_ret (pe_tup (pa_cons (pe_tup (pa_cons pe_str (pa_cons (pv 4) (pa_cons (pv 1) pa_nil)))) (pa_cons (pv 3) pa_nil))))))))), ?_⟩
  have zl : z.length ≤ sizeLine := Nat.le_trans hz (by decide)
  have hn' : n ≤ (tl z).length := by rw [← len_tl]; exact hn
  have hcut : cutS z (some (n : Int)) (some ((reN (tl z) n : Nat) : Int)) = SS (((tl z).drop n).takeWhile isN) := by
    have := reN_le hn'
    unfold reN at this ⊢
    rw [cut_lem z n _ this, take_tw]
  have wl : (SS (((tl z).drop n).takeWhile isN)).length = (((tl z).drop n).takeWhile isN).length := by rw [len_tl]
  have wz : (SS (((tl z).drop n).takeWhile isN)).length ≤ sizeLine := by
    rw [wl]
    have := tw_le ((tl z).drop n)
    rw [List.length_drop, ← len_tl] at this
    omega
  refine ⟨_, rfl, _, rfl, z, n, rfl, hz, hn, ?_⟩
  refine ⟨_, rfl, _, rfl, _, rfl, _, rfl, _, rfl, z, rfl, zl, ?_⟩
  rw [hcut]
  refine ⟨_, rfl, _, _, rfl, .inr (T.t_RESERVED _), rfl, flat_strs _, _, rfl, ite2 (fun h1 => ?_) (fun h1 => ?_)⟩
  · have h1 : inV (.str (SS (((tl z).drop n).takeWhile isN))) (RES.map V.str) = true := h1
    rw [inV_strs] at h1
    have e : (⟨"word", .str (SS (((tl z).drop n).takeWhile isN))⟩ : Tk) = t := by
      unfold wordTk at ht
      rw [if_pos (of_decide_eq_true h1)] at ht
      exact Option.some.inj ht
    subst e
    exact ⟨_, rfl, _, rfl, sz 3, fun a ha => ⟨_, rfl, sz 2, fun b hb => q.mk ha hb⟩⟩
  · have h1 : ¬ inV (.str (SS (((tl z).drop n).takeWhile isN))) (RES.map V.str) = true := h1
    rw [inV_strs] at h1
    unfold wordTk at ht
    rw [if_neg fun y => h1 (decide_eq_true y)] at ht
    split at ht
    · rename_i h2
      have e := Option.some.inj ht
      subst e
      refine ⟨_, rfl, _, rfl, wz, _, _, rfl, rfl, _, rfl, if_F ?_ ?_⟩
      · rw [wl]
        exact decide_eq_false (by omega)
      · exact ⟨_, rfl, _, rfl, sz 3, fun a ha => ⟨_, rfl, sz 2, fun b hb => q.mk ha hb⟩⟩
    · cases ht
end
end Fz
set_option Elab.async false
set_option linter.all false
set_option maxRecDepth 100000
set_option maxHeartbeats 4000000
namespace Fz
open PySem PyProof.Rows L2
open C8 (Cal Met Mak pe_c pe_mk pe_mt pe_mt0 pe_gc)
section
variable {P : Program} {w : World} {K : PySem.W.Frag} {mg : Str → Option Value} {base : Heap}
/-! ## read_number: one digit -/
theorem digit_text : ∀ c : Nat, isD c = true → PySem.intText? (SS [c]) = some ((c : Int) - 48) := by
  intro c h
  have h1 : 48 ≤ c ∧ c ≤ 57 := by simpa [isD] using h
  have h2 : c = 48 ∨ c = 49 ∨ c = 50 ∨ c = 51 ∨ c = 52 ∨ c = 53 ∨ c = 54 ∨ c = 55 ∨ c = 56 ∨ c = 57 := by omega
  rcases h2 with rfl | rfl | rfl | rfl | rfl | rfl | rfl | rfl | rfl | rfl <;> decide +kernel
def spReadNumber : Sp := fun vs H Q _ => ∃ (z : Str) (n : Nat) (m : V) (c : Nat) (r : List Nat), vs = [.str z, .int n, m] ∧ z.length ≤ 20000 ∧ (tl z).drop n = c :: r ∧ isD c = true ∧ headN r = false ∧ RetTok H Q ⟨"number", .int ((c : Int) - 48)⟩ (n + 1)
theorem c_read_number (T : Tx K mg w) : Cal P w K mg base 4 "read_number" spReadNumber [] := by
  have c_run_end : Cal P w K mg base 3 "run_end" spRunEnd [] := c_run_end T
  have c_is_digit : Cal P w K mg base 1 "is_digit" spIsDigit [] := c_is_digit T
  obtain ⟨fd, F⟩ := T.f_read_number
  refine calOf F T.g_read_number (b_read_number F) sc_read_number (fun vs H Q E h => ?_) (fun cdv A outer s H vs Q E hr h => ?_)
  · obtain ⟨_, _, _, _, _, rfl, _⟩ := h; rfl
  obtain ⟨z, n, m, c, r, rfl, hz, hd, hc, hh, q⟩ := h
  refine ⟨_, (pss_cons (ps_set (i := 3) sc_read_number.nd rfl (Or.inl rfl) (pe_c c_run_end hr (by decide) rfl (pa_cons (pv 0) (pa_cons (pv 1) pa_nil))))
  (pss_cons (ps_set (i := 4) sc_read_number.nd rfl (Or.inl rfl) (pe_slice sl_str (pv 0) (po_some (pv 1)) (po_some (pv 3))))
  (pss_cons (ps_if (PW.pt (pw_or (pt_cmpR op_gt (pe_callB call_len_str (by rfl) T.z_len PySem.boot_len (pa_cons (pv 4) pa_nil)) pe_int (nomark _)) (pw_or1 (pt_not (pt_val (pe_callB (cr_all rfl) (by rfl) T.z_all (by decide +kernel) (pa_cons (pe_lc (own := [("char", 5)]) (by rfl) sc_read_number.nd (pi_str (pv 4)) (blkOk_by (own := [("char", 5)]) (N := ["text", "at", "module", "end", "digits", "char"]) (sc := defScope s_read_number) (by decide +kernel)) (fun _ _ _ _ _ => (pg_name (i := 5) sc_read_number.nd rfl (Or.inl rfl))) (fun _ _ _ _ _ => pts_nil) (fun _ _ _ _ _ => (pe_c c_is_digit hr (by decide) rfl (pa_cons (pv 5) pa_nil)))) pa_nil))))))) (pss_one (ps_never)) pss_nil)
  (pss_cons (ps_if (PW.pt (pw_or (pt_cmpR op_gt (pe_callTy call_int_str (by rfl) T.z_int (by decide +kernel) (pa_cons (pv 4) pa_nil)) pe_int (nomark _)) (pw_or1 (PW.pt (pw_and (pt_cmpR op_eq (pe_ix ix_str (pv 4) pe_int (fun _ _ => rfl)) pe_str (nomark _)) (pw_and1 (pt_cmpR op_gt (pe_callB call_len_str (by rfl) T.z_len PySem.boot_len (pa_cons (pv 4) pa_nil)) pe_int (nomark _)))))))) (pss_one (ps_never)) pss_nil)
  (pss_one (ps_ret (pe_tup (pa_cons (pe_tup (pa_cons pe_str (pa_cons (pe_callTy call_int_str (by rfl) T.z_int (by decide +kernel) (pa_cons (pv 4) pa_nil)) (pa_cons (pv 1) pa_nil)))) (pa_cons (pv 3) pa_nil))))))))), ?_⟩
  have zl : z.length ≤ sizeLine := Nat.le_trans hz (by decide)
  obtain ⟨hat, hr2, hlt⟩ := drop_cons hd
  have hre : reN (tl z) n = n + 1 := by
    unfold reN
    rw [hd, List.takeWhile_cons, if_pos (isN_of_D hc)]
    cases r with
    | nil => rfl
    | cons d r =>
      have hh : isN d = false := hh
      rw [List.takeWhile_cons, hh]
      rfl
  have hcut : cutS z (some (n : Int)) (some ((reN (tl z) n : Nat) : Int)) = SS [c] := by
    rw [hre, cut_lem z n 1 (by omega), hd]
    rfl
  have hn : n ≤ z.length := by rw [len_tl]; omega
  have l1 : (SS [c]).length ≤ sizeLine := sz 1
  refine ⟨_, rfl, _, rfl, z, n, rfl, hz, hn, ?_⟩
  refine ⟨_, rfl, _, rfl, _, rfl, _, rfl, _, rfl, z, rfl, zl, ?_⟩
  rw [hcut]
  refine ⟨_, rfl, _, rfl, l1, _, _, rfl, rfl, _, rfl, if_F (show decide ((5 : Int) < 1) = false by decide) ?_⟩
  refine ⟨_, rfl, _, rfl, fun D hD => ?_⟩
  refine lc_it (walk_str (z := SS [c])) (fun i H' => H' D = some (.lst ((List.replicate i true).map V.bl)) ∧ Same H H') ⟨upd_same, same_new hD _⟩ (fun _ _ _ _ => True.intro) ?_ ?_
  · rintro i x H1 H2 hi ⟨e1, s1⟩ ⟨rfl, d, hd2, rfl⟩
    have hi0 : i = 0 := Nat.lt_one_iff.mp hi
    subst hi0
    have ed : d = c := Option.some.inj (show some d = some c from hd2.symm.trans rfl)
    subst ed
    refine ⟨rfl, _, rfl, d, rfl, ?_⟩
    rw [hc]
    exact ⟨_, e1, szl (by decide), upd_same, fun b o h => by rw [upd_ne (ne_of_none h hD)]; exact s1 b o h⟩
  · rintro H1 ⟨e1, s1⟩
    refine ⟨D, List.replicate 1 true, rfl, SqL.of e1, _, rfl, iteF ?_⟩
    have hv : PySem.intText? (SS [c]) = some ((c : Int) - 48) := digit_text c hc
    have hc2 : 48 ≤ c ∧ c ≤ 57 := by simpa [isD] using hc
    refine ⟨_, rfl, _, _, rfl, hv, by show 1 ≤ 640; decide, _, _, rfl, rfl, _, rfl, if_F (decide_eq_false (by omega)) ?_⟩
    refine ⟨_, rfl, _, _, c, rfl, rfl, l1, rfl, rfl, _, rfl, ite2 (fun _ => ?_) (fun _ => iteF ?_)⟩
    · refine ⟨_, rfl, _, rfl, l1, _, _, rfl, rfl, _, rfl, if_F (show decide ((1 : Int) < 1) = false by decide) ?_⟩
      refine ⟨_, rfl, _, _, rfl, hv, by show 1 ≤ 640; decide, _, rfl, sz 3, fun a ha => ⟨_, rfl, sz 2, fun b hb => ?_⟩⟩
      rw [hre]
      exact RetTok.mk (fun H' q' a' s' => q H' q' a' (s1.trans s')) ha hb
    · refine ⟨_, rfl, _, _, rfl, hv, by show 1 ≤ 640; decide, _, rfl, sz 3, fun a ha => ⟨_, rfl, sz 2, fun b hb => ?_⟩⟩
      rw [hre]
      exact RetTok.mk (fun H' q' a' s' => q H' q' a' (s1.trans s')) ha hb
/-! ## read_string -/
def spReadString : Sp := fun vs H Q _ => ∃ (z : Str) (n : Nat) (m : V) (r : List Nat), vs = [.str z, .int n, m] ∧ z.length ≤ 20000 ∧ (tl z).drop n = 34 :: r ∧ r.takeWhile isN ≠ [] ∧ (r.takeWhile isN).length ≤ 20 ∧ r[(r.takeWhile isN).length]? = some 34 ∧
  RetTok H Q ⟨"string", .str (SS (r.takeWhile isN))⟩ (n + ((r.takeWhile isN).length + 2))
theorem c_read_string (T : Tx K mg w) : Cal P w K mg base 4 "read_string" spReadString [] := by
  have c_run_end : Cal P w K mg base 3 "run_end" spRunEnd [] := c_run_end T
  obtain ⟨fd, F⟩ := T.f_read_string
  refine calOf F T.g_read_string (b_read_string F) sc_read_string (fun vs H Q E h => ?_) (fun cdv A outer s H vs Q E hr h => ?_)
  · obtain ⟨_, _, _, _, rfl, _⟩ := h; rfl
  obtain ⟨z, n, m, r, rfl, hz, hd, h1, h2, h3, q⟩ := h
  refine ⟨_, (pss_cons (ps_set (i := 3) sc_read_string.nd rfl (Or.inl rfl) (pe_c c_run_end hr (by decide) rfl (pa_cons (pv 0) (pa_cons (pe_op op_add (pv 1) pe_int) pa_nil))))
  (pss_cons (ps_if (PW.pt (pw_or (pt_cmpR op_eq (pv 3) (pe_op op_add (pv 1) pe_int) (nomark _)) (pw_or (pt_cmpR op_gt (pe_op op_sub (pe_op op_sub (pv 3) (pv 1)) pe_int) (pe_gc rfl T.k_MAX_NAME) (nomark _)) (pw_or (pt_cmpR op_ge (pv 3) (pe_callB call_len_str (by rfl) T.z_len PySem.boot_len (pa_cons (pv 0) pa_nil)) (nomark _)) (pw_or1 (pt_cmpR op_ne (pe_ix ix_str (pv 0) (pv 3) (fun _ _ => rfl)) pe_str (nomark _))))))) (pss_one (ps_never)) pss_nil)
  (pss_one (ps_ret (pe_tup (pa_cons (pe_tup (pa_cons pe_str (pa_cons (pe_slice sl_str (pv 0) (po_some (pe_op op_add (pv 1) pe_int)) (po_some (pv 3))) (pa_cons (pv 1) pa_nil)))) (pa_cons (pe_op op_add (pv 3) pe_int) pa_nil))))))), ?_⟩
  have zl : z.length ≤ sizeLine := Nat.le_trans hz (by decide)
  obtain ⟨hat, hr2, hlt⟩ := drop_cons hd
  have hlen : z.length = (tl z).length := len_tl z
  have hre : reN (tl z) (n + 1) = n + 1 + (r.takeWhile isN).length := by unfold reN; rw [hr2]
  have hpos : 0 < (r.takeWhile isN).length := List.length_pos_iff.mpr h1
  obtain ⟨hl3, _⟩ := List.getElem?_eq_some_iff.mp h3
  have hrl : r.length = (tl z).length - (n + 1) := by rw [← hr2, List.length_drop]
  have hcut : cutS z (some ((n : Int) + 1)) (some ((reN (tl z) (n + 1) : Nat) : Int)) = SS (r.takeWhile isN) := by
    have e : ((n : Int) + 1) = ((n + 1 : Nat) : Int) := by omega
    rw [e, hre, cut_lem z (n + 1) _ (by omega), hr2, take_tw]
  have hend : (tl z)[n + 1 + (r.takeWhile isN).length]? = some 34 := by
    rw [← h3, ← hr2, List.getElem?_drop]
  refine ⟨_, rfl, _, rfl, _, _, rfl, rfl, z, n + 1, by rw [Int.natCast_add]; rfl, hz, by omega, ?_⟩
  refine ⟨_, rfl, _, rfl, _, _, rfl, rfl, rfl, _, rfl, if_F ?_ ?_⟩
  · refine decide_eq_false fun y => ?_
    have y := V.int.inj y
    rw [hre] at y
    omega
  refine ⟨_, rfl, _, rfl, _, _, rfl, rfl, _, _, rfl, rfl, _, _, rfl, rfl, _, rfl, if_F ?_ ?_⟩
  · refine decide_eq_false fun y => ?_
    rw [hre] at y
    omega
  refine ⟨_, rfl, _, rfl, z, rfl, zl, _, _, rfl, rfl, _, rfl, if_F ?_ ?_⟩
  · refine decide_eq_false fun y => ?_
    rw [hre] at y
    omega
  refine ⟨_, rfl, _, rfl, z, _, 34, rfl, rfl, zl, by rw [hre]; exact atI_nat hend, rfl, _, rfl, if_F (by decide +kernel) ?_⟩
  refine ⟨_, rfl, _, rfl, _, _, rfl, rfl, _, rfl, _, rfl, _, rfl, z, rfl, zl, ?_⟩
  rw [hcut]
  refine ⟨_, rfl, sz 3, fun a ha => ⟨_, rfl, _, _, rfl, rfl, sz 2, fun b hb => ?_⟩⟩
  have e : (((reN (tl z) (n + 1) : Nat) : Int) + 1) = ((n + ((r.takeWhile isN).length + 2) : Nat) : Int) := by rw [hre]; omega
  show Q (.ref b) (upd (upd H a _) b (.tup [.ref a, .int (((reN (tl z) (n + 1) : Nat) : Int) + 1)]))
  rw [e]
  exact q.mk ha hb
/-! ## read_sign -/
theorem fromIx {n k : Nat} : fromIndex n ((k : Nat) : Int) = k := by
  unfold fromIndex
  rw [if_neg (by omega)]
  omega
theorem sw3 (z x : Str) (n : Nat) (h : n ≤ (tl z).length) : Txt.startswith3 z x (n : Int) = (((tl z).drop n).take (tl x).length == tl x) := by
  unfold Txt.startswith3
  rw [fromIx, PySem.StrLaws.subAt_eq, len_tl, len_tl]
  show (decide (n + (tl x).length ≤ (tl z).length) && (((tl z).drop n).take (tl x).length == tl x)) = _
  cases hb : (((tl z).drop n).take (tl x).length == tl x) with
  | false => rw [Bool.and_false]
  | true =>
    rw [Bool.and_true]
    have e := congrArg List.length (eq_of_beq hb)
    rw [List.length_take, List.length_drop] at e
    exact decide_eq_true (by omega)
def signOk (c : Nat) (r : List Nat) : Prop := c = 42 ∨ c = 123 ∨ c = 125 ∨ c = 59 ∨ (c = 61 ∧ r.head? ≠ some 61)
theorem sig_one {c : Nat} {r : List Nat} (h : signOk c r) : ∀ x ∈ SIG, ((c :: r).take (tl x).length == tl x) = true → x = SS [c] := by
  have two : tl ("==" : Str) = [61, 61] := by decide +kernel
  have one : ∀ x ∈ SIG, x ≠ ("==" : Str) → (tl x).length = 1 := by decide +kernel
  intro x hx e
  by_cases hn : x = "=="
  · subst hn
    rw [two] at e
    have e := eq_of_beq e
    rcases h with rfl | rfl | rfl | rfl | ⟨rfl, h⟩
    · cases r <;> simp at e
    · cases r <;> simp at e
    · cases r <;> simp at e
    · cases r <;> simp at e
    · cases r with
      | nil => simp at e
      | cons d r => simp at e; subst e; simp at h
  · have l1 := one x hx hn
    rw [l1] at e
    have e := eq_of_beq e
    exact (TL.ext_tl (show tl (SS [c]) = tl x from e)).symm
theorem sig_in {c : Nat} {r : List Nat} (h : signOk c r) : SS [c] ∈ SIG ∧ ((c :: r).take (tl (SS [c])).length == tl (SS [c])) = true := by
  constructor
  · rcases h with rfl | rfl | rfl | rfl | ⟨rfl, _⟩ <;> decide +kernel
  · show ([c] == [c]) = true
    exact beq_self_eq_true _
def spReadSign : Sp := fun vs H Q _ => ∃ (z : Str) (n : Nat) (m : V) (c : Nat) (r : List Nat), vs = [.str z, .int n, m] ∧ z.length ≤ 20000 ∧ (tl z).drop n = c :: r ∧ signOk c r ∧ RetTok H Q ⟨"sign", .str (SS [c])⟩ (n + 1)
theorem c_read_sign (T : Tx K mg w) : Cal P w K mg base 4 "read_sign" spReadSign [] := by
  obtain ⟨fd, F⟩ := T.f_read_sign
  refine calOf F T.g_read_sign (b_read_sign F) sc_read_sign (fun vs H Q E h => ?_) (fun cdv A outer s H vs Q E hr h => ?_)
  · obtain ⟨_, _, _, _, _, rfl, _⟩ := h; rfl
  obtain ⟨z, n, m, c, r, rfl, hz, hd, hs, q⟩ := h
  refine ⟨_, (pss_cons (ps_for PassesOwn.never rfl (pi_tup (pe_gc rfl T.k_SIGNS)) (pg_name (i := 3) sc_read_sign.nd rfl (Or.inl rfl)) (pss_one (ps_if (pt_val (pe_bm PySem.F.plainAttrs_str PySem.F.slot_str_startswith PySem.F.type_str_startswith mt_startswith3 (pv 0) (pa_cons (pv 3) (pa_cons (pv 1) pa_nil)))) (pss_one (ps_ret (pe_tup (pa_cons (pe_tup (pa_cons pe_str (pa_cons (pv 3) (pa_cons (pv 1) pa_nil)))) (pa_cons (pe_op op_add (pv 1) (pe_callB call_len_str (by rfl) T.z_len PySem.boot_len (pa_cons (pv 3) pa_nil))) pa_nil))))) pss_nil)))
  (pss_one (ps_never))), ?_⟩
  have zl : z.length ≤ sizeLine := Nat.le_trans hz (by decide)
  obtain ⟨hat, hr2, hlt⟩ := drop_cons hd
  refine ⟨_, rfl, ⟨_, T.t_SIGNS _⟩, for_tup (K := K) (a := He.ga K "SIGNS") (xs := SIG.map V.str) (fun i σ H' => H' = H ∧ (∃ v, σ = [some (.str z), some (.int n), some m, v]) ∧ ∀ k x, k < i → SIG[k]? = some x → x ≠ SS [c])
    ⟨rfl, ⟨_, rfl⟩, fun k x h => absurd h (Nat.not_lt_zero _)⟩ (fun i σ H' _ _ => T.t_SIGNS _) ?_ ?_⟩
  · rintro i x σ H' hi ⟨rfl, ⟨v, rfl⟩, hno⟩
    rw [List.getElem?_map] at hi
    obtain ⟨y, hy, rfl⟩ := Option.map_eq_some_iff.mp hi
    have hmem : y ∈ SIG := List.mem_of_getElem? hy
    refine ⟨_, rfl, rfl, _, rfl, _, rfl, _, _, _, rfl, rfl, _, rfl, ite2 (fun h1 => ?_) (fun h1 => ?_)⟩
    · rw [sw3 z y n (by omega), hd] at h1
      have e := sig_one hs y hmem h1
      subst e
      refine ⟨_, rfl, _, rfl, sz 3, fun a ha => ⟨_, rfl, _, rfl, _, rfl, sz 1, _, _, rfl, rfl, sz 2, fun b hb => ?_⟩⟩
      have e : ((n : Int) + ((SS [c]).length : Int)) = ((n + 1 : Nat) : Int) := by
        have : (SS [c]).length = 1 := rfl
        rw [this]
        omega
      show Q (.ref b) (upd (upd H' a _) b (.tup [.ref a, .int ((n : Int) + ((SS [c]).length : Int))]))
      rw [e]
      exact q.mk ha hb
    · refine ⟨rfl, ⟨_, rfl⟩, fun k x hk hx => ?_⟩
      rcases Nat.lt_or_ge k i with h | h
      · exact hno k x h hx
      · have e : k = i := by omega
        subst e
        rw [hy] at hx
        have e := Option.some.inj hx
        subst e
        intro y2
        subst y2
        rw [sw3 z _ n (by omega), hd] at h1
        exact h1 (sig_in hs).2
  · rintro σ H' ⟨rfl, ⟨v, rfl⟩, hno⟩
    exfalso
    obtain ⟨k, hk, e⟩ := List.mem_iff_getElem.mp (sig_in hs).1
    exact hno k _ (by rw [List.length_map]; exact hk) (by rw [List.getElem?_eq_getElem hk, e]) rfl
end
end Fz
set_option Elab.async false
set_option linter.all false
set_option maxRecDepth 100000
set_option maxHeartbeats 4000000
namespace Fz
open PySem PyProof.Rows L2
open C8 (Cal Met Mak pe_c pe_mk pe_mt pe_mt0 pe_gc)
section
variable {P : Program} {w : World} {K : PySem.W.Frag} {mg : Str → Option Value} {base : Heap}
/-! ## read_token -/
def spReadToken : Sp := fun vs H Q _ => ∃ (z : Str) (n : Nat) (m : V) (t : Tk) (k : Nat), vs = [.str z, .int n, m] ∧ z.length ≤ 20000 ∧ lexTok ((tl z).drop n) = some (t, k) ∧ RetTok H Q t (n + k)
theorem c_read_token (T : Tx K mg w) : Cal P w K mg base 5 "read_token" spReadToken [] := by
  have c_is_letter : Cal P w K mg base 1 "is_letter" spIsLetter [] := c_is_letter T
  have c_is_digit : Cal P w K mg base 1 "is_digit" spIsDigit [] := c_is_digit T
  have c_read_word : Cal P w K mg base 4 "read_word" spReadWord [] := c_read_word T
  have c_read_number : Cal P w K mg base 4 "read_number" spReadNumber [] := c_read_number T
  have c_read_string : Cal P w K mg base 4 "read_string" spReadString [] := c_read_string T
  have c_read_sign : Cal P w K mg base 4 "read_sign" spReadSign [] := c_read_sign T
  obtain ⟨fd, F⟩ := T.f_read_token
  refine calOf F T.g_read_token (b_read_token F) sc_read_token (fun vs H Q E h => ?_) (fun cdv A outer s H vs Q E hr h => ?_)
  · obtain ⟨_, _, _, _, _, rfl, _⟩ := h; rfl
  obtain ⟨z, n, m, t, k, rfl, hz, hl, q⟩ := h
  refine ⟨_, (pss_cons (ps_if (pt_val (pe_c c_is_letter hr (by decide) rfl (pa_cons (pe_ix ix_str (pv 0) (pv 1) (fun _ _ => rfl)) pa_nil))) (pss_one (ps_ret (pe_c c_read_word hr (by decide) rfl (pa_cons (pv 0) (pa_cons (pv 1) (pa_cons (pv 2) pa_nil)))))) pss_nil)
  (pss_cons (ps_if (pt_val (pe_c c_is_digit hr (by decide) rfl (pa_cons (pe_ix ix_str (pv 0) (pv 1) (fun _ _ => rfl)) pa_nil))) (pss_one (ps_ret (pe_c c_read_number hr (by decide) rfl (pa_cons (pv 0) (pa_cons (pv 1) (pa_cons (pv 2) pa_nil)))))) pss_nil)
  (pss_cons (ps_if (pt_cmpR op_eq (pe_ix ix_str (pv 0) (pv 1) (fun _ _ => rfl)) pe_str (nomark _)) (pss_one (ps_ret (pe_c c_read_string hr (by decide) rfl (pa_cons (pv 0) (pa_cons (pv 1) (pa_cons (pv 2) pa_nil)))))) pss_nil)
  (pss_one (ps_ret (pe_c c_read_sign hr (by decide) rfl (pa_cons (pv 0) (pa_cons (pv 1) (pa_cons (pv 2) pa_nil))))))))), ?_⟩
  have zl : z.length ≤ sizeLine := Nat.le_trans hz (by decide)
  cases hd : (tl z).drop n with
  | nil => rw [hd] at hl; cases hl
  | cons c r =>
    rw [hd, lexTok_cons] at hl
    obtain ⟨hat, hr2, hlt⟩ := drop_cons hd
    have hn : n ≤ z.length := by rw [len_tl]; omega
    refine ⟨_, rfl, _, rfl, z, _, c, rfl, rfl, zl, atI_nat hat, c, rfl, _, rfl, ite2 (fun h1 => ?_) (fun h1 => ?_)⟩
    · rw [if_pos h1] at hl
      obtain ⟨t', e1, e2⟩ := Option.map_eq_some_iff.mp hl
      obtain ⟨rfl, rfl⟩ := Prod.mk.inj e2
      refine ⟨_, rfl, _, rfl, _, rfl, z, n, m, t', rfl, hz, hn, by rw [hd]; exact e1, ?_⟩
      have e : reN (tl z) n = n + ((c :: r).takeWhile isN).length := by unfold reN; rw [hd]
      rw [e]
      exact q
    rw [if_neg h1] at hl
    refine ⟨_, rfl, _, rfl, z, _, c, rfl, rfl, zl, atI_nat hat, c, rfl, _, rfl, ite2 (fun h2 => ?_) (fun h2 => ?_)⟩
    · rw [if_pos h2] at hl
      split at hl
      · cases hl
      · rename_i h3
        obtain ⟨rfl, rfl⟩ := Prod.mk.inj (Option.some.inj hl)
        exact ⟨_, rfl, _, rfl, _, rfl, z, n, m, c, r, rfl, hz, hd, h2, not_t h3, q⟩
    rw [if_neg h2] at hl
    have hq34 : decide (V.str (SS [c]) = V.str "\"") = decide (c = 34) := by
      by_cases e : c = 34
      · subst e; decide +kernel
      · rw [decide_eq_false e]
        refine decide_eq_false fun y => e ?_
        have y := congrArg tl (V.str.inj y)
        have y2 : tl ("\"" : Str) = [34] := by decide +kernel
        rw [y2] at y
        exact (List.cons.inj (show [c] = [34] from y)).1
    refine ⟨_, rfl, _, rfl, z, _, c, rfl, rfl, zl, atI_nat hat, rfl, _, rfl, ite2 (fun h3 => ?_) (fun h3 => ?_)⟩
    · have h3 : decide (V.str (SS [c]) = V.str "\"") = true := h3
      rw [hq34] at h3
      have e := of_decide_eq_true h3
      subst e
      rw [if_pos rfl] at hl
      split at hl
      · rename_i h4
        obtain ⟨rfl, rfl⟩ := Prod.mk.inj (Option.some.inj hl)
        exact ⟨_, rfl, _, rfl, _, rfl, z, n, m, r, rfl, hz, hd, h4.1, h4.2.1, h4.2.2, q⟩
      · cases hl
    · have h3 : ¬ decide (V.str (SS [c]) = V.str "\"") = true := h3
      rw [hq34] at h3
      have e : ¬ c = 34 := fun y => h3 (decide_eq_true y)
      rw [if_neg e] at hl
      split at hl
      · rename_i h4
        obtain ⟨rfl, rfl⟩ := Prod.mk.inj (Option.some.inj hl)
        exact ⟨_, rfl, _, rfl, _, rfl, z, n, m, c, r, rfl, hz, hd, h4, q⟩
      · cases hl
/-! ## tokens -/
def TokL (H : Hp) (vs : List V) (ts : List Tk) : Prop := Paired (TokAt H) vs ts
theorem TokL.mono {H H' : Hp} (s : Same H H') {vs : List V} {ts : List Tk} (h : TokL H vs ts) : TokL H' vs ts := Paired.mapP h fun _ _ => TokAt.mono s
theorem Paired.snoc {α β : Type} {F : α → β → Prop} {a : α} {b : β} (hf : F a b) : ∀ {as : List α} {bs : List β}, Paired F as bs → Paired F (as ++ [a]) (bs ++ [b])
  | _, _, .nil => .cons hf .nil
  | _, _, .cons h t => .cons h (Paired.snoc hf t)
theorem Paired.len {α β : Type} {F : α → β → Prop} : ∀ {as : List α} {bs : List β}, Paired F as bs → as.length = bs.length
  | _, _, .nil => rfl
  | _, _, .cons _ t => congrArg (· + 1) (Paired.len t)
theorem lexTok_pos {l : List Nat} {t : Tk} {k : Nat} (h : lexTok l = some (t, k)) : 1 ≤ k ∧ k ≤ l.length := by
  cases l with
  | nil => cases h
  | cons c r =>
    rw [lexTok_cons] at h
    split at h
    · rename_i h1
      obtain ⟨_, _, e⟩ := Option.map_eq_some_iff.mp h
      have e := (Prod.mk.inj e).2
      have h2 := tw_le (c :: r)
      rw [List.takeWhile_cons, if_pos (isN_of_L h1), List.length_cons] at e h2
      omega
    · split at h
      · split at h
        · cases h
        · have e := (Prod.mk.inj (Option.some.inj h)).2
          simp only [List.length_cons]
          omega
      · split at h
        · split at h
          · rename_i h4
            have e := (Prod.mk.inj (Option.some.inj h)).2
            obtain ⟨hl, _⟩ := List.getElem?_eq_some_iff.mp h4.2.2
            simp only [List.length_cons]
            omega
          · cases h
        · split at h
          · have e := (Prod.mk.inj (Option.some.inj h)).2
            simp only [List.length_cons]
            omega
          · cases h
theorem lexTok_no {c : Nat} {r : List Nat} (h : c = 32 ∨ c = 10 ∨ c = 9 ∨ c = 35) : lexTok (c :: r) = none := by
  rw [lexTok_cons]
  rcases h with rfl | rfl | rfl | rfl <;> simp [isL, isD]
theorem ws_in (c : Nat) : inV (.str (SS [c])) [.str " ", .str "\t", .str "\n"] = decide (c = 32 ∨ c = 9 ∨ c = 10) := by
  have e : ([.str " ", .str "\t", .str "\n"] : List V) = ([" ", "\t", "\n"] : List Str).map V.str := rfl
  rw [e, inV_strs]
  have h1 : (SS [c] = (" " : Str)) ↔ c = 32 := ⟨fun y => by
    have y := congrArg tl y
    have y2 : tl (" " : Str) = [32] := by decide +kernel
    rw [y2] at y
    exact (List.cons.inj (show [c] = [32] from y)).1, fun y => by subst y; decide +kernel⟩
  have h2 : (SS [c] = ("\t" : Str)) ↔ c = 9 := ⟨fun y => by
    have y := congrArg tl y
    have y2 : tl ("\t" : Str) = [9] := by decide +kernel
    rw [y2] at y
    exact (List.cons.inj (show [c] = [9] from y)).1, fun y => by subst y; decide +kernel⟩
  have h3 : (SS [c] = ("\n" : Str)) ↔ c = 10 := ⟨fun y => by
    have y := congrArg tl y
    have y2 : tl ("\n" : Str) = [10] := by decide +kernel
    rw [y2] at y
    exact (List.cons.inj (show [c] = [10] from y)).1, fun y => by subst y; decide +kernel⟩
  refine decide_eq_decide.mpr ?_
  rw [List.mem_cons, List.mem_cons, List.mem_singleton, h1, h2, h3]
def spTokens : Sp := fun vs H Q _ => ∃ (z : Str) (m : V) (ts : List Tk), vs = [.str z, m] ∧ z.length ≤ 20000 ∧ Lex (tl z) ts ∧ ∀ (H' : Hp) (l : Addr) (us : List V), Same H H' → H' l = some (.lst us) → TokL H' us ts → Q (.ref l) H'
theorem c_tokens (T : Tx K mg w) : Cal P w K mg base 6 "tokens" spTokens [] := by
  have c_read_token : Cal P w K mg base 5 "read_token" spReadToken [] := c_read_token T
  obtain ⟨fd, F⟩ := T.f_tokens
  refine calOf F T.g_tokens (b_tokens F) sc_tokens (fun vs H Q E h => ?_) (fun cdv A outer s H vs Q E hr h => ?_)
  · obtain ⟨_, _, _, rfl, _⟩ := h; rfl
  obtain ⟨z, m, ts, rfl, hz, hl, q⟩ := h
  refine ⟨_, (pss_cons (ps_if (pt_cmpR op_gt (pe_callB call_len_str (by rfl) T.z_len PySem.boot_len (pa_cons (pv 0) pa_nil)) (pe_gc rfl T.k_MAX_TEXT) (nomark _)) (pss_one (ps_never)) pss_nil)
  (pss_cons (ps_set (i := 2) sc_tokens.nd rfl (Or.inl rfl) (pe_lst pa_nil))
  (pss_cons (ps_set (i := 3) sc_tokens.nd rfl (Or.inl rfl) pe_int)
  (pss_cons (ps_while PassesOwn.never (pt_cmpR op_lt (pv 3) (pe_callB call_len_str (by rfl) T.z_len PySem.boot_len (pa_cons (pv 0) pa_nil)) (nomark _)) (pss_one (ps_if (pt_cmpR op_in_seq (pe_ix ix_str (pv 0) (pv 3) (fun _ _ => rfl)) (pe_tup (pa_cons pe_str (pa_cons pe_str (pa_cons pe_str pa_nil)))) (by rfl)) (pss_one (ps_set (i := 3) sc_tokens.nd rfl (Or.inl rfl) (pe_op op_add (pv 3) pe_int))) (pss_one (ps_if (pt_cmpR op_eq (pe_ix ix_str (pv 0) (pv 3) (fun _ _ => rfl)) pe_str (nomark _)) (pss_one (ps_never)) (pss_cons (ps_asg (pe_c c_read_token hr (by decide) rfl (pa_cons (pv 0) (pa_cons (pv 3) (pa_cons (pv 1) pa_nil)))) (pg_tup rfl (pgs_cons (pg_name (i := 4) sc_tokens.nd rfl (Or.inl rfl)) (pgs_cons (pg_name (i := 3) sc_tokens.nd rfl (Or.inl rfl)) pgs_nil))))
  (pss_one (ps_expr (pe_bm PySem.F.plainAttrs_list PySem.F.slot_list_append PySem.F.type_list_append mt_append (pv 2) (pa_cons (pv 4) pa_nil))))))))))
  (pss_one (ps_ret (pv 2))))))), ?_⟩
  have zl : z.length ≤ sizeLine := Nat.le_trans hz (by decide)
  have hlen : z.length = (tl z).length := len_tl z
  refine ⟨_, rfl, z, rfl, zl, _, _, rfl, rfl, _, rfl, if_F (decide_eq_false (by omega)) ?_⟩
  refine ⟨Nat.zero_le _, fun l hl0 => ?_⟩
  refine ⟨fun k σ H' => ∃ (i : Nat) (us : List V) (done rest : List Tk) (x : Option V), σ = [some (.str z), some m, some (.ref l), some (.int i), x] ∧ i ≤ (tl z).length ∧ Same H H' ∧ H' l = some (.lst us) ∧ TokL H' us done ∧ Lex ((tl z).drop i) rest ∧ ts = done ++ rest ∧ done.length ≤ i ∧ k = (tl z).length - i,
    ⟨_, 0, [], [], ts, none, rfl, Nat.zero_le _, same_new hl0 _, upd_same, .nil, hl, rfl, Nat.le_refl _, rfl⟩, ?_⟩
  rintro k σ H1 ⟨i, us, done, rest, x, rfl, hi, s1, e1, t1, l1, rfl, hdl, rfl⟩
  refine ⟨_, rfl, _, rfl, z, rfl, zl, _, _, rfl, rfl, _, rfl, ite2 (fun h1 => ?_) (fun h1 => ?_)⟩
  · have hlt : i < (tl z).length := by
      have := of_decide_eq_true h1
      omega
    obtain ⟨c, r, hd⟩ := drop_lt hlt
    obtain ⟨hat, hr2, _⟩ := drop_cons hd
    refine ⟨fun σ' H'' => ∃ k', k' < (tl z).length - i ∧ (∃ (i : Nat) (us : List V) (done' rest' : List Tk) (x : Option V), σ' = [some (.str z), some m, some (.ref l), some (.int i), x] ∧ i ≤ (tl z).length ∧ Same H H'' ∧ H'' l = some (.lst us) ∧ TokL H'' us done' ∧ Lex ((tl z).drop i) rest' ∧ done ++ rest = done' ++ rest' ∧ done'.length ≤ i ∧ k' = (tl z).length - i), fun _ _ h => h, ?_⟩
    refine ⟨_, rfl, _, rfl, z, _, c, rfl, rfl, zl, atI_nat hat, sz 3, fun p hp => ?_⟩
    have lp : l ≠ p := ne_of_none e1 hp
    have s2 := same_new hp (.tup [.str " ", .str "\t", .str "\n"])
    refine ⟨p, _, rfl, .inr (.inl (.inl upd_same)), rfl, rfl, _, rfl, ite2 (fun h2 => ?_) (fun h2 => ?_)⟩
    · have h2 : inV (.str (SS [c])) [.str " ", .str "\t", .str "\n"] = true := h2
      rw [ws_in] at h2
      have h2 := of_decide_eq_true h2
      rw [hd] at l1
      cases l1 with
      | ws hc l2 =>
        exact ⟨_, rfl, _, _, rfl, rfl, (tl z).length - (i + 1), by omega, i + 1, us, done, rest, _, rfl, by omega, s1.trans s2, s2 _ _ e1, t1.mono s2, by rw [hr2]; exact l2, rfl, by omega, rfl⟩
      | tk ht _ =>
        rw [lexTok_no (by omega)] at ht
        cases ht
    · have h2 : ¬ inV (.str (SS [c])) [.str " ", .str "\t", .str "\n"] = true := h2
      rw [ws_in] at h2
      have h2 : ¬ (c = 32 ∨ c = 9 ∨ c = 10) := fun y => h2 (decide_eq_true y)
      rw [hd] at l1
      cases l1 with
      | ws hc l2 => exact absurd (by omega) h2
      | @tk _ t n ts2 ht l2 =>
        have hc35 : c ≠ 35 := fun y => by rw [lexTok_no (by omega)] at ht; cases ht
        obtain ⟨k1, k2⟩ := lexTok_pos ht
        refine ⟨_, rfl, _, rfl, z, _, c, rfl, rfl, zl, atI_nat hat, rfl, _, rfl, if_F ?_ ?_⟩
        · refine decide_eq_false fun y => hc35 ?_
          have y := congrArg tl (V.str.inj y)
          have y2 : tl ("#" : Str) = [35] := by decide +kernel
          rw [y2] at y
          exact (List.cons.inj (show [c] = [35] from y)).1
        refine ⟨_, rfl, _, rfl, _, rfl, z, i, m, t, n, rfl, hz, by rw [hd]; exact ht, fun H2 q2 a s3 ta hq2 => ?_⟩
        refine ⟨q2, _, rfl, SqT.of hq2, rfl, _, _, rfl, _, _, rfl, rfl, ?_⟩
        have s4 := s2.trans s3
        refine ⟨_, rfl, .inl ⟨rfl, us, SqL.of (s4 _ _ e1)⟩, _, rfl, l, us, _, rfl, rfl, s4 _ _ e1, szl ?_, ?_⟩
        · have := Paired.len (show Paired _ us done from t1)
          omega
        have s5 : Same H (upd H2 l (.lst (us ++ [.ref a]))) := Fz.Same.mut (s1.trans s4) hl0
        have tm : ∀ {v : V} {t' : Tk}, TokAt H2 v t' → TokAt (upd H2 l (.lst (us ++ [.ref a]))) v t' := fun {v t'} ⟨b, at_, e, hb⟩ => ⟨b, at_, e, by
          rw [upd_ne (ne_of hb (s4 _ _ e1) (by intro y; cases y))]; exact hb⟩
        have hk2 : (tl z).length - i = r.length + 1 := by
          rw [← List.length_drop, hd, List.length_cons]
        have hk3 : n ≤ r.length + 1 := by simpa using k2
        refine ⟨(tl z).length - (i + n), by omega, i + n, us ++ [.ref a], done ++ [t], ts2, some (.ref a), ?_, by omega, s5, upd_same, ?_, ?_, ?_, ?_, rfl⟩
        · rfl
        · exact Paired.snoc (tm ta) (Paired.mapP (t1.mono s4) fun _ _ h => tm h)
        · rw [← List.drop_drop, hd]
          exact l2
        · rw [List.append_assoc]; rfl
        · rw [List.length_append, List.length_singleton]; omega
  · have hge : (tl z).length ≤ i := by
      have : ¬ ((i : Int) < (z.length : Int)) := fun y => h1 (decide_eq_true y)
      omega
    rw [List.drop_eq_nil_of_le hge] at l1
    cases l1 with
    | nil =>
      rw [List.append_nil] at q
      exact ⟨_, rfl, q H1 l us s1 e1 t1⟩
    | tk ht _ => cases ht
end
end Fz
set_option Elab.async false
set_option linter.all false
set_option maxRecDepth 100000
set_option maxHeartbeats 4000000
namespace Fz
open PySem PyProof.Rows L2
open C8 (Cal Met Mak pe_c pe_mk pe_mt pe_mt0 pe_gc)
/-! ## a reader's object -/
def rf (l : Addr) (m : V) (p lim : Int) : List (Str × V) := [("rest", .ref l), ("module", m), ("place", .int p), ("limit", .int lim), ("inside", .int 0)]
theorem lk_cons (f g : Str) (v : V) (r : List (Str × V)) : List.lookup f ((g, v) :: r) = if g = f then some v else r.lookup f := by
  rw [List.lookup_cons]
  by_cases h : g = f
  · subst h; simp
  · rw [if_neg h]
    have : (f == g) = false := beq_eq_false_iff_ne.mpr fun y => h y.symm
    rw [this]
theorem nRM : ¬ ("rest" : Str) = "module" := by decide +kernel
theorem nRP : ¬ ("rest" : Str) = "place" := by decide +kernel
theorem nRL : ¬ ("rest" : Str) = "limit" := by decide +kernel
theorem nRI : ¬ ("rest" : Str) = "inside" := by decide +kernel
theorem nMP : ¬ ("module" : Str) = "place" := by decide +kernel
theorem nML : ¬ ("module" : Str) = "limit" := by decide +kernel
theorem nMI : ¬ ("module" : Str) = "inside" := by decide +kernel
theorem nPL : ¬ ("place" : Str) = "limit" := by decide +kernel
theorem nPI : ¬ ("place" : Str) = "inside" := by decide +kernel
theorem nLI : ¬ ("limit" : Str) = "inside" := by decide +kernel
theorem rf_rest {l : Addr} {m : V} {p lim : Int} : (rf l m p lim).lookup ("rest" : Str) = some (.ref l) := by unfold rf; rw [lk_cons, if_pos rfl]
theorem rf_place {l : Addr} {m : V} {p lim : Int} : (rf l m p lim).lookup ("place" : Str) = some (.int p) := by unfold rf; rw [lk_cons, if_neg nRP, lk_cons, if_neg nMP, lk_cons, if_pos rfl]
theorem rf_limit {l : Addr} {m : V} {p lim : Int} : (rf l m p lim).lookup ("limit" : Str) = some (.int lim) := by unfold rf; rw [lk_cons, if_neg nRL, lk_cons, if_neg nML, lk_cons, if_neg nPL, lk_cons, if_pos rfl]
def rfK : List Str := ["rest", "module", "place", "limit", "inside"]
theorem rf_no {l : Addr} {m : V} {p lim : Int} {f : Str} (h : f ∉ rfK) : (rf l m p lim).lookup f = none := by
  have h : ∀ g ∈ rfK, ¬ g = f := fun g hg e => h (e ▸ hg)
  unfold rf
  rw [lk_cons, if_neg (h _ (by decide +kernel)), lk_cons, if_neg (h _ (by decide +kernel)), lk_cons, if_neg (h _ (by decide +kernel)), lk_cons, if_neg (h _ (by decide +kernel)), lk_cons, if_neg (h _ (by decide +kernel))]
  rfl
theorem rf_put {l : Addr} {m : V} {p lim q : Int} : putF "place" (.int q) (rf l m p lim) = rf l m q lim := by
  unfold rf
  rw [putF, if_neg nRP, putF, if_neg nMP, putF, if_pos rfl]
theorem rf_m2 {l : Addr} {m : V} : putF "module" m (putF "rest" (.ref l) []) = ([("rest", .ref l), ("module", m)] : List (Str × V)) := by simp only [putF, nRM, if_false]
theorem rf_m3 {l : Addr} {m : V} : putF "place" (.int 0) (putF "module" m (putF "rest" (.ref l) [])) = ([("rest", .ref l), ("module", m), ("place", .int 0)] : List (Str × V)) := by rw [rf_m2]; simp only [putF, nRP, nMP, if_false]
theorem rf_m4 {l : Addr} {m : V} {lim : Int} : putF "limit" (.int lim) (putF "place" (.int 0) (putF "module" m (putF "rest" (.ref l) []))) = ([("rest", .ref l), ("module", m), ("place", .int 0), ("limit", .int lim)] : List (Str × V)) := by rw [rf_m3]; simp only [putF, nRL, nML, nPL, if_false]
theorem rf_make {l : Addr} {m : V} {lim : Int} : putF "inside" (.int 0) (putF "limit" (.int lim) (putF "place" (.int 0) (putF "module" m (putF "rest" (.ref l) [])))) = rf l m 0 lim := by
  rw [rf_m4]; simp only [putF, nRI, nMI, nPI, nLI, if_false]; rfl
theorem rf_len {l : Addr} {m : V} {p lim : Int} : (rf l m p lim).length < 1000 := by show 5 < 1000; decide
/-- values of tokens may be compared with texts -/
def TksOk (ts : List Tk) : Prop := ∀ t ∈ ts, ∀ x : Str, scal t.val (.str x) = true
/-- a reader at r, of these tokens, at place p -/
structure Rdr (K : PySem.W.Frag) (ts : List Tk) (H : Hp) (r : Addr) (p : Nat) : Prop where
  ex : ∃ (dx l : Addr) (m : V) (lim : Int) (us : List V), H r = some (.ins (He.ga K "Reader") dx (rf l m p lim)) ∧ H l = some (.lst us) ∧ TokL H us ts
  ok : TksOk ts
theorem paired_get {α β : Type} {F : α → β → Prop} : ∀ {as : List α} {bs : List β} {i : Nat} {b : β}, Paired F as bs → bs[i]? = some b → ∃ a, as[i]? = some a ∧ F a b
  | _, _, _, _, .nil, e => by simp at e
  | _, _, 0, _, .cons h _, e => by simp at e; subst e; exact ⟨_, rfl, h⟩
  | _, _, i + 1, b, .cons _ t, e => by
    obtain ⟨a, h1, h2⟩ := paired_get (i := i) (b := b) t (by simpa using e)
    exact ⟨a, by simpa using h1, h2⟩
theorem TokL.monoX {r : Addr} {H H' : Hp} (s : SameX r H H') {C dx : Addr} {fs : List (Str × V)} (hr : H r = some (.ins C dx fs)) {vs : List V} {ts : List Tk} (h : TokL H vs ts) : TokL H' vs ts :=
  Paired.mapP h fun _ _ ⟨a, i, e, ha⟩ => ⟨a, i, e, s _ _ (ne_of ha hr (by intro y; cases y)) ha⟩
theorem Rdr.same {K : PySem.W.Frag} {ts : List Tk} {H H' : Hp} {r : Addr} {p : Nat} (R : Rdr K ts H r p) (s : Same H H') : Rdr K ts H' r p := by
  obtain ⟨dx, l, m, lim, us, h1, h2, h3⟩ := R.ex
  exact ⟨⟨dx, l, m, lim, us, s _ _ h1, s _ _ h2, h3.mono s⟩, R.ok⟩
/-- the reader moves on -/
theorem Rdr.move {K : PySem.W.Frag} {ts : List Tk} {H : Hp} {r : Addr} {p : Nat} {dx l : Addr} {m : V} {lim : Int} {us : List V} (h1 : H r = some (.ins (He.ga K "Reader") dx (rf l m p lim))) (h2 : H l = some (.lst us)) (h3 : TokL H us ts) (ok : TksOk ts) :
    Rdr K ts (upd H r (.ins (He.ga K "Reader") dx (putF "place" (.int ((p : Int) + 1)) (rf l m p lim)))) r (p + 1) := by
  rw [rf_put]
  have nlr : l ≠ r := ne_of h2 h1 (by intro y; cases y)
  exact ⟨⟨dx, l, m, lim, us, by rw [upd_same]; rfl, by rw [upd_ne nlr]; exact h2, h3.monoX SameX.upd h1⟩, ok⟩
section
variable {P : Program} {w : World} {K : PySem.W.Frag} {mg : Str → Option Value} {base : Heap}
/-! ## its methods -/
def spInit : Sp := fun vs H Q _ => ∃ (C dx r : Addr) (z : Str) (m : V) (ts : List Tk), vs = [.ref r, .str z, m] ∧ H r = some (.ins C dx []) ∧ Cls K C ∧ z.length ≤ 20000 ∧ Lex (tl z) ts ∧ TksOk ts ∧ C = He.ga K "Reader" ∧ ∀ H' : Hp, SameX r H H' → Rdr K ts H' r 0 → Q .non H'
theorem c_Reader (T : Tx K mg w) : Mak P w K mg base 7 "Reader" (He.ga K "Reader") (spInit (K := K)) [] := by
  have c_tokens : Cal P w K mg base 6 "tokens" spTokens [] := c_tokens T
  obtain ⟨fd, F⟩ := T.f_Reader___init__
  refine makOf T.mk_Reader T.g_Reader F (b_Reader___init__ F) sc_Reader___init__ (fun vs H Q E h => ?_) (fun cdv A outer s H vs Q E hr h => ?_)
  · obtain ⟨_, _, _, _, _, _, rfl, _⟩ := h; rfl
  obtain ⟨C, dx, r, z, m, ts, rfl, h0, hC, hz, hl, ok, rfl, q⟩ := h
  refine ⟨_, (pss_cons (ps_fld (pv 0) (pe_c c_tokens hr (by decide) rfl (pa_cons (pv 1) (pa_cons (pv 2) pa_nil))) rfl)
  (pss_cons (ps_fld (pv 0) (pv 2) rfl)
  (pss_cons (ps_fld (pv 0) pe_int rfl)
  (pss_cons (ps_fld (pv 0) (pe_callB call_len_str (by rfl) T.z_len PySem.boot_len (pa_cons (pv 1) pa_nil)) rfl)
  (pss_one (ps_fld (pv 0) pe_int rfl)))))), ?_⟩
  have zl : z.length ≤ sizeLine := Nat.le_trans hz (by decide)
  refine ⟨_, rfl, _, rfl, z, m, ts, rfl, hz, hl, fun H1 l us s1 e1 t1 => ?_⟩
  have h1 := s1 _ _ h0
  have nlr : l ≠ r := ne_of e1 h1 (by intro y; cases y)
  refine ⟨_, rfl, r, _, dx, _, rfl, h1, T.cl_Reader, T.n_Reader_rest, (by show 0 < 1000; decide), ?_⟩
  refine ⟨_, rfl, _, rfl, r, _, dx, _, rfl, upd_same, T.cl_Reader, T.n_Reader_module, (by show 1 < 1000; decide), ?_⟩
  refine ⟨_, rfl, r, _, dx, _, rfl, upd_same, T.cl_Reader, T.n_Reader_place, ?_, ?_⟩
  · rw [rf_m2]; show 2 < 1000; decide
  refine ⟨_, rfl, z, rfl, zl, _, rfl, r, _, dx, _, rfl, upd_same, T.cl_Reader, T.n_Reader_limit, ?_, ?_⟩
  · rw [rf_m3]; show 3 < 1000; decide
  refine ⟨_, rfl, r, _, dx, _, rfl, upd_same, T.cl_Reader, T.n_Reader_inside, ?_, ?_⟩
  · rw [rf_m4]; show 4 < 1000; decide
  rw [upd_upd, upd_upd, upd_upd, upd_upd, rf_make]
  have sx : SameX r H1 (upd H1 r (.ins (He.ga K "Reader") dx (rf l m 0 (z.length : Int)))) := SameX.upd
  exact q _ ((SameX.of s1).trans sx) ⟨⟨dx, l, m, _, us, upd_same, by rw [upd_ne nlr]; exact e1, t1.monoX sx h1⟩, ok⟩
def spAt : Sp := fun vs H Q _ => ∃ (r : Addr) (ts : List Tk) (p : Nat), vs = [.ref r] ∧ Rdr K ts H r p ∧ ∀ i : Int, Q (.int i) H
theorem c_Reader_at (T : Tx K mg w) : Met P w K mg base 1 (He.ga K "Reader") "at" (spAt (K := K)) [] := by
  obtain ⟨fd, F⟩ := T.f_Reader_at
  refine metOf T.cl_Reader T.m_Reader_at F (b_Reader_at F) sc_Reader_at (fun vs H Q E h => ?_) (fun cdv A outer s H vs Q E hr h => ?_)
  · obtain ⟨_, _, _, rfl, _⟩ := h; rfl
  obtain ⟨r, ts, p, rfl, R, q⟩ := h
  obtain ⟨dx, l, m, lim, us, h1, h2, h3⟩ := R.ex
  refine ⟨_, (pss_cons (ps_if (pt_cmpR op_lt (pe_fld (pv 0) rfl) (pe_callB call_len_seq (by rfl) T.z_len PySem.boot_len (pa_cons (pe_fld (pv 0) rfl) pa_nil)) (nomark _)) (pss_one (ps_ret (pe_ix ix_tup (pe_ix ix_list (pe_fld (pv 0) rfl) (pe_fld (pv 0) rfl) (fun _ _ => rfl)) pe_int (fun _ _ => rfl)))) pss_nil)
  (pss_one (ps_ret (pe_fld (pv 0) rfl)))), ?_⟩
  refine ⟨_, rfl, r, _, dx, _, _, rfl, h1, T.cl_Reader, T.n_Reader_place, rf_place, _, rfl, r, _, dx, _, _, rfl, h1, T.cl_Reader, T.n_Reader_rest, rf_rest, l, _, rfl, .inl (SqL.of h2), _, _, rfl, rfl, _, rfl, ite2 (fun h => ?_) (fun h => ?_)⟩
  · have hlt : p < us.length := by
      have := of_decide_eq_true h
      omega
    have hlen := Paired.len (show Paired _ us ts from h3)
    obtain ⟨t, ht⟩ : ∃ t, ts[p]? = some t := ⟨_, List.getElem?_eq_getElem (by omega)⟩
    obtain ⟨u, hu, a, i, rfl, ha⟩ := paired_get (show Paired _ us ts from h3) ht
    exact ⟨_, rfl, r, _, dx, _, _, rfl, h1, T.cl_Reader, T.n_Reader_rest, rf_rest, _, rfl, r, _, dx, _, _, rfl, h1, T.cl_Reader, T.n_Reader_place, rf_place, l, us, _, _, rfl, rfl, SqL.of h2, atI_nat hu, a, _, _, _, rfl, rfl, SqT.of ha, rfl, q i⟩
  · exact ⟨_, rfl, r, _, dx, _, _, rfl, h1, T.cl_Reader, T.n_Reader_limit, rf_limit, q lim⟩
def spSees : Sp := fun vs H Q _ => ∃ (r : Addr) (ts : List Tk) (p : Nat) (k x : Str), vs = [.ref r, .str k, .str x] ∧ Rdr K ts H r p ∧ Q (.bl (decide (ts[p]? = some ⟨k, .str x⟩))) H
theorem c_Reader_sees (T : Tx K mg w) : Met P w K mg base 1 (He.ga K "Reader") "sees" (spSees (K := K)) [] := by
  obtain ⟨fd, F⟩ := T.f_Reader_sees
  refine metOf T.cl_Reader T.m_Reader_sees F (b_Reader_sees F) sc_Reader_sees (fun vs H Q E h => ?_) (fun cdv A outer s H vs Q E hr h => ?_)
  · obtain ⟨_, _, _, _, _, rfl, _⟩ := h; rfl
  obtain ⟨r, ts, p, k, x, rfl, R, q⟩ := h
  obtain ⟨dx, l, m, lim, us, h1, h2, h3⟩ := R.ex
  refine ⟨_, (pss_cons (ps_if (pt_cmpR op_ge (pe_fld (pv 0) rfl) (pe_callB call_len_seq (by rfl) T.z_len PySem.boot_len (pa_cons (pe_fld (pv 0) rfl) pa_nil)) (nomark _)) (pss_one (ps_ret pe_bl)) pss_nil)
  (pss_one (ps_ret (pe_and (pe_cmpR op_eq (pe_ix ix_tup (pe_ix ix_list (pe_fld (pv 0) rfl) (pe_fld (pv 0) rfl) (fun _ _ => rfl)) pe_int (fun _ _ => rfl)) (pv 1) (nomark _)) (pe_one (pe_cmpR op_eq (pe_ix ix_tup (pe_ix ix_list (pe_fld (pv 0) rfl) (pe_fld (pv 0) rfl) (fun _ _ => rfl)) pe_int (fun _ _ => rfl)) (pv 2) (nomark _))))))), ?_⟩
  have hlen := Paired.len (show Paired _ us ts from h3)
  refine ⟨_, rfl, r, _, dx, _, _, rfl, h1, T.cl_Reader, T.n_Reader_place, rf_place, _, rfl, r, _, dx, _, _, rfl, h1, T.cl_Reader, T.n_Reader_rest, rf_rest, l, _, rfl, .inl (SqL.of h2), _, _, rfl, rfl, _, rfl, ite2 (fun h => ?_) (fun h => ?_)⟩
  · have hge : us.length ≤ p := by
      have := of_decide_eq_true h
      omega
    have e : decide (ts[p]? = some (⟨k, .str x⟩ : Tk)) = false := by
      rw [List.getElem?_eq_none (by omega)]
      exact decide_eq_false (by intro y; cases y)
    rw [e] at q
    exact q
  · have hlt : p < us.length := by
      have : ¬ ((us.length : Int) ≤ (p : Int)) := fun y => h (decide_eq_true y)
      omega
    obtain ⟨t, ht⟩ : ∃ t, ts[p]? = some t := ⟨_, List.getElem?_eq_getElem (by omega)⟩
    obtain ⟨u, hu, a, i, rfl, ha⟩ := paired_get (show Paired _ us ts from h3) ht
    have ok := R.ok t (List.mem_of_getElem? ht) x
    rw [ht] at q
    refine ⟨_, rfl, r, _, dx, _, _, rfl, h1, T.cl_Reader, T.n_Reader_rest, rf_rest, _, rfl, r, _, dx, _, _, rfl, h1, T.cl_Reader, T.n_Reader_place, rf_place, l, us, _, _, rfl, rfl, SqL.of h2, atI_nat hu, a, _, _, _, rfl, rfl, SqT.of ha, rfl, _, rfl, rfl, _, rfl, ite2 (fun hk => ?_) (fun hk => ?_)⟩
    · refine ⟨_, rfl, r, _, dx, _, _, rfl, h1, T.cl_Reader, T.n_Reader_rest, rf_rest, _, rfl, r, _, dx, _, _, rfl, h1, T.cl_Reader, T.n_Reader_place, rf_place, l, us, _, _, rfl, rfl, SqL.of h2, atI_nat hu, a, _, _, _, rfl, rfl, SqT.of ha, rfl, _, rfl, ok, ?_⟩
      have ek : t.kind = k := V.str.inj (of_decide_eq_true hk)
      have e : decide (some t = some (⟨k, .str x⟩ : Tk)) = decide (t.val = .str x) := by
        obtain ⟨tk, tv⟩ := t
        have ek : tk = k := ek
        subst ek
        by_cases z : tv = .str x
        · subst z; simp
        · rw [decide_eq_false z, decide_eq_false]
          intro y
          have y := Option.some.inj y
          injection y with _ y
          exact z y
      rw [e] at q
      exact q
    · have ek : ¬ t.kind = k := fun y => hk (decide_eq_true (congrArg V.str y))
      have e : decide (some t = some (⟨k, .str x⟩ : Tk)) = false := decide_eq_false fun y => ek (by rw [Option.some.inj y])
      rw [e] at q
      exact q
def spSeesKind : Sp := fun vs H Q _ => ∃ (r : Addr) (ts : List Tk) (p : Nat) (k : Str), vs = [.ref r, .str k] ∧ Rdr K ts H r p ∧ Q (.bl (decide (ts[p]?.map (·.kind) = some k))) H
theorem c_Reader_sees_kind (T : Tx K mg w) : Met P w K mg base 1 (He.ga K "Reader") "sees_kind" (spSeesKind (K := K)) [] := by
  obtain ⟨fd, F⟩ := T.f_Reader_sees_kind
  refine metOf T.cl_Reader T.m_Reader_sees_kind F (b_Reader_sees_kind F) sc_Reader_sees_kind (fun vs H Q E h => ?_) (fun cdv A outer s H vs Q E hr h => ?_)
  · obtain ⟨_, _, _, _, rfl, _⟩ := h; rfl
  obtain ⟨r, ts, p, k, rfl, R, q⟩ := h
  obtain ⟨dx, l, m, lim, us, h1, h2, h3⟩ := R.ex
  refine ⟨_, (pss_one (ps_ret (pe_and (pe_cmpR op_lt (pe_fld (pv 0) rfl) (pe_callB call_len_seq (by rfl) T.z_len PySem.boot_len (pa_cons (pe_fld (pv 0) rfl) pa_nil)) (nomark _)) (pe_one (pe_cmpR op_eq (pe_ix ix_tup (pe_ix ix_list (pe_fld (pv 0) rfl) (pe_fld (pv 0) rfl) (fun _ _ => rfl)) pe_int (fun _ _ => rfl)) (pv 1) (nomark _)))))), ?_⟩
  have hlen := Paired.len (show Paired _ us ts from h3)
  refine ⟨_, rfl, r, _, dx, _, _, rfl, h1, T.cl_Reader, T.n_Reader_place, rf_place, _, rfl, r, _, dx, _, _, rfl, h1, T.cl_Reader, T.n_Reader_rest, rf_rest, l, _, rfl, .inl (SqL.of h2), _, _, rfl, rfl, _, rfl, ite2 (fun h => ?_) (fun h => ?_)⟩
  · have hlt : p < us.length := by
      have := of_decide_eq_true h
      omega
    obtain ⟨t, ht⟩ : ∃ t, ts[p]? = some t := ⟨_, List.getElem?_eq_getElem (by omega)⟩
    obtain ⟨u, hu, a, i, rfl, ha⟩ := paired_get (show Paired _ us ts from h3) ht
    rw [ht] at q
    refine ⟨_, rfl, r, _, dx, _, _, rfl, h1, T.cl_Reader, T.n_Reader_rest, rf_rest, _, rfl, r, _, dx, _, _, rfl, h1, T.cl_Reader, T.n_Reader_place, rf_place, l, us, _, _, rfl, rfl, SqL.of h2, atI_nat hu, a, _, _, _, rfl, rfl, SqT.of ha, rfl, _, rfl, rfl, ?_⟩
    have e : decide (some t.kind = some k) = decide (V.str t.kind = V.str k) := by
      by_cases z : t.kind = k
      · rw [z]; simp
      · rw [decide_eq_false fun y => z (V.str.inj y), decide_eq_false fun y => z (Option.some.inj y)]
    have q : Q (.bl (decide (some t.kind = some k))) H := q
    rw [e] at q
    exact q
  · have hge : us.length ≤ p := by
      have : ¬ ((p : Int) < (us.length : Int)) := fun y => h (decide_eq_true y)
      omega
    rw [List.getElem?_eq_none (by omega)] at q
    exact q
def spNever : Sp := fun _ _ _ _ => False
theorem c_Reader_follows (T : Tx K mg w) : Met P w K mg base 1 (He.ga K "Reader") "follows" spNever [] := by
  obtain ⟨fd, F⟩ := T.f_Reader_follows
  exact metOf T.cl_Reader T.m_Reader_follows F (b_Reader_follows F) sc_Reader_follows (fun vs H Q E h => h.elim) (fun cdv A outer s H vs Q E hr h => h.elim)
def spAccept : Sp := fun vs H Q _ => ∃ (r : Addr) (ts : List Tk) (p : Nat) (k x : Str), vs = [.ref r, .str k, .str x] ∧ Rdr K ts H r p ∧
  (ts[p]? = some ⟨k, .str x⟩ → ∀ H' : Hp, SameX r H H' → Rdr K ts H' r (p + 1) → Q (.bl true) H') ∧ (¬ ts[p]? = some ⟨k, .str x⟩ → Q (.bl false) H)
theorem c_Reader_accept (T : Tx K mg w) : Met P w K mg base 2 (He.ga K "Reader") "accept" (spAccept (K := K)) [] := by
  have c_Reader_sees : Met P w K mg base 1 (He.ga K "Reader") "sees" (spSees (K := K)) [] := c_Reader_sees T
  obtain ⟨fd, F⟩ := T.f_Reader_accept
  refine metOf T.cl_Reader T.m_Reader_accept F (b_Reader_accept F) sc_Reader_accept (fun vs H Q E h => ?_) (fun cdv A outer s H vs Q E hr h => ?_)
  · obtain ⟨_, _, _, _, _, rfl, _⟩ := h; rfl
  obtain ⟨r, ts, p, k, x, rfl, R, q1, q2⟩ := h
  obtain ⟨dx, l, m, lim, us, h1, h2, h3⟩ := id R.ex
  refine ⟨_, (pss_cons (ps_if (pt_val (pe_mt c_Reader_sees hr (by decide) (pv 0) (pa_cons (pv 1) (pa_cons (pv 2) pa_nil)))) (pss_cons (ps_fld (pv 0) (pe_op op_add (pe_fld (pv 0) rfl) pe_int) rfl)
  (pss_one (ps_ret pe_bl))) pss_nil)
  (pss_one (ps_ret pe_bl))), ?_⟩
  refine ⟨_, rfl, r, dx, _, rfl, h1, rf_no (by decide +kernel), _, rfl, _, rfl, r, ts, p, k, x, rfl, R, _, rfl, ite2 (fun h => ?_) (fun h => ?_)⟩
  · refine ⟨_, rfl, r, _, dx, _, _, rfl, h1, T.cl_Reader, T.n_Reader_place, rf_place, _, _, rfl, rfl, _, rfl, r, _, dx, _, rfl, h1, T.cl_Reader, T.n_Reader_place, rf_len, ?_⟩
    exact q1 (of_decide_eq_true h) _ SameX.upd (Rdr.move h1 h2 h3 R.ok)
  · exact q2 fun y => h (decide_eq_true y)
def spExpect : Sp := fun vs H Q _ => ∃ (r : Addr) (ts : List Tk) (p : Nat) (k x : Str), vs = [.ref r, .str k, .str x] ∧ Rdr K ts H r p ∧ ts[p]? = some ⟨k, .str x⟩ ∧ ∀ H' : Hp, SameX r H H' → Rdr K ts H' r (p + 1) → Q .non H'
theorem c_Reader_expect (T : Tx K mg w) : Met P w K mg base 3 (He.ga K "Reader") "expect" (spExpect (K := K)) [] := by
  have c_Reader_accept : Met P w K mg base 2 (He.ga K "Reader") "accept" (spAccept (K := K)) [] := c_Reader_accept T
  obtain ⟨fd, F⟩ := T.f_Reader_expect
  refine metOf T.cl_Reader T.m_Reader_expect F (b_Reader_expect F) sc_Reader_expect (fun vs H Q E h => ?_) (fun cdv A outer s H vs Q E hr h => ?_)
  · obtain ⟨_, _, _, _, _, rfl, _⟩ := h; rfl
  obtain ⟨r, ts, p, k, x, rfl, R, e, q⟩ := h
  obtain ⟨dx, l, m, lim, us, h1, h2, h3⟩ := id R.ex
  refine ⟨_, (pss_one (ps_if (pt_not (pt_val (pe_mt c_Reader_accept hr (by decide) (pv 0) (pa_cons (pv 1) (pa_cons (pv 2) pa_nil))))) (pss_one (ps_never)) pss_nil)), ?_⟩
  refine ⟨_, rfl, r, dx, _, rfl, h1, rf_no (by decide +kernel), _, rfl, _, rfl, r, ts, p, k, x, rfl, R, fun _ H' s' R' => ?_, fun z => absurd e z⟩
  exact ⟨true, rfl, iteF (q H' s' R')⟩
def spRead : Sp := fun vs H Q _ => ∃ (r : Addr) (ts : List Tk) (p : Nat) (k : Str) (t : Tk), vs = [.ref r, .str k] ∧ Rdr K ts H r p ∧ ts[p]? = some t ∧ t.kind = k ∧ ∀ H' : Hp, SameX r H H' → Rdr K ts H' r (p + 1) → Q t.val H'
theorem c_Reader_read (T : Tx K mg w) : Met P w K mg base 3 (He.ga K "Reader") "read" (spRead (K := K)) [] := by
  have c_Reader_sees_kind : Met P w K mg base 1 (He.ga K "Reader") "sees_kind" (spSeesKind (K := K)) [] := c_Reader_sees_kind T
  obtain ⟨fd, F⟩ := T.f_Reader_read
  refine metOf T.cl_Reader T.m_Reader_read F (b_Reader_read F) sc_Reader_read (fun vs H Q E h => ?_) (fun cdv A outer s H vs Q E hr h => ?_)
  · obtain ⟨_, _, _, _, _, rfl, _⟩ := h; rfl
  obtain ⟨r, ts, p, k, t, rfl, R, e, ek, q⟩ := h
  obtain ⟨dx, l, m, lim, us, h1, h2, h3⟩ := id R.ex
  obtain ⟨u, hu, a, i, rfl, ha⟩ := paired_get (show Paired _ us ts from h3) e
  refine ⟨_, (pss_cons (ps_if (pt_not (pt_val (pe_mt c_Reader_sees_kind hr (by decide) (pv 0) (pa_cons (pv 1) pa_nil)))) (pss_one (ps_never)) pss_nil)
  (pss_cons (ps_fld (pv 0) (pe_op op_add (pe_fld (pv 0) rfl) pe_int) rfl)
  (pss_one (ps_ret (pe_ix ix_tup (pe_ix ix_list (pe_fld (pv 0) rfl) (pe_op op_sub (pe_fld (pv 0) rfl) pe_int) (fun _ _ => rfl)) pe_int (fun _ _ => rfl)))))), ?_⟩
  refine ⟨_, rfl, r, dx, _, rfl, h1, rf_no (by decide +kernel), _, rfl, r, ts, p, k, rfl, R, _, rfl, ?_⟩
  have e2 : decide (ts[p]?.map (·.kind) = some k) = true := by rw [e]; exact decide_eq_true (by rw [← ek]; rfl)
  rw [e2]
  refine iteF ?_
  refine ⟨_, rfl, r, _, dx, _, _, rfl, h1, T.cl_Reader, T.n_Reader_place, rf_place, _, _, rfl, rfl, _, rfl, r, _, dx, _, rfl, h1, T.cl_Reader, T.n_Reader_place, rf_len, ?_⟩
  have R' := Rdr.move h1 h2 h3 R.ok
  have sx : SameX r H (upd H r (.ins (He.ga K "Reader") dx (putF "place" (.int ((p : Int) + 1)) (rf l m p lim)))) := SameX.upd
  have nlr : l ≠ r := ne_of h2 h1 (by intro y; cases y)
  have nar : a ≠ r := ne_of ha h1 (by intro y; cases y)
  refine ⟨_, rfl, r, _, dx, _, _, rfl, upd_same, T.cl_Reader, T.n_Reader_rest, by rw [rf_put]; exact rf_rest, _, rfl, r, _, dx, _, _, rfl, upd_same, T.cl_Reader, T.n_Reader_place, by rw [rf_put]; exact rf_place, _, _, rfl, rfl, l, us, _, _, rfl, rfl, SqL.of (by rw [upd_ne nlr]; exact h2), ?_, a, _, _, _, rfl, rfl, SqT.of (by rw [upd_ne nar]; exact ha), rfl, q _ sx R'⟩
  have e3 : ((p : Int) + 1 - 1) = (p : Int) := by omega
  show atI us ((p : Int) + 1 - 1) = _
  rw [e3]
  exact atI_nat hu
end
end Fz
set_option Elab.async false
set_option linter.all false
set_option maxRecDepth 100000
set_option maxHeartbeats 4000000
namespace Fz
open PySem PyProof.Rows L2
open C8 (Cal Met Mak pe_c pe_mk pe_mt pe_mt0 pe_gc)
/-! ## for k in d, d a dict of the written part, its keys texts -/
def KeysW (K : PySem.W.Frag) (d : Addr) (ks : List Str) : Prop := (d == sysModules) = false ∧ ∃ (es : Array DictEntry) (ep : Nat), K.lookup d = some ⟨.type "dict", none, .dict es ep, #[]⟩ ∧ es.size = ks.length ∧ ∀ (i : Nat) (k : Str), ks[i]? = some k → ∃ en t, es[i]? = some en ∧ en.key = Value.str k t
def Itw (ks : List Str) : It := ⟨fun i _ => i < ks.length, fun i H x H' => H' = H ∧ ∃ k, ks[i]? = some k ∧ x = .str k, fun i _ => ks.length ≤ i⟩
section
variable {P : Program} {w : World} {K : PySem.W.Frag} {tg : Expr} {d : Addr} {ks : List Str} {es : Array DictEntry} {ep : Nat}
theorem turn_keysW (it : Addr) (hk : K.lookup d = some ⟨.type "dict", none, .dict es ep, #[]⟩) (hz : es.size = ks.length) (he : ∀ (i : Nat) (k : Str), ks[i]? = some k → ∃ en t, es[i]? = some en ∧ en.key = Value.str k t) :
    Turn P w K tg (Itw ks) [it] it (fun i h => h.IsKeyIter it d i ks.length ep) where
  mem := by simp
  obj := fun i h st b hb => by
    have e : b = it := by simpa using hb
    subst e
    obtain ⟨oi, e, c, dd⟩ := st
    exact ⟨oi, e, fun v z => by rw [dd] at z; cases z⟩
  keep := fun i h h' st k => st.at fun oi e => k it (by simp) oi e
  item := by
    intro X hP hw hK hc i pins s σ H E I hf st hg
    subst hP hw hK
    obtain ⟨f0, f1, f2, f3, f4, f5⟩ := hf it (by simp)
    have hgd := I.kIn _ _ hk
    have hi : i < ks.length := hg
    obtain ⟨en, t, hen, hkey⟩ := he i ks[i] (List.getElem?_eq_getElem hi)
    refine next_key_item st hgd rfl hz hen fun h' st' sb => ?_
    have I1 : Inv X pins σ H { s with heap := h' } := I.turned (t' := s.toks) (fun b ob hb e => (sb.2 b hb).trans e) f0 f1 f3 f4 f5
    obtain ⟨oi, e, c, dd⟩ := id st'
    exact ⟨en.key, rfl, go_of (s := { s with heap := h' }) e c dd (by decide) ⟨.str ks[i], H, I1, ⟨t, hkey⟩, ⟨rfl, ks[i], List.getElem?_eq_getElem hi, rfl⟩, st', fun b hb => (hf b hb).1⟩⟩
  done := by
    intro X hP hw hK hc i pins s σ H E I hf st hg
    subst hP hw hK
    obtain ⟨f0, f1, f2, f3, f4, f5⟩ := hf it (by simp)
    have hgd := I.kIn _ _ hk
    exact next_key_end (I.ok.hd hc) st hgd rfl hz hg fun h' eb => ⟨rfl, I.turned (t' := s.toks) (fun b ob hb e => eb b ob hb e) f0 f1 f3 f4 f5⟩
  self := fun A i s Q E st h => wpAny_pyIter_keyiter st h
def iKeysW (K : PySem.W.Frag) (td : TE) : TI := fun σ H R => td σ H fun x H1 => ∃ d ks, x = .ref d ∧ KeysW K d ks ∧ R (Itw ks) H1
theorem pi_keysW {X : Cx} {e : Expr} {td : TE} (he : PE X e td) : PI X tg e (iKeysW X.K td) := by
  refine ⟨fun pins s σ H R I h => ?_⟩
  refine thn (he.run pins s σ H _ I h) fun u s1 ⟨x, H1, I1, rx, d, ks, ex, ⟨hs, es, ep, hk, hz, hen⟩, q⟩ => ?_
  subst ex
  obtain rfl : u = Value.ref d := rx
  have hgd := I1.kIn _ _ hk
  refine iter_keys hs hgd ⟨rfl, rfl, rfl⟩ rfl (pi_one (tk := s1.toks) I1 _ (turn_keysW _ hk hz hen) ⟨_, Heap.get?_push_size _ rfl, rfl, ?_⟩ q)
  rw [hz]
  rfl
theorem walk_keysW : Walk (Itw ks) ks.length (fun _ => True) (fun i H x H' => H' = H ∧ ∃ k, ks[i]? = some k ∧ x = .str k) :=
  ⟨fun _ _ h _ => h, fun _ _ => Nat.le_refl _, fun _ _ _ _ _ _ h => h⟩
end
theorem Tx.keysW {K : PySem.W.Frag} {mg : Str → Option Value} {w : World} (T : Tx K mg w) : KeysW K (He.ga K "COMPARISONS") ["<", "=="] := by
  obtain ⟨es, n, D⟩ := T.kd
  have hk := T.kk
  unfold keysB at hk
  rw [D.at_] at hk
  have hk := of_decide_eq_true hk
  have hl := congrArg List.length hk
  rw [List.length_map, List.length_map, Array.length_toList] at hl
  refine ⟨D.low, es, n, D.at_, hl, fun i k hi => ?_⟩
  have h2 := congrArg (fun l => l[i]?) hk
  simp only [List.getElem?_map, hi] at h2
  cases e : es.toList[i]? with
  | none => rw [e] at h2; cases h2
  | some en =>
    rw [e] at h2
    have h2 : (match en.key with | .str y _ => some y | _ => none) = some k := Option.some.inj h2
    split at h2
    · rename_i y t q
      have e3 := Option.some.inj h2
      subst e3
      refine ⟨en, t, ?_, q⟩
      rw [← Array.getElem?_toList]
      exact e
    · cases h2
end Fz
set_option Elab.async false
set_option linter.all false
set_option maxRecDepth 100000
set_option maxHeartbeats 4000000
namespace Fz
open PySem PyProof.Rows L2
open C8 (Cal Met Mak pe_c pe_mk pe_mt pe_mt0 pe_gc)
/-! ## an expression that is a number, a semicolon behind it -/
theorem kne {k k' : Str} {v v' : V} (h : k ≠ k') : ¬ some (⟨k, v⟩ : Tk) = some ⟨k', v'⟩ := fun e => by
  have e := Option.some.inj e
  injection e with e _
  exact h e
theorem vne {k : Str} {x y : Str} (h : x ≠ y) : ¬ some (⟨k, .str x⟩ : Tk) = some ⟨k, .str y⟩ := fun e => by
  have e := Option.some.inj e
  injection e with _ e
  exact h (V.str.inj e)
theorem nNW : ("number" : Str) ≠ "word" := by decide +kernel
theorem nNS : ("number" : Str) ≠ "sign" := by decide +kernel
theorem nSW : ("sign" : Str) ≠ "word" := by decide +kernel
theorem rA : ("accept" : Str) ∉ rfK := by decide +kernel
theorem rS : ("sees" : Str) ∉ rfK := by decide +kernel
theorem rK : ("sees_kind" : Str) ∉ rfK := by decide +kernel
theorem rR : ("read" : Str) ∉ rfK := by decide +kernel
theorem rE : ("expect" : Str) ∉ rfK := by decide +kernel
theorem rT : ("at" : Str) ∉ rfK := by decide +kernel
theorem rF : ("follows" : Str) ∉ rfK := by decide +kernel
theorem not_of {a b : Option Tk} (e : a = b) {c : Option Tk} (h : ¬ b = c) : ¬ a = c := by rw [e]; exact h
section
variable {P : Program} {w : World} {K : PySem.W.Frag} {mg : Str → Option Value} {base : Heap}
def spNum : Sp := fun vs H Q _ => ∃ (r : Addr) (lv : V) (ts : List Tk) (p : Nat) (n : Int), vs = [.ref r, lv] ∧ Rdr K ts H r p ∧ ts[p]? = some ⟨"number", .int n⟩ ∧ ts[p + 1]? = some ⟨"sign", .str ";"⟩ ∧
  ∀ (H' : Hp) (e : Addr), SameX r H H' → Rdr K ts H' r (p + 1) → H' e = some (.tup [.str "int", .int n]) → Q (.ref e) H'
theorem c_read_primary (T : Tx K mg w) : Cal P w K mg base 4 "read_primary" (spNum (K := K)) [] := by
  have c_Reader_at : Met P w K mg base 1 (He.ga K "Reader") "at" (spAt (K := K)) [] := c_Reader_at T
  have c_Reader_accept : Met P w K mg base 2 (He.ga K "Reader") "accept" (spAccept (K := K)) [] := c_Reader_accept T
  have c_Reader_sees_kind : Met P w K mg base 1 (He.ga K "Reader") "sees_kind" (spSeesKind (K := K)) [] := c_Reader_sees_kind T
  have c_Reader_read : Met P w K mg base 3 (He.ga K "Reader") "read" (spRead (K := K)) [] := c_Reader_read T
  obtain ⟨fd, F⟩ := T.f_read_primary
  refine calOf F T.g_read_primary (b_read_primary F) sc_read_primary (fun vs H Q E h => ?_) (fun cdv A outer s H vs Q E hr h => ?_)
  · obtain ⟨_, _, _, _, _, rfl, _⟩ := h; rfl
  obtain ⟨r, lv, ts, p, n, rfl, R, t1, t2, q⟩ := h
  refine ⟨_, (pss_cons (ps_set (i := 2) sc_read_primary.nd rfl (Or.inl rfl) (pe_mt0 c_Reader_at hr (by decide) (pv 0)))
  (pss_cons (ps_if (pt_val (pe_mt c_Reader_accept hr (by decide) (pv 0) (pa_cons pe_str (pa_cons pe_str pa_nil)))) (pss_one (ps_ret (pe_tup (pa_cons pe_str (pa_cons pe_bl pa_nil))))) pss_nil)
  (pss_cons (ps_if (pt_val (pe_mt c_Reader_accept hr (by decide) (pv 0) (pa_cons pe_str (pa_cons pe_str pa_nil)))) (pss_one (ps_ret (pe_tup (pa_cons pe_str (pa_cons pe_bl pa_nil))))) pss_nil)
  (pss_cons (ps_if (pt_val (pe_mt c_Reader_accept hr (by decide) (pv 0) (pa_cons pe_str (pa_cons pe_str pa_nil)))) (pss_one (ps_ret (pe_tup (pa_cons pe_str pa_nil)))) pss_nil)
  (pss_cons (ps_if (pt_val (pe_mt c_Reader_accept hr (by decide) (pv 0) (pa_cons pe_str (pa_cons pe_str pa_nil)))) (pss_never) pss_nil)
  (pss_cons (ps_if (pt_val (pe_mt c_Reader_accept hr (by decide) (pv 0) (pa_cons pe_str (pa_cons pe_str pa_nil)))) (pss_never) pss_nil)
  (pss_cons (ps_if (pt_val (pe_mt c_Reader_accept hr (by decide) (pv 0) (pa_cons pe_str (pa_cons pe_str pa_nil)))) (pss_never) pss_nil)
  (pss_cons (ps_if (pt_val (pe_mt c_Reader_sees_kind hr (by decide) (pv 0) (pa_cons pe_str pa_nil))) (pss_one (ps_ret (pe_tup (pa_cons pe_str (pa_cons (pe_mt c_Reader_read hr (by decide) (pv 0) (pa_cons pe_str pa_nil)) pa_nil))))) pss_nil)
  (pss_never))))))))), ?_⟩
  obtain ⟨dx, l, m, lim, us, h1, h2, h3⟩ := id R.ex
  refine ⟨_, rfl, r, dx, _, rfl, h1, rf_no rT, r, ts, p, rfl, R, fun i => ?_⟩
  refine ⟨_, rfl, r, dx, _, rfl, h1, rf_no rA, r, ts, p, _, _, rfl, R, fun z => absurd z (not_of t1 (kne nNW)), fun _ => ⟨_, rfl, iteF ?_⟩⟩
  refine ⟨_, rfl, r, dx, _, rfl, h1, rf_no rA, r, ts, p, _, _, rfl, R, fun z => absurd z (not_of t1 (kne nNW)), fun _ => ⟨_, rfl, iteF ?_⟩⟩
  refine ⟨_, rfl, r, dx, _, rfl, h1, rf_no rA, r, ts, p, _, _, rfl, R, fun z => absurd z (not_of t1 (kne nNW)), fun _ => ⟨_, rfl, iteF ?_⟩⟩
  refine ⟨_, rfl, r, dx, _, rfl, h1, rf_no rA, r, ts, p, _, _, rfl, R, fun z => absurd z (not_of t1 (kne nNW)), fun _ => ⟨_, rfl, iteF ?_⟩⟩
  refine ⟨_, rfl, r, dx, _, rfl, h1, rf_no rA, r, ts, p, _, _, rfl, R, fun z => absurd z (not_of t1 (kne nNW)), fun _ => ⟨_, rfl, iteF ?_⟩⟩
  refine ⟨_, rfl, r, dx, _, rfl, h1, rf_no rA, r, ts, p, _, _, rfl, R, fun z => absurd z (not_of t1 (kne nNS)), fun _ => ⟨_, rfl, iteF ?_⟩⟩
  refine ⟨_, rfl, r, dx, _, rfl, h1, rf_no rK, r, ts, p, _, rfl, R, _, rfl, if_T (decide_eq_true (by rw [t1]; rfl)) ?_⟩
  refine ⟨_, rfl, r, dx, _, rfl, h1, rf_no rR, r, ts, p, _, _, rfl, R, t1, rfl, fun H' s' R' => ⟨sz 2, fun e he => ?_⟩⟩
  exact q _ e (s'.trans (SameX.of (same_new he _))) (R'.same (same_new he _)) upd_same
theorem c_read_call (T : Tx K mg w) : Cal P w K mg base 5 "read_call" (spNum (K := K)) [] := by
  have c_Reader_accept : Met P w K mg base 2 (He.ga K "Reader") "accept" (spAccept (K := K)) [] := c_Reader_accept T
  have c_read_primary : Cal P w K mg base 4 "read_primary" (spNum (K := K)) [] := c_read_primary T
  obtain ⟨fd, F⟩ := T.f_read_call
  refine calOf F T.g_read_call (b_read_call F) sc_read_call (fun vs H Q E h => ?_) (fun cdv A outer s H vs Q E hr h => ?_)
  · obtain ⟨_, _, _, _, _, rfl, _⟩ := h; rfl
  obtain ⟨r, lv, ts, p, n, rfl, R, t1, t2, q⟩ := h
  refine ⟨_, (pss_cons (ps_set (i := 2) sc_read_call.nd rfl (Or.inl rfl) (pe_c c_read_primary hr (by decide) rfl (pa_cons (pv 0) (pa_cons (pv 1) pa_nil))))
  (pss_cons (ps_while PassesOwn.never (pt_val (pe_mt c_Reader_accept hr (by decide) (pv 0) (pa_cons pe_str (pa_cons pe_str pa_nil)))) (pss_never))
  (pss_one (ps_ret (pv 2))))), ?_⟩
  refine ⟨_, rfl, _, rfl, r, lv, ts, p, n, rfl, R, t1, t2, fun H1 e s1 R1 he => ?_⟩
  obtain ⟨dx, l, m, lim, us, h1, h2, h3⟩ := id R1.ex
  refine ⟨fun m σ H' => σ = [some (.ref r), some lv, some (.ref e)] ∧ H' = H1, ⟨0, rfl, rfl⟩, ?_⟩
  rintro m σ H' ⟨rfl, rfl⟩
  refine ⟨_, rfl, r, dx, _, rfl, h1, rf_no rA, r, ts, p + 1, _, _, rfl, R1, fun z => absurd z (not_of t2 (vne (by decide +kernel))), fun _ => ⟨_, rfl, iteF ?_⟩⟩
  exact ⟨_, rfl, q _ e s1 R1 he⟩
theorem c_read_product (T : Tx K mg w) : Cal P w K mg base 6 "read_product" (spNum (K := K)) [] := by
  have c_Reader_accept : Met P w K mg base 2 (He.ga K "Reader") "accept" (spAccept (K := K)) [] := c_Reader_accept T
  have c_read_call : Cal P w K mg base 5 "read_call" (spNum (K := K)) [] := c_read_call T
  obtain ⟨fd, F⟩ := T.f_read_product
  refine calOf F T.g_read_product (b_read_product F) sc_read_product (fun vs H Q E h => ?_) (fun cdv A outer s H vs Q E hr h => ?_)
  · obtain ⟨_, _, _, _, _, rfl, _⟩ := h; rfl
  obtain ⟨r, lv, ts, p, n, rfl, R, t1, t2, q⟩ := h
  refine ⟨_, (pss_cons (ps_set (i := 2) sc_read_product.nd rfl (Or.inl rfl) (pe_c c_read_call hr (by decide) rfl (pa_cons (pv 0) (pa_cons (pv 1) pa_nil))))
  (pss_cons (ps_while PassesOwn.never (pt_val (pe_mt c_Reader_accept hr (by decide) (pv 0) (pa_cons pe_str (pa_cons pe_str pa_nil)))) (pss_never))
  (pss_one (ps_ret (pv 2))))), ?_⟩
  refine ⟨_, rfl, _, rfl, r, lv, ts, p, n, rfl, R, t1, t2, fun H1 e s1 R1 he => ?_⟩
  obtain ⟨dx, l, m, lim, us, h1, h2, h3⟩ := id R1.ex
  refine ⟨fun m σ H' => σ = [some (.ref r), some lv, some (.ref e)] ∧ H' = H1, ⟨0, rfl, rfl⟩, ?_⟩
  rintro m σ H' ⟨rfl, rfl⟩
  refine ⟨_, rfl, r, dx, _, rfl, h1, rf_no rA, r, ts, p + 1, _, _, rfl, R1, fun z => absurd z (not_of t2 (vne (by decide +kernel))), fun _ => ⟨_, rfl, iteF ?_⟩⟩
  exact ⟨_, rfl, q _ e s1 R1 he⟩
theorem c_read_sum (T : Tx K mg w) : Cal P w K mg base 7 "read_sum" (spNum (K := K)) [] := by
  have c_Reader_sees : Met P w K mg base 1 (He.ga K "Reader") "sees" (spSees (K := K)) [] := c_Reader_sees T
  have c_read_product : Cal P w K mg base 6 "read_product" (spNum (K := K)) [] := c_read_product T
  obtain ⟨fd, F⟩ := T.f_read_sum
  refine calOf F T.g_read_sum (b_read_sum F) sc_read_sum (fun vs H Q E h => ?_) (fun cdv A outer s H vs Q E hr h => ?_)
  · obtain ⟨_, _, _, _, _, rfl, _⟩ := h; rfl
  obtain ⟨r, lv, ts, p, n, rfl, R, t1, t2, q⟩ := h
  refine ⟨_, (pss_cons (ps_set (i := 2) sc_read_sum.nd rfl (Or.inl rfl) (pe_c c_read_product hr (by decide) rfl (pa_cons (pv 0) (pa_cons (pv 1) pa_nil))))
  (pss_cons (ps_while PassesOwn.never (PW.pt (pw_or (pt_val (pe_mt c_Reader_sees hr (by decide) (pv 0) (pa_cons pe_str (pa_cons pe_str pa_nil)))) (pw_or1 (pt_val (pe_mt c_Reader_sees hr (by decide) (pv 0) (pa_cons pe_str (pa_cons pe_str pa_nil))))))) (pss_never))
  (pss_one (ps_ret (pv 2))))), ?_⟩
  refine ⟨_, rfl, _, rfl, r, lv, ts, p, n, rfl, R, t1, t2, fun H1 e s1 R1 he => ?_⟩
  obtain ⟨dx, l, m, lim, us, h1, h2, h3⟩ := id R1.ex
  refine ⟨fun m σ H' => σ = [some (.ref r), some lv, some (.ref e), none] ∧ H' = H1, ⟨0, rfl, rfl⟩, ?_⟩
  rintro m σ H' ⟨rfl, rfl⟩
  refine ⟨_, rfl, r, dx, _, rfl, h1, rf_no rS, r, ts, p + 1, _, _, rfl, R1, _, rfl, if_F (decide_eq_false (not_of t2 (vne (by decide +kernel)))) ?_⟩
  refine ⟨_, rfl, r, dx, _, rfl, h1, rf_no rS, r, ts, p + 1, _, _, rfl, R1, _, rfl, if_F (decide_eq_false (not_of t2 (vne (by decide +kernel)))) ?_⟩
  exact ⟨_, rfl, q _ e s1 R1 he⟩
theorem c_read_plain (T : Tx K mg w) : Cal P w K mg base 8 "read_plain" (spNum (K := K)) [] := by
  have c_Reader_accept : Met P w K mg base 2 (He.ga K "Reader") "accept" (spAccept (K := K)) [] := c_Reader_accept T
  have c_read_sum : Cal P w K mg base 7 "read_sum" (spNum (K := K)) [] := c_read_sum T
  obtain ⟨fd, F⟩ := T.f_read_plain
  refine calOf F T.g_read_plain (b_read_plain F) sc_read_plain (fun vs H Q E h => ?_) (fun cdv A outer s H vs Q E hr h => ?_)
  · obtain ⟨_, _, _, _, _, rfl, _⟩ := h; rfl
  obtain ⟨r, lv, ts, p, n, rfl, R, t1, t2, q⟩ := h
  refine ⟨_, (pss_cons (ps_if (pt_val (pe_mt c_Reader_accept hr (by decide) (pv 0) (pa_cons pe_str (pa_cons pe_str pa_nil)))) (pss_one (ps_never)) pss_nil)
  (pss_cons (ps_set (i := 2) sc_read_plain.nd rfl (Or.inl rfl) (pe_c c_read_sum hr (by decide) rfl (pa_cons (pv 0) (pa_cons (pv 1) pa_nil))))
  (pss_cons (ps_for PassesOwn.never rfl (pi_keysW (pe_gc rfl T.k_COMPARISONS)) (pg_name (i := 3) sc_read_plain.nd rfl (Or.inl rfl)) (pss_one (ps_if (pt_val (pe_mt c_Reader_accept hr (by decide) (pv 0) (pa_cons pe_str (pa_cons (pv 3) pa_nil)))) (pss_one (ps_never)) pss_nil)))
  (pss_one (ps_ret (pv 2)))))), ?_⟩
  obtain ⟨dx, l, m, lim, us, h1, h2, h3⟩ := id R.ex
  refine ⟨_, rfl, r, dx, _, rfl, h1, rf_no rA, r, ts, p, _, _, rfl, R, fun z => absurd z (not_of t1 (kne nNW)), fun _ => ⟨_, rfl, iteF ?_⟩⟩
  refine ⟨_, rfl, _, rfl, r, lv, ts, p, n, rfl, R, t1, t2, fun H1 e s1 R1 he => ?_⟩
  obtain ⟨dx, l, m, lim, us, h1, h2, h3⟩ := id R1.ex
  refine ⟨_, _, rfl, T.keysW, for_it (walk_keysW (ks := ["<", "=="])) (fun i σ H' => (∃ x, σ = [some (.ref r), some lv, some (.ref e), x]) ∧ H' = H1) ⟨⟨_, rfl⟩, rfl⟩ (fun _ _ _ _ _ => True.intro) ?_ ?_⟩
  · rintro i x σ H2 H3 hi ⟨⟨y, rfl⟩, rfl⟩ ⟨rfl, k, hk, rfl⟩
    have hk2 : ¬ some (⟨"sign", .str ";"⟩ : Tk) = some ⟨"sign", .str k⟩ := by
      have hk3 : k ∈ (["<", "=="] : List Str) := List.mem_of_getElem? hk
      rcases List.mem_cons.mp hk3 with rfl | hk3
      · exact vne (by decide +kernel)
      · rw [List.mem_singleton.mp hk3]
        exact vne (by decide +kernel)
    refine ⟨_, rfl, r, dx, _, rfl, h1, rf_no rA, _, rfl, r, ts, p + 1, _, _, rfl, R1, fun z => absurd z (not_of t2 hk2), fun _ => ⟨_, rfl, iteF ?_⟩⟩
    exact ⟨⟨_, rfl⟩, rfl⟩
  · rintro σ H' ⟨⟨y, rfl⟩, rfl⟩
    exact ⟨_, rfl, q _ e s1 R1 he⟩
theorem c_read_both (T : Tx K mg w) : Cal P w K mg base 9 "read_both" (spNum (K := K)) [] := by
  have c_Reader_accept : Met P w K mg base 2 (He.ga K "Reader") "accept" (spAccept (K := K)) [] := c_Reader_accept T
  have c_read_plain : Cal P w K mg base 8 "read_plain" (spNum (K := K)) [] := c_read_plain T
  obtain ⟨fd, F⟩ := T.f_read_both
  refine calOf F T.g_read_both (b_read_both F) sc_read_both (fun vs H Q E h => ?_) (fun cdv A outer s H vs Q E hr h => ?_)
  · obtain ⟨_, _, _, _, _, rfl, _⟩ := h; rfl
  obtain ⟨r, lv, ts, p, n, rfl, R, t1, t2, q⟩ := h
  refine ⟨_, (pss_cons (ps_set (i := 2) sc_read_both.nd rfl (Or.inl rfl) (pe_c c_read_plain hr (by decide) rfl (pa_cons (pv 0) (pa_cons (pv 1) pa_nil))))
  (pss_cons (ps_while PassesOwn.never (pt_val (pe_mt c_Reader_accept hr (by decide) (pv 0) (pa_cons pe_str (pa_cons pe_str pa_nil)))) (pss_never))
  (pss_one (ps_ret (pv 2))))), ?_⟩
  refine ⟨_, rfl, _, rfl, r, lv, ts, p, n, rfl, R, t1, t2, fun H1 e s1 R1 he => ?_⟩
  obtain ⟨dx, l, m, lim, us, h1, h2, h3⟩ := id R1.ex
  refine ⟨fun m σ H' => σ = [some (.ref r), some lv, some (.ref e)] ∧ H' = H1, ⟨0, rfl, rfl⟩, ?_⟩
  rintro m σ H' ⟨rfl, rfl⟩
  refine ⟨_, rfl, r, dx, _, rfl, h1, rf_no rA, r, ts, p + 1, _, _, rfl, R1, fun z => absurd z (not_of t2 (kne nSW)), fun _ => ⟨_, rfl, iteF ?_⟩⟩
  exact ⟨_, rfl, q _ e s1 R1 he⟩
theorem c_read_expression (T : Tx K mg w) : Cal P w K mg base 10 "read_expression" (spNum (K := K)) [] := by
  have c_Reader_accept : Met P w K mg base 2 (He.ga K "Reader") "accept" (spAccept (K := K)) [] := c_Reader_accept T
  have c_read_both : Cal P w K mg base 9 "read_both" (spNum (K := K)) [] := c_read_both T
  obtain ⟨fd, F⟩ := T.f_read_expression
  refine calOf F T.g_read_expression (b_read_expression F) sc_read_expression (fun vs H Q E h => ?_) (fun cdv A outer s H vs Q E hr h => ?_)
  · obtain ⟨_, _, _, _, _, rfl, _⟩ := h; rfl
  obtain ⟨r, lv, ts, p, n, rfl, R, t1, t2, q⟩ := h
  refine ⟨_, (pss_cons (ps_set (i := 2) sc_read_expression.nd rfl (Or.inl rfl) (pe_c c_read_both hr (by decide) rfl (pa_cons (pv 0) (pa_cons (pv 1) pa_nil))))
  (pss_cons (ps_while PassesOwn.never (pt_val (pe_mt c_Reader_accept hr (by decide) (pv 0) (pa_cons pe_str (pa_cons pe_str pa_nil)))) (pss_never))
  (pss_one (ps_ret (pv 2))))), ?_⟩
  refine ⟨_, rfl, _, rfl, r, lv, ts, p, n, rfl, R, t1, t2, fun H1 e s1 R1 he => ?_⟩
  obtain ⟨dx, l, m, lim, us, h1, h2, h3⟩ := id R1.ex
  refine ⟨fun m σ H' => σ = [some (.ref r), some lv, some (.ref e)] ∧ H' = H1, ⟨0, rfl, rfl⟩, ?_⟩
  rintro m σ H' ⟨rfl, rfl⟩
  refine ⟨_, rfl, r, dx, _, rfl, h1, rf_no rA, r, ts, p + 1, _, _, rfl, R1, fun z => absurd z (not_of t2 (kne nSW)), fun _ => ⟨_, rfl, iteF ?_⟩⟩
  exact ⟨_, rfl, q _ e s1 R1 he⟩
end
end Fz
set_option Elab.async false
set_option linter.all false
set_option maxRecDepth 100000
set_option maxHeartbeats 4000000
namespace Fz
open PySem PyProof.Rows L2
open C8 (Cal Met Mak pe_c pe_mk pe_mt pe_mt0 pe_gc)
/-! ## what is read -/
inductive Item where
  | ltI (x : Str) (n : Int)
  | exp (x y : Str)
  | frm (m x y : Str)
  | imp (m x y : Str)
  | spc (m x : Str)
  | star (m : Str)
deriving DecidableEq
inductive Pc where
  | elet (x : Str) (n : Int)
  | exp (x y : Str)
  | frm (m x y : Str)
  | imp (m x y : Str)
  | spc (m x : Str)
  | star (m : Str)
  | let_ (x : Str) (n : Int)
deriving DecidableEq
def kw (x : Str) : Tk := ⟨"word", .str x⟩
def nm (x : Str) : Tk := ⟨"name", .str x⟩
def sg (x : Str) : Tk := ⟨"sign", .str x⟩
def sr (x : Str) : Tk := ⟨"string", .str x⟩
def nu (n : Int) : Tk := ⟨"number", .int n⟩
def letT (x : Str) (n : Int) : List Tk := [nm x, sg "=", nu n, sg ";"]
def prT (x y : Str) : List Tk := [sg "{", nm x, kw "as", nm y, sg "}"]
def frT (m : Str) : List Tk := [kw "from", sr m, sg ";"]
def Pc.toks : Pc → List Tk
  | .elet x n => kw "export" :: kw "let" :: letT x n
  | .exp x y => kw "export" :: (prT x y ++ [sg ";"])
  | .frm m x y => kw "export" :: (prT x y ++ frT m)
  | .imp m x y => kw "import" :: (prT x y ++ frT m)
  | .spc m x => kw "import" :: sg "*" :: kw "as" :: nm x :: frT m
  | .star m => kw "export" :: sg "*" :: frT m
  | .let_ x n => kw "let" :: letT x n
def Pc.items : Pc → List Item
  | .elet x n => [.ltI x n, .exp x x]
  | .exp x y => [.exp x y]
  | .frm m x y => [.frm m x y]
  | .imp m x y => [.imp m x y]
  | .spc m x => [.spc m x]
  | .star m => [.star m]
  | .let_ x n => [.ltI x n]
def ItemAt (H : Hp) (v : V) : Item → Prop
  | .ltI x n => ∃ (t e : Addr) (i : Int), v = .ref t ∧ H t = some (.tup [.str "let", .str x, .ref e, .int i]) ∧ H e = some (.tup [.str "int", .int n])
  | .exp x y => ∃ (t ps q : Addr) (i : Int), v = .ref t ∧ H t = some (.tup [.str "export", .ref ps, .int i]) ∧ H ps = some (.tup [.ref q]) ∧ H q = some (.tup [.str x, .str y])
  | .frm m x y => ∃ (t ps q : Addr) (i : Int), v = .ref t ∧ H t = some (.tup [.str "from", .str m, .ref ps, .int i]) ∧ H ps = some (.tup [.ref q]) ∧ H q = some (.tup [.str x, .str y])
  | .imp m x y => ∃ (t ps q : Addr) (i : Int), v = .ref t ∧ H t = some (.tup [.str "import", .str m, .ref ps, .int i]) ∧ H ps = some (.tup [.ref q]) ∧ H q = some (.tup [.str x, .str y])
  | .spc m x => ∃ (t : Addr) (i : Int), v = .ref t ∧ H t = some (.tup [.str "space", .str m, .str x, .int i])
  | .star m => ∃ (t : Addr) (i : Int), v = .ref t ∧ H t = some (.tup [.str "star", .str m, .int i])
/-- the tuples are kept -/
def KeepT (H H' : Hp) : Prop := ∀ (a : Addr) (xs : List V), H a = some (.tup xs) → H' a = some (.tup xs)
theorem KeepT.of {H H' : Hp} (s : Same H H') : KeepT H H' := fun a _ h => s a _ h
theorem ItemAt.keep {H H' : Hp} (k : KeepT H H') {v : V} : ∀ {it : Item}, ItemAt H v it → ItemAt H' v it
  | .ltI _ _, ⟨t, e, i, h0, h1, h2⟩ => ⟨t, e, i, h0, k _ _ h1, k _ _ h2⟩
  | .exp _ _, ⟨t, ps, q, i, h0, h1, h2, h3⟩ => ⟨t, ps, q, i, h0, k _ _ h1, k _ _ h2, k _ _ h3⟩
  | .frm _ _ _, ⟨t, ps, q, i, h0, h1, h2, h3⟩ => ⟨t, ps, q, i, h0, k _ _ h1, k _ _ h2, k _ _ h3⟩
  | .imp _ _ _, ⟨t, ps, q, i, h0, h1, h2, h3⟩ => ⟨t, ps, q, i, h0, k _ _ h1, k _ _ h2, k _ _ h3⟩
  | .spc _ _, ⟨t, i, h0, h1⟩ => ⟨t, i, h0, k _ _ h1⟩
  | .star _, ⟨t, i, h0, h1⟩ => ⟨t, i, h0, k _ _ h1⟩
def ItemL (H : Hp) (us : List V) (its : List Item) : Prop := Paired (ItemAt H) us its
theorem ItemL.keep {H H' : Hp} (k : KeepT H H') {us : List V} {its : List Item} (h : ItemL H us its) : ItemL H' us its := Paired.mapP h fun _ _ => ItemAt.keep k
/-- the list at l holds these items -/
def ItemsAt (H : Hp) (l : Addr) (its : List Item) : Prop := ∃ us, H l = some (.lst us) ∧ ItemL H us its
theorem Paired.app {α β : Type} {F : α → β → Prop} : ∀ {as as' : List α} {bs bs' : List β}, Paired F as bs → Paired F as' bs' → Paired F (as ++ as') (bs ++ bs')
  | _, _, _, _, .nil, h => h
  | _, _, _, _, .cons h t, h' => .cons h (Paired.app t h')
theorem SameX.keepT {K : PySem.W.Frag} {ts : List Tk} {r : Addr} {p : Nat} {H H' : Hp} (s : SameX r H H') (R : Rdr K ts H r p) : KeepT H H' := by
  obtain ⟨dx, l, m, lim, us, h1, _, _⟩ := R.ex
  exact fun a xs h => s _ _ (ne_of h h1 (by intro y; cases y)) h
theorem SameX.keepL {K : PySem.W.Frag} {ts : List Tk} {r : Addr} {p : Nat} {H H' : Hp} (s : SameX r H H') (R : Rdr K ts H r p) {a : Addr} {xs : List V} (h : H a = some (.lst xs)) : H' a = some (.lst xs) := by
  obtain ⟨dx, l, m, lim, us, h1, _, _⟩ := R.ex
  exact s _ _ (ne_of h h1 (by intro y; cases y)) h
/-- another list is changed -/
theorem Rdr.updL {K : PySem.W.Frag} {ts : List Tk} {r L : Addr} {p : Nat} {H : Hp} (R : Rdr K ts H r p) {xs ys : List V} (hL : H L = some (.lst xs)) (hn : xs.length ≠ ts.length) : Rdr K ts (upd H L (.lst ys)) r p := by
  obtain ⟨dx, l, m, lim, us, h1, h2, h3⟩ := R.ex
  have hlen := Paired.len (show Paired _ us ts from h3)
  have nrL : r ≠ L := ne_of h1 hL (by intro y; cases y)
  have nlL : l ≠ L := fun z => by
    subst z
    rw [hL] at h2
    cases h2
    exact hn hlen
  refine ⟨⟨dx, l, m, lim, us, by rw [upd_ne nrL]; exact h1, by rw [upd_ne nlL]; exact h2, Paired.mapP h3 fun v t ⟨a, i, e, ha⟩ => ⟨a, i, e, ?_⟩⟩, R.ok⟩
  rw [upd_ne (ne_of ha hL (by intro y; cases y))]
  exact ha
theorem KeepT.updL {H : Hp} {L : Addr} {xs ys : List V} (hL : H L = some (.lst xs)) : KeepT H (upd H L (.lst ys)) := fun a zs h => by
  rw [upd_ne (ne_of h hL (by intro y; cases y))]
  exact h
theorem KeepT.trans {H H1 H2 : Hp} (a : KeepT H H1) (b : KeepT H1 H2) : KeepT H H2 := fun x xs h => b x xs (a x xs h)
/-- new before -/
theorem SameX.fresh {K : PySem.W.Frag} {ts : List Tk} {r L : Addr} {p : Nat} {H H' : Hp} (s : SameX r H H') (R : Rdr K ts H' r p) (h : H' L = none) : H L = none ∧ L ≠ r := by
  obtain ⟨dx, l, m, lim, us, h1, h2, h3⟩ := R.ex
  have n : L ≠ r := fun z => by rw [z, h1] at h; cases h
  refine ⟨?_, n⟩
  cases e : H L with
  | none => rfl
  | some o =>
    rw [s L o n e] at h
    cases h
theorem SameX.mut {r L : Addr} {H H' : Hp} {o : HO} (s : SameX r H H') (h : H L = none) : SameX r H (L2.upd H' L o) := fun a u n ha => by
  rw [upd_ne (ne_of_none ha h)]
  exact s a u n ha
/-- these tokens stand from p on -/
def At (ts : List Tk) (p : Nat) (l : List Tk) : Prop := ∃ rest, ts.drop p = l ++ rest
theorem At.get {ts : List Tk} {p : Nat} {l : List Tk} (A : At ts p l) (i : Nat) {t : Tk} (h : l[i]? = some t) : ts[p + i]? = some t := by
  obtain ⟨rest, e⟩ := A
  have h2 : (ts.drop p)[i]? = some t := by
    rw [e, List.getElem?_append_left (List.getElem?_eq_some_iff.mp h).1]
    exact h
  rw [List.getElem?_drop] at h2
  exact h2
theorem At.skip {ts : List Tk} {p : Nat} (a : List Tk) {l : List Tk} (A : At ts p (a ++ l)) : At ts (p + a.length) l := by
  obtain ⟨rest, e⟩ := A
  refine ⟨rest, ?_⟩
  rw [← List.drop_drop, e, List.append_assoc, List.drop_left]
theorem At.tl {ts : List Tk} {p : Nat} {a : Tk} {l : List Tk} (A : At ts p (a :: l)) : At ts (p + 1) l := At.skip [a] A
theorem At.take {ts : List Tk} {p : Nat} {a l : List Tk} (A : At ts p (a ++ l)) : At ts p a := by
  obtain ⟨rest, e⟩ := A
  exact ⟨l ++ rest, by rw [e, List.append_assoc]⟩
theorem At.pos {ts : List Tk} {p : Nat} {a : Tk} {l : List Tk} (A : At ts p (a :: l)) : 0 < ts.length := by
  have := (List.getElem?_eq_some_iff.mp (A.get 0 rfl)).1
  omega
theorem nSgSr : ("sign" : Str) ≠ "string" := by decide +kernel
theorem nWdSg : ("word" : Str) ≠ "sign" := by decide +kernel
section
variable {P : Program} {w : World} {K : PySem.W.Frag} {mg : Str → Option Value} {base : Heap}
def spReadLet : Sp := fun vs H Q _ => ∃ (r : Addr) (i lv : Int) (ts : List Tk) (p : Nat) (x : Str) (n : Int), vs = [.ref r, .int i, .int lv] ∧ Rdr K ts H r p ∧ At ts p (letT x n) ∧
  ∀ (H' : Hp) (t e : Addr), SameX r H H' → Rdr K ts H' r (p + 4) → H' t = some (.tup [.str "let", .str x, .ref e, .int i]) → H' e = some (.tup [.str "int", .int n]) → Q (.ref t) H'
theorem c_read_let (T : Tx K mg w) : Cal P w K mg base 11 "read_let" (spReadLet (K := K)) [] := by
  have c_Reader_read : Met P w K mg base 3 (He.ga K "Reader") "read" (spRead (K := K)) [] := c_Reader_read T
  have c_Reader_expect : Met P w K mg base 3 (He.ga K "Reader") "expect" (spExpect (K := K)) [] := c_Reader_expect T
  have c_read_expression : Cal P w K mg base 10 "read_expression" (spNum (K := K)) [] := c_read_expression T
  obtain ⟨fd, F⟩ := T.f_read_let
  refine calOf F T.g_read_let (b_read_let F) sc_read_let (fun vs H Q E h => ?_) (fun cdv A outer s H vs Q E hr h => ?_)
  · obtain ⟨_, _, _, _, _, _, _, rfl, _⟩ := h; rfl
  obtain ⟨r, i, lv, ts, p, x, n, rfl, R, A, q⟩ := h
  refine ⟨_, (pss_cons (ps_set (i := 3) sc_read_let.nd rfl (Or.inl rfl) (pe_mt c_Reader_read hr (by decide) (pv 0) (pa_cons pe_str pa_nil)))
  (pss_cons (ps_expr (pe_mt c_Reader_expect hr (by decide) (pv 0) (pa_cons pe_str (pa_cons pe_str pa_nil))))
  (pss_cons (ps_set (i := 4) sc_read_let.nd rfl (Or.inl rfl) (pe_c c_read_expression hr (by decide) rfl (pa_cons (pv 0) (pa_cons (pv 2) pa_nil))))
  (pss_cons (ps_expr (pe_mt c_Reader_expect hr (by decide) (pv 0) (pa_cons pe_str (pa_cons pe_str pa_nil))))
  (pss_one (ps_ret (pe_tup (pa_cons pe_str (pa_cons (pv 3) (pa_cons (pv 4) (pa_cons (pv 1) pa_nil))))))))))), ?_⟩
  obtain ⟨dx, l, m, lim, us, h1, _, _⟩ := id R.ex
  refine ⟨_, rfl, r, dx, _, rfl, h1, rf_no rR, r, ts, p, _, _, rfl, R, A.get 0 rfl, rfl, fun H1 s1 R1 => ?_⟩
  obtain ⟨dx, l, m, lim, us, h1, _, _⟩ := id R1.ex
  refine ⟨_, rfl, r, dx, _, rfl, h1, rf_no rE, r, ts, p + 1, _, _, rfl, R1, A.get 1 rfl, fun H2 s2 R2 => ?_⟩
  refine ⟨_, rfl, _, rfl, r, .int lv, ts, p + 1 + 1, n, rfl, R2, A.get 2 rfl, A.get 3 rfl, fun H3 e s3 R3 he => ?_⟩
  obtain ⟨dx, l, m, lim, us, h1, _, _⟩ := id R3.ex
  refine ⟨_, rfl, r, dx, _, rfl, h1, rf_no rE, r, ts, p + 1 + 1 + 1, _, _, rfl, R3, A.get 3 rfl, fun H4 s4 R4 => ?_⟩
  refine ⟨_, rfl, _, rfl, _, rfl, sz 4, fun t ht => ?_⟩
  have he4 := s4.keepT R3 _ _ he
  exact q _ t e ((((s1.trans s2).trans s3).trans s4).trans (SameX.of (same_new ht _))) (R4.same (same_new ht _)) upd_same (same_new ht _ _ _ he4)
def spReadStmt : Sp := fun vs H Q _ => ∃ (r : Addr) (lv : Int) (ts : List Tk) (p : Nat) (x : Str) (n : Int), vs = [.ref r, .int lv] ∧ Rdr K ts H r p ∧ At ts p (kw "let" :: letT x n) ∧
  ∀ (H' : Hp) (v : V), SameX r H H' → Rdr K ts H' r (p + 5) → ItemAt H' v (.ltI x n) → Q v H'
theorem c_read_statement (T : Tx K mg w) : Cal P w K mg base 12 "read_statement" (spReadStmt (K := K)) [] := by
  have c_Reader_at : Met P w K mg base 1 (He.ga K "Reader") "at" (spAt (K := K)) [] := c_Reader_at T
  have c_Reader_accept : Met P w K mg base 2 (He.ga K "Reader") "accept" (spAccept (K := K)) [] := c_Reader_accept T
  have c_read_let : Cal P w K mg base 11 "read_let" (spReadLet (K := K)) [] := c_read_let T
  obtain ⟨fd, F⟩ := T.f_read_statement
  refine calOf F T.g_read_statement (b_read_statement F) sc_read_statement (fun vs H Q E h => ?_) (fun cdv A outer s H vs Q E hr h => ?_)
  · obtain ⟨_, _, _, _, _, _, rfl, _⟩ := h; rfl
  obtain ⟨r, lv, ts, p, x, n, rfl, R, A, q⟩ := h
  refine ⟨_, (pss_cons (ps_set (i := 2) sc_read_statement.nd rfl (Or.inl rfl) (pe_mt0 c_Reader_at hr (by decide) (pv 0)))
  (pss_cons (ps_if (pt_val (pe_mt c_Reader_accept hr (by decide) (pv 0) (pa_cons pe_str (pa_cons pe_str pa_nil)))) (pss_one (ps_ret (pe_c c_read_let hr (by decide) rfl (pa_cons (pv 0) (pa_cons (pv 2) (pa_cons (pv 1) pa_nil)))))) pss_nil)
  (pss_never))), ?_⟩
  obtain ⟨dx, l, m, lim, us, h1, _, _⟩ := id R.ex
  refine ⟨_, rfl, r, dx, _, rfl, h1, rf_no rT, r, ts, p, rfl, R, fun i => ?_⟩
  refine ⟨_, rfl, r, dx, _, rfl, h1, rf_no rA, r, ts, p, _, _, rfl, R, fun _ H1 s1 R1 => ⟨_, rfl, iteT ?_⟩, fun z => absurd (A.get 0 rfl) z⟩
  exact ⟨_, rfl, _, rfl, _, rfl, r, i, lv, ts, p + 1, x, n, rfl, R1, A.tl, fun H2 t e s2 R2 ht he => q _ _ (s1.trans s2) R2 ⟨t, e, i, rfl, ht, he⟩⟩
def spReadPairs : Sp := fun vs H Q _ => ∃ (r : Addr) (ts : List Tk) (p : Nat) (x y : Str), vs = [.ref r] ∧ Rdr K ts H r p ∧ At ts p (prT x y) ∧
  ∀ (H' : Hp) (ps q : Addr), SameX r H H' → Rdr K ts H' r (p + 5) → H' ps = some (.tup [.ref q]) → H' q = some (.tup [.str x, .str y]) → Q (.ref ps) H'
theorem c_read_pairs (T : Tx K mg w) : Cal P w K mg base 4 "read_pairs" (spReadPairs (K := K)) [] := by
  have c_Reader_accept : Met P w K mg base 2 (He.ga K "Reader") "accept" (spAccept (K := K)) [] := c_Reader_accept T
  have c_Reader_read : Met P w K mg base 3 (He.ga K "Reader") "read" (spRead (K := K)) [] := c_Reader_read T
  have c_Reader_expect : Met P w K mg base 3 (He.ga K "Reader") "expect" (spExpect (K := K)) [] := c_Reader_expect T
  obtain ⟨fd, F⟩ := T.f_read_pairs
  refine calOf F T.g_read_pairs (b_read_pairs F) sc_read_pairs (fun vs H Q E h => ?_) (fun cdv A outer s H vs Q E hr h => ?_)
  · obtain ⟨_, _, _, _, _, rfl, _⟩ := h; rfl
  obtain ⟨r, ts, p, x, y, rfl, R, A, q⟩ := h
  refine ⟨_, (pss_cons (ps_expr (pe_mt c_Reader_expect hr (by decide) (pv 0) (pa_cons pe_str (pa_cons pe_str pa_nil))))
  (pss_cons (ps_set (i := 1) sc_read_pairs.nd rfl (Or.inl rfl) (pe_lst pa_nil))
  (pss_cons (ps_if (pt_not (pt_val (pe_mt c_Reader_accept hr (by decide) (pv 0) (pa_cons pe_str (pa_cons pe_str pa_nil))))) (pss_cons (ps_set (i := 2) sc_read_pairs.nd rfl (Or.inl rfl) pe_bl)
  (pss_cons (ps_while PassesOwn.never (pt_val (pv 2)) (pss_cons (ps_set (i := 3) sc_read_pairs.nd rfl (Or.inl rfl) (pe_mt c_Reader_read hr (by decide) (pv 0) (pa_cons pe_str pa_nil)))
  (pss_cons (ps_set (i := 4) sc_read_pairs.nd rfl (Or.inl rfl) (pv 3))
  (pss_cons (ps_if (pt_val (pe_mt c_Reader_accept hr (by decide) (pv 0) (pa_cons pe_str (pa_cons pe_str pa_nil)))) (pss_one (ps_set (i := 4) sc_read_pairs.nd rfl (Or.inl rfl) (pe_mt c_Reader_read hr (by decide) (pv 0) (pa_cons pe_str pa_nil)))) pss_nil)
  (pss_cons (ps_expr (pe_bm PySem.F.plainAttrs_list PySem.F.slot_list_append PySem.F.type_list_append mt_append (pv 1) (pa_cons (pe_tup (pa_cons (pv 3) (pa_cons (pv 4) pa_nil))) pa_nil)))
  (pss_one (ps_set (i := 2) sc_read_pairs.nd rfl (Or.inl rfl) (pe_mt c_Reader_accept hr (by decide) (pv 0) (pa_cons pe_str (pa_cons pe_str pa_nil))))))))))
  (pss_one (ps_expr (pe_mt c_Reader_expect hr (by decide) (pv 0) (pa_cons pe_str (pa_cons pe_str pa_nil))))))) pss_nil)
  (pss_one (ps_ret (pe_callTy call_tuple_of (by rfl) T.z_tuple (by decide +kernel) (pa_cons (pv 1) pa_nil))))))), ?_⟩
  obtain ⟨dx, l, m, lim, us, h1, _, _⟩ := id R.ex
  refine ⟨_, rfl, r, dx, _, rfl, h1, rf_no rE, r, ts, p, _, _, rfl, R, A.get 0 rfl, fun H1 s1 R1 => ?_⟩
  refine ⟨Nat.zero_le _, fun L hL => ?_⟩
  have R1' := R1.same (same_new hL (.lst []))
  obtain ⟨dx, l, m, lim, us, h1, _, _⟩ := id R1'.ex
  refine ⟨_, rfl, r, dx, _, rfl, h1, rf_no rA, r, ts, p + 1, _, _, rfl, R1', fun z => absurd z (not_of (A.get 1 rfl) (kne (by decide +kernel))), fun _ => ⟨false, rfl, iteT ?_⟩⟩
  have s1' : SameX r H (upd H1 L (.lst [])) := s1.trans (SameX.of (same_new hL _))
  refine ⟨fun k σ H' => (k = 1 ∧ H' = upd H1 L (.lst []) ∧ σ = [some (.ref r), some (.ref L), some (.bl true), none, none]) ∨
    (k = 0 ∧ ∃ (Q2 : Addr) (u v : Option V), σ = [some (.ref r), some (.ref L), some (.bl false), u, v] ∧ SameX r H H' ∧ Rdr K ts H' r (p + 4) ∧ H' L = some (.lst [.ref Q2]) ∧ H' Q2 = some (.tup [.str x, .str y])), ⟨1, .inl ⟨rfl, rfl, rfl⟩⟩, ?_⟩
  rintro k σ H' (⟨rfl, rfl, rfl⟩ | ⟨rfl, Q2, u, v, rfl, s2, R2, hL2, hQ2⟩)
  · refine ⟨_, rfl, true, rfl, iteT ⟨_, fun _ _ h => h, ?_⟩⟩
    refine ⟨_, rfl, r, dx, _, rfl, h1, rf_no rR, r, ts, p + 1, _, _, rfl, R1', A.get 1 rfl, rfl, fun H2 s2 R2 => ?_⟩
    obtain ⟨dx, l, m, lim, us, h1, _, _⟩ := id R2.ex
    refine ⟨_, rfl, ?_⟩
    refine ⟨_, rfl, r, dx, _, rfl, h1, rf_no rA, r, ts, p + 1 + 1, _, _, rfl, R2, fun _ H3 s3 R3 => ⟨_, rfl, iteT ?_⟩, fun z => absurd (A.get 2 rfl) z⟩
    obtain ⟨dx, l, m, lim, us, h1, _, _⟩ := id R3.ex
    refine ⟨_, rfl, r, dx, _, rfl, h1, rf_no rR, r, ts, p + 1 + 1 + 1, _, _, rfl, R3, A.get 3 rfl, rfl, fun H4 s4 R4 => ?_⟩
    have hL4 : H4 L = some (.lst []) := s4.keepL R3 (s3.keepL R2 (s2.keepL R1' upd_same))
    refine ⟨_, rfl, .inl ⟨rfl, [], SqL.of hL4⟩, _, rfl, _, rfl, sz 2, fun q2 hq2 => ?_⟩
    have s5 := same_new hq2 (.tup [.str x, .str y])
    have R5 := R4.same s5
    have hL5 := s5 _ _ hL4
    have hpos : ([] : List V).length ≠ ts.length := by
      have := A.pos
      simp only [List.length_nil]
      omega
    refine ⟨L, [], _, rfl, rfl, hL5, szl (by decide), ?_⟩
    have R6 := R5.updL (ys := [.ref q2]) hL5 hpos
    have sx1 : SameX r (upd H1 L (.lst [])) (upd H4 q2 (.tup [.str x, .str y])) := ((s2.trans s3).trans s4).trans (SameX.of s5)
    have fr := s1.fresh R1 hL
    have sx2 : SameX r H (upd (upd H4 q2 (.tup [.str x, .str y])) L (.lst [.ref q2])) := SameX.mut (s1'.trans sx1) fr.1
    obtain ⟨dx, l, m, lim, us, h1, _, _⟩ := id R6.ex
    refine ⟨_, rfl, r, dx, _, rfl, h1, rf_no rA, r, ts, p + 1 + 1 + 1 + 1, _, _, rfl, R6, fun z => absurd z (not_of (A.get 4 rfl) (vne (by decide +kernel))), fun _ => ?_⟩
    refine ⟨0, Nat.zero_lt_one, .inr ⟨rfl, q2, _, _, rfl, sx2, R6, upd_same, ?_⟩⟩
    rw [upd_ne (ne_of upd_same hL5 (by intro y; cases y))]
    exact upd_same
  · refine ⟨_, rfl, false, rfl, iteF ?_⟩
    obtain ⟨dx, l, m, lim, us, h1, _, _⟩ := id R2.ex
    refine ⟨_, rfl, r, dx, _, rfl, h1, rf_no rE, r, ts, p + 4, _, _, rfl, R2, A.get 4 rfl, fun H3 s3 R3 => ?_⟩
    refine ⟨_, rfl, L, _, rfl, .inl ⟨SqL.of (s3.keepL R2 hL2), fun ps hps => ?_⟩⟩
    have s4 := same_new hps (.tup [.ref Q2])
    exact q _ ps Q2 ((s2.trans s3).trans (SameX.of s4)) (R3.same s4) upd_same (s4 _ _ (s3.keepT R2 _ _ hQ2))
def spReadFrom : Sp := fun vs H Q _ => ∃ (r : Addr) (ts : List Tk) (p : Nat) (m : Str), vs = [.ref r] ∧ Rdr K ts H r p ∧ At ts p (frT m) ∧ ∀ H' : Hp, SameX r H H' → Rdr K ts H' r (p + 3) → Q (.str m) H'
theorem c_read_from (T : Tx K mg w) : Cal P w K mg base 4 "read_from" (spReadFrom (K := K)) [] := by
  have c_Reader_read : Met P w K mg base 3 (He.ga K "Reader") "read" (spRead (K := K)) [] := c_Reader_read T
  have c_Reader_expect : Met P w K mg base 3 (He.ga K "Reader") "expect" (spExpect (K := K)) [] := c_Reader_expect T
  obtain ⟨fd, F⟩ := T.f_read_from
  refine calOf F T.g_read_from (b_read_from F) sc_read_from (fun vs H Q E h => ?_) (fun cdv A outer s H vs Q E hr h => ?_)
  · obtain ⟨_, _, _, _, rfl, _⟩ := h; rfl
  obtain ⟨r, ts, p, m, rfl, R, A, q⟩ := h
  refine ⟨_, (pss_cons (ps_expr (pe_mt c_Reader_expect hr (by decide) (pv 0) (pa_cons pe_str (pa_cons pe_str pa_nil))))
  (pss_cons (ps_set (i := 1) sc_read_from.nd rfl (Or.inl rfl) (pe_mt c_Reader_read hr (by decide) (pv 0) (pa_cons pe_str pa_nil)))
  (pss_cons (ps_expr (pe_mt c_Reader_expect hr (by decide) (pv 0) (pa_cons pe_str (pa_cons pe_str pa_nil))))
  (pss_one (ps_ret (pv 1)))))), ?_⟩
  obtain ⟨dx, l, m', lim, us, h1, _, _⟩ := id R.ex
  refine ⟨_, rfl, r, dx, _, rfl, h1, rf_no rE, r, ts, p, _, _, rfl, R, A.get 0 rfl, fun H1 s1 R1 => ?_⟩
  obtain ⟨dx, l, m', lim, us, h1, _, _⟩ := id R1.ex
  refine ⟨_, rfl, r, dx, _, rfl, h1, rf_no rR, r, ts, p + 1, _, _, rfl, R1, A.get 1 rfl, rfl, fun H2 s2 R2 => ?_⟩
  obtain ⟨dx, l, m', lim, us, h1, _, _⟩ := id R2.ex
  refine ⟨_, rfl, r, dx, _, rfl, h1, rf_no rE, r, ts, p + 1 + 1, _, _, rfl, R2, A.get 2 rfl, fun H3 s3 R3 => ?_⟩
  exact ⟨_, rfl, q _ ((s1.trans s2).trans s3) R3⟩
/-- an item is read -/
def RetItem (K : PySem.W.Frag) (H : Hp) (Q : VK) (r : Addr) (ts : List Tk) (p' : Nat) (it : Item) : Prop := ∀ (H' : Hp) (v : V), SameX r H H' → Rdr K ts H' r p' → ItemAt H' v it → Q v H'
def spReadImport : Sp := fun vs H Q _ => ∃ (r : Addr) (i : Int) (ts : List Tk) (p : Nat) (m x y : Str), vs = [.ref r, .int i] ∧ Rdr K ts H r p ∧
  ((At ts p (sg "*" :: kw "as" :: nm x :: frT m) ∧ RetItem K H Q r ts (p + 6) (.spc m x)) ∨ (At ts p (prT x y ++ frT m) ∧ RetItem K H Q r ts (p + 8) (.imp m x y)))
theorem c_read_import (T : Tx K mg w) : Cal P w K mg base 5 "read_import" (spReadImport (K := K)) [] := by
  have c_Reader_sees_kind : Met P w K mg base 1 (He.ga K "Reader") "sees_kind" (spSeesKind (K := K)) [] := c_Reader_sees_kind T
  have c_Reader_accept : Met P w K mg base 2 (He.ga K "Reader") "accept" (spAccept (K := K)) [] := c_Reader_accept T
  have c_Reader_read : Met P w K mg base 3 (He.ga K "Reader") "read" (spRead (K := K)) [] := c_Reader_read T
  have c_Reader_expect : Met P w K mg base 3 (He.ga K "Reader") "expect" (spExpect (K := K)) [] := c_Reader_expect T
  have c_read_pairs : Cal P w K mg base 4 "read_pairs" (spReadPairs (K := K)) [] := c_read_pairs T
  have c_read_from : Cal P w K mg base 4 "read_from" (spReadFrom (K := K)) [] := c_read_from T
  obtain ⟨fd, F⟩ := T.f_read_import
  refine calOf F T.g_read_import (b_read_import F) sc_read_import (fun vs H Q E h => ?_) (fun cdv A outer s H vs Q E hr h => ?_)
  · obtain ⟨_, _, _, _, _, _, _, rfl, _⟩ := h; rfl
  obtain ⟨r, i, ts, p, m, x, y, rfl, R, h⟩ := h
  refine ⟨_, (pss_cons (ps_if (pt_val (pe_mt c_Reader_sees_kind hr (by decide) (pv 0) (pa_cons pe_str pa_nil))) (pss_never) pss_nil)
  (pss_cons (ps_if (pt_val (pe_mt c_Reader_accept hr (by decide) (pv 0) (pa_cons pe_str (pa_cons pe_str pa_nil)))) (pss_cons (ps_expr (pe_mt c_Reader_expect hr (by decide) (pv 0) (pa_cons pe_str (pa_cons pe_str pa_nil))))
  (pss_cons (ps_set (i := 3) sc_read_import.nd rfl (Or.inl rfl) (pe_mt c_Reader_read hr (by decide) (pv 0) (pa_cons pe_str pa_nil)))
  (pss_one (ps_ret (pe_tup (pa_cons pe_str (pa_cons (pe_c c_read_from hr (by decide) rfl (pa_cons (pv 0) pa_nil)) (pa_cons (pv 3) (pa_cons (pv 1) pa_nil))))))))) pss_nil)
  (pss_cons (ps_set (i := 4) sc_read_import.nd rfl (Or.inl rfl) (pe_c c_read_pairs hr (by decide) rfl (pa_cons (pv 0) pa_nil)))
  (pss_one (ps_ret (pe_tup (pa_cons pe_str (pa_cons (pe_c c_read_from hr (by decide) rfl (pa_cons (pv 0) pa_nil)) (pa_cons (pv 4) (pa_cons (pv 1) pa_nil)))))))))), ?_⟩
  obtain ⟨dx, l, m', lim, us, h1, _, _⟩ := id R.ex
  rcases h with ⟨A, q⟩ | ⟨A, q⟩
  · refine ⟨_, rfl, r, dx, _, rfl, h1, rf_no rK, r, ts, p, _, rfl, R, _, rfl, if_F ?_ ?_⟩
    · rw [show ts[p]? = some (sg "*") from A.get 0 rfl]; decide +kernel
    refine ⟨_, rfl, r, dx, _, rfl, h1, rf_no rA, r, ts, p, _, _, rfl, R, fun _ H1 s1 R1 => ⟨_, rfl, iteT ?_⟩, fun z => absurd (A.get 0 rfl) z⟩
    obtain ⟨dx, l, m', lim, us, h1, _, _⟩ := id R1.ex
    refine ⟨_, rfl, r, dx, _, rfl, h1, rf_no rE, r, ts, p + 1, _, _, rfl, R1, A.get 1 rfl, fun H2 s2 R2 => ?_⟩
    obtain ⟨dx, l, m', lim, us, h1, _, _⟩ := id R2.ex
    refine ⟨_, rfl, r, dx, _, rfl, h1, rf_no rR, r, ts, p + 1 + 1, _, _, rfl, R2, A.get 2 rfl, rfl, fun H3 s3 R3 => ?_⟩
    refine ⟨_, rfl, r, ts, p + 1 + 1 + 1, m, rfl, R3, A.tl.tl.tl, fun H4 s4 R4 => ⟨_, rfl, _, rfl, sz 4, fun t ht => ?_⟩⟩
    have s5 := same_new ht (.tup [.str "space", .str m, .str x, .int i])
    exact q _ _ ((((s1.trans s2).trans s3).trans s4).trans (SameX.of s5)) (R4.same s5) ⟨t, i, rfl, upd_same⟩
  · refine ⟨_, rfl, r, dx, _, rfl, h1, rf_no rK, r, ts, p, _, rfl, R, _, rfl, if_F ?_ ?_⟩
    · rw [show ts[p]? = some (sg "{") from A.get 0 rfl]; decide +kernel
    refine ⟨_, rfl, r, dx, _, rfl, h1, rf_no rA, r, ts, p, _, _, rfl, R, fun z => absurd z (not_of (A.get 0 rfl) (vne (by decide +kernel))), fun _ => ⟨_, rfl, iteF ?_⟩⟩
    refine ⟨_, rfl, r, ts, p, x, y, rfl, R, A.take, fun H1 ps q1 s1 R1 hps hq => ?_⟩
    refine ⟨_, rfl, r, ts, p + 5, m, rfl, R1, At.skip (prT x y) A, fun H2 s2 R2 => ⟨_, rfl, _, rfl, sz 4, fun t ht => ?_⟩⟩
    have s3 := same_new ht (.tup [.str "import", .str m, .ref ps, .int i])
    have k := s2.keepT R1
    exact q _ _ ((s1.trans s2).trans (SameX.of s3)) (R2.same s3) ⟨t, ps, q1, i, rfl, upd_same, s3 _ _ (k _ _ hps), s3 _ _ (k _ _ hq)⟩
/-- a list of items is read -/
def RetItems (K : PySem.W.Frag) (H : Hp) (Q : VK) (r : Addr) (ts : List Tk) (p' : Nat) (its : List Item) : Prop := ∀ (H' : Hp) (l : Addr) (us : List V), SameX r H H' → Rdr K ts H' r p' → H' l = some (.lst us) → ItemL H' us its → Q (.ref l) H'
theorem RetItems.one {H H1 : Hp} {Q : VK} {r : Addr} {ts : List Tk} {p' : Nat} {it : Item} (q : RetItems K H Q r ts p' [it]) (s1 : SameX r H H1) (R1 : Rdr K ts H1 r p') {t : Addr} {xs : List V} (ht : H1 t = none) (hit : ItemAt (upd H1 t (.tup xs)) (.ref t) it) {l : Addr} (hl : upd H1 t (.tup xs) l = none) :
    Q (.ref l) (upd (upd H1 t (.tup xs)) l (.lst [.ref t])) :=
  q _ l _ (s1.trans (SameX.of ((same_new ht _).trans (same_new hl _)))) (R1.same ((same_new ht _).trans (same_new hl _))) upd_same (.cons (hit.keep (KeepT.of (same_new hl _))) .nil)
def spReadExport : Sp := fun vs H Q _ => ∃ (r : Addr) (i : Int) (ts : List Tk) (p : Nat) (m x y : Str) (n : Int), vs = [.ref r, .int i] ∧ Rdr K ts H r p ∧
  ((At ts p (sg "*" :: frT m) ∧ RetItems K H Q r ts (p + 4) [.star m]) ∨ (At ts p (prT x y ++ frT m) ∧ RetItems K H Q r ts (p + 8) [.frm m x y]) ∨ (At ts p (prT x y ++ [sg ";"]) ∧ RetItems K H Q r ts (p + 6) [.exp x y]) ∨
    (At ts p (kw "let" :: letT x n) ∧ RetItems K H Q r ts (p + 5) [.ltI x n, .exp x x]))
theorem c_read_export (T : Tx K mg w) : Cal P w K mg base 12 "read_export" (spReadExport (K := K)) [] := by
  have c_Reader_at : Met P w K mg base 1 (He.ga K "Reader") "at" (spAt (K := K)) [] := c_Reader_at T
  have c_Reader_sees : Met P w K mg base 1 (He.ga K "Reader") "sees" (spSees (K := K)) [] := c_Reader_sees T
  have c_Reader_accept : Met P w K mg base 2 (He.ga K "Reader") "accept" (spAccept (K := K)) [] := c_Reader_accept T
  have c_Reader_expect : Met P w K mg base 3 (He.ga K "Reader") "expect" (spExpect (K := K)) [] := c_Reader_expect T
  have c_read_pairs : Cal P w K mg base 4 "read_pairs" (spReadPairs (K := K)) [] := c_read_pairs T
  have c_read_from : Cal P w K mg base 4 "read_from" (spReadFrom (K := K)) [] := c_read_from T
  have c_read_let : Cal P w K mg base 11 "read_let" (spReadLet (K := K)) [] := c_read_let T
  obtain ⟨fd, F⟩ := T.f_read_export
  refine calOf F T.g_read_export (b_read_export F) sc_read_export (fun vs H Q E h => ?_) (fun cdv A outer s H vs Q E hr h => ?_)
  · obtain ⟨_, _, _, _, _, _, _, _, rfl, _⟩ := h; rfl
  obtain ⟨r, i, ts, p, m, x, y, n, rfl, R, h⟩ := h
  refine ⟨_, (pss_cons (ps_if (pt_val (pe_mt c_Reader_accept hr (by decide) (pv 0) (pa_cons pe_str (pa_cons pe_str pa_nil)))) (pss_one (ps_ret (pe_lst (pa_cons (pe_tup (pa_cons pe_str (pa_cons (pe_c c_read_from hr (by decide) rfl (pa_cons (pv 0) pa_nil)) (pa_cons (pv 1) pa_nil)))) pa_nil)))) pss_nil)
  (pss_cons (ps_if (pt_val (pe_mt c_Reader_sees hr (by decide) (pv 0) (pa_cons pe_str (pa_cons pe_str pa_nil)))) (pss_cons (ps_set (i := 2) sc_read_export.nd rfl (Or.inl rfl) (pe_c c_read_pairs hr (by decide) rfl (pa_cons (pv 0) pa_nil)))
  (pss_cons (ps_if (pt_val (pe_mt c_Reader_sees hr (by decide) (pv 0) (pa_cons pe_str (pa_cons pe_str pa_nil)))) (pss_one (ps_ret (pe_lst (pa_cons (pe_tup (pa_cons pe_str (pa_cons (pe_c c_read_from hr (by decide) rfl (pa_cons (pv 0) pa_nil)) (pa_cons (pv 2) (pa_cons (pv 1) pa_nil))))) pa_nil)))) pss_nil)
  (pss_cons (ps_expr (pe_mt c_Reader_expect hr (by decide) (pv 0) (pa_cons pe_str (pa_cons pe_str pa_nil))))
  (pss_one (ps_ret (pe_lst (pa_cons (pe_tup (pa_cons pe_str (pa_cons (pv 2) (pa_cons (pv 1) pa_nil)))) pa_nil))))))) pss_nil)
  (pss_cons (ps_set (i := 3) sc_read_export.nd rfl (Or.inl rfl) (pe_mt0 c_Reader_at hr (by decide) (pv 0)))
  (pss_cons (ps_if (pt_val (pe_mt c_Reader_accept hr (by decide) (pv 0) (pa_cons pe_str (pa_cons pe_str pa_nil)))) (pss_one (ps_set (i := 4) sc_read_export.nd rfl (Or.inl rfl) (pe_c c_read_let hr (by decide) rfl (pa_cons (pv 0) (pa_cons (pv 3) (pa_cons pe_int pa_nil)))))) (pss_never))
  (pss_one (ps_ret (pe_lst (pa_cons (pv 4) (pa_cons (pe_tup (pa_cons pe_str (pa_cons (pe_tup (pa_cons (pe_tup (pa_cons (pe_ix ix_tup (pv 4) pe_int (fun _ _ => rfl)) (pa_cons (pe_ix ix_tup (pv 4) pe_int (fun _ _ => rfl)) pa_nil))) pa_nil)) (pa_cons (pv 1) pa_nil)))) pa_nil))))))))), ?_⟩
  obtain ⟨dx, l, m', lim, us, h1, _, _⟩ := id R.ex
  rcases h with ⟨A, q⟩ | ⟨A, q⟩ | ⟨A, q⟩ | ⟨A, q⟩
  · refine ⟨_, rfl, r, dx, _, rfl, h1, rf_no rA, r, ts, p, _, _, rfl, R, fun _ H1 s1 R1 => ⟨_, rfl, iteT ?_⟩, fun z => absurd (A.get 0 rfl) z⟩
    refine ⟨_, rfl, r, ts, p + 1, m, rfl, R1, A.tl, fun H2 s2 R2 => ⟨_, rfl, sz 3, fun t ht => ⟨sz 1, fun l hl => ?_⟩⟩⟩
    exact q.one (s1.trans s2) R2 ht ⟨t, i, rfl, upd_same⟩ hl
  · refine ⟨_, rfl, r, dx, _, rfl, h1, rf_no rA, r, ts, p, _, _, rfl, R, fun z => absurd z (not_of (A.get 0 rfl) (vne (by decide +kernel))), fun _ => ⟨_, rfl, iteF ?_⟩⟩
    refine ⟨_, rfl, r, dx, _, rfl, h1, rf_no rS, r, ts, p, _, _, rfl, R, _, rfl, if_T (decide_eq_true (A.get 0 rfl)) ?_⟩
    refine ⟨_, rfl, r, ts, p, x, y, rfl, R, A.take, fun H1 ps q1 s1 R1 hps hq => ?_⟩
    have A2 := At.skip (prT x y) A
    obtain ⟨dx, l, m', lim, us, h1, _, _⟩ := id R1.ex
    refine ⟨_, rfl, r, dx, _, rfl, h1, rf_no rS, r, ts, p + 5, _, _, rfl, R1, _, rfl, if_T (decide_eq_true (A2.get 0 rfl)) ?_⟩
    refine ⟨_, rfl, r, ts, p + 5, m, rfl, R1, A2, fun H2 s2 R2 => ⟨_, rfl, _, rfl, sz 4, fun t ht => ⟨sz 1, fun l hl => ?_⟩⟩⟩
    have k := s2.keepT R1
    exact q.one (s1.trans s2) R2 ht ⟨t, ps, q1, i, rfl, upd_same, same_new ht _ _ _ (k _ _ hps), same_new ht _ _ _ (k _ _ hq)⟩ hl
  · refine ⟨_, rfl, r, dx, _, rfl, h1, rf_no rA, r, ts, p, _, _, rfl, R, fun z => absurd z (not_of (A.get 0 rfl) (vne (by decide +kernel))), fun _ => ⟨_, rfl, iteF ?_⟩⟩
    refine ⟨_, rfl, r, dx, _, rfl, h1, rf_no rS, r, ts, p, _, _, rfl, R, _, rfl, if_T (decide_eq_true (A.get 0 rfl)) ?_⟩
    refine ⟨_, rfl, r, ts, p, x, y, rfl, R, A.take, fun H1 ps q1 s1 R1 hps hq => ?_⟩
    have A2 := At.skip (prT x y) A
    obtain ⟨dx, l, m', lim, us, h1, _, _⟩ := id R1.ex
    refine ⟨_, rfl, r, dx, _, rfl, h1, rf_no rS, r, ts, p + 5, _, _, rfl, R1, _, rfl, if_F (decide_eq_false (not_of (A2.get 0 rfl) (kne (by decide +kernel)))) ?_⟩
    refine ⟨_, rfl, r, dx, _, rfl, h1, rf_no rE, r, ts, p + 5, _, _, rfl, R1, A2.get 0 rfl, fun H2 s2 R2 => ?_⟩
    refine ⟨_, rfl, _, rfl, sz 3, fun t ht => ⟨sz 1, fun l hl => ?_⟩⟩
    have k := s2.keepT R1
    exact q.one (s1.trans s2) R2 ht ⟨t, ps, q1, i, rfl, upd_same, same_new ht _ _ _ (k _ _ hps), same_new ht _ _ _ (k _ _ hq)⟩ hl
  · refine ⟨_, rfl, r, dx, _, rfl, h1, rf_no rA, r, ts, p, _, _, rfl, R, fun z => absurd z (not_of (A.get 0 rfl) (kne (by decide +kernel))), fun _ => ⟨_, rfl, iteF ?_⟩⟩
    refine ⟨_, rfl, r, dx, _, rfl, h1, rf_no rS, r, ts, p, _, _, rfl, R, _, rfl, if_F (decide_eq_false (not_of (A.get 0 rfl) (kne (by decide +kernel)))) ?_⟩
    refine ⟨_, rfl, r, dx, _, rfl, h1, rf_no rT, r, ts, p, rfl, R, fun i2 => ?_⟩
    refine ⟨_, rfl, r, dx, _, rfl, h1, rf_no rA, r, ts, p, _, _, rfl, R, fun _ H1 s1 R1 => ⟨_, rfl, iteT ?_⟩, fun z => absurd (A.get 0 rfl) z⟩
    refine ⟨_, rfl, _, rfl, r, i2, 1, ts, p + 1, x, n, rfl, R1, A.tl, fun H2 t e s2 R2 ht he => ?_⟩
    refine ⟨_, rfl, _, rfl, t, _, 1, _, rfl, rfl, SqT.of ht, rfl, _, rfl, t, _, 1, _, rfl, rfl, SqT.of ht, rfl, sz 2, fun a ha => ⟨sz 1, fun b hb => ⟨_, rfl, sz 3, fun c hc => ⟨sz 2, fun l hl => ?_⟩⟩⟩⟩
    have sa := same_new ha (.tup [.str x, .str x])
    have sb := same_new hb (.tup [.ref a])
    have sc := same_new hc (.tup [.str "export", .ref b, .int i])
    have sl := same_new hl (.lst [.ref t, .ref c])
    have s3 := ((sa.trans sb).trans sc).trans sl
    exact q _ l _ ((s1.trans s2).trans (SameX.of s3)) (R2.same s3) upd_same (.cons ⟨t, e, i2, rfl, s3 _ _ ht, s3 _ _ he⟩ (.cons ⟨c, b, a, i, rfl, sl _ _ upd_same, (sc.trans sl) _ _ upd_same, ((sb.trans sc).trans sl) _ _ upd_same⟩ .nil))
end
end Fz
set_option Elab.async false
set_option linter.all false
set_option maxRecDepth 100000
set_option maxHeartbeats 4000000
namespace Fz
open PySem PyProof.Rows L2
open C8 (Cal Met Mak pe_c pe_mk pe_mt pe_mt0 pe_gc)
def depI : Item → Int
  | .ltI _ _ => 2
  | _ => 1
def kindI : List Str := ["export", "from", "import", "space", "star"]
theorem kindI_no : ∀ k ∈ kindI, (∀ x ∈ (["let", "set", "fun", "if", "repeat", "block", "try"] : List Str), ¬ k = x) ∧ inV (.str k) [.str "do", .str "tell", .str "return", .str "throw"] = false := by decide +kernel
theorem dstr {a b : Str} (h : ¬ a = b) : decide (V.str a = V.str b) = false := decide_eq_false fun e => h (V.str.inj e)
theorem tksOk_pc : ∀ pc : Pc, TksOk pc.toks := by
  intro pc t ht x
  have S : ∀ (k y : Str), scal (⟨k, .str y⟩ : Tk).val (.str x) = true := fun _ _ => rfl
  have I : ∀ (k : Str) (n : Int), scal (⟨k, .int n⟩ : Tk).val (.str x) = true := fun _ _ => rfl
  cases pc <;> simp only [Pc.toks, letT, prT, frT, kw, nm, sg, sr, nu, List.mem_cons, List.mem_append, List.mem_singleton, List.not_mem_nil, or_false, List.cons_append, List.nil_append] at ht <;>
    (repeat' (rcases ht with rfl | ht)) <;> first | exact S _ _ | exact I _ _ | (subst ht; first | exact S _ _ | exact I _ _)
theorem tksOk_pcs (pcs : List Pc) : TksOk (pcs.flatMap Pc.toks) := by
  intro t ht
  obtain ⟨pc, _, h⟩ := List.mem_flatMap.mp ht
  exact tksOk_pc pc t h
theorem pc_len (pc : Pc) : 5 ≤ pc.toks.length ∧ pc.items.length ≤ 2 := by cases pc <;> simp [Pc.toks, Pc.items, letT, prT, frT]
theorem pcs_len : ∀ pcs : List Pc, 5 * pcs.length ≤ (pcs.flatMap Pc.toks).length ∧ (pcs.flatMap Pc.items).length ≤ 2 * pcs.length
  | [] => by simp
  | pc :: r => by
    have h1 := pc_len pc
    have h2 := pcs_len r
    simp only [List.flatMap_cons, List.length_append, List.length_cons]
    omega
section
variable {P : Program} {w : World} {K : PySem.W.Frag} {mg : Str → Option Value} {base : Heap}
def spExprDepth : Sp := fun vs H Q _ => ∃ (e : Addr) (n : Int), vs = [.ref e] ∧ H e = some (.tup [.str "int", .int n]) ∧ ∀ H' : Hp, Same H H' → Q (.int 1) H'
theorem c_expression_depth (T : Tx K mg w) : Cal P w K mg base 1 "expression_depth" spExprDepth [] := by
  obtain ⟨fd, F⟩ := T.f_expression_depth
  refine calOf F T.g_expression_depth (b_expression_depth F) sc_expression_depth (fun vs H Q E h => ?_) (fun cdv A outer s H vs Q E hr h => ?_)
  · obtain ⟨_, _, rfl, _⟩ := h; rfl
  obtain ⟨e, n, rfl, he, q⟩ := h
  refine ⟨_, (pss_cons (ps_set (i := 1) sc_expression_depth.nd rfl (Or.inl rfl) (pe_ix ix_tup (pv 0) pe_int (fun _ _ => rfl)))
  (pss_cons (ps_if (pt_cmpR op_in_seq (pv 1) (pe_tup (pa_cons pe_str (pa_cons pe_str (pa_cons pe_str (pa_cons pe_str (pa_cons pe_str pa_nil)))))) (by rfl)) (pss_one (ps_ret pe_int)) pss_nil)
  (pss_never))), ?_⟩
  refine ⟨_, rfl, e, _, 0, _, rfl, rfl, SqT.of he, rfl, ?_⟩
  refine ⟨_, rfl, sz 5, fun p hp => ⟨p, _, rfl, .inr (.inl (.inl upd_same)), rfl, rfl, _, rfl, if_T (by decide +kernel) ?_⟩⟩
  exact q _ (same_new hp _)
def spDepth : Sp := fun vs H Q _ => ∃ (v : V) (it : Item), vs = [v] ∧ ItemAt H v it ∧ ∀ H' : Hp, Same H H' → Q (.int (depI it)) H'
theorem c_depth (T : Tx K mg w) : Cal P w K mg base 2 "depth" spDepth [] := by
  have c_expression_depth : Cal P w K mg base 1 "expression_depth" spExprDepth [] := c_expression_depth T
  obtain ⟨fd, F⟩ := T.f_depth
  refine calOf F T.g_depth (b_depth F) sc_depth (fun vs H Q E h => ?_) (fun cdv A outer s H vs Q E hr h => ?_)
  · obtain ⟨_, _, rfl, _⟩ := h; rfl
  obtain ⟨v, it, rfl, hi, q⟩ := h
  have hcase : (∃ (t e : Addr) (x : Str) (i n : Int), v = .ref t ∧ H t = some (.tup [.str "let", .str x, .ref e, .int i]) ∧ H e = some (.tup [.str "int", .int n]) ∧ depI it = 2) ∨
      (∃ (t : Addr) (k : Str) (more : List V), v = .ref t ∧ H t = some (.tup (.str k :: more)) ∧ k ∈ kindI ∧ depI it = 1) := by
    cases it with
    | ltI x n => obtain ⟨t, e, i, h0, h1, h2⟩ := hi; exact .inl ⟨t, e, x, i, n, h0, h1, h2, rfl⟩
    | exp x y => obtain ⟨t, ps, q, i, h0, h1, _⟩ := hi; exact .inr ⟨t, _, _, h0, h1, by decide +kernel, rfl⟩
    | frm m x y => obtain ⟨t, ps, q, i, h0, h1, _⟩ := hi; exact .inr ⟨t, _, _, h0, h1, by decide +kernel, rfl⟩
    | imp m x y => obtain ⟨t, ps, q, i, h0, h1, _⟩ := hi; exact .inr ⟨t, _, _, h0, h1, by decide +kernel, rfl⟩
    | spc m x => obtain ⟨t, i, h0, h1⟩ := hi; exact .inr ⟨t, _, _, h0, h1, by decide +kernel, rfl⟩
    | star m => obtain ⟨t, i, h0, h1⟩ := hi; exact .inr ⟨t, _, _, h0, h1, by decide +kernel, rfl⟩
  refine ⟨_, (pss_cons (ps_set (i := 1) sc_depth.nd rfl (Or.inl rfl) (pe_ix ix_tup (pv 0) pe_int (fun _ _ => rfl)))
  (pss_cons (ps_if (PW.pt (pw_or (pt_cmpR op_eq (pv 1) pe_str (nomark _)) (pw_or1 (pt_cmpR op_eq (pv 1) pe_str (nomark _))))) (pss_one (ps_ret (pe_op op_add pe_int (pe_c c_expression_depth hr (by omega) rfl (pa_cons (pe_ix ix_tup (pv 0) pe_int (fun _ _ => rfl)) pa_nil))))) pss_nil)
  (pss_cons (ps_if (pt_cmpR op_eq (pv 1) pe_str (nomark _)) (pss_one (ps_never)) pss_nil)
  (pss_cons (ps_if (pt_cmpR op_in_seq (pv 1) (pe_tup (pa_cons pe_str (pa_cons pe_str (pa_cons pe_str (pa_cons pe_str pa_nil))))) (by rfl)) (pss_one (ps_never)) pss_nil)
  (pss_cons (ps_if (pt_cmpR op_eq (pv 1) pe_str (nomark _)) (pss_one (ps_never)) pss_nil)
  (pss_cons (ps_if (pt_cmpR op_eq (pv 1) pe_str (nomark _)) (pss_one (ps_never)) pss_nil)
  (pss_cons (ps_if (pt_cmpR op_eq (pv 1) pe_str (nomark _)) (pss_one (ps_never)) pss_nil)
  (pss_cons (ps_if (pt_cmpR op_eq (pv 1) pe_str (nomark _)) (pss_one (ps_never)) pss_nil)
  (pss_one (ps_ret pe_int)))))))))), ?_⟩
  rcases hcase with ⟨t, e, x, i, n, rfl, h1, h2, hd⟩ | ⟨t, k, more, rfl, h1, hk, hd⟩
  · rw [hd] at q
    refine ⟨_, rfl, t, _, 0, _, rfl, rfl, SqT.of h1, rfl, ?_⟩
    refine ⟨_, rfl, rfl, _, rfl, if_T (by decide +kernel) ?_⟩
    refine iteT ⟨_, rfl, t, _, 2, _, rfl, rfl, SqT.of h1, rfl, e, n, rfl, h2, fun H' s' => ⟨_, _, rfl, rfl, q _ s'⟩⟩
  · rw [hd] at q
    obtain ⟨hno, hin⟩ := kindI_no k hk
    refine ⟨_, rfl, t, _, 0, _, rfl, rfl, SqT.of h1, (show atI (V.str k :: more) ((0 : Nat) : Int) = some (.str k) from atI_nat rfl), ?_⟩
    refine ⟨_, rfl, rfl, _, rfl, if_F (dstr (hno _ (by decide +kernel))) ?_⟩
    refine ⟨_, rfl, rfl, _, rfl, if_F (dstr (hno _ (by decide +kernel))) ?_⟩
    refine ⟨_, rfl, rfl, _, rfl, if_F (dstr (hno _ (by decide +kernel))) ?_⟩
    refine ⟨_, rfl, sz 4, fun p hp => ⟨p, _, rfl, .inr (.inl (.inl upd_same)), rfl, rfl, _, rfl, if_F hin ?_⟩⟩
    refine ⟨_, rfl, rfl, _, rfl, if_F (dstr (hno _ (by decide +kernel))) ?_⟩
    refine ⟨_, rfl, rfl, _, rfl, if_F (dstr (hno _ (by decide +kernel))) ?_⟩
    refine ⟨_, rfl, rfl, _, rfl, if_F (dstr (hno _ (by decide +kernel))) ?_⟩
    refine ⟨_, rfl, rfl, _, rfl, if_F (dstr (hno _ (by decide +kernel))) ?_⟩
    exact q _ (same_new hp _)
/-! ## parse -/
def spParse : Sp := fun vs H Q _ => ∃ (z : Str) (m : V) (pcs : List Pc), vs = [.str z, m] ∧ z.length ≤ 20000 ∧ pcs.length ≤ 1000 ∧ Lex (tl z) (pcs.flatMap Pc.toks) ∧
  ∀ (H' : Hp) (l : Addr), Same H H' → H l = none → ItemsAt H' l (pcs.flatMap Pc.items) → Q (.ref l) H'
/-- the invariant of its loop -/
def PInv (K : PySem.W.Frag) (H0 : Hp) (z m : V) (pcs : List Pc) (r : Addr) (k : Nat) (σ : List (Option V)) (H : Hp) : Prop :=
  ∃ (l : Addr) (x : Option V) (dn rest : List Pc), σ = [some z, some m, some (.ref r), some (.ref l), x] ∧ pcs = dn ++ rest ∧ Same H0 H ∧ H0 l = none ∧ Rdr K (pcs.flatMap Pc.toks) H r (dn.flatMap Pc.toks).length ∧ ItemsAt H l (dn.flatMap Pc.items) ∧ k = rest.length
theorem same_of_X {r : Addr} {H0 H H' : Hp} (s : Same H0 H) (h : H0 r = none) (x : SameX r H H') : Same H0 H' := fun b o hb => x b o (ne_of_none hb h) (s b o hb)
theorem flat_split (dn rest : List Pc) (pc : Pc) : (dn ++ pc :: rest).flatMap Pc.toks = dn.flatMap Pc.toks ++ (pc.toks ++ rest.flatMap Pc.toks) := by
  rw [List.flatMap_append, List.flatMap_cons]
theorem flat_at (dn rest : List Pc) (pc : Pc) : At ((dn ++ pc :: rest).flatMap Pc.toks) (dn.flatMap Pc.toks).length pc.toks :=
  ⟨rest.flatMap Pc.toks, by rw [flat_split, List.drop_left]⟩
theorem flat_snoc_t (dn : List Pc) (pc : Pc) : (dn ++ [pc]).flatMap Pc.toks = dn.flatMap Pc.toks ++ pc.toks := by
  rw [List.flatMap_append, List.flatMap_cons, List.flatMap_nil, List.append_nil]
theorem flat_snoc_i (dn : List Pc) (pc : Pc) : (dn ++ [pc]).flatMap Pc.items = dn.flatMap Pc.items ++ pc.items := by
  rw [List.flatMap_append, List.flatMap_cons, List.flatMap_nil, List.append_nil]
theorem c_parse (T : Tx K mg w) : Cal P w K mg base 13 "parse" spParse [] := by
  have c_Reader : Mak P w K mg base 7 "Reader" (He.ga K "Reader") (spInit (K := K)) [] := c_Reader T
  have c_Reader_at : Met P w K mg base 1 (He.ga K "Reader") "at" (spAt (K := K)) [] := c_Reader_at T
  have c_Reader_accept : Met P w K mg base 2 (He.ga K "Reader") "accept" (spAccept (K := K)) [] := c_Reader_accept T
  have c_read_import : Cal P w K mg base 5 "read_import" (spReadImport (K := K)) [] := c_read_import T
  have c_read_export : Cal P w K mg base 12 "read_export" (spReadExport (K := K)) [] := c_read_export T
  have c_read_statement : Cal P w K mg base 12 "read_statement" (spReadStmt (K := K)) [] := c_read_statement T
  have c_depth : Cal P w K mg base 2 "depth" spDepth [] := c_depth T
  obtain ⟨fd, F⟩ := T.f_parse
  refine calOf F T.g_parse (b_parse F) sc_parse (fun vs H Q E h => ?_) (fun cdv A outer s H vs Q E hr h => ?_)
  · obtain ⟨_, _, _, rfl, _⟩ := h; rfl
  obtain ⟨z, m, pcs, rfl, hz, hp, hl, q⟩ := h
  refine ⟨_, (pss_cons (ps_set (i := 2) sc_parse.nd rfl (Or.inl rfl) (pe_mk c_Reader hr (by omega) rfl (pa_cons (pv 0) (pa_cons (pv 1) pa_nil))))
  (pss_cons (ps_set (i := 3) sc_parse.nd rfl (Or.inl rfl) (pe_lst pa_nil))
  (pss_cons (ps_while PassesOwn.never (pt_cmpR op_lt (pe_fld (pv 2) rfl) (pe_callB call_len_seq (by rfl) T.z_len PySem.boot_len (pa_cons (pe_fld (pv 2) rfl) pa_nil)) (nomark _)) (pss_cons (ps_set (i := 4) sc_parse.nd rfl (Or.inl rfl) (pe_mt0 c_Reader_at hr (by omega) (pv 2)))
  (C8.pss_cut (ps_if (pt_val (pe_mt c_Reader_accept hr (by omega) (pv 2) (pa_cons pe_str (pa_cons pe_str pa_nil)))) (pss_one (ps_expr (pe_bm PySem.F.plainAttrs_list PySem.F.slot_list_append PySem.F.type_list_append mt_append (pv 3) (pa_cons (pe_c c_read_import hr (by omega) rfl (pa_cons (pv 2) (pa_cons (pv 4) pa_nil))) pa_nil)))) (pss_one (ps_if (pt_val (pe_mt c_Reader_accept hr (by omega) (pv 2) (pa_cons pe_str (pa_cons pe_str pa_nil)))) (pss_one (ps_set (i := 3) sc_parse.nd rfl (Or.inl rfl) (pe_op op_cat (pv 3) (pe_c c_read_export hr (by omega) rfl (pa_cons (pv 2) (pa_cons (pv 4) pa_nil)))))) (pss_one (ps_expr (pe_bm PySem.F.plainAttrs_list PySem.F.slot_list_append PySem.F.type_list_append mt_append (pv 3) (pa_cons (pe_c c_read_statement hr (by omega) rfl (pa_cons (pv 2) (pa_cons pe_int pa_nil))) pa_nil)))))))
  (pss_one (ps_if (PW.pt (pw_or (pt_cmpR op_gt (pe_c c_depth hr (by omega) rfl (pa_cons (pe_ix ix_list (pv 3) (pe_op op_sub (pe_callB call_len_seq (by rfl) T.z_len PySem.boot_len (pa_cons (pv 3) pa_nil)) pe_int) (fun _ _ => rfl)) pa_nil)) (pe_gc rfl T.k_MAX_DEPTH) (nomark _)) (pw_or1 (PW.pt (pw_and (pt_cmpR op_gt (pe_callB call_len_seq (by rfl) T.z_len PySem.boot_len (pa_cons (pv 3) pa_nil)) pe_int (nomark _)) (pw_and1 (pt_cmpR op_gt (pe_c c_depth hr (by omega) rfl (pa_cons (pe_ix ix_list (pv 3) (pe_op op_sub (pe_callB call_len_seq (by rfl) T.z_len PySem.boot_len (pa_cons (pv 3) pa_nil)) pe_int) (fun _ _ => rfl)) pa_nil)) (pe_gc rfl T.k_MAX_DEPTH) (nomark _)))))))) (pss_one (ps_never)) pss_nil)))))
  (pss_one (ps_ret (pv 3)))))), ?_⟩
  refine ⟨_, rfl, _, rfl, fun r dx hr0 hdx nex => ?_⟩
  refine ⟨_, dx, r, z, m, _, rfl, upd_same, T.cl_Reader, hz, hl, tksOk_pcs pcs, rfl, fun H1 s1 R1 => ⟨rfl, ?_⟩⟩
  have s2 : Same H H1 := fun b o hb => by
    have nr : b ≠ r := ne_of_none hb hr0
    have nd : b ≠ dx := ne_of_none hb hdx
    exact s1 b o nr (by rw [upd_ne nr, upd_ne nd]; exact hb)
  refine ⟨Nat.zero_le _, fun l hl0 => ?_⟩
  have sn := same_new hl0 (.lst [])
  refine ⟨PInv K H (.str z) m pcs r, ⟨pcs.length, l, none, [], pcs, rfl, rfl, s2.trans sn, s2.free hl0, R1.same sn, ⟨[], upd_same, .nil⟩, rfl⟩, ?_⟩
  rintro k σ H2 ⟨l, x, dn, rest, rfl, hpc, s3, hl3, R, ⟨us, e1, t1⟩, rfl⟩
  obtain ⟨dx2, tl2, m2, lim, tus, h1, h2, h3⟩ := id R.ex
  have htl := Paired.len (show Paired _ tus _ from h3)
  have hul := Paired.len (show Paired _ us _ from t1)
  refine ⟨_, rfl, r, _, dx2, _, _, rfl, h1, T.cl_Reader, T.n_Reader_place, rf_place, _, rfl, r, _, dx2, _, _, rfl, h1, T.cl_Reader, T.n_Reader_rest, rf_rest, tl2, _, rfl, .inl (SqL.of h2), _, _, rfl, rfl, _, rfl, ?_⟩
  cases rest with
  | nil =>
    rw [List.append_nil] at hpc
    subst hpc
    refine if_F (decide_eq_false (by rw [htl]; omega)) ?_
    exact ⟨_, rfl, q _ l s3 hl3 ⟨us, e1, t1⟩⟩
  | cons pc rest =>
    subst hpc
    have hA := flat_at dn rest pc
    have hlen2 : (dn.flatMap Pc.toks).length < tus.length := by
      rw [htl, flat_split, List.length_append, List.length_append]
      have := (pc_len pc).1
      omega
    have hL1 := pcs_len dn
    have hL2 := pcs_len (dn ++ pc :: rest)
    have hdn : dn.length ≤ 1000 := by
      rw [List.length_append] at hp
      omega
    have hus : us.length ≠ ((dn ++ pc :: rest).flatMap Pc.toks).length := by
      rw [List.length_append, List.length_cons] at hL2
      omega
    refine if_T (decide_eq_true (by omega)) ⟨_, fun _ _ h => h, ?_⟩
    refine ⟨_, rfl, r, dx2, _, rfl, h1, rf_no rT, r, _, _, rfl, R, fun i => ?_⟩
    refine ⟨fun σ' H' => ∃ (l' : Addr), σ' = [some (.str z), some m, some (.ref r), some (.ref l'), some (.int i)] ∧ Same H H' ∧ H l' = none ∧ Rdr K ((dn ++ pc :: rest).flatMap Pc.toks) H' r ((dn ++ [pc]).flatMap Pc.toks).length ∧ ItemsAt H' l' ((dn ++ [pc]).flatMap Pc.items), ?_, ?_⟩
    · have hA0 : At ((dn ++ pc :: rest).flatMap Pc.toks) (dn.flatMap Pc.toks).length pc.toks := hA
      have hpl : ((dn ++ [pc]).flatMap Pc.toks).length = (dn.flatMap Pc.toks).length + pc.toks.length := by rw [flat_snoc_t, List.length_append]
      rw [hpl, flat_snoc_i]
      have hrH : ∀ {H' : Hp}, SameX r H2 H' → Same H H' := fun x => same_of_X s3 hr0 x
      -- one item, appended
      have app1 : ∀ {H3 : Hp} {v : V} {it : Item} {p' : Nat}, SameX r H2 H3 → Rdr K ((dn ++ pc :: rest).flatMap Pc.toks) H3 r p' → ItemAt H3 v it →
          H3 l = some (.lst us) ∧ (Same H (upd H3 l (.lst (us ++ [v]))) ∧ Rdr K ((dn ++ pc :: rest).flatMap Pc.toks) (upd H3 l (.lst (us ++ [v]))) r p' ∧ ItemsAt (upd H3 l (.lst (us ++ [v]))) l (dn.flatMap Pc.items ++ [it])) := fun {H3 v it p'} x R3 hv => by
        have e3 := x.keepL R e1
        have kp := KeepT.trans (x.keepT R) (KeepT.updL (ys := us ++ [v]) e3)
        exact ⟨e3, Fz.Same.mut (hrH x) hl3, R3.updL e3 hus, us ++ [v], upd_same, Paired.snoc (hv.keep (KeepT.updL e3)) (ItemL.keep kp t1)⟩
      -- items of an export
      have cat : ∀ {H3 : Hp} {l2 : Addr} {us2 : List V} {its : List Item} {p' : Nat}, SameX r H2 H3 → Rdr K ((dn ++ pc :: rest).flatMap Pc.toks) H3 r p' → H3 l2 = some (.lst us2) → ItemL H3 us2 its → ∀ q, H3 q = none →
          Same H (upd H3 q (.lst (us ++ us2))) ∧ H q = none ∧ Rdr K ((dn ++ pc :: rest).flatMap Pc.toks) (upd H3 q (.lst (us ++ us2))) r p' ∧ ItemsAt (upd H3 q (.lst (us ++ us2))) q (dn.flatMap Pc.items ++ its) := fun {H3 l2 us2 its p'} x R3 e2 t2 q hq => by
        have sq := same_new hq (.lst (us ++ us2))
        exact ⟨(hrH x).trans sq, (hrH x).free hq, R3.same sq, us ++ us2, upd_same, Paired.app (ItemL.keep (KeepT.trans (x.keepT R) (KeepT.of sq)) t1) (ItemL.keep (KeepT.of sq) t2)⟩
      have small : ∀ {H' : Hp} {us2 : List V} {its : List Item}, ItemL H' us2 its → (decide (its.length ≤ 2)) = true → us.length + us2.length ≤ sizeLine := fun {H' us2 its} t2 h2 => by
        have h3 := Paired.len (show Paired _ us2 its from t2)
        have h4 := of_decide_eq_true h2
        exact sz _ (by omega)
      cases pc with
      | imp m1 x1 y1 =>
        refine ⟨_, rfl, r, dx2, _, rfl, h1, rf_no rA, r, _, _, _, _, rfl, R, fun _ H3 s4 R3 => ⟨_, rfl, iteT ?_⟩, fun zz => absurd (hA.get 0 rfl) zz⟩
        refine ⟨_, rfl, .inl ⟨rfl, us, SqL.of (s4.keepL R e1)⟩, _, rfl, _, rfl, r, i, _, _, m1, x1, y1, rfl, R3, .inr ⟨hA.tl, fun H4 v s5 R4 hv => ?_⟩⟩
        obtain ⟨e4, a1, a2, a3⟩ := app1 (s4.trans s5) R4 hv
        exact ⟨l, us, _, rfl, rfl, e4, szl (by omega), l, rfl, a1, hl3, a2, a3⟩
      | spc m1 x1 =>
        refine ⟨_, rfl, r, dx2, _, rfl, h1, rf_no rA, r, _, _, _, _, rfl, R, fun _ H3 s4 R3 => ⟨_, rfl, iteT ?_⟩, fun zz => absurd (hA.get 0 rfl) zz⟩
        refine ⟨_, rfl, .inl ⟨rfl, us, SqL.of (s4.keepL R e1)⟩, _, rfl, _, rfl, r, i, _, _, m1, x1, x1, rfl, R3, .inl ⟨hA.tl, fun H4 v s5 R4 hv => ?_⟩⟩
        obtain ⟨e4, a1, a2, a3⟩ := app1 (s4.trans s5) R4 hv
        exact ⟨l, us, _, rfl, rfl, e4, szl (by omega), l, rfl, a1, hl3, a2, a3⟩
      | let_ x1 n1 =>
        refine ⟨_, rfl, r, dx2, _, rfl, h1, rf_no rA, r, _, _, _, _, rfl, R, fun zz => absurd zz (not_of (hA.get 0 rfl) (vne (by decide +kernel))), fun _ => ⟨_, rfl, iteF ?_⟩⟩
        refine ⟨_, rfl, r, dx2, _, rfl, h1, rf_no rA, r, _, _, _, _, rfl, R, fun zz => absurd zz (not_of (hA.get 0 rfl) (vne (by decide +kernel))), fun _ => ⟨_, rfl, iteF ?_⟩⟩
        refine ⟨_, rfl, .inl ⟨rfl, us, SqL.of e1⟩, _, rfl, r, 1, _, _, x1, n1, rfl, R, hA, fun H4 v s5 R4 hv => ?_⟩
        obtain ⟨e4, a1, a2, a3⟩ := app1 s5 R4 hv
        exact ⟨l, us, _, rfl, rfl, e4, szl (by omega), l, rfl, a1, hl3, a2, a3⟩
      | star m1 =>
        refine ⟨_, rfl, r, dx2, _, rfl, h1, rf_no rA, r, _, _, _, _, rfl, R, fun zz => absurd zz (not_of (hA.get 0 rfl) (vne (by decide +kernel))), fun _ => ⟨_, rfl, iteF ?_⟩⟩
        refine ⟨_, rfl, r, dx2, _, rfl, h1, rf_no rA, r, _, _, _, _, rfl, R, fun _ H3 s4 R3 => ⟨_, rfl, iteT ?_⟩, fun zz => absurd (hA.get 0 rfl) zz⟩
        refine ⟨_, rfl, _, rfl, _, rfl, r, i, _, _, m1, m1, m1, 0, rfl, R3, .inl ⟨hA.tl, fun H4 l2 us2 s5 R4 e4 t4 => ⟨l, l2, us, us2, rfl, rfl, (s4.trans s5).keepL R e1, e4, small t4 rfl, fun q2 hq2 => ?_⟩⟩⟩
        obtain ⟨a1, a2, a3, a4⟩ := cat (s4.trans s5) R4 e4 t4 q2 hq2
        exact ⟨q2, rfl, a1, a2, a3, a4⟩
      | frm m1 x1 y1 =>
        refine ⟨_, rfl, r, dx2, _, rfl, h1, rf_no rA, r, _, _, _, _, rfl, R, fun zz => absurd zz (not_of (hA.get 0 rfl) (vne (by decide +kernel))), fun _ => ⟨_, rfl, iteF ?_⟩⟩
        refine ⟨_, rfl, r, dx2, _, rfl, h1, rf_no rA, r, _, _, _, _, rfl, R, fun _ H3 s4 R3 => ⟨_, rfl, iteT ?_⟩, fun zz => absurd (hA.get 0 rfl) zz⟩
        refine ⟨_, rfl, _, rfl, _, rfl, r, i, _, _, m1, x1, y1, 0, rfl, R3, .inr (.inl ⟨hA.tl, fun H4 l2 us2 s5 R4 e4 t4 => ⟨l, l2, us, us2, rfl, rfl, (s4.trans s5).keepL R e1, e4, small t4 rfl, fun q2 hq2 => ?_⟩⟩)⟩
        obtain ⟨a1, a2, a3, a4⟩ := cat (s4.trans s5) R4 e4 t4 q2 hq2
        exact ⟨q2, rfl, a1, a2, a3, a4⟩
      | exp x1 y1 =>
        refine ⟨_, rfl, r, dx2, _, rfl, h1, rf_no rA, r, _, _, _, _, rfl, R, fun zz => absurd zz (not_of (hA.get 0 rfl) (vne (by decide +kernel))), fun _ => ⟨_, rfl, iteF ?_⟩⟩
        refine ⟨_, rfl, r, dx2, _, rfl, h1, rf_no rA, r, _, _, _, _, rfl, R, fun _ H3 s4 R3 => ⟨_, rfl, iteT ?_⟩, fun zz => absurd (hA.get 0 rfl) zz⟩
        refine ⟨_, rfl, _, rfl, _, rfl, r, i, _, _, x1, x1, y1, 0, rfl, R3, .inr (.inr (.inl ⟨hA.tl, fun H4 l2 us2 s5 R4 e4 t4 => ⟨l, l2, us, us2, rfl, rfl, (s4.trans s5).keepL R e1, e4, small t4 rfl, fun q2 hq2 => ?_⟩⟩))⟩
        obtain ⟨a1, a2, a3, a4⟩ := cat (s4.trans s5) R4 e4 t4 q2 hq2
        exact ⟨q2, rfl, a1, a2, a3, a4⟩
      | elet x1 n1 =>
        refine ⟨_, rfl, r, dx2, _, rfl, h1, rf_no rA, r, _, _, _, _, rfl, R, fun zz => absurd zz (not_of (hA.get 0 rfl) (vne (by decide +kernel))), fun _ => ⟨_, rfl, iteF ?_⟩⟩
        refine ⟨_, rfl, r, dx2, _, rfl, h1, rf_no rA, r, _, _, _, _, rfl, R, fun _ H3 s4 R3 => ⟨_, rfl, iteT ?_⟩, fun zz => absurd (hA.get 0 rfl) zz⟩
        refine ⟨_, rfl, _, rfl, _, rfl, r, i, _, _, x1, x1, x1, n1, rfl, R3, .inr (.inr (.inr ⟨hA.tl, fun H4 l2 us2 s5 R4 e4 t4 => ⟨l, l2, us, us2, rfl, rfl, (s4.trans s5).keepL R e1, e4, small t4 rfl, fun q2 hq2 => ?_⟩⟩))⟩
        obtain ⟨a1, a2, a3, a4⟩ := cat (s4.trans s5) R4 e4 t4 q2 hq2
        exact ⟨q2, rfl, a1, a2, a3, a4⟩
    · rintro σ' H3 ⟨l', rfl, s4, hl4, R4, us4, e4, t4⟩
      have hlen4 := Paired.len (show Paired _ us4 _ from t4)
      have hle : (dn.flatMap Pc.items).length + pc.items.length = us4.length := by rw [hlen4, flat_snoc_i, List.length_append]
      have hip : 1 ≤ pc.items.length ∧ pc.items.length ≤ 2 := by cases pc <;> simp [Pc.items]
      have hdep : ∀ it : Item, ¬ (12 : Int) < depI it := fun it => by cases it <;> simp [depI]
      have item : ∀ (H5 : Hp) (j : Nat), KeepT H3 H5 → j < us4.length → ∃ v it, us4[j]? = some v ∧ ItemAt H5 v it := fun H5 j k5 hj => by
        obtain ⟨it, hit⟩ : ∃ it, ((dn ++ [pc]).flatMap Pc.items)[j]? = some it := ⟨_, List.getElem?_eq_getElem (by omega)⟩
        obtain ⟨v, hv, hi⟩ := paired_get (show Paired _ us4 _ from t4) hit
        exact ⟨v, it, hv, hi.keep k5⟩
      -- the end: the invariant again
      have fin : ∀ H5 : Hp, Same H3 H5 → ∃ m', m' < rest.length + 1 ∧ PInv K H (.str z) m (dn ++ pc :: rest) r m' [some (.str z), some m, some (.ref r), some (.ref l'), some (.int i)] H5 := fun H5 s5 => by
        refine ⟨rest.length, Nat.lt_succ_self _, l', _, dn ++ [pc], rest, rfl, by rw [List.append_assoc]; rfl, s4.trans s5, hl4, R4.same s5, ⟨us4, s5 _ _ e4, ItemL.keep (KeepT.of s5) t4⟩, rfl⟩
      obtain ⟨v1, it1, hv1, hi1⟩ := item H3 (us4.length - 1) (fun _ _ h => h) (by omega)
      refine ⟨_, rfl, _, rfl, l', us4, rfl, .inl (SqL.of e4), _, _, rfl, rfl, l', us4, _, v1, rfl, rfl, SqL.of e4, ?_, v1, it1, rfl, hi1, fun H5 s5 => ?_⟩
      · have e : ((us4.length : Int) - 1) = ((us4.length - 1 : Nat) : Int) := by omega
        show atI us4 ((us4.length : Int) - 1) = _
        rw [e]
        exact atI_nat hv1
      refine ⟨_, _, rfl, rfl, _, rfl, if_F (decide_eq_false (hdep it1)) ?_⟩
      have e5 := s5 _ _ e4
      refine ⟨_, rfl, l', us4, rfl, .inl (SqL.of e5), _, _, rfl, rfl, _, rfl, ite2 (fun h6 => ?_) (fun h6 => iteF ?_)⟩
      · have h6 := of_decide_eq_true h6
        obtain ⟨v2, it2, hv2, hi2⟩ := item H5 (us4.length - 2) (KeepT.of s5) (by omega)
        refine ⟨_, rfl, _, rfl, l', us4, rfl, .inl (SqL.of e5), _, _, rfl, rfl, l', us4, _, v2, rfl, rfl, SqL.of e5, ?_, v2, it2, rfl, hi2, fun H6 s6 => ?_⟩
        · have e : ((us4.length : Int) - 2) = ((us4.length - 2 : Nat) : Int) := by omega
          show atI us4 ((us4.length : Int) - 2) = _
          rw [e]
          exact atI_nat hv2
        refine ⟨_, _, rfl, rfl, _, rfl, if_F (decide_eq_false (hdep it2)) ?_⟩
        exact fin H6 (s5.trans s6)
      · exact fin H5 s5
end
end Fz
set_option Elab.async false
set_option linter.all false
set_option maxRecDepth 100000
set_option maxHeartbeats 4000000
namespace Fz
open PySem PyProof.Rows L2
open C8 (Cal Met Mak pe_c pe_mk pe_mt pe_mt0 pe_gc)
/-! ## a graph's object -/
def gf (en : V) (td id ol : Addr) : List (Str × V) := [("entry", en), ("_texts", .ref td), ("_items", .ref id), ("_order", .ref ol)]
theorem nET : ¬ ("entry" : Str) = "_texts" := by decide +kernel
theorem nEI : ¬ ("entry" : Str) = "_items" := by decide +kernel
theorem nEO : ¬ ("entry" : Str) = "_order" := by decide +kernel
theorem nTI : ¬ ("_texts" : Str) = "_items" := by decide +kernel
theorem nTO : ¬ ("_texts" : Str) = "_order" := by decide +kernel
theorem nIO : ¬ ("_items" : Str) = "_order" := by decide +kernel
section
variable {en : V} {td id ol : Addr}
theorem gf_texts : (gf en td id ol).lookup ("_texts" : Str) = some (.ref td) := by unfold gf; rw [lk_cons, if_neg nET, lk_cons, if_pos rfl]
theorem gf_items : (gf en td id ol).lookup ("_items" : Str) = some (.ref id) := by unfold gf; rw [lk_cons, if_neg nEI, lk_cons, if_neg nTI, lk_cons, if_pos rfl]
theorem gf_order : (gf en td id ol).lookup ("_order" : Str) = some (.ref ol) := by unfold gf; rw [lk_cons, if_neg nEO, lk_cons, if_neg nTO, lk_cons, if_neg nIO, lk_cons, if_pos rfl]
def gfK : List Str := ["entry", "_texts", "_items", "_order"]
theorem gf_no {f : Str} (h : f ∉ gfK) : (gf en td id ol).lookup f = none := by
  have h : ∀ g ∈ gfK, ¬ g = f := fun g hg e => h (e ▸ hg)
  unfold gf
  rw [lk_cons, if_neg (h _ (by decide +kernel)), lk_cons, if_neg (h _ (by decide +kernel)), lk_cons, if_neg (h _ (by decide +kernel)), lk_cons, if_neg (h _ (by decide +kernel))]
  rfl
theorem gf_m2 : putF "_texts" (.ref td) (putF "entry" en []) = ([("entry", en), ("_texts", .ref td)] : List (Str × V)) := by simp only [putF, nET, if_false]
theorem gf_m3 : putF "_items" (.ref id) (putF "_texts" (.ref td) (putF "entry" en [])) = ([("entry", en), ("_texts", .ref td), ("_items", .ref id)] : List (Str × V)) := by rw [gf_m2]; simp only [putF, nEI, nTI, if_false]
theorem gf_m4 : putF "_order" (.ref ol) (putF "_items" (.ref id) (putF "_texts" (.ref td) (putF "entry" en []))) = gf en td id ol := by rw [gf_m3]; simp only [putF, nEO, nTO, nIO, if_false]; rfl
end
theorem hu65_of {A : Around} {k : Nat} (hr : Room k A) : A.units + 65 < cLine := by have := hr.un; omega
theorem hu64_of {A : Around} {k : Nat} (hr : Room k A) : A.units + 64 < cLine := hr.units
/-- the items of these modules stand in the dict -/
def ItemsD (H : Hp) (kvs : List (L2.Key × V)) (M : Str → List Item) (names : List Str) : Prop := ∀ n ∈ names, ∃ l, valV kvs (.inr n) = some (.ref l) ∧ ItemsAt H l (M n)
structure Gr (K : PySem.W.Frag) (M : Str → List Item) (names : List Str) (H : Hp) (g : Addr) : Prop where
  ex : ∃ (dx : Addr) (en : V) (td id ol : Addr) (kvs : List (L2.Key × V)), H g = some (.ins (He.ga K "Graph") dx (gf en td id ol)) ∧ H id = some (.dK kvs) ∧ ItemsD H kvs M names
theorem ItemsAt.same {H H' : Hp} (s : Same H H') {l : Addr} {its : List Item} (h : ItemsAt H l its) : ItemsAt H' l its := by
  obtain ⟨us, h1, h2⟩ := h
  exact ⟨us, s _ _ h1, h2.keep (KeepT.of s)⟩
theorem ItemsD.same {H H' : Hp} (s : Same H H') {kvs : List (L2.Key × V)} {M : Str → List Item} {names : List Str} (h : ItemsD H kvs M names) : ItemsD H' kvs M names := fun n hn => by
  obtain ⟨l, h1, h2⟩ := h n hn
  exact ⟨l, h1, h2.same s⟩
theorem Gr.same {K : PySem.W.Frag} {M : Str → List Item} {names : List Str} {H H' : Hp} {g : Addr} (s : Same H H') (G : Gr K M names H g) : Gr K M names H' g := by
  obtain ⟨dx, en, td, id, ol, kvs, h1, h2, h3⟩ := G.ex
  exact ⟨dx, en, td, id, ol, kvs, s _ _ h1, s _ _ h2, h3.same s⟩
/-- an item's kind -/
def Item.kind : Item → Str
  | .ltI _ _ => "let"
  | .exp _ _ => "export"
  | .frm _ _ _ => "from"
  | .imp _ _ _ => "import"
  | .spc _ _ => "space"
  | .star _ => "star"
theorem ItemAt.head {H : Hp} {v : V} : ∀ {it : Item}, ItemAt H v it → ∃ (t : Addr) (more : List V), v = .ref t ∧ H t = some (.tup (.str it.kind :: more))
  | .ltI _ _, ⟨t, e, i, h0, h1, h2⟩ => ⟨t, _, h0, h1⟩
  | .exp _ _, ⟨t, ps, q, i, h0, h1, h2, h3⟩ => ⟨t, _, h0, h1⟩
  | .frm _ _ _, ⟨t, ps, q, i, h0, h1, h2, h3⟩ => ⟨t, _, h0, h1⟩
  | .imp _ _ _, ⟨t, ps, q, i, h0, h1, h2, h3⟩ => ⟨t, _, h0, h1⟩
  | .spc _ _, ⟨t, i, h0, h1⟩ => ⟨t, _, h0, h1⟩
  | .star _, ⟨t, i, h0, h1⟩ => ⟨t, _, h0, h1⟩
theorem at0 {x : V} {more : List V} : atI (x :: more) 0 = some x := show atI (x :: more) ((0 : Nat) : Int) = some x from atI_nat rfl
theorem at1 {x y : V} {more : List V} : atI (x :: y :: more) 1 = some y := show atI (x :: y :: more) ((1 : Nat) : Int) = some y from atI_nat rfl
theorem at2 {x y z : V} {more : List V} : atI (x :: y :: z :: more) 2 = some z := show atI (x :: y :: z :: more) ((2 : Nat) : Int) = some z from atI_nat rfl
/-- the i-th item -/
theorem ItemL.get {H : Hp} {us : List V} {its : List Item} (h : ItemL H us its) {i : Nat} {x : V} (hx : us[i]? = some x) : ∃ it, its[i]? = some it ∧ ItemAt H x it := by
  have hl := Paired.len (show Paired _ us its from h)
  obtain ⟨hlt, _⟩ := List.getElem?_eq_some_iff.mp hx
  obtain ⟨it, hit⟩ : ∃ it, its[i]? = some it := ⟨_, List.getElem?_eq_getElem (by omega)⟩
  obtain ⟨v, hv, hi⟩ := paired_get (show Paired _ us its from h) hit
  rw [hx] at hv
  cases hv
  exact ⟨it, hit, hi⟩
theorem take_snoc {α : Type} {l : List α} {i : Nat} {x : α} (h : l[i]? = some x) : l.take (i + 1) = l.take i ++ [x] := by
  obtain ⟨hlt, e⟩ := List.getElem?_eq_some_iff.mp h
  rw [List.take_succ, h]
  rfl
def declF : Item → Option Str
  | .ltI x _ => some x
  | _ => none
def decl (its : List Item) : List Str := its.filterMap declF
theorem decl_snoc (its : List Item) (it : Item) : decl (its ++ [it]) = decl its ++ (match declF it with | some x => [x] | none => []) := by
  unfold decl
  rw [List.filterMap_append, List.filterMap_cons]
  cases declF it <;> rfl
def impF (x : Str) (acc : Option (Str × Str)) : Item → Option (Str × Str)
  | .imp m a b => if b = x then some (m, a) else acc
  | _ => acc
def lastImp (x : Str) (its : List Item) : Option (Str × Str) := its.foldl (impF x) none
theorem lastImp_snoc (x : Str) (its : List Item) (it : Item) : lastImp x (its ++ [it]) = impF x (lastImp x its) it := by
  unfold lastImp
  rw [List.foldl_append]
  rfl
def spcF (x : Str) (acc : Option Str) : Item → Option Str
  | .spc m y => if y = x then some m else acc
  | _ => acc
def lastSpc (x : Str) (its : List Item) : Option Str := its.foldl (spcF x) none
theorem lastSpc_snoc (x : Str) (its : List Item) (it : Item) : lastSpc x (its ++ [it]) = spcF x (lastSpc x its) it := by
  unfold lastSpc
  rw [List.foldl_append]
  rfl
/-- the dict of imports -/
def ImpD (H : Hp) (kvs : List (L2.Key × V)) (its : List Item) : Prop := ∀ x : Str, match lastImp x its with
  | none => valV kvs (.inr x) = none
  | some (m, a) => ∃ t, valV kvs (.inr x) = some (.ref t) ∧ H t = some (.tup [.str m, .str a])
theorem dc_it {J : It} {n : Nat} {G : Hp → Prop} {Y : Nat → Hp → V → Hp → Prop} (w : Walk J n G Y) {g : TG} {tt : TT} {tk tv : TE} {vs : List Nat} {σ : L2.St} {H1 : Hp} {D : Addr} {Qd : Hp → Prop} (Pv : Nat → Hp → Prop) (h0 : Pv 0 (upd H1 D (.dK []))) (hG : ∀ i H, i ≤ n → Pv i H → G H)
    (hs : ∀ i x H H', i < n → Pv i H → Y i H x H' → g x (wipe σ vs) H' fun σ2 H2 => wipe σ2 vs = wipe σ vs ∧ tt σ2 H2 fun b H3 =>
      if b = true then tk σ2 H3 fun y H4 => tv σ2 H4 fun z H5 => ∃ (kvs : List (L2.Key × V)) (k : L2.Key), y = kV k ∧ H5 D = some (.dK kvs) ∧ kvs.length < sizeLine ∧ Pv (i + 1) (upd H5 D (.dK (putK kvs k z))) else Pv (i + 1) H3) (hd : ∀ H, Pv n H → Qd H) :
    ∃ W : Nat → Nat → Hp → Prop, (∃ m, W 0 m (upd H1 D (.dK []))) ∧ ∀ i m H, W i m H →
      (J.stop i H ∧ Qd H) ∨ (J.go i H ∧ ∃ Nx : Hp → Prop, (∀ H', Nx H' → ∃ m', m' < m ∧ W (i + 1) m' H') ∧ ∀ x H', J.yld i H x H' → g x (wipe σ vs) H' fun σ2 H2 => wipe σ2 vs = wipe σ vs ∧ tt σ2 H2 fun b H3 =>
        if b = true then tk σ2 H3 fun y H4 => tv σ2 H4 fun z H5 => ∃ (kvs : List (L2.Key × V)) (k : L2.Key), y = kV k ∧ H5 D = some (.dK kvs) ∧ kvs.length < sizeLine ∧ Nx (upd H5 D (.dK (putK kvs k z))) else Nx H3) := by
  refine ⟨fun i m H => m = n - i ∧ i ≤ n ∧ Pv i H, ⟨n, by simp, Nat.zero_le _, h0⟩, ?_⟩
  rintro i m H ⟨rfl, hi, p⟩
  have q := hG i H hi p
  by_cases hlt : i < n
  · refine .inr ⟨w.goes i H hlt q, Pv (i + 1), fun H' p' => ⟨n - (i + 1), by omega, rfl, hlt, p'⟩, fun x H' y => hs i x H H' hlt p (w.yields i H x H' hlt q y)⟩
  · have e : i = n := by omega
    subst e
    exact .inl ⟨w.stops H q, hd H p⟩
theorem putK_len (kvs : List (L2.Key × V)) (k : L2.Key) (v : V) : (putK kvs k v).length ≤ kvs.length + 1 := length_putK kvs k v
section
variable {P : Program} {w : World} {K : PySem.W.Frag} {mg : Str → Option Value} {base : Heap}
/-! ## order, module_items -/
def spOrder : Sp := fun vs H Q _ => ∃ (g dx : Addr) (en : V) (td id ol : Addr) (os : List V), vs = [.ref g] ∧ H g = some (.ins (He.ga K "Graph") dx (gf en td id ol)) ∧ H ol = some (.lst os) ∧ ∀ p, H p = none → Q (.ref p) (upd H p (.lst os))
theorem c_Graph_order (T : Tx K mg w) : Met P w K mg base 1 (He.ga K "Graph") "order" (spOrder (K := K)) [] := by
  obtain ⟨fd, F⟩ := T.f_Graph_order
  refine metOf T.cl_Graph T.m_Graph_order F (b_Graph_order F) sc_Graph_order (fun vs H Q E h => ?_) (fun cdv A outer s H vs Q E hr h => ?_)
  · obtain ⟨_, _, _, _, _, _, _, rfl, _⟩ := h; rfl
  obtain ⟨g, dx, en, td, id, ol, os, rfl, hg, ho, q⟩ := h
  refine ⟨_, (pss_one (ps_ret (pe_callTy call_list_of (by rfl) T.z_list (by decide +kernel) (pa_cons (pe_fld (pv 0) rfl) pa_nil)))), ?_⟩
  exact ⟨_, rfl, g, _, dx, _, _, rfl, hg, T.cl_Graph, T.n_Graph__order, gf_order, ol, os, rfl, .inl (SqL.of ho), q⟩
def spModItems : Sp := fun vs H Q _ => ∃ (g : Addr) (n : Str) (M : Str → List Item) (names : List Str), vs = [.ref g, .str n] ∧ Gr K M names H g ∧ n ∈ names ∧ ∀ (p : Addr) (us : List V), H p = none → ItemL H us (M n) → Q (.ref p) (upd H p (.lst us))
theorem c_Graph_module_items (T : Tx K mg w) : Met P w K mg base 1 (He.ga K "Graph") "module_items" (spModItems (K := K)) [] := by
  obtain ⟨fd, F⟩ := T.f_Graph_module_items
  refine metOf T.cl_Graph T.m_Graph_module_items F (b_Graph_module_items F) sc_Graph_module_items (fun vs H Q E h => ?_) (fun cdv A outer s H vs Q E hr h => ?_)
  · obtain ⟨_, _, _, _, rfl, _⟩ := h; rfl
  obtain ⟨g, n, M, names, rfl, G, hn, q⟩ := h
  obtain ⟨dx, en, td, id, ol, kvs, hg, hid, hI⟩ := G.ex
  obtain ⟨l, hv, us, hl, hul⟩ := hI n hn
  have hu := hu_of hr
  refine ⟨_, (pss_one (ps_ret (pe_callTy call_list_of (by rfl) T.z_list (by decide +kernel) (pa_cons (pe_dget hu (pe_fld (pv 0) rfl) (pv 1) (fun _ _ => rfl)) pa_nil)))), ?_⟩
  exact ⟨_, rfl, g, _, dx, _, _, rfl, hg, T.cl_Graph, T.n_Graph__items, gf_items, _, rfl, id, _, rfl, hv ▸ DGet.k (k := Sum.inr n) hid, l, us, rfl, .inl (SqL.of hl), fun p hp => q p us hp hul⟩
/-! ## declared -/
def spDeclared : Sp := fun vs H Q _ => ∃ (g : Addr) (n : Str) (M : Str → List Item) (names : List Str), vs = [.ref g, .str n] ∧ Gr K M names H g ∧ n ∈ names ∧ (M n).length ≤ 1000 ∧ ∀ (H' : Hp) (p : Addr), Same H H' → H p = none → H' p = some (.lst ((decl (M n)).map V.str)) → Q (.ref p) H'
theorem c_Graph_declared (T : Tx K mg w) : Met P w K mg base 1 (He.ga K "Graph") "declared" (spDeclared (K := K)) [] := by
  obtain ⟨fd, F⟩ := T.f_Graph_declared
  refine metOf T.cl_Graph T.m_Graph_declared F (b_Graph_declared F) sc_Graph_declared (fun vs H Q E h => ?_) (fun cdv A outer s H vs Q E hr h => ?_)
  · obtain ⟨_, _, _, _, rfl, _⟩ := h; rfl
  obtain ⟨g, n, M, names, rfl, G, hn, hz, q⟩ := h
  obtain ⟨dx, en, td, id, ol, kvs, hg, hid, hI⟩ := G.ex
  obtain ⟨l, hv, us, hl, hul⟩ := hI n hn
  have hu := hu_of hr
  refine ⟨_, (pss_one (ps_ret (pe_lc (own := [("item", 2)]) (by rfl) sc_Graph_declared.nd (pi_list (pe_dget hu (pe_fld (pv 0) rfl) (pv 1) (fun _ _ => rfl))) (blkOk_by (own := [("item", 2)]) (N := ["self", "name", "item"]) (sc := defScope m_Graph_declared) (by decide +kernel)) (fun _ _ _ _ _ => (pg_name (i := 2) sc_Graph_declared.nd rfl (Or.inl rfl))) (fun _ _ _ _ _ => (pts_one (PW.pt (pw_or (pt_cmpR op_eq (pe_ix (r := rIxT K) ix_tup (pv 2) pe_int (fun _ _ => rfl)) pe_str (nomark _)) (pw_or1 (pt_cmpR op_eq (pe_ix (r := rIxT K) ix_tup (pv 2) pe_int (fun _ _ => rfl)) pe_str (nomark _))))))) (fun _ _ _ _ _ => (pe_ix (r := rIxT K) ix_tup (pv 2) pe_int (fun _ _ => rfl)))))), ?_⟩
  refine ⟨_, rfl, g, _, dx, _, _, rfl, hg, T.cl_Graph, T.n_Graph__items, gf_items, _, rfl, id, _, rfl, hv ▸ DGet.k (k := Sum.inr n) hid, l, rfl, ⟨us, SqL.of hl⟩, fun D hD => ?_⟩
  have hlen := Paired.len (show Paired _ us (M n) from hul)
  refine lc_list (K := K) (a := l) (xs := us) (fun i H' => Same H H' ∧ H' D = some (.lst ((decl ((M n).take i)).map V.str)) ∧ (decl ((M n).take i)).length ≤ i) ⟨same_new hD _, upd_same, Nat.le_refl _⟩ (fun i H' _ ⟨s1, _⟩ => SqL.of (s1 _ _ hl)) ?_ ?_
  · rintro i x H1 hx ⟨s1, e1, z1⟩
    obtain ⟨hlt, _⟩ := List.getElem?_eq_some_iff.mp hx
    obtain ⟨it, hit, hi⟩ := ItemL.get (ItemL.keep (KeepT.of s1) hul) hx
    rw [take_snoc hit, decl_snoc]
    by_cases hk : ∃ y k, it = .ltI y k
    · obtain ⟨y, k, rfl⟩ := hk
      obtain ⟨t, e, j, rfl, ht, he⟩ := hi
      refine ⟨rfl, _, rfl, t, _, 0, _, rfl, rfl, SqT.of ht, at0, rfl, _, rfl, if_T (by decide +kernel) ?_⟩
      refine ⟨_, rfl, t, _, 1, _, rfl, rfl, SqT.of ht, at1, _, e1, szl ?_, Fz.Same.mut s1 hD, ?_, ?_⟩
      · rw [List.length_map]; omega
      · rw [List.map_append]; exact upd_same
      · rw [List.length_append]; simp only [declF, List.length_cons, List.length_nil]; omega
    · obtain ⟨t, more, rfl, ht⟩ := hi.head
      have hno : ¬ it.kind = ("let" : Str) ∧ ¬ it.kind = ("fun" : Str) := by
        cases it with
        | ltI y k => exact absurd ⟨y, k, rfl⟩ hk
        | _ => constructor <;> (simp only [Item.kind]; decide +kernel)
      have hd : declF it = none := by
        cases it with
        | ltI y k => exact absurd ⟨y, k, rfl⟩ hk
        | _ => rfl
      rw [hd, List.append_nil]
      refine ⟨rfl, _, rfl, t, _, 0, _, rfl, rfl, SqT.of ht, at0, rfl, _, rfl, if_F (dstr hno.1) ?_⟩
      refine ⟨_, rfl, t, _, 0, _, rfl, rfl, SqT.of ht, at0, rfl, _, rfl, if_F (dstr hno.2) ?_⟩
      exact ⟨s1, e1, by omega⟩
  · rintro H1 ⟨s1, e1, z1⟩
    rw [hlen, List.take_length] at e1
    exact q H1 D s1 hD e1
/-! ## imported -/
def spImported : Sp := fun vs H Q _ => ∃ (g : Addr) (n : Str) (M : Str → List Item) (names : List Str), vs = [.ref g, .str n] ∧ Gr K M names H g ∧ n ∈ names ∧ (M n).length ≤ 1000 ∧ ∀ (H' : Hp) (p : Addr) (kvs : List (L2.Key × V)), Same H H' → H p = none → H' p = some (.dK kvs) → ImpD H' kvs (M n) → Q (.ref p) H'
theorem c_Graph_imported (T : Tx K mg w) : Met P w K mg base 1 (He.ga K "Graph") "imported" (spImported (K := K)) [] := by
  obtain ⟨fd, F⟩ := T.f_Graph_imported
  refine metOf T.cl_Graph T.m_Graph_imported F (b_Graph_imported F) sc_Graph_imported (fun vs H Q E h => ?_) (fun cdv A outer s H vs Q E hr h => ?_)
  · obtain ⟨_, _, _, _, rfl, _⟩ := h; rfl
  obtain ⟨g, n, M, names, rfl, G, hn, hz, q⟩ := h
  obtain ⟨dx, en, td, id, ol, kvs0, hg, hid, hI⟩ := G.ex
  obtain ⟨l, hv, us, hl, hul⟩ := hI n hn
  have hu := hu_of hr
  refine ⟨_, (pss_cons (ps_set (i := 2) sc_Graph_imported.nd rfl (Or.inl rfl) pe_dnewK)
  (pss_cons (ps_for PassesOwn.never rfl (pi_list (pe_dget hu (pe_fld (pv 0) rfl) (pv 1) (fun _ _ => rfl))) (pg_name (i := 3) sc_Graph_imported.nd rfl (Or.inl rfl)) (pss_one (ps_if (pt_cmpR op_eq (pe_ix ix_tup (pv 3) pe_int (fun _ _ => rfl)) pe_str (nomark _)) (pss_one (ps_for PassesOwn.never rfl (pi_tup (pe_ix ix_tup (pv 3) pe_int (fun _ _ => rfl))) (pg_tup rfl (pgs_cons (pg_name (i := 4) sc_Graph_imported.nd rfl (Or.inl rfl)) (pgs_cons (pg_name (i := 5) sc_Graph_imported.nd rfl (Or.inl rfl)) pgs_nil))) (pss_one (ps_dput hu (pv 2) (pv 5) (pe_tup (pa_cons (pe_ix ix_tup (pv 3) pe_int (fun _ _ => rfl)) (pa_cons (pv 4) pa_nil))) rfl)))) pss_nil)))
  (pss_one (ps_ret (pv 2))))), ?_⟩
  intro D hD
  have sD := same_new hD (.dK [])
  have hlen := Paired.len (show Paired _ us (M n) from hul)
  refine ⟨_, rfl, g, _, dx, _, _, rfl, sD _ _ hg, T.cl_Graph, T.n_Graph__items, gf_items, _, rfl, id, _, rfl, hv ▸ DGet.k (k := Sum.inr n) (sD _ _ hid), l, rfl, ⟨us, SqL.of (sD _ _ hl)⟩, ?_⟩
  refine for_list (K := K) (a := l) (xs := us) (fun i σ H' => ∃ (v1 v2 v3 : Option V) (kvs : List (L2.Key × V)), σ = [some (.ref g), some (.str n), some (.ref D), v1, v2, v3] ∧ Same H H' ∧ H' D = some (.dK kvs) ∧ ImpD H' kvs ((M n).take i) ∧ kvs.length ≤ i)
    ⟨none, none, none, [], rfl, sD, upd_same, fun _ => rfl, Nat.le_refl _⟩ (fun i σ H' _ ⟨_, _, _, _, _, s1, _⟩ => SqL.of (s1 _ _ hl)) ?_ ?_
  · rintro i x σ H1 hx ⟨v1, v2, v3, kvs, rfl, s1, e1, d1, z1⟩
    obtain ⟨hlt, _⟩ := List.getElem?_eq_some_iff.mp hx
    obtain ⟨it, hit, hi⟩ := ItemL.get (ItemL.keep (KeepT.of s1) hul) hx
    by_cases hk : ∃ m a b, it = .imp m a b
    · obtain ⟨m, a, b, rfl⟩ := hk
      obtain ⟨t, ps, qq, j, rfl, ht, hps, hqq⟩ := hi
      refine ⟨_, rfl, t, _, 0, _, rfl, rfl, SqT.of ht, at0, rfl, _, rfl, if_T (by decide +kernel) ?_⟩
      refine ⟨_, rfl, t, _, 2, _, rfl, rfl, SqT.of ht, at2, ps, rfl, ⟨_, SqT.of hps⟩, ?_⟩
      refine for_tup (K := K) (a := ps) (xs := [.ref qq]) (fun k σ H' => ∃ (v2 v3 : Option V) (kvs' : List (L2.Key × V)), σ = [some (.ref g), some (.str n), some (.ref D), some (.ref t), v2, v3] ∧ Same H H' ∧ KeepT H1 H' ∧ H' D = some (.dK kvs') ∧
          ((k = 0 ∧ kvs' = kvs ∧ H' = H1) ∨ (1 ≤ k ∧ ImpD H' kvs' ((M n).take (i + 1)) ∧ kvs'.length ≤ i + 1)))
        ⟨_, _, kvs, rfl, s1, fun _ _ h => h, e1, .inl ⟨rfl, rfl, rfl⟩⟩ (fun k σ H' _ ⟨_, _, _, _, _, k1, _⟩ => SqT.of (k1 _ _ hps)) ?_ ?_
      · rintro k y σ H2 hy ⟨u2, u3, kvs', rfl, s2, k2, e2, hcase⟩
        have hk0 : k = 0 := by
          have := (List.getElem?_eq_some_iff.mp hy).1
          simp at this
          exact this
        subst hk0
        rcases hcase with ⟨_, rfl, rfl⟩ | ⟨z, _⟩
        · have ey : y = .ref qq := (Option.some.inj hy).symm
          subst ey
          refine ⟨qq, _, rfl, SqT.of hqq, rfl, _, _, rfl, _, _, rfl, rfl, ?_⟩
          refine ⟨_, rfl, t, _, 1, _, rfl, rfl, SqT.of ht, at1, _, rfl, sz 2, fun c hc => ?_⟩
          have sc := same_new hc (.tup [.str m, .str a])
          have eD := sc _ _ e1
          refine ⟨_, rfl, _, rfl, D, _, rfl, DPut.k (k := Sum.inr b) eD (szl (by omega)), ?_⟩
          refine ⟨_, _, _, rfl, Fz.Same.mut (s1.trans sc) hD, KeepT.trans (KeepT.of sc) (fun aa xs hh => ?_), upd_same, .inr ⟨Nat.le_refl _, ?_, ?_⟩⟩
          · rw [upd_ne (ne_of hh eD (by intro z; cases z))]
            exact hh
          · rw [take_snoc hit]
            intro x2
            rw [lastImp_snoc]
            have hstep : impF x2 (lastImp x2 ((M n).take i)) (.imp m a b) = if b = x2 then some (m, a) else lastImp x2 ((M n).take i) := rfl
            rw [hstep, valV_put]
            have nDc : c ≠ D := (ne_of_none e1 hc).symm
            by_cases hb : b = x2
            · rw [if_pos hb, if_pos (by rw [hb])]
              exact ⟨c, rfl, by rw [upd_ne nDc]; exact upd_same⟩
            · rw [if_neg hb, if_neg (fun z => hb (Sum.inr.inj z).symm)]
              have d1 := d1 x2
              cases hL : lastImp x2 ((M n).take i) with
              | none => rw [hL] at d1; exact d1
              | some ma =>
                rw [hL] at d1
                obtain ⟨m1, a1⟩ := ma
                obtain ⟨t1, w1, w2⟩ := d1
                refine ⟨t1, w1, ?_⟩
                rw [upd_ne (ne_of (sc _ _ w2) eD (by intro z; cases z))]
                exact sc _ _ w2
          · have := putK_len kvs' (Sum.inr b) (.ref c)
            omega
        · exact absurd z (by omega)
      · rintro σ H2 ⟨u2, u3, kvs', rfl, s2, k2, e2, hcase⟩
        rcases hcase with ⟨z, _⟩ | ⟨_, d2, z2⟩
        · exact absurd z (by simp)
        · exact ⟨_, _, _, kvs', rfl, s2, e2, d2, z2⟩
    · obtain ⟨t, more, rfl, ht⟩ := hi.head
      have hno : ¬ it.kind = ("import" : Str) := by
        cases it with
        | imp m a b => exact absurd ⟨m, a, b, rfl⟩ hk
        | _ => simp only [Item.kind]; decide +kernel
      have hd : ∀ x acc, impF x acc it = acc := fun x acc => by
        cases it with
        | imp m a b => exact absurd ⟨m, a, b, rfl⟩ hk
        | _ => rfl
      refine ⟨_, rfl, t, _, 0, _, rfl, rfl, SqT.of ht, at0, rfl, _, rfl, if_F (dstr hno) ?_⟩
      refine ⟨_, _, _, kvs, rfl, s1, e1, ?_, by omega⟩
      rw [take_snoc hit]
      intro x2
      rw [lastImp_snoc, hd]
      exact d1 x2
  · rintro σ H1 ⟨v1, v2, v3, kvs, rfl, s1, e1, d1, z1⟩
    rw [hlen, List.take_length] at d1
    exact ⟨_, rfl, q H1 D kvs s1 hD e1 d1⟩
end
end Fz
set_option Elab.async false
set_option linter.all false
set_option maxRecDepth 100000
set_option maxHeartbeats 4000000
namespace Fz
open PySem PyProof.Rows L2
open C8 (Cal Met Mak pe_c pe_mk pe_mt pe_mt0 pe_gc)
def needF : Item → Option Str
  | .imp m _ _ => some m
  | .spc m _ => some m
  | .frm m _ _ => some m
  | .star m => some m
  | _ => none
def need (its : List Item) : List Str := its.filterMap needF
theorem need_snoc (its : List Item) (it : Item) : need (its ++ [it]) = need its ++ (match needF it with | some x => [x] | none => []) := by
  unfold need
  rw [List.filterMap_append, List.filterMap_cons]
  cases needF it <;> rfl
theorem need_kind : ∀ it : Item, (decide (it.kind ∈ NEE)) = (needF it).isSome
  | .ltI _ _ => show decide (("let" : Str) ∈ NEE) = false by decide +kernel
  | .exp _ _ => show decide (("export" : Str) ∈ NEE) = false by decide +kernel
  | .frm _ _ _ => show decide (("from" : Str) ∈ NEE) = true by decide +kernel
  | .imp _ _ _ => show decide (("import" : Str) ∈ NEE) = true by decide +kernel
  | .spc _ _ => show decide (("space" : Str) ∈ NEE) = true by decide +kernel
  | .star _ => show decide (("star" : Str) ∈ NEE) = true by decide +kernel
/-- what an item needs stands at 1 -/
theorem ItemAt.need1 {H : Hp} {v : V} {m : Str} : ∀ {it : Item}, ItemAt H v it → needF it = some m → ∃ (t : Addr) (more : List V), v = .ref t ∧ H t = some (.tup (.str it.kind :: .str m :: more))
  | .imp _ _ _, ⟨t, ps, q, i, h0, h1, h2, h3⟩, e => by cases e; exact ⟨t, _, h0, h1⟩
  | .frm _ _ _, ⟨t, ps, q, i, h0, h1, h2, h3⟩, e => by cases e; exact ⟨t, _, h0, h1⟩
  | .spc _ _, ⟨t, i, h0, h1⟩, e => by cases e; exact ⟨t, _, h0, h1⟩
  | .star _, ⟨t, i, h0, h1⟩, e => by cases e; exact ⟨t, _, h0, h1⟩
  | .ltI _ _, _, e => by cases e
  | .exp _ _, _, e => by cases e
section
variable {P : Program} {w : World} {K : PySem.W.Frag} {mg : Str → Option Value} {base : Heap}
def spNeeds : Sp := fun vs H Q _ => ∃ (l : Addr) (its : List Item), vs = [.ref l] ∧ ItemsAt H l its ∧ its.length ≤ 1000 ∧ ∀ (H' : Hp) (p : Addr), Same H H' → H p = none → H' p = some (.lst ((need its).map V.str)) → Q (.ref p) H'
theorem c_needs (T : Tx K mg w) : Cal P w K mg base 1 "needs" spNeeds [] := by
  obtain ⟨fd, F⟩ := T.f_needs
  refine calOf F T.g_needs (b_needs F) sc_needs (fun vs H Q E h => ?_) (fun cdv A outer s H vs Q E hr h => ?_)
  · obtain ⟨_, _, rfl, _⟩ := h; rfl
  obtain ⟨l, its, rfl, ⟨us, hl, hul⟩, hz, q⟩ := h
  refine ⟨_, (pss_one (ps_ret (pe_lc (own := [("item", 1)]) (by rfl) sc_needs.nd (pi_list (pv 0)) (blkOk_by (own := [("item", 1)]) (N := ["items", "item"]) (sc := defScope s_needs) (by decide +kernel)) (fun _ _ _ _ _ => (pg_name (i := 1) sc_needs.nd rfl (Or.inl rfl))) (fun _ _ _ _ _ => (pts_one (pt_cmpR (r := rIn K false) op_in_seq (pe_ix (r := rIxT K) ix_tup (pv 1) pe_int (fun _ _ => rfl)) (pe_gc rfl T.k_NEEDS) (by rfl)))) (fun _ _ _ _ _ => (pe_ix (r := rIxT K) ix_tup (pv 1) pe_int (fun _ _ => rfl)))))), ?_⟩
  refine ⟨_, rfl, l, rfl, ⟨us, SqL.of hl⟩, fun D hD => ?_⟩
  have hlen := Paired.len (show Paired _ us its from hul)
  refine lc_list (K := K) (a := l) (xs := us) (fun i H' => Same H H' ∧ H' D = some (.lst ((need (its.take i)).map V.str)) ∧ (need (its.take i)).length ≤ i) ⟨same_new hD _, upd_same, Nat.le_refl _⟩ (fun i H' _ ⟨s1, _⟩ => SqL.of (s1 _ _ hl)) ?_ ?_
  · rintro i x H1 hx ⟨s1, e1, z1⟩
    obtain ⟨hlt, _⟩ := List.getElem?_eq_some_iff.mp hx
    obtain ⟨it, hit, hi⟩ := ItemL.get (ItemL.keep (KeepT.of s1) hul) hx
    rw [take_snoc hit, need_snoc]
    obtain ⟨t, more, rfl, ht⟩ := hi.head
    have hk := need_kind it
    cases hn : needF it with
    | some m =>
      rw [hn] at hk
      obtain ⟨t2, more2, e2, ht2⟩ := hi.need1 hn
      cases e2
      refine ⟨rfl, _, rfl, t, _, 0, _, rfl, rfl, SqT.of ht, at0, _, _, rfl, .inr (T.t_NEEDS _), rfl, flat_strs _, _, rfl, if_T (show inV _ _ = true by rw [inV_strs]; exact hk) ?_⟩
      refine ⟨_, rfl, t, _, 1, _, rfl, rfl, SqT.of ht2, at1, _, e1, szl ?_, Fz.Same.mut s1 hD, ?_, ?_⟩
      · rw [List.length_map]; omega
      · rw [List.map_append]; exact upd_same
      · rw [List.length_append]; simp only [List.length_cons, List.length_nil]; omega
    | none =>
      rw [hn] at hk
      refine ⟨rfl, _, rfl, t, _, 0, _, rfl, rfl, SqT.of ht, at0, _, _, rfl, .inr (T.t_NEEDS _), rfl, flat_strs _, _, rfl, if_F (show inV _ _ = false by rw [inV_strs]; exact hk) ?_⟩
      exact ⟨s1, by rw [List.append_nil]; exact e1, by rw [List.append_nil]; omega⟩
  · rintro H1 ⟨s1, e1, z1⟩
    rw [hlen, List.take_length] at e1
    exact q H1 D s1 hD e1
/-! ## spaces -/
def spSpaces : Sp := fun vs H Q _ => ∃ (g : Addr) (n : Str) (M : Str → List Item) (names : List Str), vs = [.ref g, .str n] ∧ Gr K M names H g ∧ n ∈ names ∧ (M n).length ≤ 1000 ∧
  ∀ (H' : Hp) (p : Addr) (kvs : List (L2.Key × V)), Same H H' → H p = none → H' p = some (.dK kvs) → (∀ x : Str, valV kvs (.inr x) = (lastSpc x (M n)).map V.str) → Q (.ref p) H'
theorem c_Graph_spaces (T : Tx K mg w) : Met P w K mg base 1 (He.ga K "Graph") "spaces" (spSpaces (K := K)) [] := by
  obtain ⟨fd, F⟩ := T.f_Graph_spaces
  refine metOf T.cl_Graph T.m_Graph_spaces F (b_Graph_spaces F) sc_Graph_spaces (fun vs H Q E h => ?_) (fun cdv A outer s H vs Q E hr h => ?_)
  · obtain ⟨_, _, _, _, rfl, _⟩ := h; rfl
  obtain ⟨g, n, M, names, rfl, G, hn, hz, q⟩ := h
  obtain ⟨dx, en, td, id, ol, kvs0, hg, hid, hI⟩ := G.ex
  obtain ⟨l, hv, us, hl, hul⟩ := hI n hn
  have hu := hu_of hr
  refine ⟨_, (pss_one (ps_ret (pe_dc (own := [("item", 2)]) (by rfl) sc_Graph_spaces.nd (pi_list (pe_dget hu (pe_fld (pv 0) rfl) (pv 1) (fun _ _ => rfl))) (blkOk_by (own := [("item", 2)]) (N := ["self", "name", "item"]) (sc := defScope m_Graph_spaces) (by decide +kernel)) (fun _ _ _ _ _ => (pg_name (i := 2) sc_Graph_spaces.nd rfl (Or.inl rfl))) (fun _ _ _ _ _ => (pts_one (pt_cmpR op_eq (pe_ix (r := rIxT K) ix_tup (pv 2) pe_int (fun _ _ => rfl)) pe_str (nomark _)))) (fun _ _ _ _ _ => (pe_ix (r := rIxT K) ix_tup (pv 2) pe_int (fun _ _ => rfl))) (fun _ _ _ _ _ => (pe_ix (r := rIxT K) ix_tup (pv 2) pe_int (fun _ _ => rfl)))))), ?_⟩
  refine ⟨_, rfl, g, _, dx, _, _, rfl, hg, T.cl_Graph, T.n_Graph__items, gf_items, _, rfl, id, _, rfl, hv ▸ DGet.k (k := Sum.inr n) hid, l, rfl, ⟨us, SqL.of hl⟩, fun D hD => ?_⟩
  have hlen := Paired.len (show Paired _ us (M n) from hul)
  refine dc_it (walk_list (K := K) (a := l) (xs := us)) (fun i H' => ∃ kvs : List (L2.Key × V), Same H H' ∧ H' D = some (.dK kvs) ∧ (∀ x : Str, valV kvs (.inr x) = (lastSpc x ((M n).take i)).map V.str) ∧ kvs.length ≤ i) ⟨[], same_new hD _, upd_same, fun _ => rfl, Nat.le_refl _⟩
    (fun i H' _ ⟨_, s1, _⟩ => SqL.of (s1 _ _ hl)) ?_ ?_
  · rintro i x H1 H2 hlt ⟨kvs, s1, e1, d1, z1⟩ ⟨rfl, hx⟩
    obtain ⟨it, hit, hi⟩ := ItemL.get (ItemL.keep (KeepT.of s1) hul) hx
    by_cases hk : ∃ m a, it = .spc m a
    · obtain ⟨m, a, rfl⟩ := hk
      obtain ⟨t, j, rfl, ht⟩ := hi
      refine ⟨rfl, _, rfl, t, _, 0, _, rfl, rfl, SqT.of ht, at0, rfl, _, rfl, if_T (by decide +kernel) ?_⟩
      refine ⟨_, rfl, t, _, 2, _, rfl, rfl, SqT.of ht, at2, _, rfl, t, _, 1, _, rfl, rfl, SqT.of ht, at1, kvs, Sum.inr a, rfl, e1, szl (by omega), putK kvs (Sum.inr a) (.str m), Fz.Same.mut s1 hD, upd_same, ?_, ?_⟩
      · intro x2
        rw [take_snoc hit, lastSpc_snoc, valV_put]
        have hstep : spcF x2 (lastSpc x2 ((M n).take i)) (.spc m a) = if a = x2 then some m else lastSpc x2 ((M n).take i) := rfl
        rw [hstep]
        by_cases hb : a = x2
        · rw [if_pos hb, if_pos (by rw [hb])]; rfl
        · rw [if_neg hb, if_neg (fun z => hb (Sum.inr.inj z).symm)]; exact d1 x2
      · have := putK_len kvs (Sum.inr a) (.str m)
        omega
    · obtain ⟨t, more, rfl, ht⟩ := hi.head
      have hno : ¬ it.kind = ("space" : Str) := by
        cases it with
        | spc m a => exact absurd ⟨m, a, rfl⟩ hk
        | _ => simp only [Item.kind]; decide +kernel
      have hd : ∀ x acc, spcF x acc it = acc := fun x acc => by
        cases it with
        | spc m a => exact absurd ⟨m, a, rfl⟩ hk
        | _ => rfl
      refine ⟨rfl, _, rfl, t, _, 0, _, rfl, rfl, SqT.of ht, at0, rfl, _, rfl, if_F (dstr hno) ?_⟩
      refine ⟨kvs, s1, e1, fun x2 => ?_, by omega⟩
      rw [take_snoc hit, lastSpc_snoc, hd]
      exact d1 x2
  · rintro H1 ⟨kvs, s1, e1, d1, z1⟩
    rw [hlen, List.take_length] at d1
    exact q H1 D kvs s1 hD e1 d1
end
end Fz
set_option Elab.async false
set_option linter.all false
set_option maxRecDepth 100000
set_option maxHeartbeats 4000000
namespace Fz
open PySem PyProof.Rows L2
open C8 (Cal Met Mak pe_c pe_mk pe_mt pe_mt0 pe_gc)
/-! ## the search, plain -/
inductive Ans where
  | no
  | one (m x : Str)
  | two
deriving DecidableEq
abbrev Seen := List (Str × Str)
def hitF (w : Str) : Item → Option (Sum Str (Str × Str))
  | .exp x y => if y = w then some (.inl x) else none
  | .frm m x y => if y = w then some (.inr (m, x)) else none
  | _ => none
def hit (w : Str) (its : List Item) : Option (Sum Str (Str × Str)) := its.findSome? (hitF w)
def locS (S : Str → Str → Seen → Ans × Seen) (its : List Item) (m x : Str) (seen : Seen) : Ans × Seen :=
  if x ∈ decl its then (.one m x, seen) else match lastImp x its with
    | some (m', a) => S m' a seen
    | none => (.no, seen)
def starS (S : Str → Str → Seen → Ans × Seen) (w : Str) : List Item → Ans → Seen → Ans × Seen
  | [], f, seen => (f, seen)
  | .star m :: r, f, seen => match S m w seen with
    | (.two, s') => (.two, s')
    | (.no, s') => starS S w r f s'
    | (.one a b, s') => if f = .no ∨ f = .one a b then starS S w r (.one a b) s' else (.two, s')
  | .ltI _ _ :: r, f, seen => starS S w r f seen
  | .exp _ _ :: r, f, seen => starS S w r f seen
  | .frm _ _ _ :: r, f, seen => starS S w r f seen
  | .imp _ _ _ :: r, f, seen => starS S w r f seen
  | .spc _ _ :: r, f, seen => starS S w r f seen
def srch (M : Str → List Item) : Nat → Str → Str → Seen → Ans × Seen
  | 0, _, _, seen => (.no, seen)
  | n + 1, m, w, seen => if (m, w) ∈ seen then (.no, seen) else match hit w (M m) with
    | some (.inl x) => locS (srch M n) (M m) m x (seen ++ [(m, w)])
    | some (.inr (m', x)) => srch M n m' x (seen ++ [(m, w)])
    | none => starS (srch M n) w (M m) .no (seen ++ [(m, w)])
def WORDS : List Str := ["a", "b", "c", "ia", "la", "zz"]
def Uni (names : List Str) : Seen := names.flatMap fun n => WORDS.map fun w => (n, w)
theorem mem_uni {names : List Str} {m w : Str} (h1 : m ∈ names) (h2 : w ∈ WORDS) : (m, w) ∈ Uni names := List.mem_flatMap.mpr ⟨m, h1, List.mem_map.mpr ⟨w, h2, rfl⟩⟩
def cnt (U seen : Seen) : Nat := (U.filter fun p => decide (p ∉ seen)).length
theorem cnt_lt {U seen : Seen} {x : Str × Str} (hx : x ∈ U) (hn : x ∉ seen) : cnt U (seen ++ [x]) < cnt U seen := by
  unfold cnt
  have e : (U.filter fun p => decide (p ∉ seen ++ [x])) = (U.filter fun p => decide (p ∉ seen)).filter fun p => decide (p ≠ x) := by
    rw [List.filter_filter]
    refine List.filter_congr fun p _ => ?_
    by_cases h1 : p ∈ seen <;> by_cases h2 : p = x <;> simp [h1, h2]
  rw [e]
  refine List.length_filter_lt_length_iff_exists.mpr ⟨x, List.mem_filter.mpr ⟨hx, decide_eq_true hn⟩, by simp⟩
/-- a text that data may hold -/
def OkS (x : Str) : Prop := PyData.strOk x = true
theorem words_ok : ∀ w ∈ WORDS, OkS w := by unfold OkS; decide +kernel
def OkP (p : Str × Str) : Prop := OkS p.1 ∧ OkS p.2
/-- nothing more is left, no more is held -/
def Le (U s s' : Seen) : Prop := cnt U s' ≤ cnt U s ∧ s'.length + cnt U s' ≤ s.length + cnt U s ∧ ∀ p ∈ s', p ∈ s ∨ OkP p
theorem Le.refl (U s : Seen) : Le U s s := ⟨Nat.le_refl _, Nat.le_refl _, fun _ h => .inl h⟩
theorem Le.trans {U a b c : Seen} (h : Le U a b) (k : Le U b c) : Le U a c := ⟨Nat.le_trans k.1 h.1, Nat.le_trans k.2.1 h.2.1, fun p hp => (k.2.2 p hp).elim (h.2.2 p) .inr⟩
theorem Le.add {U seen : Seen} {x : Str × Str} (hx : x ∈ U) (hn : x ∉ seen) (hk : OkP x) : Le U seen (seen ++ [x]) := by
  have h := cnt_lt hx hn
  refine ⟨by omega, ?_, fun p hp => ?_⟩
  · rw [List.length_append, List.length_singleton]
    omega
  · rcases List.mem_append.mp hp with z | z
    · exact .inl z
    · rw [List.mem_singleton.mp z]; exact .inr hk
def ItemOk (names : List Str) : Item → Prop
  | .frm m x _ => m ∈ names ∧ x ∈ WORDS
  | .imp m x _ => m ∈ names ∧ x ∈ WORDS
  | .star m => m ∈ names
  | .ltI x _ => OkS x
  | _ => True
def toldF : Item → Option Str
  | .exp _ y => some y
  | .frm _ _ y => some y
  | _ => none
def TOLD : List Str := ["a", "b", "c"]
structure WF (M : Str → List Item) (names : List Str) : Prop where
  nm : ∀ n ∈ names, OkS n
  td : ∀ n ∈ names, ∀ it ∈ M n, ∀ y, toldF it = some y → y ∈ TOLD
  len : ∀ n ∈ names, (M n).length ≤ 100
  ok : ∀ n ∈ names, ∀ it ∈ M n, ItemOk names it
theorem lastImp_mem : ∀ {x : Str} {its : List Item} {m a : Str} {acc : Option (Str × Str)}, its.foldl (impF x) acc = some (m, a) → acc = some (m, a) ∨ .imp m a x ∈ its
  | x, [], m, a, acc, h => .inl h
  | x, it :: r, m, a, acc, h => by
    rcases lastImp_mem (its := r) (show r.foldl (impF x) (impF x acc it) = some (m, a) from h) with h1 | h1
    · cases it with
      | imp m1 a1 b1 =>
        have h1 : (if b1 = x then some (m1, a1) else acc) = some (m, a) := h1
        by_cases hb : b1 = x
        · rw [if_pos hb] at h1
          have e := Option.some.inj h1
          injection e with e1 e2
          subst e1 e2 hb
          exact .inr List.mem_cons_self
        · rw [if_neg hb] at h1
          exact .inl h1
      | _ => exact .inl h1
    · exact .inr (List.mem_cons_of_mem _ h1)
theorem lastImp_in {x : Str} {its : List Item} {m a : Str} (h : lastImp x its = some (m, a)) : .imp m a x ∈ its := by
  rcases lastImp_mem h with h | h
  · cases h
  · exact h
theorem hit_in {w : Str} {its : List Item} {m x : Str} (h : hit w its = some (.inr (m, x))) : .frm m x w ∈ its := by
  unfold hit at h
  obtain ⟨it, h1, h2⟩ := List.exists_of_findSome?_eq_some h
  cases it with
  | frm m1 x1 y1 =>
    have h2 : (if y1 = w then some (Sum.inr (m1, x1)) else none) = some (Sum.inr (m, x)) := h2
    split at h2
    · rename_i e
      have e2 := Sum.inr.inj (Option.some.inj h2)
      injection e2 with e3 e4
      subst e e3 e4
      exact h1
    · cases h2
  | exp x1 y1 =>
    have h2 : (if y1 = w then some (Sum.inl x1) else none) = some (Sum.inr (m, x)) := h2
    split at h2
    · cases h2
    · cases h2
  | _ => cases h2
section
variable {M : Str → List Item} {names : List Str}
theorem star_le (S : Str → Str → Seen → Ans × Seen) (w : Str) (hS : ∀ m seen, m ∈ names → Le (Uni names) seen (S m w seen).2) : ∀ (its : List Item) (f : Ans) (seen : Seen), (∀ it ∈ its, ItemOk names it) → Le (Uni names) seen (starS S w its f seen).2
  | [], f, seen, _ => Le.refl _ _
  | it :: r, f, seen, h => by
    have hr : ∀ it ∈ r, ItemOk names it := fun i hi => h i (List.mem_cons_of_mem _ hi)
    cases it with
    | star m =>
      have h1 := hS m seen (h _ List.mem_cons_self)
      unfold starS
      split
      · rename_i s' e; rw [e] at h1; exact h1
      · rename_i s' e; rw [e] at h1; exact h1.trans (star_le S w hS r f s' hr)
      · rename_i a b s' e
        rw [e] at h1
        split
        · exact h1.trans (star_le S w hS r _ s' hr)
        · exact h1
    | _ => exact star_le S w hS r f seen hr
theorem srch_le (wf : WF M names) : ∀ (n : Nat) (m w : Str) (seen : Seen), m ∈ names → w ∈ WORDS → Le (Uni names) seen (srch M n m w seen).2
  | 0, _, _, _, _, _ => Le.refl _ _
  | n + 1, m, w, seen, hm, hw => by
    unfold srch
    split
    · exact Le.refl _ _
    · rename_i hs
      have h1 := Le.add (mem_uni hm hw) hs ⟨wf.nm _ hm, words_ok _ hw⟩
      split
      · rename_i x e
        unfold locS
        split
        · exact h1
        · split
          · rename_i m' a e2
            have := wf.ok m hm _ (lastImp_in e2)
            exact h1.trans (srch_le wf n m' a _ this.1 this.2)
          · exact h1
      · rename_i m' x e
        have := wf.ok m hm _ (hit_in e)
        exact h1.trans (srch_le wf n m' x _ this.1 this.2)
      · exact h1.trans (star_le _ w (fun m' s' h' => srch_le wf n m' w s' h' hw) _ _ _ (wf.ok m hm))
end
theorem decl_mem {x : Str} {its : List Item} (h : x ∈ decl its) : ∃ k, .ltI x k ∈ its := by
  unfold decl at h
  obtain ⟨it, h1, h2⟩ := List.mem_filterMap.mp h
  cases it with
  | ltI y k => exact ⟨k, by rw [← Option.some.inj (show some y = some x from h2)]; exact h1⟩
  | _ => cases h2
def OkA0 (a : Ans) : Prop := ∀ m x, a = .one m x → OkS m ∧ OkS x
section
variable {M : Str → List Item} {names : List Str}
theorem star_ok (S : Str → Str → Seen → Ans × Seen) (w : Str) (hS : ∀ m seen, m ∈ names → OkA0 (S m w seen).1) : ∀ (its : List Item) (f : Ans) (seen : Seen), OkA0 f → (∀ it ∈ its, ItemOk names it) → OkA0 (starS S w its f seen).1
  | [], f, seen, hf, _ => hf
  | it :: r, f, seen, hf, h => by
    have hr : ∀ it ∈ r, ItemOk names it := fun i hi => h i (List.mem_cons_of_mem _ hi)
    have h2 : OkA0 .two := fun _ _ e => by cases e
    cases it with
    | star m =>
      have h1 := hS m seen (h _ List.mem_cons_self)
      unfold starS
      split
      · exact h2
      · exact star_ok S w hS r f _ hf hr
      · rename_i a b s' e
        rw [e] at h1
        split
        · exact star_ok S w hS r _ s' h1 hr
        · exact h2
    | _ => exact star_ok S w hS r f seen hf hr
theorem srch_ok (wf : WF M names) : ∀ (n : Nat) (m w : Str) (seen : Seen), m ∈ names → w ∈ WORDS → OkA0 (srch M n m w seen).1
  | 0, _, _, _, _, _ => fun _ _ e => by cases e
  | n + 1, m, w, seen, hm, hw => by
    have hno : OkA0 .no := fun _ _ e => by cases e
    unfold srch
    split
    · exact hno
    · split
      · rename_i x e
        unfold locS
        split
        · rename_i hx
          obtain ⟨k, hk⟩ := decl_mem hx
          intro a b e
          injection e with e1 e2
          subst e1 e2
          exact ⟨wf.nm _ hm, wf.ok _ hm _ hk⟩
        · split
          · rename_i m' a e2
            have := wf.ok m hm _ (lastImp_in e2)
            exact srch_ok wf n m' a _ this.1 this.2
          · exact hno
      · rename_i m' x e
        have := wf.ok m hm _ (hit_in e)
        exact srch_ok wf n m' x _ this.1 this.2
      · exact star_ok _ w (fun m' s' h' => srch_ok wf n m' w s' h' hw) _ _ _ hno (wf.ok m hm)
end
/-! ## its objects -/
def AnsAt (H : Hp) (v : V) : Ans → Prop
  | .no => v = .non
  | .one m x => ∃ t, v = .ref t ∧ H t = some (.tup [.str m, .str x])
  | .two => v = .str "two"
theorem AnsAt.keep {H H' : Hp} (k : KeepT H H') {v : V} : ∀ {a : Ans}, AnsAt H v a → AnsAt H' v a
  | .no, h => h
  | .one _ _, ⟨t, e, h⟩ => ⟨t, e, k _ _ h⟩
  | .two, h => h
def pD (p : Str × Str) : PyData := .tuple [.str p.1, .str p.2]
def ansD : Ans → PyData
  | .no => .none
  | .one m x => pD (m, x)
  | .two => .str "two"
theorem AnsAt.dp {K : PySem.W.Frag} {H : Hp} {v : V} : ∀ {a : Ans}, AnsAt H v a → Dp K H v (ansD a)
  | .no, h => by rw [show v = .non from h]; exact .non
  | .one m x, ⟨t, e, h⟩ => by rw [e]; exact .tup (SqT.of h) (.cons (.str m) (.cons (.str x) .nil))
  | .two, h => by rw [show v = .str "two" from h]; exact .str _
theorem pD_lay {p : Str × Str} (h : OkP p) : (pD p).canLay0 = true := by
  simp only [pD, PyData.canLay0, PyData.canLayAll0, Bool.and_true, Bool.and_eq_true]
  exact h
theorem pD_depth (p : Str × Str) : (pD p).depth ≤ 2 := by simp [pD, PyData.depth, PyData.depthAll]
theorem pD_shaped {p : Str × Str} (hp : OkP p) : SeqAt.shaped (pD p) = true := by
  have h := pD_depth p
  show ((pD p).canLay0 && decide ((pD p).depth ≤ 64)) = true
  rw [Bool.and_eq_true]
  exact ⟨pD_lay hp, decide_eq_true (by omega)⟩
theorem pDs_lay : ∀ zs : Seen, (∀ p ∈ zs, OkP p) → PyData.canLayAll0 (zs.map pD) = true
  | [], _ => by simp [PyData.canLayAll0]
  | z :: zs, h => by simp [PyData.canLayAll0, pD_lay (h z List.mem_cons_self), pDs_lay zs fun p hp => h p (List.mem_cons_of_mem _ hp)]
theorem pDs_depth : ∀ zs : Seen, PyData.depthAll (zs.map pD) ≤ 2
  | [] => by simp [PyData.depthAll]
  | z :: zs => by
    have h1 := pDs_depth zs
    have h2 := pD_depth z
    simp only [List.map_cons, PyData.depthAll]
    omega
theorem pDs_shaped {zs : Seen} (h : ∀ p ∈ zs, OkP p) : SeqAt.shaped (.list (zs.map pD)) = true := by
  have h1 := pDs_depth zs
  have h2 : PyData.depth (.list (zs.map pD)) ≤ 64 := by
    simp only [PyData.depth]
    omega
  show (PyData.canLay0 (.list (zs.map pD)) && decide (PyData.depth (.list (zs.map pD)) ≤ 64)) = true
  rw [Bool.and_eq_true]
  exact ⟨by simp only [PyData.canLay0]; exact pDs_lay zs h, decide_eq_true h2⟩
theorem pD_eqv (a b : Str × Str) : PyData.eqv (pD a) (pD b) = decide (a = b) := by
  obtain ⟨a1, a2⟩ := a
  obtain ⟨b1, b2⟩ := b
  have e : PyData.eqv (pD (a1, a2)) (pD (b1, b2)) = ((a1 == b1) && ((a2 == b2) && true)) := by simp only [pD, PyData.eqv, PyData.eqvAll]
  rw [e]
  by_cases h1 : a1 = b1
  · by_cases h2 : a2 = b2
    · subst h1 h2; simp
    · have q : (a2 == b2) = false := beq_eq_false_iff_ne.mpr h2
      rw [q, decide_eq_false (by intro z; injection z with _ z; exact h2 z)]
      simp
  · have q : (a1 == b1) = false := beq_eq_false_iff_ne.mpr h1
    rw [q, decide_eq_false (by intro z; injection z with z _; exact h1 z)]
    simp
def OkA : Ans → Prop
  | .one m x => OkP (m, x)
  | _ => True
theorem ansD_shaped : ∀ {a : Ans}, OkA a → SeqAt.shaped (ansD a) = true
  | .no, _ => rfl
  | .one _ _, h => pD_shaped h
  | .two, _ => by decide +kernel
theorem ansD_eqv (a b : Ans) : PyData.eqv (ansD a) (ansD b) = decide (a = b) := by
  cases a with
  | no => cases b <;> simp [ansD, pD, PyData.eqv]
  | two => cases b <;> simp [ansD, pD, PyData.eqv]
  | one m x =>
    cases b with
    | one m' x' =>
      show PyData.eqv (pD (m, x)) (pD (m', x')) = _
      rw [pD_eqv]
      refine decide_eq_decide.mpr ⟨fun z => ?_, fun z => ?_⟩
      · injection z with z1 z2; rw [z1, z2]
      · injection z with z1 z2; rw [z1, z2]
    | _ => simp [ansD, pD, PyData.eqv]
def PairAt (H : Hp) (v : V) (p : Str × Str) : Prop := ∃ t, v = .ref t ∧ H t = some (.tup [.str p.1, .str p.2])
def SeenAt (H : Hp) (l : Addr) (seen : Seen) : Prop := ∃ us, H l = some (.lst us) ∧ Paired (PairAt H) us seen
theorem SeenAt.same {H H' : Hp} (s : Same H H') {l : Addr} {seen : Seen} (h : SeenAt H l seen) : SeenAt H' l seen := by
  obtain ⟨us, h1, h2⟩ := h
  exact ⟨us, s _ _ h1, Paired.mapP h2 fun _ _ ⟨t, e, ht⟩ => ⟨t, e, s _ _ ht⟩⟩
theorem seen_dp {K : PySem.W.Frag} {H : Hp} : ∀ {us : List V} {seen : Seen}, Paired (PairAt H) us seen → DpAll K H us (seen.map pD)
  | _, _, .nil => .nil
  | _, _, .cons ⟨t, e, h⟩ r => by
    rw [e]
    exact .cons (.tup (SqT.of h) (.cons (.str _) (.cons (.str _) .nil))) (seen_dp r)
theorem seen_any (p : Str × Str) : ∀ seen : Seen, ((seen.map pD).any fun z => PyData.eqv z (pD p)) = decide (p ∈ seen)
  | [] => rfl
  | q :: r => by
    rw [List.map_cons, List.any_cons, seen_any p r, pD_eqv]
    by_cases h : q = p
    · subst h; simp
    · rw [decide_eq_false h, Bool.false_or]
      by_cases h2 : p ∈ r
      · rw [decide_eq_true h2, decide_eq_true (List.mem_cons_of_mem _ h2)]
      · rw [decide_eq_false h2, decide_eq_false]
        intro z
        rcases List.mem_cons.mp z with z | z
        · exact h z.symm
        · exact h2 z
/-- a state of the search: the graph stands since H0, the seen list is younger -/
structure SIn (K : PySem.W.Frag) (M : Str → List Item) (names : List Str) (H0 H : Hp) (g sl : Addr) (seen : Seen) (n : Nat) : Prop where
  G : Gr K M names H0 g
  s : Same H0 H
  f : H0 sl = none
  a : SeenAt H sl seen
  wf : WF M names
  o : ∀ p ∈ seen, OkP p
  c : cnt (Uni names) seen < n
  l : seen.length + cnt (Uni names) seen ≤ 1000
theorem SIn.same {K : PySem.W.Frag} {M : Str → List Item} {names : List Str} {H0 H H' : Hp} {g sl : Addr} {seen : Seen} {n : Nat} (I : SIn K M names H0 H g sl seen n) (s : Same H H') : SIn K M names H0 H' g sl seen n :=
  ⟨I.G, I.s.trans s, I.f, I.a.same s, I.wf, I.o, I.c, I.l⟩
theorem SIn.step {K : PySem.W.Frag} {M : Str → List Item} {names : List Str} {H0 H H' : Hp} {g sl : Addr} {seen seen' : Seen} {n : Nat} (I : SIn K M names H0 H g sl seen n) (s : SameX sl H H') (a : SeenAt H' sl seen') (le : Le (Uni names) seen seen') : SIn K M names H0 H' g sl seen' n :=
  ⟨I.G, same_of_X I.s I.f s, I.f, a, I.wf, fun p hp => (le.2.2 p hp).elim (I.o p) id, Nat.lt_of_le_of_lt le.1 I.c, Nat.le_trans le.2.1 I.l⟩
theorem SIn.gr {K : PySem.W.Frag} {M : Str → List Item} {names : List Str} {H0 H : Hp} {g sl : Addr} {seen : Seen} {n : Nat} (I : SIn K M names H0 H g sl seen n) : Gr K M names H g := I.G.same I.s
/-- what a search hands back -/
def RetS (H : Hp) (Q : VK) (sl : Addr) (r : Ans × Seen) : Prop := ∀ (H' : Hp) (v : V), SameX sl H H' → SeenAt H' sl r.2 → AnsAt H' v r.1 → Q v H'
theorem RetS.same {H H' : Hp} {Q : VK} {sl : Addr} {r : Ans × Seen} (q : RetS H Q sl r) (s : SameX sl H H') : RetS H' Q sl r := fun H2 v s2 => q H2 v (s.trans s2)
section
variable {P : Program} {w : World} {K : PySem.W.Frag} {mg : Str → Option Value} {base : Heap}
def spSearch (K : PySem.W.Frag) (n : Nat) : Sp := fun vs H Q _ => ∃ (g sl : Addr) (M : Str → List Item) (names : List Str) (H0 : Hp) (m wd : Str) (seen : Seen), vs = [.ref g, .str m, .str wd, .ref sl] ∧ SIn K M names H0 H g sl seen n ∧ m ∈ names ∧ wd ∈ WORDS ∧ RetS H Q sl (srch M n m wd seen)
def spLocal (K : PySem.W.Frag) (n : Nat) : Sp := fun vs H Q _ => ∃ (g sl : Addr) (M : Str → List Item) (names : List Str) (H0 : Hp) (m x : Str) (seen : Seen), vs = [.ref g, .str m, .str x, .ref sl] ∧ SIn K M names H0 H g sl seen n ∧ m ∈ names ∧ RetS H Q sl (locS (srch M n) (M m) m x seen)
def spStars (K : PySem.W.Frag) (n : Nat) : Sp := fun vs H Q _ => ∃ (g sl : Addr) (M : Str → List Item) (names : List Str) (H0 : Hp) (m wd : Str) (seen : Seen), vs = [.ref g, .str m, .str wd, .ref sl] ∧ SIn K M names H0 H g sl seen n ∧ m ∈ names ∧ wd ∈ WORDS ∧ RetS H Q sl (starS (srch M n) wd (M m) .no seen)
theorem c_Graph_local (T : Tx K mg w) {n k : Nat} (c_Graph_search : Met P w K mg base (k + 1) (He.ga K "Graph") "search" (spSearch K n) []) : Met P w K mg base (k + 2) (He.ga K "Graph") "local" (spLocal K n) [] := by
  have c_Graph_declared : Met P w K mg base 1 (He.ga K "Graph") "declared" (spDeclared (K := K)) [] := c_Graph_declared T
  have c_Graph_imported : Met P w K mg base 1 (He.ga K "Graph") "imported" (spImported (K := K)) [] := c_Graph_imported T
  obtain ⟨fd, F⟩ := T.f_Graph_local
  refine metOf T.cl_Graph T.m_Graph_local F (b_Graph_local F) sc_Graph_local (fun vs H Q E h => ?_) (fun cdv A outer s H vs Q E hr h => ?_)
  · obtain ⟨_, _, _, _, _, _, _, _, rfl, _⟩ := h; rfl
  obtain ⟨g, sl, M, names, H0, m, x, seen, rfl, I, hm, q⟩ := h
  have hu := hu_of hr
  refine ⟨_, (pss_cons (ps_if (pt_cmpR op_in_seq (pv 2) (pe_mt c_Graph_declared hr (by omega) (pv 0) (pa_cons (pv 1) pa_nil)) (by rfl)) (pss_one (ps_ret (pe_tup (pa_cons (pv 1) (pa_cons (pv 2) pa_nil))))) pss_nil)
  (pss_cons (ps_set (i := 4) sc_Graph_local.nd rfl (Or.inl rfl) (pe_mt c_Graph_imported hr (by omega) (pv 0) (pa_cons (pv 1) pa_nil)))
  (pss_cons (ps_if (pt_cmp (pc_din hu (pv 2) (pv 4))) (pss_one (ps_ret (pe_mt c_Graph_search hr (by omega) (pv 0) (pa_cons (pe_ix ix_tup (pe_dget hu (pv 4) (pv 2) (fun _ _ => rfl)) pe_int (fun _ _ => rfl)) (pa_cons (pe_ix ix_tup (pe_dget hu (pv 4) (pv 2) (fun _ _ => rfl)) pe_int (fun _ _ => rfl)) (pa_cons (pv 3) pa_nil)))))) pss_nil)
  (pss_one (ps_ret pe_non))))), ?_⟩
  obtain ⟨dx, en, td, id, ol, kvs0, hg, _, _⟩ := I.gr.ex
  refine ⟨_, rfl, _, rfl, g, dx, _, rfl, hg, gf_no (by decide +kernel), _, rfl, g, m, M, names, rfl, I.gr, hm, Nat.le_trans (I.wf.len m hm) (by decide), fun H1 p s1 hp0 hp => ?_⟩
  refine ⟨p, _, rfl, .inl (SqL.of hp), rfl, flat_strs _, _, rfl, ite2 (fun h1 => ?_) (fun h1 => ?_)⟩
  · have h1 : inV (.str x) ((decl (M m)).map V.str) = true := h1
    rw [inV_strs] at h1
    have e : locS (srch M n) (M m) m x seen = (.one m x, seen) := by unfold locS; rw [if_pos (of_decide_eq_true h1)]
    rw [e] at q
    refine ⟨_, rfl, _, rfl, sz 2, fun t ht => ?_⟩
    have s2 := s1.trans (same_new ht (.tup [.str m, .str x]))
    exact q _ _ (SameX.of s2) (I.a.same s2) ⟨t, rfl, upd_same⟩
  · have h1 : ¬ inV (.str x) ((decl (M m)).map V.str) = true := h1
    rw [inV_strs] at h1
    have I1 := I.same s1
    obtain ⟨dx, en, td, id, ol, kvs0, hg, _, _⟩ := I1.gr.ex
    refine ⟨_, rfl, g, dx, _, rfl, hg, gf_no (by decide +kernel), _, rfl, g, m, M, names, rfl, I1.gr, hm, Nat.le_trans (I.wf.len m hm) (by decide), fun H2 d kvs s2 hd0 hd di => ?_⟩
    have I2 := I1.same s2
    have di := di x
    have e0 : locS (srch M n) (M m) m x seen = match lastImp x (M m) with | some (m', a) => srch M n m' a seen | none => (.no, seen) := by
      unfold locS; rw [if_neg fun z => h1 (decide_eq_true z)]
    rw [e0] at q
    have hDG := DGet.k (k := Sum.inr x) hd
    cases hL : lastImp x (M m) with
    | none =>
      rw [hL] at di q
      have di : valV kvs (Sum.inr x) = none := di
      rw [di] at hDG
      refine ⟨_, rfl, _, rfl, d, none, rfl, hDG, _, rfl, iteF ?_⟩
      exact q _ _ (SameX.of (s1.trans s2)) I2.a rfl
    | some ma =>
      obtain ⟨m', a⟩ := ma
      rw [hL] at di q
      obtain ⟨t, di, ht⟩ := di
      rw [di] at hDG
      have hok := I.wf.ok m hm _ (lastImp_in hL)
      obtain ⟨dx, en, td, id, ol, kvs0, hg, _, _⟩ := I2.gr.ex
      refine ⟨_, rfl, _, rfl, d, some (.ref t), rfl, hDG, _, rfl, iteT ?_⟩
      refine ⟨_, rfl, g, dx, _, rfl, hg, gf_no (by decide +kernel), _, rfl, _, rfl, d, _, rfl, hDG, t, _, 0, _, rfl, rfl, SqT.of ht, at0, _, rfl, _, rfl, d, _, rfl, hDG, t, _, 1, _, rfl, rfl, SqT.of ht, at1, _, rfl, ?_⟩
      exact ⟨g, sl, M, names, H0, m', a, seen, rfl, I2, hok.1, hok.2, q.same (SameX.of (s1.trans s2))⟩
end
end Fz
set_option Elab.async false
set_option linter.all false
set_option maxRecDepth 100000
set_option maxHeartbeats 4000000
namespace Fz
open PySem PyProof.Rows L2
open C8 (Cal Met Mak pe_c pe_mk pe_mt pe_mt0 pe_gc)
theorem drop_get {α : Type} {l : List α} {i : Nat} {x : α} (h : l[i]? = some x) : l.drop i = x :: l.drop (i + 1) := by
  obtain ⟨hlt, e⟩ := List.getElem?_eq_some_iff.mp h
  rw [List.drop_eq_getElem_cons hlt, e]
theorem starS_skip (S : Str → Str → Seen → Ans × Seen) (w : Str) {it : Item} (h : ¬ it.kind = ("star" : Str)) (r : List Item) (f : Ans) (seen : Seen) : starS S w (it :: r) f seen = starS S w r f seen := by
  cases it with
  | star m => exact absurd rfl h
  | _ => rfl
theorem starS_star (S : Str → Str → Seen → Ans × Seen) (w m : Str) (r : List Item) (f : Ans) (seen : Seen) : starS S w (.star m :: r) f seen = (match S m w seen with
    | (.two, s') => (.two, s')
    | (.no, s') => starS S w r f s'
    | (.one a b, s') => if f = .no ∨ f = .one a b then starS S w r (.one a b) s' else (.two, s')) := rfl
theorem ok_of {a : Ans} (h : OkA0 a) : OkA a := by
  cases a with
  | one m x => exact h m x rfl
  | _ => exact True.intro
theorem nonB {v : V} : (!decide (v = V.non)) = true ↔ v ≠ .non := by simp
section
variable {P : Program} {w : World} {K : PySem.W.Frag} {mg : Str → Option Value} {base : Heap}
theorem c_Graph_search_stars (T : Tx K mg w) {n k : Nat} (c_Graph_search : Met P w K mg base (k + 1) (He.ga K "Graph") "search" (spSearch K n) []) : Met P w K mg base (k + 2) (He.ga K "Graph") "search_stars" (spStars K n) [] := by
  obtain ⟨fd, F⟩ := T.f_Graph_search_stars
  refine metOf T.cl_Graph T.m_Graph_search_stars F (b_Graph_search_stars F) sc_Graph_search_stars (fun vs H Q E h => ?_) (fun cdv A outer s H vs Q E hr h => ?_)
  · obtain ⟨_, _, _, _, _, _, _, _, rfl, _⟩ := h; rfl
  obtain ⟨g, sl, M, names, H0, m, wd, seen, rfl, I, hm, hwd, q⟩ := h
  have hu := hu_of hr
  refine ⟨_, (pss_cons (ps_set (i := 4) sc_Graph_search_stars.nd rfl (Or.inl rfl) pe_non)
  (pss_cons (ps_for PassesOwn.never rfl (pi_list (pe_dget hu (pe_fld (pv 0) rfl) (pv 1) (fun _ _ => rfl))) (pg_name (i := 5) sc_Graph_search_stars.nd rfl (Or.inl rfl)) (pss_one (ps_if (pt_cmpR op_eq (pe_ix ix_tup (pv 5) pe_int (fun _ _ => rfl)) pe_str (nomark _)) (pss_cons (ps_set (i := 6) sc_Graph_search_stars.nd rfl (Or.inl rfl) (pe_mt c_Graph_search hr (by omega) (pv 0) (pa_cons (pe_ix ix_tup (pv 5) pe_int (fun _ _ => rfl)) (pa_cons (pv 2) (pa_cons (pv 3) pa_nil)))))
  (pss_cons (ps_if (PW.pt (pw_or (pt_cmpR (op_eqD (hu64_of hr)) (pv 6) pe_str (nomark _)) (pw_or1 (PW.pt (pw_and (pt_cmpR op_notN (pv 6) pe_non (nomark _)) (pw_and (pt_cmpR op_notN (pv 4) pe_non (nomark _)) (pw_and1 (pt_cmpR (op_neD (hu64_of hr)) (pv 6) (pv 4) (nomark _))))))))) (pss_one (ps_ret pe_str)) pss_nil)
  (pss_one (ps_if (pt_cmpR op_notN (pv 6) pe_non (nomark _)) (pss_one (ps_set (i := 4) sc_Graph_search_stars.nd rfl (Or.inl rfl) (pv 6))) pss_nil)))) pss_nil)))
  (pss_one (ps_ret (pv 4))))), ?_⟩
  obtain ⟨dx, en, td, id, ol, kvs0, hg0, hid0, hI0⟩ := I.G.ex
  obtain ⟨l, hv, us, hl0, hul0⟩ := hI0 m hm
  have hg := I.s _ _ hg0
  have hlen := Paired.len (show Paired _ us (M m) from hul0)
  refine ⟨_, rfl, g, _, dx, _, _, rfl, hg, T.cl_Graph, T.n_Graph__items, gf_items, _, rfl, id, _, rfl, hv ▸ DGet.k (k := Sum.inr m) (I.s _ _ hid0), l, rfl, ⟨us, SqL.of (I.s _ _ hl0)⟩, ?_⟩
  refine for_list (K := K) (a := l) (xs := us) (fun i σ H' => ∃ (f : Ans) (fv : V) (seen' : Seen) (v5 v6 : Option V), σ = [some (.ref g), some (.str m), some (.str wd), some (.ref sl), some fv, v5, v6] ∧ SIn K M names H0 H' g sl seen' n ∧ SameX sl H H' ∧ AnsAt H' fv f ∧ f ≠ .two ∧ OkA f ∧
      starS (srch M n) wd (M m) .no seen = starS (srch M n) wd ((M m).drop i) f seen')
    ⟨.no, .non, seen, none, none, rfl, I, SameX.refl _ _, rfl, (by intro z; cases z), True.intro, rfl⟩ (fun i σ H' _ ⟨_, _, _, _, _, _, I1, _⟩ => SqL.of (I1.s _ _ hl0)) ?_ ?_
  · rintro i x σ H1 hx ⟨f, fv, seen', v5, v6, rfl, I1, x1, af, hf2, okf, eq⟩
    obtain ⟨it, hit, hi⟩ := ItemL.get (ItemL.keep (KeepT.of I1.s) hul0) hx
    rw [drop_get hit] at eq
    by_cases hk : ∃ m', it = .star m'
    · obtain ⟨m', rfl⟩ := hk
      obtain ⟨t, j, rfl, ht⟩ := hi
      have hm' : m' ∈ names := I.wf.ok m hm _ (List.mem_of_getElem? hit)
      have hg1 := I1.s _ _ hg0
      refine ⟨_, rfl, t, _, 0, _, rfl, rfl, SqT.of ht, at0, rfl, _, rfl, if_T (by decide +kernel) ?_⟩
      refine ⟨_, rfl, g, dx, _, rfl, hg1, gf_no (by decide +kernel), _, rfl, t, _, 1, _, rfl, rfl, SqT.of ht, at1, _, rfl, _, rfl, g, sl, M, names, H0, m', wd, seen', rfl, I1, hm', hwd, fun H2 v s2 a2 an2 => ?_⟩
      have le := srch_le I.wf n m' wd seen' hm' hwd
      have okr := ok_of (srch_ok I.wf n m' wd seen' hm' hwd)
      have I2 := I1.step s2 a2 le
      have kt : KeepT H1 H2 := fun a xs h => by
        obtain ⟨us1, b1, _⟩ := I1.a
        exact s2 _ _ (ne_of h b1 (by intro z; cases z)) h
      have af2 := af.keep kt
      have x2 := x1.trans s2
      rw [starS_star] at eq
      cases hrr : srch M n m' wd seen' with
      | mk ans s'' =>
        rw [hrr] at eq a2 an2 okr I2
        have htwo : PyData.eqv (ansD ans) (.str "two") = decide (ans = .two) := ansD_eqv ans .two
        refine ⟨_, rfl, ansD ans, .str "two", an2.dp, .str _, ansD_shaped okr, by decide +kernel, _, rfl, ?_⟩
        rw [htwo]
        cases ans with
        | two =>
          have eq : starS (srch M n) wd (M m) .no seen = (.two, s'') := eq
          rw [eq] at q
          exact if_T (by decide) (iteT (q H2 _ x2 a2 rfl))
        | no =>
          have eq : starS (srch M n) wd (M m) .no seen = starS (srch M n) wd ((M m).drop (i + 1)) f s'' := eq
          have ev : v = .non := an2
          subst ev
          refine if_F (by decide) ⟨_, rfl, rfl, _, rfl, if_F (by decide) (iteF ?_)⟩
          refine ⟨_, rfl, rfl, _, rfl, if_F (by decide) ?_⟩
          exact ⟨f, fv, s'', _, _, rfl, I2, x2, af2, hf2, okf, eq⟩
        | one a b =>
          have an2' := an2
          obtain ⟨t2, rfl, ht2⟩ := an2'
          have eq : starS (srch M n) wd (M m) .no seen = if f = .no ∨ f = .one a b then starS (srch M n) wd ((M m).drop (i + 1)) (.one a b) s'' else (.two, s'') := eq
          have nt2 : (!decide (V.ref t2 = V.non)) = true := nonB.mpr (by intro z; cases z)
          refine if_F (decide_eq_false (by intro z; cases z)) ⟨_, rfl, rfl, _, rfl, if_T nt2 ?_⟩
          cases f with
          | two => exact absurd rfl hf2
          | no =>
            have efv : fv = .non := af2
            subst efv
            rw [if_pos (.inl rfl)] at eq
            refine ⟨_, rfl, rfl, _, rfl, if_F (by decide) (iteF ?_)⟩
            refine ⟨_, rfl, rfl, _, rfl, if_T nt2 ?_⟩
            exact ⟨_, rfl, .one a b, _, s'', _, _, rfl, I2, x2, an2, (by intro z; cases z), okr, eq⟩
          | one a' b' =>
            have af2' := af2
            obtain ⟨t3, rfl, ht3⟩ := af2'
            have nt3 : (!decide (V.ref t3 = V.non)) = true := nonB.mpr (by intro z; cases z)
            refine ⟨_, rfl, rfl, _, rfl, if_T nt3 ?_⟩
            refine ⟨_, rfl, _, rfl, ansD (.one a b), ansD (.one a' b'), an2.dp, af2.dp, ansD_shaped okr, ansD_shaped okf, _, rfl, ?_⟩
            have hne : PyData.eqv (ansD (.one a b)) (ansD (.one a' b')) = decide (Ans.one a b = .one a' b') := ansD_eqv _ _
            rw [hne]
            by_cases he : Ans.one a b = .one a' b'
            · rw [if_pos (.inr he.symm)] at eq
              refine if_F (by rw [decide_eq_true he]; rfl) ?_
              refine ⟨_, rfl, rfl, _, rfl, if_T nt2 ?_⟩
              exact ⟨_, rfl, .one a b, _, s'', _, _, rfl, I2, x2, an2, (by intro z; cases z), okr, eq⟩
            · rw [if_neg (fun z => z.elim (fun z => by cases z) fun z => he z.symm)] at eq
              rw [eq] at q
              exact if_T (by rw [decide_eq_false he]; rfl) (q H2 _ x2 a2 rfl)
    · obtain ⟨t, more, rfl, ht⟩ := hi.head
      have hno : ¬ it.kind = ("star" : Str) := by
        cases it with
        | star m' => exact absurd ⟨m', rfl⟩ hk
        | _ => simp only [Item.kind]; decide +kernel
      refine ⟨_, rfl, t, _, 0, _, rfl, rfl, SqT.of ht, at0, rfl, _, rfl, if_F (dstr hno) ?_⟩
      rw [starS_skip _ _ hno] at eq
      exact ⟨f, fv, seen', _, _, rfl, I1, x1, af, hf2, okf, eq⟩
  · rintro σ H1 ⟨f, fv, seen', v5, v6, rfl, I1, x1, af, hf2, okf, eq⟩
    rw [hlen, List.drop_length] at eq
    have eq : starS (srch M n) wd (M m) .no seen = (f, seen') := eq
    rw [eq] at q
    exact ⟨_, rfl, q H1 fv x1 I1.a af⟩
theorem hit_take {w : Str} {its : List Item} {i : Nat} {it : Item} (hi : its[i]? = some it) (h0 : hit w (its.take i) = none) : hit w its = (hitF w it).or (hit w (its.drop (i + 1))) := by
  have e : its = its.take i ++ its.drop i := (List.take_append_drop i its).symm
  have e2 : hit w its = hit w (its.take i ++ its.drop i) := by rw [← e]
  rw [e2]
  unfold hit at h0 ⊢
  rw [List.findSome?_append, h0, drop_get hi, List.findSome?_cons]
  cases hitF w it <;> rfl
theorem hit_snoc {w : Str} {its : List Item} {i : Nat} {it : Item} (hi : its[i]? = some it) (h0 : hit w (its.take i) = none) (h1 : hitF w it = none) : hit w (its.take (i + 1)) = none := by
  rw [take_snoc hi]
  unfold hit at h0 ⊢
  rw [List.findSome?_append, h0, List.findSome?_cons, h1]
  rfl
theorem c_Graph_search (T : Tx K mg w) {n k : Nat} (c_Graph_search : Met P w K mg base (k + 1) (He.ga K "Graph") "search" (spSearch K n) []) : Met P w K mg base (k + 3) (He.ga K "Graph") "search" (spSearch K (n + 1)) [] := by
  have c_Graph_local : Met P w K mg base (k + 2) (He.ga K "Graph") "local" (spLocal K n) [] := c_Graph_local T c_Graph_search
  have c_Graph_search_stars : Met P w K mg base (k + 2) (He.ga K "Graph") "search_stars" (spStars K n) [] := c_Graph_search_stars T c_Graph_search
  obtain ⟨fd, F⟩ := T.f_Graph_search
  refine metOf T.cl_Graph T.m_Graph_search F (b_Graph_search F) sc_Graph_search (fun vs H Q E h => ?_) (fun cdv A outer s H vs Q E hr h => ?_)
  · obtain ⟨_, _, _, _, _, _, _, _, rfl, _⟩ := h; rfl
  obtain ⟨g, sl, M, names, H0, m, wd, seen, rfl, I, hm, hwd, q⟩ := h
  have hu := hu_of hr
  have okp : OkP (m, wd) := ⟨I.wf.nm m hm, words_ok wd hwd⟩
  refine ⟨_, (pss_cons (ps_if (pt_cmpR (op_inD (hu65_of hr)) (pe_tup (pa_cons (pv 1) (pa_cons (pv 2) pa_nil))) (pv 3) (by rfl)) (pss_one (ps_ret pe_non)) pss_nil)
  (pss_cons (ps_expr (pe_bm PySem.F.plainAttrs_list PySem.F.slot_list_append PySem.F.type_list_append mt_append (pv 3) (pa_cons (pe_tup (pa_cons (pv 1) (pa_cons (pv 2) pa_nil))) pa_nil)))
  (pss_cons (ps_for PassesOwn.never rfl (pi_list (pe_dget hu (pe_fld (pv 0) rfl) (pv 1) (fun _ _ => rfl))) (pg_name (i := 4) sc_Graph_search.nd rfl (Or.inl rfl)) (pss_cons (ps_if (pt_cmpR op_eq (pe_ix ix_tup (pv 4) pe_int (fun _ _ => rfl)) pe_str (nomark _)) (pss_one (ps_for PassesOwn.never rfl (pi_tup (pe_ix ix_tup (pv 4) pe_int (fun _ _ => rfl))) (pg_tup rfl (pgs_cons (pg_name (i := 5) sc_Graph_search.nd rfl (Or.inl rfl)) (pgs_cons (pg_name (i := 6) sc_Graph_search.nd rfl (Or.inl rfl)) pgs_nil))) (pss_one (ps_if (pt_cmpR op_eq (pv 6) (pv 2) (nomark _)) (pss_one (ps_ret (pe_mt c_Graph_local hr (by omega) (pv 0) (pa_cons (pv 1) (pa_cons (pv 5) (pa_cons (pv 3) pa_nil)))))) pss_nil)))) pss_nil)
  (pss_one (ps_if (pt_cmpR op_eq (pe_ix ix_tup (pv 4) pe_int (fun _ _ => rfl)) pe_str (nomark _)) (pss_one (ps_for PassesOwn.never rfl (pi_tup (pe_ix ix_tup (pv 4) pe_int (fun _ _ => rfl))) (pg_tup rfl (pgs_cons (pg_name (i := 7) sc_Graph_search.nd rfl (Or.inl rfl)) (pgs_cons (pg_name (i := 6) sc_Graph_search.nd rfl (Or.inl rfl)) pgs_nil))) (pss_one (ps_if (pt_cmpR op_eq (pv 6) (pv 2) (nomark _)) (pss_one (ps_ret (pe_mt c_Graph_search hr (by omega) (pv 0) (pa_cons (pe_ix ix_tup (pv 4) pe_int (fun _ _ => rfl)) (pa_cons (pv 7) (pa_cons (pv 3) pa_nil)))))) pss_nil)))) pss_nil))))
  (pss_one (ps_ret (pe_mt c_Graph_search_stars hr (by omega) (pv 0) (pa_cons (pv 1) (pa_cons (pv 2) (pa_cons (pv 3) pa_nil))))))))), ?_⟩
  obtain ⟨us, e0, p0⟩ := I.a
  refine ⟨_, rfl, _, rfl, sz 2, fun p hp => ?_⟩
  have sp := same_new hp (.tup [.str m, .str wd])
  have p1 : Paired (PairAt (upd H p (.tup [.str m, .str wd]))) us seen := Paired.mapP p0 fun _ _ ⟨t, e, ht⟩ => ⟨t, e, sp _ _ ht⟩
  refine ⟨_, rfl, pD (m, wd), seen.map pD, .tup (SqT.of upd_same) (.cons (.str _) (.cons (.str _) .nil)), .lst (SqL.of (sp _ _ e0)) (seen_dp p1), pD_shaped okp, pDs_shaped I.o, _, rfl, ?_⟩
  rw [seen_any]
  have hstep : srch M (n + 1) m wd seen = if (m, wd) ∈ seen then (.no, seen) else match hit wd (M m) with
    | some (.inl x) => locS (srch M n) (M m) m x (seen ++ [(m, wd)])
    | some (.inr (m', x)) => srch M n m' x (seen ++ [(m, wd)])
    | none => starS (srch M n) wd (M m) .no (seen ++ [(m, wd)]) := rfl
  refine ite2 (fun h1 => ?_) (fun h1 => ?_)
  · rw [hstep, if_pos (of_decide_eq_true h1)] at q
    exact q _ _ (SameX.of sp) ⟨us, sp _ _ e0, p1⟩ rfl
  have hns : (m, wd) ∉ seen := fun z => h1 (decide_eq_true z)
  rw [hstep, if_neg hns] at q
  refine ⟨_, rfl, .inl ⟨rfl, us, SqL.of (sp _ _ e0)⟩, _, rfl, _, rfl, sz 2, fun p2 hp2 => ?_⟩
  have sp2 := sp.trans (same_new hp2 (.tup [.str m, .str wd]))
  have hul := Paired.len (show Paired _ us seen from p0)
  have hsl := I.l
  refine ⟨sl, us, _, rfl, rfl, sp2 _ _ e0, szl (by omega), ?_⟩
  have sx : SameX sl H (upd (upd (upd H p (.tup [.str m, .str wd])) p2 (.tup [.str m, .str wd])) sl (.lst (us ++ [.ref p2]))) := (SameX.of sp2).trans SameX.upd
  have hat : SeenAt (upd (upd (upd H p (.tup [.str m, .str wd])) p2 (.tup [.str m, .str wd])) sl (.lst (us ++ [.ref p2]))) sl (seen ++ [(m, wd)]) := by
    refine ⟨_, upd_same, Paired.snoc ⟨p2, rfl, ?_⟩ (Paired.mapP p0 fun _ _ ⟨t, e, ht⟩ => ⟨t, e, ?_⟩)⟩
    · rw [upd_ne (ne_of (sp2 _ _ ht) (sp2 _ _ e0) (by intro z; cases z))]; exact sp2 _ _ ht
    · rw [upd_ne (ne_of upd_same (sp2 _ _ e0) (by intro z; cases z))]; exact upd_same
  have le := Le.add (mem_uni hm hwd) hns okp
  have I1 := I.step sx hat le
  have hc1 : cnt (Uni names) (seen ++ [(m, wd)]) < n := by
    have h2 := cnt_lt (mem_uni hm hwd) hns
    have h3 := I.c
    omega
  have I2 : SIn K M names H0 _ g sl (seen ++ [(m, wd)]) n := ⟨I1.G, I1.s, I1.f, I1.a, I1.wf, I1.o, hc1, I1.l⟩
  clear I1
  generalize upd (upd (upd H p (.tup [.str m, .str wd])) p2 (.tup [.str m, .str wd])) sl (.lst (us ++ [.ref p2])) = H1 at sx hat I2 ⊢
  obtain ⟨dx, en, td, id, ol, kvs0, hg, hid, hI⟩ := I2.gr.ex
  obtain ⟨l, hv, ius, hl, hil⟩ := hI m hm
  have hlen := Paired.len (show Paired _ ius (M m) from hil)
  have q1 := q.same sx
  refine ⟨_, rfl, g, _, dx, _, _, rfl, hg, T.cl_Graph, T.n_Graph__items, gf_items, _, rfl, id, _, rfl, hv ▸ DGet.k (k := Sum.inr m) hid, l, rfl, ⟨ius, SqL.of hl⟩, ?_⟩
  refine for_list (K := K) (a := l) (xs := ius) (fun i σ H' => (∃ v4 v5 v6 v7, σ = [some (.ref g), some (.str m), some (.str wd), some (.ref sl), v4, v5, v6, v7]) ∧ H' = H1 ∧ hit wd ((M m).take i) = none)
    ⟨⟨_, _, _, _, rfl⟩, rfl, rfl⟩ (fun i σ H' _ ⟨_, e, _⟩ => by rw [e]; exact SqL.of hl) ?_ ?_
  · rintro i x σ H' hx ⟨⟨v4, v5, v6, v7, rfl⟩, rfl, hno⟩
    obtain ⟨it, hit', hi⟩ := ItemL.get hil hx
    have hT := hit_take hit' hno
    by_cases hke : ∃ x1 y1, it = .exp x1 y1
    · obtain ⟨x1, y1, rfl⟩ := hke
      obtain ⟨t, ps, qq, j, rfl, ht, hps, hqq⟩ := hi
      refine ⟨_, rfl, t, _, 0, _, rfl, rfl, SqT.of ht, at0, rfl, _, rfl, if_T (by decide +kernel) ?_⟩
      refine ⟨_, rfl, t, _, 1, _, rfl, rfl, SqT.of ht, at1, ps, rfl, ⟨_, SqT.of hps⟩, ?_⟩
      refine for_tup (K := K) (a := ps) (xs := [.ref qq]) (fun kk σ H2 => (∃ v5 v6 v7, σ = [some (.ref g), some (.str m), some (.str wd), some (.ref sl), some (.ref t), v5, v6, v7]) ∧ H2 = H' ∧ (1 ≤ kk → ¬ y1 = wd))
        ⟨⟨_, _, _, rfl⟩, rfl, fun z => absurd z (by decide)⟩ (fun kk σ H2 _ ⟨_, e, _⟩ => by rw [e]; exact SqT.of hps) ?_ ?_
      · rintro kk y σ H2 hy ⟨⟨u5, u6, u7, rfl⟩, rfl, _⟩
        have hk0 : kk = 0 := by
          have := (List.getElem?_eq_some_iff.mp hy).1
          simp at this
          exact this
        subst hk0
        have ey : y = .ref qq := (Option.some.inj hy).symm
        subst ey
        refine ⟨qq, _, rfl, SqT.of hqq, rfl, _, _, rfl, _, _, rfl, rfl, ?_⟩
        refine ⟨_, rfl, _, rfl, rfl, _, rfl, ite2 (fun h2 => ?_) (fun h2 => ?_)⟩
        · have e2 : y1 = wd := V.str.inj (of_decide_eq_true h2)
          have hh : hit wd (M m) = some (.inl x1) := by
            rw [hT]
            show ((if y1 = wd then some (Sum.inl x1) else none : Option (Sum Str (Str × Str))).or _) = _
            rw [if_pos e2]
            rfl
          rw [hh] at q1
          refine ⟨_, rfl, g, dx, _, rfl, hg, gf_no (by decide +kernel), _, rfl, _, rfl, _, rfl, g, sl, M, names, H0, m, x1, _, rfl, I2, hm, q1⟩
        · exact ⟨⟨_, _, _, rfl⟩, rfl, fun _ z => h2 (decide_eq_true (congrArg V.str z))⟩
      · rintro σ H2 ⟨⟨u5, u6, u7, rfl⟩, rfl, hne⟩
        have hne := hne (Nat.le_refl 1)
        refine ⟨_, rfl, t, _, 0, _, rfl, rfl, SqT.of ht, at0, rfl, _, rfl, if_F (by decide +kernel) ?_⟩
        refine ⟨⟨_, _, _, _, rfl⟩, rfl, hit_snoc hit' hno ?_⟩
        show (if y1 = wd then _ else none) = none
        rw [if_neg hne]
    by_cases hkf : ∃ m1 x1 y1, it = .frm m1 x1 y1
    · obtain ⟨m1, x1, y1, rfl⟩ := hkf
      obtain ⟨t, ps, qq, j, rfl, ht, hps, hqq⟩ := hi
      have hok := I2.wf.ok m hm _ (List.mem_of_getElem? hit')
      refine ⟨_, rfl, t, _, 0, _, rfl, rfl, SqT.of ht, at0, rfl, _, rfl, if_F (by decide +kernel) ?_⟩
      refine ⟨_, rfl, t, _, 0, _, rfl, rfl, SqT.of ht, at0, rfl, _, rfl, if_T (by decide +kernel) ?_⟩
      refine ⟨_, rfl, t, _, 2, _, rfl, rfl, SqT.of ht, at2, ps, rfl, ⟨_, SqT.of hps⟩, ?_⟩
      refine for_tup (K := K) (a := ps) (xs := [.ref qq]) (fun kk σ H2 => (∃ v5 v6 v7, σ = [some (.ref g), some (.str m), some (.str wd), some (.ref sl), some (.ref t), v5, v6, v7]) ∧ H2 = H' ∧ (1 ≤ kk → ¬ y1 = wd))
        ⟨⟨_, _, _, rfl⟩, rfl, fun z => absurd z (by decide)⟩ (fun kk σ H2 _ ⟨_, e, _⟩ => by rw [e]; exact SqT.of hps) ?_ ?_
      · rintro kk y σ H2 hy ⟨⟨u5, u6, u7, rfl⟩, rfl, _⟩
        have hk0 : kk = 0 := by
          have := (List.getElem?_eq_some_iff.mp hy).1
          simp at this
          exact this
        subst hk0
        have ey : y = .ref qq := (Option.some.inj hy).symm
        subst ey
        refine ⟨qq, _, rfl, SqT.of hqq, rfl, _, _, rfl, _, _, rfl, rfl, ?_⟩
        refine ⟨_, rfl, _, rfl, rfl, _, rfl, ite2 (fun h2 => ?_) (fun h2 => ?_)⟩
        · have e2 : y1 = wd := V.str.inj (of_decide_eq_true h2)
          have hh : hit wd (M m) = some (.inr (m1, x1)) := by
            rw [hT]
            show ((if y1 = wd then some (Sum.inr (m1, x1)) else none : Option (Sum Str (Str × Str))).or _) = _
            rw [if_pos e2]
            rfl
          rw [hh] at q1
          refine ⟨_, rfl, g, dx, _, rfl, hg, gf_no (by decide +kernel), _, rfl, t, _, 1, _, rfl, rfl, SqT.of ht, at1, _, rfl, _, rfl, g, sl, M, names, H0, m1, x1, _, rfl, I2, hok.1, hok.2, q1⟩
        · exact ⟨⟨_, _, _, rfl⟩, rfl, fun _ z => h2 (decide_eq_true (congrArg V.str z))⟩
      · rintro σ H2 ⟨⟨u5, u6, u7, rfl⟩, rfl, hne⟩
        have hne := hne (Nat.le_refl 1)
        refine ⟨⟨_, _, _, _, rfl⟩, rfl, hit_snoc hit' hno ?_⟩
        show (if y1 = wd then _ else none) = none
        rw [if_neg hne]
    · obtain ⟨t, more, rfl, ht⟩ := hi.head
      have hno2 : ¬ it.kind = ("export" : Str) ∧ ¬ it.kind = ("from" : Str) := by
        cases it with
        | exp a b => exact absurd ⟨a, b, rfl⟩ hke
        | frm a b c => exact absurd ⟨a, b, c, rfl⟩ hkf
        | _ => constructor <;> (simp only [Item.kind]; decide +kernel)
      have hz : hitF wd it = none := by
        cases it with
        | exp a b => exact absurd ⟨a, b, rfl⟩ hke
        | frm a b c => exact absurd ⟨a, b, c, rfl⟩ hkf
        | _ => rfl
      refine ⟨_, rfl, t, _, 0, _, rfl, rfl, SqT.of ht, at0, rfl, _, rfl, if_F (dstr hno2.1) ?_⟩
      refine ⟨_, rfl, t, _, 0, _, rfl, rfl, SqT.of ht, at0, rfl, _, rfl, if_F (dstr hno2.2) ?_⟩
      exact ⟨⟨_, _, _, _, rfl⟩, rfl, hit_snoc hit' hno hz⟩
  · rintro σ H' ⟨⟨v4, v5, v6, v7, rfl⟩, rfl, hno⟩
    rw [hlen, List.take_length] at hno
    rw [hno] at q1
    exact ⟨_, rfl, g, dx, _, rfl, hg, gf_no (by decide +kernel), _, rfl, _, rfl, _, rfl, g, sl, M, names, H0, m, wd, _, rfl, I2, hm, hwd, q1⟩
/-- nothing can be asked with no step left -/
theorem c_search0 (T : Tx K mg w) : Met P w K mg base 1 (He.ga K "Graph") "search" (spSearch K 0) [] := by
  obtain ⟨fd, F⟩ := T.f_Graph_search
  have no : ∀ vs H Q E, ¬ spSearch K 0 vs H Q E := fun vs H Q E h => by
    obtain ⟨g, sl, M, names, H0, m, wd, seen, _, I, _⟩ := h
    exact Nat.not_lt_zero _ I.c
  exact metOf T.cl_Graph T.m_Graph_search F (b_Graph_search F) sc_Graph_search (fun vs H Q E h => absurd h (no vs H Q E)) (fun cdv A outer s H vs Q E hr h => absurd h (no vs H Q E))
theorem c_searchN (T : Tx K mg w) : ∀ n : Nat, Met P w K mg base (2 * n + 1) (He.ga K "Graph") "search" (spSearch K n) []
  | 0 => c_search0 T
  | n + 1 => c_Graph_search T (k := 2 * n) (c_searchN T n)
end
end Fz
set_option Elab.async false
set_option linter.all false
set_option maxRecDepth 100000
set_option maxHeartbeats 4000000
namespace Fz
open PySem PyProof.Rows L2
open C8 (Cal Met Mak pe_c pe_mk pe_mt pe_mt0 pe_gc)
/-! ## a set of texts, made of a list, sorted -/
open PySem.Froz
theorem tx_get : ∀ {us : List Value} {xs : List Str}, PyProof.Rows.StrsAre us xs → ∀ (i : Nat) (v : Value), us[i]? = some v → ∃ k t, xs[i]? = some k ∧ v = .str k t
  | _, _, .nil, i, v, h => nomatch h
  | _, _, .cons n t _, 0, v, h => ⟨n, t, rfl, (Option.some.inj h).symm⟩
  | _, _, .cons _ _ r, i + 1, v, h => tx_get r i v h
def keyT (e : Int × Value) : Str := PyProof.Rows.strOf e.2
/-- the payload holds the texts l, each once; it can be walked -/
structure TxD (w : World) (D : SD) (l : List Str) : Prop where
  el : ∀ e ∈ D.1.toList, ∃ k u, e = (hashStr w k, Value.str k u)
  pm : (D.1.toList.map keyT).Perm l
  nd : l.Nodup
  ft : D.2.2.fits D.1.size = true
  rs : Ris D.2.2.place.toList
  ld : w.params.followText "set-order" = true ∨ D.2.2.led = true
section
variable {P : Program} {w : World} {A : Around} {E : Value → Shared → Prop} {s : Shared}
theorem TxD.sz {D : SD} {l : List Str} (F : TxD w D l) : D.1.size = l.length := by
  rw [← F.pm.length_eq, List.length_map, Array.length_toList]
theorem TxD.ok {D : SD} {l : List Str} (F : TxD w D l) : TxOk P w D l where
  el := fun e he => by
    obtain ⟨k, u, rfl⟩ := F.el e he
    exact ⟨⟨k, is_str k u, rfl⟩, rfl⟩
  mem := fun k => by
    rw [← F.pm.mem_iff, List.mem_map]
    constructor
    · rintro ⟨e, he, q⟩
      obtain ⟨k', u, rfl⟩ := F.el e he
      have q : k' = k := q
      exact ⟨_, he, q ▸ is_str k' u⟩
    · rintro ⟨e, he, q⟩
      obtain ⟨k', u, rfl⟩ := F.el e he
      exact ⟨_, he, (strKind P w).inj (.str k' u) k' k (is_str k' u) q⟩
  sz := F.sz
  fit := F.ft
theorem TxD.tail {ep : Nat} {es1 : Array (Int × Value)} {t2 : SetTable} {wd : Bool} {l : List Str} (F : TxD w (es1, ep, t2) l) : TxD w (tailTx ep es1 t2 wd) l := by
  unfold tailTx
  by_cases c : (!wd && t2.tooFull) = true
  · rw [if_pos c]
    have pm := relayAll_perm t2 es1 (SetTable.grown es1.size)
    exact ⟨fun e he => F.el e (pm.mem_iff.mp he), (pm.map keyT).trans F.pm, F.nd, relayAll_fits t2 es1 _, relayAll_ris t2 es1 _, F.ld.imp id fun z => (relayAll_led t2 es1 _).trans z⟩
  · rw [if_neg c]
    exact ⟨F.el, F.pm, F.nd, F.ft, F.rs, F.ld⟩
theorem TxD.add {D : SD} {l : List Str} {k : Str} (u : Tok) (F : TxD w D l) (hk : k ∉ l) : TxD w (addTx (hashStr w k) (.str k u) D) (k :: l) := by
  obtain ⟨es, ep, t⟩ := D
  have pm := layNew_perm t es (hashStr w k) (.str k u)
  have hf := layNew_fits t es (hashStr w k) (.str k u)
  have hr := layNew_ris t es (hashStr w k) (.str k u) F.rs
  have hl := layNew_led t es (hashStr w k) (.str k u)
  unfold addTx
  generalize layNew t es (hashStr w k) (.str k u) = Z at pm hf hr hl ⊢
  obtain ⟨es1, t1, wd, gave⟩ := Z
  rw [Array.toList_push] at pm
  have pc := pm.trans (List.perm_append_singleton _ _)
  refine TxD.tail ⟨fun e he => ?_, (pc.map keyT).trans ((F.pm).cons k), List.nodup_cons.mpr ⟨hk, F.nd⟩, ?_, ?_, F.ld.imp id fun z => ?_⟩
  · rcases List.mem_cons.mp (pc.mem_iff.mp he) with z | z
    · exact ⟨k, u, z⟩
    · exact F.el e z
  · show SetTable.fits (if t1.plain = true then { t1 with plain := false } else t1) _ = true
    by_cases c : t1.plain = true
    · rw [if_pos c]; exact SetTable.fits_plain_off hf
    · rw [if_neg c]; exact hf
  · show Ris (if t1.plain = true then { t1 with plain := false } else t1).place.toList
    by_cases c : t1.plain = true
    · rw [if_pos c]; exact hr
    · rw [if_neg c]; exact hr
  · show (if t1.plain = true then { t1 with plain := false } else t1).led = true
    by_cases c : t1.plain = true
    · rw [if_pos c]; exact hl.trans z
    · rw [if_neg c]; exact hl.trans z
/-- a text that is there -/
theorem old_x {a : Addr} {D : SD} {l : List Str} {k : Str} {u : Tok} {Q : Bool → Shared → Prop} (ho : s.heap.get? a = some (sObj "set" D)) (F : TxD w D l) (hk : k ∈ l) (hb : l.length < scanBound) (h : Q false s) :
    wpAny (model P w) A (setAddHashed a (.str k u) (hashStr w k)) Q E s := by
  have T : TxOk P w D l := F.ok
  have hsz := F.sz
  obtain ⟨es, ep, t⟩ := D
  have hd : (sObj "set" (es, ep, t)).data = .set es ep t := rfl
  have hkey : (strKind P w).is k (.str k u) = true := is_str k u
  have hel : ElemsOf (strKind P w) es.toList := T.el
  have hb : es.size < scanBound := by
    have : es.size = l.length := hsz
    omega
  unfold setAddHashed setAddHashedIn
  refine wpAny_holding (wpAny_bind (wpAny_setState_of ho hd F.ft ?_))
  dsimp only
  rw [byScan_of rfl hb hel, if_pos rfl]
  unfold setAddByScan
  refine wpAny_bind (wpAny_bind (wpAny_rule (wpAny_bind (wpAny_setScan_of (knd := strKind P w) (k := k) hkey ho hd F.ft hel ?_))))
  cases hfi : List.findIdx? (fun e => (strKind P w).is k e.2) es.toList with
  | some j => exact wpAny_pure (wpAny_pure h)
  | none =>
    obtain ⟨e, he, q⟩ := (T.mem k).mp hk
    have c := List.findIdx?_eq_none_iff.mp hfi e he
    rw [q] at c
    cases c
/-- the set at a -/
def TSet (w : World) (h : Heap) (a : Addr) (l : List Str) : Prop := ∃ D, h.get? a = some (sObj "set" D) ∧ TxD w D l
theorem TSet.at {h h' : Heap} {a : Addr} {l : List Str} (R : TSet w h a l) (k : ∀ o, h.get? a = some o → h'.get? a = some o) : TSet w h' a l := by
  obtain ⟨D, h1, h2⟩ := R
  exact ⟨D, k _ h1, h2⟩
theorem ss_fresh {h : Heap} {a : Addr} (ho : h.get? a = some { cls := .type "set", dict := none, data := .set #[] 0 (.fresh 0 0 (!w.params.followText "set-order")) }) : TSet w h a [] := by
  refine ⟨(#[], 0, .fresh 0 0 (!w.params.followText "set-order")), ho, ⟨fun e he => by simp at he, List.Perm.nil, List.Pairwise.nil, rfl, List.Pairwise.nil, ?_⟩⟩
  show _ ∨ (!w.params.followText "set-order") = true
  cases w.params.followText "set-order"
  · exact .inr rfl
  · exact .inl rfl
/-- one text more -/
theorem ss_add {a : Addr} {l : List Str} {k : Str} {u : Tok} {Q : Bool → Shared → Prop} (R : TSet w s.heap a l) (hb : l.length + 1 < scanBound)
    (hQ : ∀ b h' l', Heap.SameBut a s.heap h' → TSet w h' a l' → (∀ x, x ∈ l' ↔ x ∈ l ∨ x = k) → l'.length ≤ l.length + 1 → Q b { s with heap := h' }) : wpAny (model P w) A (setAddHashed a (.str k u) (hashStr w k)) Q E s := by
  obtain ⟨D, ho, F⟩ := R
  by_cases hk : k ∈ l
  · exact old_x ho F hk (by omega) (hQ false s.heap l (Heap.SameBut.refl a s.heap) ⟨D, ho, F⟩ (fun x => ⟨.inl, fun z => z.elim id fun e => e ▸ hk⟩) (Nat.le_succ _))
  · refine add_x ho F.ok hk hb (hQ true _ (k :: l) (Heap.SameBut.update s.heap a _) ⟨_, get_upd _ ho rfl, F.add u hk⟩ (fun x => ?_) (Nat.le_refl _))
    rw [List.mem_cons]
    exact Or.comm
/-- a walk's texts, added one by one -/
theorem ss_loop {I : Addr} {fp wr : List Addr} {G : Array GenState → Array GenState → Prop} {n : Nat} {Pv : Nat → Value → Prop} {St : Nat → Shared → Prop} {R : Result → Shared → Prop}
    (W : WalksS P w A.in1 I fp wr G n Pv St) (S : Addr) (hSf : S ∉ fp) (xs : List Str) (hn : n = xs.length) (hb : xs.length + 1 < scanBound) (hval : ∀ i v, Pv i v → ∃ k t, xs[i]? = some k ∧ v = .str k t)
    (hR : ∀ s', ∀ s0 l, Moved (S :: wr) G s0 s' → TSet w s'.heap S l → (∀ x, x ∈ l ↔ x ∈ xs) → s0 = s → R (.ok (.ret .none)) s') :
    ∀ (j i : Nat) (s1 : Shared) (l : List Str), n - i = j → i ≤ n → St i s1 → (s1 = s ∨ Moved (S :: wr) G s s1) → TSet w s1.heap S l → l.length ≤ i → (∀ x, x ∈ l ↔ x ∈ xs.take i) →
      codeAny (model P w) A (.builtin "set.update.loop" ⟨[.ref S, .ref I], []⟩) R s1 := by
  have hSw : S ∉ wr := fun h => hSf (W.sub _ h)
  have up : ∀ b ∈ wr, b ∈ S :: wr := fun b hb => List.mem_cons_of_mem _ hb
  have join : ∀ {s1 s2 : Shared}, (s1 = s ∨ Moved (S :: wr) G s s1) → Moved (S :: wr) G s1 s2 → Moved (S :: wr) G s s2 := fun h1 h2 => by
    rcases h1 with e | m
    · rw [← e]; exact h2
    · exact Moved.trans W.gtrans m h2
  intro j
  induction j with
  | zero =>
    intro i s1 l hj hi hst hm0 hS hl hx
    refine codeAny_builtin F.entry_set_update_loop ?_
    rw [Around.under_plainId F.plain_set_update_loop _]
    show wpAny _ A.in1 (pyNext (.ref I) >>= _) _ _ s1
    have ei : i = n := by omega
    rw [ei] at hst
    refine wpAny_bind (W.done s1 _ _ hst fun s2 hm => ?_)
    show wpAny _ A.in1 (ret Value.none) _ _ s2
    rw [ei, hn, List.take_length] at hx
    exact wpAny_pure (hR s2 s l (join hm0 (hm.mono up)) (hS.at fun o e => hm.heap S o hSw e) hx rfl)
  | succ j ih =>
    intro i s1 l hj hi hst hm0 hS hl hx
    have hlt : i < n := by omega
    refine codeAny_builtin F.entry_set_update_loop ?_
    rw [Around.under_plainId F.plain_set_update_loop _]
    show wpAny _ A.in1 (pyNext (.ref I) >>= _) _ _ s1
    refine wpAny_bind (W.item i s1 _ _ hlt hst fun v s2 hP hst2 hm => ?_)
    obtain ⟨z, t, hz, rfl⟩ := hval i v hP
    show wpAny _ A.in1 (holding [Value.str z t] (setAdd S (.str z t)) >>= _) _ _ s2
    refine wpAny_bind (wpAny_holding ?_)
    unfold setAdd
    refine wpAny_holding (wpAny_bind ((strKind P w).pyHash (k := z) (is_str _ _) ?_))
    refine ss_add (s := { s2 with toks := s2.toks + 1 }) (hS.at fun o e => hm.heap S o hSw e) (by omega) fun b h' l' sb hS2 hx2 hl2 => ?_
    refine wpAny_pure ⟨plainId_quiet F.plain_set_update_loop _, ih (i + 1) _ l' (by omega) hlt (W.frame _ s2 _ _ hst2 (Nat.le_succ _) fun b hb o e => ?_) (.inr (join hm0 ((hm.mono up).then_heap (Nat.le_succ _) fun b o hb e => ?_))) hS2 (by omega) fun x => ?_⟩
    · exact (sb.2 b (fun z => hSf (z ▸ hb))).trans e
    · exact (sb.2 b (fun z => hb (z ▸ List.mem_cons_self))).trans e
    · rw [hx2 x, hx x, List.take_add_one, hz]
      simp [List.mem_append]
end
section
variable {P : Program} {w : World} {A : Around} {E : Value → Shared → Prop} {s : Shared}
/-- the empty set's object -/
abbrev emp (w : World) : Obj := { cls := .type "set", dict := none, data := .set #[] 0 (.fresh 0 0 (!w.params.followText "set-order")) }
set_option maxHeartbeats 3200000 in
/-- set(xs), xs a list of texts -/
theorem call_set_txt {l : Addr} {items : Array Value} {xs : List Str} {Q : Value → Shared → Prop} (hh : A.handled = none) (hl : s.heap.IsList l items) (hi : PyProof.Rows.StrsAre items.toList xs) (hb : xs.length + 1 < scanBound)
    (hQ : ∀ h' tk L, TSet w h' s.heap.objs.size L → (∀ x, x ∈ L ↔ x ∈ xs) → (∀ b o, s.heap.get? b = some o → h'.get? b = some o) → Q (.ref s.heap.objs.size) { s with heap := h', toks := tk }) :
    wpAny (model P w) A (call (.type "set") [.ref l]) Q E s := by
  have hsz : items.size = xs.length := by rw [← StrsAre.len_eq hi, Array.length_toList]
  obtain ⟨c, tl, hmro⟩ := F.called_set.mro
  have hmade := F.called_set.made
  have hsub := F.called_set.sub
  refine wpAny_call (codeAny_of_tree ?_)
  show wpAny _ _ (callAny (.type "set") _) _ _ _
  refine wpAny_pure ⟨Code.quiet_builtin _ (by decide +kernel), codeAny_builtin F.entry_type_call ?_⟩
  rw [Around.under_plain (weight_type_call_type "set" [.ref l] []) rfl]
  have h1 := F.called_set.notType
  have h2 := F.called_set.canCreate
  have hct := F.typeCall_set_1 (.ref l)
  repeat (any_goals (first | assumption | wp_step))

  refine codeAny_mono (code_set_led1 (.ref l) (E := E) (Q₁ := fun obj s₁ => obj = .ref s.heap.objs.size ∧ s₁ = { s with heap := s.heap.push (emp w) }) ⟨rfl, rfl⟩) fun r s₁ hr => ?_
  match r, hr with
  | .error e, hr => exact hr
  | .ok (.ret obj), hr =>
    obtain ⟨rfl, rfl⟩ := hr
    have hS : (s.heap.push (emp w)).get? s.heap.objs.size = some (emp w) := Heap.get?_push_size _ rfl
    have hT : Shared.TypeIs { s with heap := s.heap.push (emp w) } (.ref s.heap.objs.size) "set" := ⟨_, hS, rfl⟩
    have hli := F.called_set.init.lookup
    have hbi := F.called_set.init.bind (.ref s.heap.objs.size)
    repeat (any_goals (first | assumption | wp_step))

    refine codeAny_mono (codeAny_call_builtin (R := wants (fun r s₂ => r = .none ∧ ∃ h' tk L, s₂ = { s with heap := h', toks := tk } ∧ TSet w h' s.heap.objs.size L ∧ (∀ x, x ∈ L ↔ x ∈ xs) ∧
        (∀ b o, s.heap.get? b = some o → h'.get? b = some o)) E) F.called_set.init.plain F.entry_set_init (check_set_init_1 hT ?_)) fun r₂ s₂ hr₂ => ?_
    · obtain ⟨⟨ocls, odict, odata, oslots⟩, hol, hcl, nl, hdl⟩ := hl
      simp only at hcl hdl
      subst hcl hdl
      have hol' : (s.heap.push (emp w)).get? l = some { cls := .type "list", dict := odict, data := .seq items nl, slots := oslots } := Heap.get?_push_of_some _ hol
      have hsls := F.sub_list_set
      have hslf := F.sub_list_frozenset
      have hne : (Value.type "list" == Value.type "dict") = false := by decide
      have hl1 : (s.heap.push (emp w)).IsList l items := ⟨_, hol', rfl, nl, rfl⟩
      unfold Builtin.«set.__init__» noKeywords Builtin.Frozenset.updateFrom
      generalize hPI : pyIter = PI
      wp_walk
      subst hPI

      refine wpAny_pyIter_list hl1 ?_
      refine wpAny_bind (wpAny_runValue ?_)
      have hlS : l < s.heap.objs.size := Heap.lt_size hol
      have hh3 : A.in1.in1.in1.handled = none := by simp [hh]
      have z1 : (s.heap.push (emp w)).objs.size = s.heap.objs.size + 1 := Heap.size_push ..
      have hSf : s.heap.objs.size ∉ [(s.heap.push (emp w)).objs.size, l] := by
        rw [z1]
        intro z
        rcases List.mem_cons.mp z with z | z
        · exact absurd z (Nat.ne_of_lt (Nat.lt_succ_self _))
        · exact absurd (List.mem_singleton.mp z).symm (Nat.ne_of_lt hlS)
      refine ss_loop ((Walks.list hh3 _ l (by rw [z1]; exact Nat.ne_of_lt (Nat.lt_succ_of_lt hlS)) items).toS) s.heap.objs.size hSf xs hsz hb
        (fun i v hv => ?_) (fun s' s0 L hm hS' hx e0 => ?_) (items.size - 0) 0 _ [] (by omega) (Nat.zero_le _) ⟨⟨_, Heap.get?_push_size _ rfl, rfl, rfl⟩, (hl1.push _)⟩ (.inl rfl) (ss_fresh (Heap.get?_push_of_some _ hS)) (Nat.le_refl _) (fun x => by simp)
      · exact tx_get hi i v (by rw [Array.getElem?_toList]; exact hv)
      · subst e0
        obtain ⟨h', g2, d', tk', os'⟩ := s'
        obtain rfl : g2 = s.gens := hm.gens
        obtain rfl : d' = s.drawn := hm.drawn
        obtain rfl : os' = s.os := hm.os
        show wpAny _ _ _ _ _ _
        refine wpAny_pure ?_
        show wpAny _ _ (ret Value.none) _ _ _
        refine wpAny_pure ⟨rfl, h', tk', L, rfl, hS', hx, fun b o e => ?_⟩
        have hb0 : b < s.heap.objs.size := Heap.lt_size e
        refine hm.heap b o (fun z => ?_) (Heap.get?_push_of_some _ (Heap.get?_push_of_some _ e))
        rcases List.mem_cons.mp z with z | z
        · exact absurd z (Nat.ne_of_lt hb0)
        · have z := List.mem_singleton.mp z
          rw [z1] at z
          exact absurd z (Nat.ne_of_lt (Nat.lt_succ_of_lt hb0))
    · match r₂, hr₂ with
      | .error e, hr₂ => exact hr₂
      | .ok (.ret r), hr₂ =>
        obtain ⟨rfl, h', tk, L, rfl, hS', hx, hk'⟩ := hr₂
        repeat (any_goals (first | assumption | wp_step))
        exact hQ _ _ _ hS' hx hk'
/-- sorted(a), a a set of texts -/
theorem sorted_txt {a : Addr} {l : List Str} {Q : Value → Shared → Prop} (R : TSet w s.heap a l) (hh : A.handled = none) (h64 : l.length < 64)
    (hQ : ∀ s' p (out : Array Value) (c : Nat) (ys : List Str), (∀ b o, s.heap.get? b = some o → s'.heap.get? b = some o) → s'.gens = s.gens → s'.os = s.os → s.heap.objs.size ≤ p →
      s'.heap.get? p = some (PyProof.Rows.seqObj "list" out c) → PyProof.Rows.StrsAre out.toList ys → ys.Perm l → PyProof.Rows.sortedS ys = true → Q (.ref p) s') :
    wpAny (model P w) A (call (.builtin "sorted") [.ref a]) Q E s := by
  obtain ⟨⟨es, ep, t⟩, ho, T⟩ := R
  have hsz : es.size = l.length := T.sz
  refine Calls.call_function_entry kind_sorted plain_sorted entry_sorted (args_sorted1 _) ?_
  unfold Builtin.«sorted»
  refine wpAny_bind (m := checkCount "sorted" 1 1 _) (wpAny_pure ?_)
  have hb : es.size < scanBound := by
    have : 64 < scanBound := by decide
    omega
  refine wpAny_bind (collect_set (A := A.in1) hh (a := a) (es := es) (ep := ep) (t := t) ⟨_, ho, rfl, rfl⟩ T.ft hb T.rs T.ld fun s1 vs k1 hz g1 o1 pm => ?_)
  have hvl : vs.length = l.length := by rw [pm.length_eq, List.length_map, Array.length_toList]; exact hsz
  have hI : PyProof.Rows.StrsAre vs (vs.map PyProof.Rows.strOf) := PyProof.Rows.strsAre_map vs fun v hv => by
    obtain ⟨e, he, q⟩ := List.mem_map.mp (pm.mem_iff.mp hv)
    obtain ⟨k, u, rfl⟩ := T.el e he
    exact ⟨k, u, q.symm⟩
  have pk : (vs.map PyProof.Rows.strOf).Perm l := by
    have q := pm.map PyProof.Rows.strOf
    rw [List.map_map] at q
    exact q.trans T.pm
  refine wpAny_bind (wpAny_newList ?_ (by rw [hvl, sizeLine_eq]; omega))
  have hoL : (s1.heap.push (PyProof.Rows.seqObj "list" vs.toArray 0)).get? s1.heap.objs.size = some (PyProof.Rows.seqObj "list" vs.toArray 0) := Heap.get?_push_size _ rfl
  refine wpAny_bind (wpAny_holding (wpAny_call_entry PyProof.Rows.slot_list_sort ⟨_, hoL, rfl⟩ PyProof.Rows.entry_list_sort (PyProof.Rows.list_sort_treeK PyProof.Rows.strKind_oneLt hoL hI.keysOf (fun v₁ v₂ rest e => PyProof.Rows.keyKind_strs (by rw [← e]; exact hI)) (by rw [hvl]; exact h64) fun st hp hs => ⟨_, rfl, ?_⟩) (PyProof.Rows.args_list_sort _)))
  obtain ⟨ys, a1, a2, a3⟩ := PyProof.Rows.sorted_out_str hI hp hs
  obtain ⟨c, hc⟩ := PyProof.Rows.sortedHeap_at (vs := vs) (out := (PyProof.Rows.arrOf st).map (·.2)) hoL
  refine wpAny_pure ⟨_, rfl, hQ _ s1.heap.objs.size _ c ys (fun b u e => ?_) g1 o1 hz hc a1 (a2.trans pk) a3⟩
  have q := k1 b u e
  have hlt := Heap.lt_size q
  show (PyProof.Rows.sortedHeap (s1.heap.push (PyProof.Rows.seqObj "list" vs.toArray 0)) s1.heap.objs.size vs _).get? b = some u
  rw [PyProof.Rows.sortedHeap_old (Nat.ne_of_lt hlt) (by rw [PyProof.Rows.size_push']; exact Nat.lt_succ_of_lt hlt)]
  exact Heap.get?_push_of_some _ q
end
/-! ### the calls -/
def TSetO (w : World) (a : Addr) (l : List Str) : HO := .ext fun h => TSet w h a l
section
variable {X : Cx}
theorem tset_ok {w : World} {P : Program} {H : Hp} {h : Heap} {a : Addr} {l : List Str} (R : TSet w h a l) : ObjOk P w H h a (TSetO w a l) := by
  have ⟨D, ho, _⟩ := R
  exact ⟨R, ⟨_, ho⟩, fun h1 h2 p k => TSet.at p k⟩
/-- set(xs) -/
def rSetTx (K : PySem.W.Frag) (w : World) : List V → Hp → VK → Prop := fun vs H Q => ∃ (l : Addr) (xs : List Str), vs = [V.ref l] ∧ SqL K H l (xs.map V.str) ∧ xs.length + 1 < scanBound ∧
  ∀ (p : Addr) (L : List Str), H p = none → L.Nodup → (∀ x, x ∈ L ↔ x ∈ xs) → Q (.ref p) (upd H p (TSetO w p L))
theorem cr_setS (hc : X.calm = true) : CallR X (.type "set") (rSetTx X.K X.w) := by
  intro pins s σ H vs us Q I r h
  obtain ⟨l, xs, rfl, hl, hb, q⟩ := h
  rw [Vals.ref1 r]
  obtain ⟨its, rv, pl, hz⟩ := I.list hl
  refine call_set_txt (I.ok.hd hc) pl.isList (by simpa using rv.strs) hb fun h' tk L R hx k => ?_
  have R2 := R
  obtain ⟨D, _, T⟩ := R2
  exact ⟨.ref s.heap.objs.size, upd H s.heap.objs.size (TSetO X.w s.heap.objs.size L), I.laid (t' := tk) k (Nat.le_refl _) (tset_ok R), rfl, q _ L (I.hok.fresh (Nat.le_refl _)) T.nd hx⟩
/-- sorted(set) -/
def rSortTx (w : World) : List V → Hp → VK → Prop := fun vs H Q => ∃ (a : Addr) (l : List Str), vs = [V.ref a] ∧ H a = some (TSetO w a l) ∧ l.length < 64 ∧
  ∀ (ys : List Str) (p : Addr), ys.Perm l → PyProof.Rows.sortedS ys = true → H p = none → Q (.ref p) (upd H p (.lst (ys.map V.str)))
theorem cr_sortedSetS (hc : X.calm = true) : CallR X (.builtin "sorted") (rSortTx X.w) := by
  intro pins s σ H vs us Q I r h
  obtain ⟨a, l, rfl, ha, h64, q⟩ := h
  have R : TSet X.w s.heap a l := (I.hok a _ ha).1
  rw [Vals.ref1 r]
  refine sorted_txt R (I.ok.hd hc) h64 fun s' p out c ys k g o hp hg hi pm hs => ?_
  have hlen : (ys.map V.str).length ≤ sizeLine := by rw [List.length_map, pm.length_eq, sizeLine_eq]; omega
  have hn : H p = none := I.hok.fresh hp
  have J : Inv X pins σ (upd H p (.lst (ys.map V.str))) { s with heap := s'.heap, gens := s'.gens, drawn := s'.drawn, toks := s'.toks } :=
    I.call (ch := []) (Un.laid k hp hn) (I.hok.laid k hp ⟨hlen, out.toList, c, vals_of_strs hi, hg⟩) (by rw [g]; exact I.bare) (fun _ z => nomatch z)
  have e : s' = { s with heap := s'.heap, gens := s'.gens, drawn := s'.drawn, toks := s'.toks } := by
    cases s'
    cases s
    cases o
    rfl
  rw [e]
  exact ⟨.ref p, _, J, rfl, q ys p pm hs hn⟩
end
end Fz
set_option Elab.async false
set_option linter.all false
set_option maxRecDepth 100000
set_option maxHeartbeats 4000000
namespace Fz
open PySem PyProof.Rows L2
open C8 (Cal Met Mak pe_c pe_mk pe_mt pe_mt0 pe_gc)
/-! ## what a module tells, plain -/
def resA : Ans → Ans
  | .two => .no
  | a => a
def res (M : Str → List Item) (m wd : Str) : Ans := resA (srch M 40 m wd []).1
theorem uni_len (names : List Str) : (Uni names).length = 6 * names.length := by
  unfold Uni
  induction names with
  | nil => rfl
  | cons n r ih =>
    rw [List.flatMap_cons, List.length_append, ih, List.length_map, List.length_cons]
    show 6 + 6 * r.length = 6 * (r.length + 1)
    omega
theorem cnt_le (U seen : Seen) : cnt U seen ≤ U.length := List.length_filter_le _ _
/-- names not seen -/
def cntN (names seen : List Str) : Nat := (names.filter fun p => decide (p ∉ seen)).length
theorem cntN_le {names s s' : List Str} (h : ∀ x ∈ s, x ∈ s') : cntN names s' ≤ cntN names s := by
  unfold cntN
  have e : (names.filter fun p => decide (p ∉ s')) = (names.filter fun p => decide (p ∉ s)).filter fun p => decide (p ∉ s') := by
    rw [List.filter_filter]
    refine List.filter_congr fun p _ => ?_
    by_cases h1 : p ∈ s
    · simp [h1, h p h1]
    · simp [h1]
  rw [e]
  exact List.length_filter_le _ _
theorem cntN_lt {names s : List Str} {x : Str} (hx : x ∈ names) (hn : x ∉ s) : cntN names (s ++ [x]) < cntN names s := by
  unfold cntN
  have e : (names.filter fun p => decide (p ∉ s ++ [x])) = (names.filter fun p => decide (p ∉ s)).filter fun p => decide (p ≠ x) := by
    rw [List.filter_filter]
    refine List.filter_congr fun p _ => ?_
    by_cases h1 : p ∈ s <;> by_cases h2 : p = x <;> simp [h1, h2]
  rw [e]
  exact List.length_filter_lt_length_iff_exists.mpr ⟨x, List.mem_filter.mpr ⟨hx, decide_eq_true hn⟩, by simp⟩
/-- all that an item tells is found -/
def Told (s f : List Str) (it : Item) : Prop := (∀ y, toldF it = some y → y ∈ f) ∧ ∀ m, it = .star m → m ∈ s
def Closed (M : Str → List Item) (s f : List Str) (x : Str) : Prop := ∀ it ∈ M x, Told s f it
theorem Told.mono {s f s' f' : List Str} {it : Item} (h : Told s f it) (hs : ∀ x ∈ s, x ∈ s') (hf : ∀ x ∈ f, x ∈ f') : Told s' f' it := ⟨fun y e => hf _ (h.1 y e), fun m e => hs _ (h.2 m e)⟩
/-- a step of the telling; k: texts that may have come beyond -/
structure TStep (M : Str → List Item) (names s f s' f' : List Str) (k : Nat) : Prop where
  s1 : ∀ x ∈ s, x ∈ s'
  f1 : ∀ x ∈ f, x ∈ f'
  cl : ∀ x ∈ s', x ∈ s ∨ Closed M s' f' x
  ft : ∀ y ∈ f', y ∈ f ∨ y ∈ TOLD
  ln : f'.length + 100 * cntN names s' ≤ f.length + 100 * cntN names s + k
  nm : ∀ x ∈ s', x ∈ s ∨ x ∈ names
section
variable {M : Str → List Item} {names : List Str}
theorem TStep.refl (s f : List Str) : TStep M names s f s f 0 := ⟨fun _ h => h, fun _ h => h, fun _ h => .inl h, fun _ h => .inl h, Nat.le_refl _, fun _ h => .inl h⟩
theorem TStep.trans {s f s1 f1 s2 f2 : List Str} {k j : Nat} (a : TStep M names s f s1 f1 k) (b : TStep M names s1 f1 s2 f2 j) : TStep M names s f s2 f2 (k + j) where
  s1 := fun x h => b.s1 x (a.s1 x h)
  f1 := fun x h => b.f1 x (a.f1 x h)
  cl := fun x h => by
    rcases b.cl x h with h | h
    · rcases a.cl x h with h | h
      · exact .inl h
      · exact .inr fun it hi => (h it hi).mono b.s1 b.f1
    · exact .inr h
  ft := fun y h => (b.ft y h).elim (a.ft y) .inr
  ln := by have := a.ln; have := b.ln; omega
  nm := fun x h => (b.nm x h).elim (a.nm x) .inr
theorem TStep.ext (s : List Str) {f : List Str} {y : Str} (hy : y ∈ TOLD) : TStep M names s f s (f ++ [y]) 1 where
  s1 := fun _ h => h
  f1 := fun x h => List.mem_append_left _ h
  cl := fun x h => .inl h
  ft := fun z h => by
    rcases List.mem_append.mp h with h | h
    · exact .inl h
    · rw [List.mem_singleton.mp h]; exact .inr hy
  ln := by rw [List.length_append, List.length_singleton]; omega
  nm := fun _ h => .inl h
theorem TStep.more {s f s' f' : List Str} {k j : Nat} (h : TStep M names s f s' f' k) (hk : k ≤ j) : TStep M names s f s' f' j := ⟨h.s1, h.f1, h.cl, h.ft, Nat.le_trans h.ln (by omega), h.nm⟩
/-- the end of one module -/
theorem TStep.fin {s f s' f' : List Str} {m : Str} {k : Nat} (hk : k ≤ 100) (hm : m ∈ names) (hn : m ∉ s) (h : TStep M names (s ++ [m]) f s' f' k) (c : Closed M s' f' m) : TStep M names s f s' f' 0 where
  s1 := fun x hx => h.s1 x (List.mem_append_left _ hx)
  f1 := h.f1
  cl := fun x hx => by
    rcases h.cl x hx with z | z
    · rcases List.mem_append.mp z with z | z
      · exact .inl z
      · rw [List.mem_singleton.mp z]; exact .inr c
    · exact .inr z
  ft := h.ft
  ln := by
    have := h.ln
    have := cntN_lt hm hn
    omega
  nm := fun x hx => by
    rcases h.nm x hx with z | z
    · rcases List.mem_append.mp z with z | z
      · exact .inl z
      · rw [List.mem_singleton.mp z]; exact .inr hm
    · exact .inr z
/-- what the search finds was told -/
theorem star_told (S : Str → Str → Seen → Ans × Seen) (w : Str) (f : List Str) : ∀ (its : List Item) (seen : Seen), (∀ m ∈ its.filterMap (fun | .star m => some m | _ => none), ∀ seen, (S m w seen).1 ≠ .no → w ∈ f) → (starS S w its .no seen).1 ≠ .no → w ∈ f
  | [], _, _, h => absurd rfl h
  | it :: r, seen, hS, h => by
    cases it with
    | star m =>
      have hm := hS m (by simp)
      have hr : ∀ m ∈ r.filterMap (fun | Item.star m => some m | _ => none), ∀ seen, (S m w seen).1 ≠ .no → w ∈ f := fun m h => hS m (by simp only [List.filterMap_cons]; exact List.mem_cons_of_mem _ h)
      unfold starS at h
      cases e : S m w seen with
      | mk a s' =>
        rw [e] at h
        cases a with
        | two => exact hm seen (by rw [e]; intro z; cases z)
        | no => exact star_told S w f r s' hr h
        | one x y => exact hm seen (by rw [e]; intro z; cases z)
    | _ => exact star_told S w f r seen (fun m h => hS m (by simp only [List.filterMap_cons]; exact h)) h
theorem srch_told {s f : List Str} {w : Str} (hc : ∀ x ∈ s, Closed M s f x) : ∀ (n : Nat) (m : Str) (seen : Seen), m ∈ s → (srch M n m w seen).1 ≠ .no → w ∈ f
  | 0, _, _, _, h => absurd rfl h
  | n + 1, m, seen, hm, h => by
    have C := hc m hm
    unfold srch at h
    by_cases hs : (m, w) ∈ seen
    · rw [if_pos hs] at h
      exact absurd rfl h
    · rw [if_neg hs] at h
      cases e : hit w (M m) with
      | some z =>
        obtain ⟨it, h1, h2⟩ := List.exists_of_findSome?_eq_some (show (M m).findSome? (hitF w) = some z from e)
        refine (C it h1).1 w ?_
        cases it with
        | exp x y =>
          have h2 : (if y = w then some (Sum.inl x) else none) = some z := h2
          by_cases hy : y = w
          · rw [hy]; rfl
          · rw [if_neg hy] at h2; cases h2
        | frm a x y =>
          have h2 : (if y = w then some (Sum.inr (a, x)) else none) = some z := h2
          by_cases hy : y = w
          · rw [hy]; rfl
          · rw [if_neg hy] at h2; cases h2
        | _ => cases h2
      | none =>
        rw [e] at h
        refine star_told _ w f _ _ (fun m' hm' seen' hh => ?_) h
        obtain ⟨it, h1, h2⟩ := List.mem_filterMap.mp hm'
        cases it with
        | star m2 =>
          have h2 := Option.some.inj h2
          subst h2
          exact srch_told hc n m2 seen' ((C _ h1).2 m2 rfl) hh
        | _ => cases h2
theorem res_told {s f : List Str} {m w : Str} (hc : ∀ x ∈ s, Closed M s f x) (hm : m ∈ s) (h : res M m w ≠ .no) : w ∈ f := by
  refine srch_told hc 40 m [] hm fun z => h ?_
  unfold res
  rw [z]
  rfl
end
/-! ## three texts, sorted -/
theorem sort3 {ys : List Str} (h1 : ∀ y ∈ ys, y ∈ TOLD) (h2 : ys.Nodup) (h3 : PyProof.Rows.sortedS ys = true) : ys = TOLD.filter fun y => decide (y ∈ ys) := by
  have c : ∀ y ∈ ys, y = "a" ∨ y = "b" ∨ y = "c" := fun y hy => by
    have := h1 y hy
    unfold TOLD at this
    simpa using this
  match ys, c, h2, h3 with
  | [], _, _, _ => decide +kernel
  | [x], c, _, _ =>
    rcases c x (by simp) with rfl | rfl | rfl <;> decide +kernel
  | [x, y], c, h2, h3 =>
    rcases c x (by simp) with rfl | rfl | rfl <;> rcases c y (by simp) with rfl | rfl | rfl <;> first | decide +kernel | exact absurd h3 (by decide +kernel) | exact absurd h2 (by decide +kernel)
  | [x, y, z], c, h2, h3 =>
    rcases c x (by simp) with rfl | rfl | rfl <;> rcases c y (by simp) with rfl | rfl | rfl <;> rcases c z (by simp) with rfl | rfl | rfl <;> first | decide +kernel | exact absurd h3 (by decide +kernel) | exact absurd h2 (by decide +kernel)
  | x :: y :: z :: u :: r, c, h2, h3 =>
    have h2 : [x, y, z, u].Nodup := h2.sublist (by simp)
    exfalso
    rcases c x (by simp) with rfl | rfl | rfl <;> rcases c y (by simp) with rfl | rfl | rfl <;> rcases c z (by simp) with rfl | rfl | rfl <;> rcases c u (by simp) with rfl | rfl | rfl <;> exact absurd h2 (by decide +kernel)
end Fz
set_option Elab.async false
set_option linter.all false
set_option maxRecDepth 100000
set_option maxHeartbeats 4000000
namespace Fz
open PySem PyProof.Rows L2
open C8 (Cal Met Mak pe_c pe_mk pe_mt pe_mt0 pe_gc)
section
variable {P : Program} {w : World} {K : PySem.W.Frag} {mg : Str → Option Value} {base : Heap}
/-! ## resolve -/
structure GrS (K : PySem.W.Frag) (M : Str → List Item) (names : List Str) (H : Hp) (g : Addr) : Prop where
  G : Gr K M names H g
  wf : WF M names
  few : names.length ≤ 6
theorem GrS.same {M : Str → List Item} {names : List Str} {H H' : Hp} {g : Addr} (s : Same H H') (G : GrS K M names H g) : GrS K M names H' g := ⟨G.G.same s, G.wf, G.few⟩
def spResolve (K : PySem.W.Frag) : Sp := fun vs H Q _ => ∃ (g : Addr) (M : Str → List Item) (names : List Str) (m wd : Str), vs = [.ref g, .str m, .str wd] ∧ GrS K M names H g ∧ m ∈ names ∧ wd ∈ WORDS ∧ ∀ (H' : Hp) (v : V), Same H H' → AnsAt H' v (res M m wd) → Q v H'
theorem sIn0 {M : Str → List Item} {names : List Str} {H : Hp} {g p : Addr} (G : GrS K M names H g) (hp : H p = none) : SIn K M names H (upd H p (.lst [])) g p [] 40 where
  G := G.G
  s := same_new hp _
  f := hp
  a := ⟨[], upd_same, .nil⟩
  wf := G.wf
  o := fun p h => nomatch h
  c := by
    have h1 := cnt_le (Uni names) []
    have h2 := uni_len names
    have h3 := G.few
    omega
  l := by
    have h1 := cnt_le (Uni names) []
    have h2 := uni_len names
    have h3 := G.few
    show 0 + _ ≤ _
    omega
theorem c_Graph_resolve (T : Tx K mg w) : Met P w K mg base 82 (He.ga K "Graph") "resolve" (spResolve K) [] := by
  have c_Graph_search : Met P w K mg base 81 (He.ga K "Graph") "search" (spSearch K 40) [] := c_searchN T 40
  obtain ⟨fd, F⟩ := T.f_Graph_resolve
  refine metOf T.cl_Graph T.m_Graph_resolve F (b_Graph_resolve F) sc_Graph_resolve (fun vs H Q E h => ?_) (fun cdv A outer s H vs Q E hr h => ?_)
  · obtain ⟨_, _, _, _, _, rfl, _⟩ := h; rfl
  obtain ⟨g, M, names, m, wd, rfl, G, hm, hwd, q⟩ := h
  have hu := hu_of hr
  refine ⟨_, (pss_cons (ps_set (i := 3) sc_Graph_resolve.nd rfl (Or.inl rfl) (pe_mt c_Graph_search hr (by omega) (pv 0) (pa_cons (pv 1) (pa_cons (pv 2) (pa_cons (pe_lst pa_nil) pa_nil)))))
  (pss_cons (ps_if (pt_cmpR (op_eqD (hu64_of hr)) (pv 3) pe_str (nomark _)) (pss_one (ps_ret pe_non)) pss_nil)
  (pss_one (ps_ret (pv 3))))), ?_⟩
  obtain ⟨dx, en, td, id, ol, kvs0, hg, _, _⟩ := G.G.ex
  refine ⟨_, rfl, g, dx, _, rfl, hg, gf_no (by decide +kernel), _, rfl, _, rfl, sz 0, fun p hp => ?_⟩
  have I := sIn0 G hp
  refine ⟨g, p, M, names, H, m, wd, [], rfl, I, hm, hwd, fun H2 v s2 a2 an2 => ?_⟩
  have okr := ok_of (srch_ok G.wf 40 m wd [] hm hwd)
  have ss : Same H H2 := same_of_X I.s I.f s2
  unfold res at q
  cases hrr : srch M 40 m wd [] with
  | mk ans s'' =>
    rw [hrr] at q an2 okr
    have htwo : PyData.eqv (ansD ans) (.str "two") = decide (ans = .two) := ansD_eqv ans .two
    refine ⟨_, rfl, ansD ans, .str "two", an2.dp, .str _, ansD_shaped okr, by decide +kernel, _, rfl, ?_⟩
    rw [htwo]
    cases ans with
    | two => exact if_T (by decide) (q H2 _ ss rfl)
    | no => exact if_F (by decide) ⟨_, rfl, q H2 v ss an2⟩
    | one a b => exact if_F (decide_eq_false (by intro z; cases z)) ⟨_, rfl, q H2 v ss an2⟩
/-! ## told_names -/
def SameY (a b : Addr) (H H' : Hp) : Prop := ∀ c o, c ≠ a → c ≠ b → H c = some o → H' c = some o
theorem SameY.refl (a b : Addr) (H : Hp) : SameY a b H H := fun _ _ _ _ h => h
theorem SameY.trans {a b : Addr} {H H1 H2 : Hp} (x : SameY a b H H1) (y : SameY a b H1 H2) : SameY a b H H2 := fun c o n1 n2 h => y c o n1 n2 (x c o n1 n2 h)
theorem SameY.of {a b : Addr} {H H' : Hp} (s : Same H H') : SameY a b H H' := fun c o _ _ h => s c o h
theorem SameY.u1 {a b : Addr} {H : Hp} {o : HO} : SameY a b H (upd H a o) := fun c u n1 _ h => by rw [upd_ne n1]; exact h
theorem SameY.u2 {a b : Addr} {H : Hp} {o : HO} : SameY a b H (upd H b o) := fun c u _ n2 h => by rw [upd_ne n2]; exact h
theorem SameY.same {a b : Addr} {H0 H H' : Hp} (s : Same H0 H) (h1 : H0 a = none) (h2 : H0 b = none) (y : SameY a b H H') : Same H0 H' := fun c o h => y c o (ne_of_none h h1) (ne_of_none h h2) (s c o h)
def stL (l : List Str) : HO := .lst (l.map V.str)
/-- a state of the telling -/
structure TIn (K : PySem.W.Frag) (M : Str → List Item) (names : List Str) (H0 H : Hp) (g sl fl : Addr) (s f : List Str) : Prop where
  G : GrS K M names H0 g
  sm : Same H0 H
  s0 : H0 sl = none
  f0 : H0 fl = none
  sf : sl ≠ fl
  sa : H sl = some (stL s)
  fa : H fl = some (stL f)
theorem TIn.step {M : Str → List Item} {names : List Str} {H0 H H' : Hp} {g sl fl : Addr} {s f s' f' : List Str} (I : TIn K M names H0 H g sl fl s f) (y : SameY sl fl H H') (sa : H' sl = some (stL s')) (fa : H' fl = some (stL f')) : TIn K M names H0 H' g sl fl s' f' :=
  ⟨I.G, y.same I.sm I.s0 I.f0, I.s0, I.f0, I.sf, sa, fa⟩
def spTold (K : PySem.W.Frag) (n : Nat) : Sp := fun vs H Q _ => ∃ (g sl fl : Addr) (M : Str → List Item) (names : List Str) (H0 : Hp) (m : Str) (s f : List Str), vs = [.ref g, .str m, .ref sl, .ref fl] ∧ TIn K M names H0 H g sl fl s f ∧ m ∈ names ∧ cntN names s < n ∧
  s.length + cntN names s ≤ 1000 ∧ f.length + 100 * cntN names s ≤ 10000 ∧
  ∀ (H' : Hp) (s' f' : List Str), SameY sl fl H H' → TIn K M names H0 H' g sl fl s' f' → m ∈ s' → TStep M names s f s' f' 0 → s'.length + cntN names s' ≤ s.length + cntN names s → Q .non H'
theorem c_Graph_told_names (T : Tx K mg w) {n k : Nat} (c_Graph_told_names : Met P w K mg base (k + 1) (He.ga K "Graph") "told_names" (spTold K n) []) : Met P w K mg base (k + 2) (He.ga K "Graph") "told_names" (spTold K (n + 1)) [] := by
  obtain ⟨fd, F⟩ := T.f_Graph_told_names
  refine metOf T.cl_Graph T.m_Graph_told_names F (b_Graph_told_names F) sc_Graph_told_names (fun vs H Q E h => ?_) (fun cdv A outer s H vs Q E hr h => ?_)
  · obtain ⟨_, _, _, _, _, _, _, _, _, rfl, _⟩ := h; rfl
  obtain ⟨g, sl, fl, M, names, H0, m, sn, f, rfl, I, hm, hc, hl, hf, q⟩ := h
  have hu := hu_of hr
  refine ⟨_, (pss_cons (ps_if (pt_cmpR op_in_seq (pv 1) (pv 2) (by rfl)) (pss_one ps_retN) pss_nil)
  (pss_cons (ps_expr (pe_bm PySem.F.plainAttrs_list PySem.F.slot_list_append PySem.F.type_list_append mt_append (pv 2) (pa_cons (pv 1) pa_nil)))
  (pss_one (ps_for PassesOwn.never rfl (pi_list (pe_dget hu (pe_fld (pv 0) rfl) (pv 1) (fun _ _ => rfl))) (pg_name (i := 4) sc_Graph_told_names.nd rfl (Or.inl rfl)) (pss_one (ps_if (pt_cmpR op_eq (pe_ix ix_tup (pv 4) pe_int (fun _ _ => rfl)) pe_str (nomark _)) (pss_one (ps_expr (pe_bm PySem.F.plainAttrs_list PySem.F.slot_list_extend PySem.F.type_list_extend mt_extend (pv 3) (pa_cons (pe_lc (g := gTup K 2 (gCons (gName 5) (gCons (gName 6) gNil))) (own := [("local", 5), ("other", 6)]) (by rfl) sc_Graph_told_names.nd (pi_tup (pe_ix ix_tup (pv 4) pe_int (fun _ _ => rfl))) (blkOk_by (own := [("local", 5), ("other", 6)]) (N := ["self", "name", "seen", "found", "item", "local", "other", "inner"]) (sc := defScope m_Graph_told_names) (by decide +kernel)) (fun _ _ _ _ _ => (pg_tup rfl (pgs_cons (pg_name (i := 5) sc_Graph_told_names.nd rfl (Or.inl rfl)) (pgs_cons (pg_name (i := 6) sc_Graph_told_names.nd rfl (Or.inl rfl)) pgs_nil)))) (fun _ _ _ _ _ => pts_nil) (fun _ _ _ _ _ => (pv 6))) pa_nil)))) (pss_one (ps_if (pt_cmpR op_eq (pe_ix ix_tup (pv 4) pe_int (fun _ _ => rfl)) pe_str (nomark _)) (pss_one (ps_expr (pe_bm PySem.F.plainAttrs_list PySem.F.slot_list_extend PySem.F.type_list_extend mt_extend (pv 3) (pa_cons (pe_lc (g := gTup K 2 (gCons (gName 7) (gCons (gName 6) gNil))) (own := [("inner", 7), ("other", 6)]) (by rfl) sc_Graph_told_names.nd (pi_tup (pe_ix ix_tup (pv 4) pe_int (fun _ _ => rfl))) (blkOk_by (own := [("inner", 7), ("other", 6)]) (N := ["self", "name", "seen", "found", "item", "local", "other", "inner"]) (sc := defScope m_Graph_told_names) (by decide +kernel)) (fun _ _ _ _ _ => (pg_tup rfl (pgs_cons (pg_name (i := 7) sc_Graph_told_names.nd rfl (Or.inl rfl)) (pgs_cons (pg_name (i := 6) sc_Graph_told_names.nd rfl (Or.inl rfl)) pgs_nil)))) (fun _ _ _ _ _ => pts_nil) (fun _ _ _ _ _ => (pv 6))) pa_nil)))) (pss_one (ps_if (pt_cmpR op_eq (pe_ix ix_tup (pv 4) pe_int (fun _ _ => rfl)) pe_str (nomark _)) (pss_one (ps_expr (pe_mt c_Graph_told_names hr (by omega) (pv 0) (pa_cons (pe_ix ix_tup (pv 4) pe_int (fun _ _ => rfl)) (pa_cons (pv 2) (pa_cons (pv 3) pa_nil)))))) pss_nil)))))))))), ?_⟩
  have hsl : H sl = some (.lst (sn.map V.str)) := I.sa
  refine ⟨_, rfl, _, rfl, sl, _, rfl, .inl (SqL.of hsl), rfl, flat_strs _, _, rfl, ite2 (fun h1 => ?_) (fun h1 => ?_)⟩
  · have h1 : inV (.str m) (sn.map V.str) = true := h1
    rw [inV_strs] at h1
    exact q H sn f (SameY.refl _ _ _) I (of_decide_eq_true h1) (TStep.refl _ _) (Nat.le_refl _)
  have h1 : ¬ inV (.str m) (sn.map V.str) = true := h1
  rw [inV_strs] at h1
  have hns : m ∉ sn := fun z => h1 (decide_eq_true z)
  have hlt := cntN_lt hm hns
  refine ⟨_, rfl, .inl ⟨rfl, _, SqL.of hsl⟩, _, rfl, sl, _, _, rfl, rfl, hsl, szl (by rw [List.length_map]; omega), ?_⟩
  have y1 : SameY sl fl H (upd H sl (.lst (sn.map V.str ++ [.str m]))) := SameY.u1
  have e1 : upd H sl (.lst (sn.map V.str ++ [.str m])) sl = some (stL (sn ++ [m])) := by
    rw [upd_same]; unfold stL; rw [List.map_append]; rfl
  have I1 : TIn K M names H0 _ g sl fl (sn ++ [m]) f := I.step y1 e1 (by rw [upd_ne I.sf.symm]; exact I.fa)
  clear e1
  generalize upd H sl (.lst (sn.map V.str ++ [.str m])) = H1 at y1 I1 ⊢
  have GG := (I1.G.G.same I1.sm).ex
  obtain ⟨dx, en, td, id, ol, kvs0, hg, hid, hI⟩ := GG
  obtain ⟨l, hv, ius, hll, hil⟩ := hI m hm
  obtain ⟨dx0, en0, td0, id0, ol0, kvs00, hg0, hid0, hI0⟩ := I1.G.G.ex
  obtain ⟨l0, hv0, ius0, hll0, hil0⟩ := hI0 m hm
  have hlen := Paired.len (show Paired _ ius0 (M m) from hil0)
  have hml := I1.G.wf.len m hm
  have eg := I1.sm _ _ hg0
  rw [hg] at eg
  cases eg
  have eid := I1.sm _ _ hid0
  rw [hid] at eid
  cases eid
  rw [hv] at hv0
  cases hv0
  have el := I1.sm _ _ hll0
  rw [hll] at el
  cases el
  refine ⟨_, rfl, g, _, dx, _, _, rfl, hg, T.cl_Graph, T.n_Graph__items, gf_items, _, rfl, id, _, rfl, hv ▸ DGet.k (k := Sum.inr m) hid, l, rfl, ⟨ius, SqL.of hll⟩, ?_⟩
  refine for_list (K := K) (a := l) (xs := ius) (fun i σ H' => ∃ (v4 v5 v6 v7 : Option V) (s' f' : List Str), σ = [some (.ref g), some (.str m), some (.ref sl), some (.ref fl), v4, v5, v6, v7] ∧ SameY sl fl H H' ∧ TIn K M names H0 H' g sl fl s' f' ∧
      TStep M names (sn ++ [m]) f s' f' i ∧ (∀ it ∈ (M m).take i, Told s' f' it) ∧ s'.length + cntN names s' ≤ sn.length + cntN names sn)
    ⟨none, none, none, none, _, _, rfl, y1, I1, TStep.refl _ _, (fun it h => nomatch h), by rw [List.length_append, List.length_singleton]; omega⟩ (fun i σ H' _ ⟨_, _, _, _, _, _, _, _, J, _⟩ => SqL.of (J.sm _ _ hll0)) ?_ ?_
  · rintro i x σ H2 hx ⟨v4, v5, v6, v7, s', f', rfl, y2, J, ts, tl, sl2⟩
    obtain ⟨hlti, _⟩ := List.getElem?_eq_some_iff.mp hx
    obtain ⟨it, hit, hi⟩ := ItemL.get (ItemL.keep (KeepT.of J.sm) hil0) hx
    rw [hlen] at hlti
    have hsn : ∀ {s2 f2 : List Str}, (∀ x ∈ s', x ∈ s2) → (∀ x ∈ f', x ∈ f2) → Told s2 f2 it → ∀ it2 ∈ (M m).take (i + 1), Told s2 f2 it2 := fun a b c it2 h2 => by
      rw [take_snoc hit] at h2
      rcases List.mem_append.mp h2 with h2 | h2
      · exact (tl it2 h2).mono a b
      · rw [List.mem_singleton.mp h2]; exact c
    have hln := ts.ln
    have hfl : H2 fl = some (.lst (f'.map V.str)) := J.fa
    have hfew : f'.length ≤ 100000 := by omega
    by_cases hke : ∃ x1 y1, it = .exp x1 y1
    · obtain ⟨x1, y1, rfl⟩ := hke
      obtain ⟨t, ps, qq, j, rfl, ht, hps, hqq⟩ := hi
      refine ⟨_, rfl, t, _, 0, _, rfl, rfl, SqT.of ht, at0, rfl, _, rfl, if_T (by decide +kernel) ?_⟩
      refine ⟨_, rfl, .inl ⟨rfl, _, SqL.of hfl⟩, ?_⟩
      refine ⟨_, rfl, t, _, 1, _, rfl, rfl, SqT.of ht, at1, ps, rfl, ⟨_, SqT.of hps⟩, fun D hD => ?_⟩
      have nDf : D ≠ fl := (ne_of_none hfl hD).symm
      refine lc_tup (K := K) (a := ps) (xs := [.ref qq]) (fun kk H3 => Same H2 H3 ∧ ((kk = 0 ∧ H3 D = some (.lst [])) ∨ (1 ≤ kk ∧ H3 D = some (.lst [.str y1])))) ⟨same_new hD _, .inl ⟨rfl, upd_same⟩⟩ (fun kk H3 _ ⟨s3, _⟩ => SqT.of (s3 _ _ hps)) ?_ ?_
      · rintro kk z H3 hz ⟨s3, hcase⟩
        have hk0 : kk = 0 := by
          have := (List.getElem?_eq_some_iff.mp hz).1
          simp at this
          exact this
        subst hk0
        have ez : z = .ref qq := (Option.some.inj hz).symm
        subst ez
        rcases hcase with ⟨_, e3⟩ | ⟨z, _⟩
        · refine ⟨qq, _, rfl, SqT.of (s3 _ _ hqq), rfl, _, _, rfl, _, _, rfl, rfl, ?_⟩
          refine ⟨rfl, _, rfl, [], e3, by decide, Fz.Same.mut s3 hD, .inr ⟨Nat.le_refl _, upd_same⟩⟩
        · exact absurd z (by omega)
      · rintro H3 ⟨s3, hcase⟩
        rcases hcase with ⟨z, _⟩ | ⟨_, e3⟩
        · exact absurd z (by simp)
        have hfl3 := s3 _ _ hfl
        refine ⟨fl, D, _, [.str y1], rfl, rfl, hfl3, e3, szl (by rw [List.length_map]; omega), ?_⟩
        have hy : y1 ∈ TOLD := J.G.wf.td m hm _ (List.mem_of_getElem? hit) y1 rfl
        have y3 : SameY sl fl H2 (upd H3 fl (.lst (f'.map V.str ++ [.str y1]))) := (SameY.of s3).trans SameY.u2
        have ts3 : TStep M names s' f' s' (f' ++ [y1]) 1 := TStep.ext s' hy
        exact ⟨_, _, _, _, s', f' ++ [y1], rfl, y2.trans y3, J.step y3 (by rw [upd_ne I.sf]; exact s3 _ _ J.sa) (by rw [upd_same]; unfold stL; rw [List.map_append]; rfl),
          ts.trans ts3, hsn (fun _ h => h) ts3.f1 ⟨fun y e => (by cases e; simp), fun m e => (by cases e)⟩, sl2⟩
    by_cases hkf : ∃ m1 x1 y1, it = .frm m1 x1 y1
    · obtain ⟨m1, x1, y1, rfl⟩ := hkf
      obtain ⟨t, ps, qq, j, rfl, ht, hps, hqq⟩ := hi
      refine ⟨_, rfl, t, _, 0, _, rfl, rfl, SqT.of ht, at0, rfl, _, rfl, if_F (by decide +kernel) ?_⟩
      refine ⟨_, rfl, t, _, 0, _, rfl, rfl, SqT.of ht, at0, rfl, _, rfl, if_T (by decide +kernel) ?_⟩
      refine ⟨_, rfl, .inl ⟨rfl, _, SqL.of hfl⟩, ?_⟩
      refine ⟨_, rfl, t, _, 2, _, rfl, rfl, SqT.of ht, at2, ps, rfl, ⟨_, SqT.of hps⟩, fun D hD => ?_⟩
      have nDf : D ≠ fl := (ne_of_none hfl hD).symm
      refine lc_tup (K := K) (a := ps) (xs := [.ref qq]) (fun kk H3 => Same H2 H3 ∧ ((kk = 0 ∧ H3 D = some (.lst [])) ∨ (1 ≤ kk ∧ H3 D = some (.lst [.str y1])))) ⟨same_new hD _, .inl ⟨rfl, upd_same⟩⟩ (fun kk H3 _ ⟨s3, _⟩ => SqT.of (s3 _ _ hps)) ?_ ?_
      · rintro kk z H3 hz ⟨s3, hcase⟩
        have hk0 : kk = 0 := by
          have := (List.getElem?_eq_some_iff.mp hz).1
          simp at this
          exact this
        subst hk0
        have ez : z = .ref qq := (Option.some.inj hz).symm
        subst ez
        rcases hcase with ⟨_, e3⟩ | ⟨z, _⟩
        · refine ⟨qq, _, rfl, SqT.of (s3 _ _ hqq), rfl, _, _, rfl, _, _, rfl, rfl, ?_⟩
          refine ⟨rfl, _, rfl, [], e3, by decide, Fz.Same.mut s3 hD, .inr ⟨Nat.le_refl _, upd_same⟩⟩
        · exact absurd z (by omega)
      · rintro H3 ⟨s3, hcase⟩
        rcases hcase with ⟨z, _⟩ | ⟨_, e3⟩
        · exact absurd z (by simp)
        have hfl3 := s3 _ _ hfl
        refine ⟨fl, D, _, [.str y1], rfl, rfl, hfl3, e3, szl (by rw [List.length_map]; omega), ?_⟩
        have hy : y1 ∈ TOLD := J.G.wf.td m hm _ (List.mem_of_getElem? hit) y1 rfl
        have y3 : SameY sl fl H2 (upd H3 fl (.lst (f'.map V.str ++ [.str y1]))) := (SameY.of s3).trans SameY.u2
        have ts3 : TStep M names s' f' s' (f' ++ [y1]) 1 := TStep.ext s' hy
        exact ⟨_, _, _, _, s', f' ++ [y1], rfl, y2.trans y3, J.step y3 (by rw [upd_ne I.sf]; exact s3 _ _ J.sa) (by rw [upd_same]; unfold stL; rw [List.map_append]; rfl),
          ts.trans ts3, hsn (fun _ h => h) ts3.f1 ⟨fun y e => (by cases e; simp), fun m e => (by cases e)⟩, sl2⟩
    by_cases hks : ∃ m1, it = .star m1
    · obtain ⟨m1, rfl⟩ := hks
      obtain ⟨t, j, rfl, ht⟩ := hi
      refine ⟨_, rfl, t, _, 0, _, rfl, rfl, SqT.of ht, at0, rfl, _, rfl, if_F (by decide +kernel) ?_⟩
      refine ⟨_, rfl, t, _, 0, _, rfl, rfl, SqT.of ht, at0, rfl, _, rfl, if_F (by decide +kernel) ?_⟩
      refine ⟨_, rfl, t, _, 0, _, rfl, rfl, SqT.of ht, at0, rfl, _, rfl, if_T (by decide +kernel) ?_⟩
      have hm1 : m1 ∈ names := J.G.wf.ok m hm _ (List.mem_of_getElem? hit)
      have hcn : cntN names s' ≤ cntN names (sn ++ [m]) := cntN_le ts.s1
      refine ⟨_, rfl, g, dx, _, rfl, J.sm _ _ hg0, gf_no (by decide +kernel), _, rfl, t, _, 1, _, rfl, rfl, SqT.of ht, at1, _, rfl, _, rfl, g, sl, fl, M, names, H0, m1, s', f', rfl, J, hm1, by omega, by omega, by omega, fun H3 s3 f3 y3 J3 hm3 ts3 sl3 => ?_⟩
      exact ⟨_, _, _, _, s3, f3, rfl, y2.trans y3, J3, (ts.trans ts3).more (Nat.le_succ _), hsn ts3.s1 ts3.f1 ⟨fun y e => (by cases e), fun m e => (by cases e; exact hm3)⟩, by omega⟩
    · obtain ⟨t, more, rfl, ht⟩ := hi.head
      have hno2 : ¬ it.kind = ("export" : Str) ∧ ¬ it.kind = ("from" : Str) ∧ ¬ it.kind = ("star" : Str) := by
        cases it with
        | exp a b => exact absurd ⟨a, b, rfl⟩ hke
        | frm a b c => exact absurd ⟨a, b, c, rfl⟩ hkf
        | star a => exact absurd ⟨a, rfl⟩ hks
        | _ => refine ⟨?_, ?_, ?_⟩ <;> (simp only [Item.kind]; decide +kernel)
      refine ⟨_, rfl, t, _, 0, _, rfl, rfl, SqT.of ht, at0, rfl, _, rfl, if_F (dstr hno2.1) ?_⟩
      refine ⟨_, rfl, t, _, 0, _, rfl, rfl, SqT.of ht, at0, rfl, _, rfl, if_F (dstr hno2.2.1) ?_⟩
      refine ⟨_, rfl, t, _, 0, _, rfl, rfl, SqT.of ht, at0, rfl, _, rfl, if_F (dstr hno2.2.2) ?_⟩
      refine ⟨_, _, _, _, s', f', rfl, y2, J, ts.more (Nat.le_succ _), hsn (fun _ h => h) (fun _ h => h) ⟨fun y e => ?_, fun m e => absurd ⟨m, e⟩ hks⟩, sl2⟩
      cases it with
      | exp a b => exact absurd ⟨a, b, rfl⟩ hke
      | frm a b c => exact absurd ⟨a, b, c, rfl⟩ hkf
      | _ => cases e
  · rintro σ H2 ⟨v4, v5, v6, v7, s', f', rfl, y2, J, ts, tl, sl2⟩
    rw [hlen, List.take_length] at tl
    have hcl : Closed M s' f' m := tl
    refine q H2 s' f' y2 J (ts.s1 m (by simp)) (ts.fin (by omega) hm hns hcl) sl2
theorem c_told0 (T : Tx K mg w) : Met P w K mg base 1 (He.ga K "Graph") "told_names" (spTold K 0) [] := by
  obtain ⟨fd, F⟩ := T.f_Graph_told_names
  have no : ∀ vs H Q E, ¬ spTold K 0 vs H Q E := fun vs H Q E h => by
    obtain ⟨g, sl, fl, M, names, H0, m, s, f, _, I, hm, c, _⟩ := h
    exact Nat.not_lt_zero _ c
  exact metOf T.cl_Graph T.m_Graph_told_names F (b_Graph_told_names F) sc_Graph_told_names (fun vs H Q E h => absurd h (no vs H Q E)) (fun cdv A outer s H vs Q E hr h => absurd h (no vs H Q E))
theorem c_toldN (T : Tx K mg w) : ∀ n : Nat, Met P w K mg base (n + 1) (He.ga K "Graph") "told_names" (spTold K n) []
  | 0 => c_told0 T
  | n + 1 => c_Graph_told_names T (k := n) (c_toldN T n)
/-! ## exports -/
theorem told3 {L : List Str} (h1 : ∀ y ∈ L, y ∈ TOLD) (h2 : L.Nodup) : L.length < 64 := by
  match L, h1, h2 with
  | [], _, _ => exact (show 0 < 64 by decide)
  | [_], _, _ => exact (show 1 < 64 by decide)
  | [_, _], _, _ => exact (show 2 < 64 by decide)
  | [_, _, _], _, _ => exact (show 3 < 64 by decide)
  | x :: y :: z :: u :: r, h1, h2 =>
    have c : ∀ y, y ∈ TOLD → y = "a" ∨ y = "b" ∨ y = "c" := fun y this => by
      unfold TOLD at this
      simpa using this
    have h2 : [x, y, z, u].Nodup := h2.sublist (by simp)
    exfalso
    rcases c _ (h1 x (by simp)) with rfl | rfl | rfl <;> rcases c _ (h1 y (by simp)) with rfl | rfl | rfl <;> rcases c _ (h1 z (by simp)) with rfl | rfl | rfl <;> rcases c _ (h1 u (by simp)) with rfl | rfl | rfl <;> exact absurd h2 (by decide +kernel)
theorem told_words : ∀ y ∈ TOLD, y ∈ WORDS := by decide +kernel
def okE (M : Str → List Item) (m : Str) (y : Str) : Bool := !decide (res M m y = .no)
theorem ansAt_non {H : Hp} {v : V} {a : Ans} (h : AnsAt H v a) : (!decide (v = .non)) = !decide (a = .no) := by
  cases a with
  | no => rw [show v = .non from h]; rfl
  | one m x => obtain ⟨t, rfl, _⟩ := h; rw [decide_eq_false (by intro z; cases z), decide_eq_false (by intro z; cases z)]
  | two => rw [show v = .str "two" from h, decide_eq_false (by intro z; cases z), decide_eq_false (by intro z; cases z)]
def spExports (K : PySem.W.Frag) : Sp := fun vs H Q _ => ∃ (g : Addr) (M : Str → List Item) (names : List Str) (m : Str), vs = [.ref g, .str m] ∧ GrS K M names H g ∧ m ∈ names ∧ ∀ (H' : Hp) (p : Addr), Same H H' → H p = none → H' p = some (.lst ((TOLD.filter (okE M m)).map V.str)) → Q (.ref p) H'
theorem c_Graph_exports (T : Tx K mg w) : Met P w K mg base 83 (He.ga K "Graph") "exports" (spExports K) [] := by
  have c_Graph_resolve : Met P w K mg base 82 (He.ga K "Graph") "resolve" (spResolve K) [] := c_Graph_resolve T
  have c_Graph_told_names : Met P w K mg base 8 (He.ga K "Graph") "told_names" (spTold K 7) [] := c_toldN T 7
  obtain ⟨fd, F⟩ := T.f_Graph_exports
  refine metOf T.cl_Graph T.m_Graph_exports F (b_Graph_exports F) sc_Graph_exports (fun vs H Q E h => ?_) (fun cdv A outer s H vs Q E hr h => ?_)
  · obtain ⟨_, _, _, _, rfl, _⟩ := h; rfl
  obtain ⟨g, M, names, m, rfl, G, hm, q⟩ := h
  have hu := hu_of hr
  refine ⟨_, (pss_cons (ps_set (i := 2) sc_Graph_exports.nd rfl (Or.inl rfl) (pe_lst pa_nil))
  (pss_cons (ps_expr (pe_mt c_Graph_told_names hr (by omega) (pv 0) (pa_cons (pv 1) (pa_cons (pe_lst pa_nil) (pa_cons (pv 2) pa_nil)))))
  (pss_one (ps_ret (pe_lc (own := [("one", 3)]) (by rfl) sc_Graph_exports.nd (pi_list (pe_callB (cr_sortedSetS rfl) (by rfl) T.z_sorted (by decide +kernel) (pa_cons (pe_callTy (cr_setS rfl) (by rfl) T.z_set (by decide +kernel) (pa_cons (pv 2) pa_nil)) pa_nil))) (blkOk_by (own := [("one", 3)]) (N := ["self", "name", "found", "one"]) (sc := defScope m_Graph_exports) (by decide +kernel)) (fun _ _ _ _ _ => (pg_name (i := 3) sc_Graph_exports.nd rfl (Or.inl rfl))) (fun _ _ _ _ _ => (pts_one (pt_cmpR op_notN (pe_mt c_Graph_resolve hr (by omega) (pv 0) (pa_cons (pv 1) (pa_cons (pv 3) pa_nil))) pe_non (nomark _)))) (fun _ _ _ _ _ => (pv 3))))))), ?_⟩
  refine ⟨sz 0, fun fl hfl => ?_⟩
  have s1 := same_new hfl (.lst [])
  obtain ⟨dx, en, td, id, ol, kvs0, hg, _, _⟩ := (G.same s1).G.ex
  refine ⟨_, rfl, g, dx, _, rfl, hg, gf_no (by decide +kernel), _, rfl, sz 0, fun sl hsl => ?_⟩
  have nsf : sl ≠ fl := (ne_of_none upd_same hsl).symm
  have s2 := s1.trans (same_new hsl (.lst []))
  have hsl0 : H sl = none := by rw [upd_ne nsf] at hsl; exact hsl
  have hcn : cntN names [] ≤ 6 := Nat.le_trans (List.length_filter_le _ _) G.few
  refine ⟨_, rfl, g, sl, fl, M, names, H, m, [], [], rfl, ⟨G, s2, hsl0, hfl, nsf, upd_same, by rw [upd_ne nsf.symm]; exact upd_same⟩, hm, by omega, by show 0 + _ ≤ _; omega, by show 0 + _ ≤ _; omega, fun H1 s' f' y1 J hms ts _ => ?_⟩
  have hfa : H1 fl = some (.lst (f'.map V.str)) := J.fa
  have hft : ∀ y ∈ f', y ∈ TOLD := fun y hy => (ts.ft y hy).elim (fun z => nomatch z) fun h => h
  have hln := ts.ln
  refine ⟨_, rfl, fl, f', rfl, SqL.of hfa, ?_, fun p L hp nd hx => ?_⟩
  · have : 4096 = scanBound := rfl
    have hz : ([] : List Str).length = 0 := rfl
    omega
  have hL : ∀ y ∈ L, y ∈ TOLD := fun y hy => hft y ((hx y).mp hy)
  refine ⟨p, L, rfl, upd_same, told3 hL nd, fun ys p2 pm hs hp2 => ?_⟩
  have hys : ∀ y ∈ ys, y ∈ TOLD := fun y hy => hL y (pm.mem_iff.mp hy)
  have e3 := sort3 hys (pm.nodup_iff.mpr nd) hs
  have s4 : Same H (upd (upd H1 p (TSetO w p L)) p2 (.lst (ys.map V.str))) := J.sm.trans ((same_new hp _).trans (same_new hp2 _))
  refine ⟨p2, rfl, ⟨_, SqL.of upd_same⟩, fun D hD => ?_⟩
  have hD0 : H D = none := by
    cases h : H D with
    | none => rfl
    | some o =>
      have e0 := s4 _ _ h
      exact absurd (Eq.trans e0.symm hD) (by intro z; cases z)
  refine lc_list (K := K) (a := p2) (xs := ys.map V.str) (fun i H' => Same H H' ∧ H' p2 = some (.lst (ys.map V.str)) ∧ H' D = some (.lst (((ys.take i).filter (okE M m)).map V.str))) ⟨s4.trans (same_new hD _), same_new hD _ _ _ upd_same, upd_same⟩ (fun i H' _ ⟨_, h2, _⟩ => SqL.of h2) ?_ ?_
  · rintro i x H2 hxx ⟨s5, e5, e6⟩
    rw [List.getElem?_map] at hxx
    obtain ⟨y, hy, rfl⟩ := Option.map_eq_some_iff.mp hxx
    have hyT := hys y (List.mem_of_getElem? hy)
    obtain ⟨dx, en, td, id, ol, kvs0, hg, _, _⟩ := (G.same s5).G.ex
    refine ⟨rfl, _, rfl, g, dx, _, rfl, hg, gf_no (by decide +kernel), _, rfl, _, rfl, g, M, names, m, y, rfl, G.same s5, hm, told_words _ hyT, fun H3 v s6 an => ?_⟩
    refine ⟨rfl, _, rfl, ?_⟩
    rw [ansAt_non an, take_snoc hy, List.filter_append]
    have n2 : p2 ≠ D := (ne_of_none upd_same hD)
    by_cases hk : res M m y = .no
    · rw [decide_eq_true hk]
      refine iteF ⟨s5.trans s6, s6 _ _ e5, ?_⟩
      rw [List.filter_cons_of_neg (by unfold okE; rw [decide_eq_true hk]; decide), List.filter_nil, List.append_nil]
      exact s6 _ _ e6
    · rw [decide_eq_false hk]
      refine iteT ⟨_, rfl, _, s6 _ _ e6, szl ?_, Fz.Same.mut (s5.trans s6) hD0, by rw [upd_ne n2]; exact s6 _ _ e5, ?_⟩
      · have h1 := List.length_filter_le (okE M m) (ys.take i)
        have h2 : (ys.take i).length ≤ ys.length := by rw [List.length_take]; exact Nat.min_le_right _ _
        have h3 := pm.length_eq
        have h4 := told3 hL nd
        rw [List.length_map]
        omega
      · rw [List.filter_cons_of_pos (by unfold okE; rw [decide_eq_false hk]; rfl), List.filter_nil, List.map_append, upd_same]
        rfl
  · rintro H2 ⟨s5, e5, e6⟩
    rw [List.length_map, List.take_length] at e6
    refine q H2 D s5 hD0 ?_
    have e7 : ys.filter (okE M m) = TOLD.filter (okE M m) := by
      have e8 : ys.filter (okE M m) = (TOLD.filter fun y => decide (y ∈ ys)).filter (okE M m) := congrArg _ e3
      rw [e8, List.filter_filter]
      refine List.filter_congr fun y _ => ?_
      by_cases hk : okE M m y = true
      · have hr : res M m y ≠ .no := fun z => by
          unfold okE at hk
          rw [decide_eq_true z] at hk
          cases hk
        have hc : ∀ x ∈ s', Closed M s' f' x := fun x hx => (ts.cl x hx).elim (fun z => nomatch z) fun h => h
        have : y ∈ ys := pm.mem_iff.mpr ((hx y).mpr (res_told hc hms hr))
        rw [hk, decide_eq_true this]
        rfl
      · rw [Bool.eq_false_iff.mpr hk]
        rfl
    rw [e6, e7]
end
end Fz
set_option Elab.async false
set_option linter.all false
set_option maxRecDepth 100000
set_option maxHeartbeats 4000000
namespace Fz
open PySem PyProof.Rows L2
open C8 (Cal Met Mak pe_c pe_mk pe_mt pe_mt0 pe_gc)
/-! ## the modules, plain -/
def itemsOf (pcs : Str → List Pc) (n : Str) : List Item := (pcs n).flatMap Pc.items
structure Mods (pcs : Str → List Pc) (names : List Str) : Prop where
  few : names.length ≤ 6
  nm : ∀ n ∈ names, OkS n
  pl : ∀ n ∈ names, (pcs n).length ≤ 1000
  len : ∀ n ∈ names, (itemsOf pcs n).length ≤ 100
  ok : ∀ n ∈ names, ∀ it ∈ itemsOf pcs n, ItemOk names it
  td : ∀ n ∈ names, ∀ it ∈ itemsOf pcs n, ∀ y, toldF it = some y → y ∈ TOLD
  nd : ∀ n ∈ names, ∀ it ∈ itemsOf pcs n, ∀ m, needF it = some m → m ∈ names
/-- what a module needs is there -/
def Needs (M : Str → List Item) (dn : List Str) (x : Str) : Prop := ∀ it ∈ M x, ∀ m, needF it = some m → m ∈ dn
structure RStep (M : Str → List Item) (names dn os dn' os' : List Str) (k : Nat) : Prop where
  d1 : ∀ x ∈ dn, x ∈ dn'
  o1 : ∀ x ∈ os, x ∈ os'
  cl : ∀ x ∈ dn', x ∈ dn ∨ (x ∈ os' ∧ Needs M dn' x)
  ob : ∀ x ∈ os', x ∈ os ∨ x ∈ dn'
  nm : ∀ x ∈ dn', x ∈ dn ∨ x ∈ names
  dl : dn'.length + cntN names dn' ≤ dn.length + cntN names dn
  ol : os'.length + cntN names dn' ≤ os.length + cntN names dn + k
section
variable {M : Str → List Item} {names : List Str}
theorem RStep.refl (dn os : List Str) : RStep M names dn os dn os 0 := ⟨fun _ h => h, fun _ h => h, fun _ h => .inl h, fun _ h => .inl h, fun _ h => .inl h, Nat.le_refl _, Nat.le_refl _⟩
theorem RStep.trans {a b c d e f : List Str} (x : RStep M names a b c d 0) (y : RStep M names c d e f 0) : RStep M names a b e f 0 where
  d1 := fun z h => y.d1 z (x.d1 z h)
  o1 := fun z h => y.o1 z (x.o1 z h)
  cl := fun z h => by
    rcases y.cl z h with h | h
    · rcases x.cl z h with h | h
      · exact .inl h
      · exact .inr ⟨y.o1 z h.1, fun it hi m e => y.d1 m (h.2 it hi m e)⟩
    · exact .inr h
  ob := fun z h => by
    rcases y.ob z h with h | h
    · exact (x.ob z h).imp id fun h => y.d1 z h
    · exact .inr h
  nm := fun z h => (y.nm z h).elim (x.nm z) .inr
  dl := Nat.le_trans y.dl x.dl
  ol := by have := y.ol; have := x.ol; omega
theorem RStep.fin {dn os dn' os' : List Str} {m : Str} (hm : m ∈ names) (hn : m ∉ dn) (h : RStep M names (dn ++ [m]) os dn' os' 0) (c : Needs M dn' m) : RStep M names dn os dn' (os' ++ [m]) 0 where
  d1 := fun x hx => h.d1 x (List.mem_append_left _ hx)
  o1 := fun x hx => List.mem_append_left _ (h.o1 x hx)
  cl := fun x hx => by
    rcases h.cl x hx with z | z
    · rcases List.mem_append.mp z with z | z
      · exact .inl z
      · rw [List.mem_singleton.mp z]; exact .inr ⟨by simp, c⟩
    · exact .inr ⟨List.mem_append_left _ z.1, z.2⟩
  ob := fun x hx => by
    rcases List.mem_append.mp hx with z | z
    · exact h.ob x z
    · rw [List.mem_singleton.mp z]; exact .inr (h.d1 m (by simp))
  nm := fun x hx => by
    rcases h.nm x hx with z | z
    · rcases List.mem_append.mp z with z | z
      · exact .inl z
      · rw [List.mem_singleton.mp z]; exact .inr hm
    · exact .inr z
  dl := by
    have := h.dl
    have := cntN_lt hm hn
    rw [List.length_append, List.length_singleton] at *
    omega
  ol := by
    have := h.ol
    have := cntN_lt hm hn
    rw [List.length_append, List.length_singleton]
    omega
end
section
variable {P : Program} {w : World} {K : PySem.W.Frag} {mg : Str → Option Value} {base : Heap}
/-! ## reach -/
def TxtD (tkvs : List (L2.Key × V)) (pcs : Str → List Pc) (names : List Str) : Prop := ∀ n ∈ names, ∃ z : Str, valV tkvs (.inr n) = some (.str z) ∧ z.length ≤ 20000 ∧ Lex (tl z) ((pcs n).flatMap Pc.toks)
structure Bld (K : PySem.W.Frag) (M : Str → List Item) (H : Hp) (g dx : Addr) (en : V) (td id ol : Addr) (tkvs kvs : List (L2.Key × V)) (dn os : List Str) : Prop where
  hg : H g = some (.ins (He.ga K "Graph") dx (gf en td id ol))
  tn : td ≠ id
  ht : H td = some (.dK tkvs)
  hd : H id = some (.dK kvs)
  ho : H ol = some (stL os)
  it : ∀ n ∈ dn, ∃ l, valV kvs (.inr n) = some (.ref l) ∧ ItemsAt H l (M n) ∧ l ≠ ol ∧ l ≠ id
  no : ∀ n, n ∉ dn → valV kvs (.inr n) = none
  kl : kvs.length ≤ dn.length
def spReach (K : PySem.W.Frag) (n : Nat) : Sp := fun vs H Q _ => ∃ (g dx : Addr) (en : V) (td id ol : Addr) (tkvs kvs : List (L2.Key × V)) (pcs : Str → List Pc) (names dn os : List Str) (m : Str), vs = [.ref g, .str m] ∧
  Bld K (itemsOf pcs) H g dx en td id ol tkvs kvs dn os ∧ Mods pcs names ∧ TxtD tkvs pcs names ∧ m ∈ names ∧ cntN names dn < n ∧ dn.length + cntN names dn ≤ 6 ∧ os.length + cntN names dn ≤ 6 ∧
  ∀ (H' : Hp) (kvs' : List (L2.Key × V)) (dn' os' : List Str), SameY id ol H H' → Bld K (itemsOf pcs) H' g dx en td id ol tkvs kvs' dn' os' → m ∈ dn' → RStep (itemsOf pcs) names dn os dn' os' 0 → Q .non H'
theorem SameY.keepT {id ol : Addr} {H H' : Hp} (y : SameY id ol H H') {kvs : List (L2.Key × V)} {os : List Str} (h1 : H id = some (.dK kvs)) (h2 : H ol = some (stL os)) : KeepT H H' := fun a xs h =>
  y a _ (ne_of h h1 (by intro z; cases z)) (ne_of h h2 (by intro z; cases z)) h
theorem ItemsAt.sameY {id ol : Addr} {H H' : Hp} (y : SameY id ol H H') {kvs : List (L2.Key × V)} {os : List Str} (h1 : H id = some (.dK kvs)) (h2 : H ol = some (stL os)) {l : Addr} {its : List Item} (hl : l ≠ ol) (hd : l ≠ id) (h : ItemsAt H l its) : ItemsAt H' l its := by
  obtain ⟨us, e, t⟩ := h
  exact ⟨us, y l _ hd hl e, ItemL.keep (y.keepT h1 h2) t⟩
theorem c_Graph__reach (T : Tx K mg w) {n k : Nat} (hk : 13 ≤ k) (c_Graph__reach : Met P w K mg base (k + 1) (He.ga K "Graph") "_reach" (spReach K n) []) : Met P w K mg base (k + 2) (He.ga K "Graph") "_reach" (spReach K (n + 1)) [] := by
  have c_parse : Cal P w K mg base 13 "parse" spParse [] := c_parse T
  have c_needs : Cal P w K mg base 1 "needs" spNeeds [] := c_needs T
  obtain ⟨fd, F⟩ := T.f_Graph__reach
  refine metOf T.cl_Graph T.m_Graph__reach F (b_Graph__reach F) sc_Graph__reach (fun vs H Q E h => ?_) (fun cdv A outer s H vs Q E hr h => ?_)
  · obtain ⟨_, _, _, _, _, _, _, _, _, _, _, _, _, rfl, _⟩ := h; rfl
  obtain ⟨g, dx, en, td, id, ol, tkvs, kvs, pcs, names, dn, os, m, rfl, B, md, tx, hm, hc, hdl, hol, q⟩ := h
  have hu := hu_of hr
  refine ⟨_, (pss_cons (ps_if (pt_cmp (pc_din hu (pv 1) (pe_fld (pv 0) rfl))) (pss_one ps_retN) pss_nil)
  (pss_cons (ps_if (pt_cmp (pc_dnotin hu (pv 1) (pe_fld (pv 0) rfl))) (pss_never) pss_nil)
  (pss_cons (ps_if (pt_cmpR op_ge (pe_callB call_lenD (by rfl) T.z_len PySem.boot_len (pa_cons (pe_fld (pv 0) rfl) pa_nil)) (pe_gc rfl T.k_MAX_MODULES) (nomark _)) (pss_never) pss_nil)
  (pss_cons (ps_dput hu (pe_fld (pv 0) rfl) (pv 1) (pe_c c_parse hr (by omega) rfl (pa_cons (pe_dget hu (pe_fld (pv 0) rfl) (pv 1) (fun _ _ => rfl)) (pa_cons (pv 1) pa_nil))) rfl)
  (pss_cons (ps_for PassesOwn.never rfl (pi_list (pe_c c_needs hr (by omega) rfl (pa_cons (pe_dget hu (pe_fld (pv 0) rfl) (pv 1) (fun _ _ => rfl)) pa_nil))) (pg_name (i := 2) sc_Graph__reach.nd rfl (Or.inl rfl)) (pss_one (ps_expr (pe_mt c_Graph__reach hr (by omega) (pv 0) (pa_cons (pv 2) pa_nil)))))
  (pss_one (ps_expr (pe_bm PySem.F.plainAttrs_list PySem.F.slot_list_append PySem.F.type_list_append mt_append (pe_fld (pv 0) rfl) (pa_cons (pv 1) pa_nil))))))))), ?_⟩
  obtain ⟨z, hz, hzl, hlx⟩ := tx m hm
  have hDG := DGet.k (k := Sum.inr m) B.hd
  by_cases hmd : m ∈ dn
  · obtain ⟨l, hv, _⟩ := B.it m hmd
    rw [hv] at hDG
    exact ⟨_, rfl, _, rfl, g, _, dx, _, _, rfl, B.hg, T.cl_Graph, T.n_Graph__items, gf_items, id, _, rfl, hDG, _, rfl, iteT (q H kvs dn os (SameY.refl _ _ _) B hmd (RStep.refl _ _))⟩
  rw [B.no m hmd] at hDG
  have hTG := DGet.k (k := Sum.inr m) B.ht
  rw [hz] at hTG
  have hlt := cntN_lt hm hmd
  have hkl := B.kl
  refine ⟨_, rfl, _, rfl, g, _, dx, _, _, rfl, B.hg, T.cl_Graph, T.n_Graph__items, gf_items, id, _, rfl, hDG, _, rfl, iteF ?_⟩
  refine ⟨_, rfl, _, rfl, g, _, dx, _, _, rfl, B.hg, T.cl_Graph, T.n_Graph__texts, gf_texts, td, _, rfl, hTG, _, rfl, iteF ?_⟩
  refine ⟨_, rfl, g, _, dx, _, _, rfl, B.hg, T.cl_Graph, T.n_Graph__items, gf_items, id, kvs, rfl, B.hd, _, _, rfl, rfl, _, rfl, if_F (decide_eq_false (by omega)) ?_⟩
  refine ⟨_, rfl, g, _, dx, _, _, rfl, B.hg, T.cl_Graph, T.n_Graph__texts, gf_texts, _, rfl, td, _, rfl, hTG, _, rfl, z, _, pcs m, rfl, hzl, md.pl m hm, hlx, fun H1 l s1 hl0 hl => ?_⟩
  have hd1 := s1 _ _ B.hd
  have nlo : l ≠ ol := (ne_of_none B.ho hl0).symm
  have nli : l ≠ id := (ne_of_none B.hd hl0).symm
  have nio : id ≠ ol := ne_of B.hd B.ho (by intro z; cases z)
  have ngi : g ≠ id := ne_of B.hg B.hd (by intro z; cases z)
  have ngo : g ≠ ol := ne_of B.hg B.ho (by intro z; cases z)
  refine ⟨_, rfl, g, _, dx, _, _, rfl, s1 _ _ B.hg, T.cl_Graph, T.n_Graph__items, gf_items, _, rfl, id, _, rfl, DPut.k (k := Sum.inr m) hd1 (szl (by omega)), ?_⟩
  have y2 : SameY id ol H (upd H1 id (.dK (putK kvs (Sum.inr m) (.ref l)))) := (SameY.of s1).trans SameY.u1
  have hv2 : ∀ x : Str, valV (putK kvs (Sum.inr m) (.ref l)) (.inr x) = if x = m then some (.ref l) else valV kvs (.inr x) := fun x => by
    rw [valV_put]
    by_cases e : x = m
    · rw [if_pos e, if_pos (by rw [e])]
    · rw [if_neg e, if_neg fun z => e (Sum.inr.inj z)]
  have hl2 : ItemsAt (upd H1 id (.dK (putK kvs (Sum.inr m) (.ref l)))) l (itemsOf pcs m) :=
    ItemsAt.sameY (SameY.u1 (a := id) (b := ol)) hd1 (s1 _ _ B.ho) nlo nli hl
  have B2 : Bld K (itemsOf pcs) (upd H1 id (.dK (putK kvs (Sum.inr m) (.ref l)))) g dx en td id ol tkvs (putK kvs (Sum.inr m) (.ref l)) (dn ++ [m]) os := by
    refine ⟨y2 _ _ ngi ngo B.hg, B.tn, ?_, upd_same, by rw [upd_ne nio.symm]; exact s1 _ _ B.ho, fun x hx => ?_, fun x hx => ?_, ?_⟩
    · rw [upd_ne B.tn]; exact s1 _ _ B.ht
    · rw [hv2]
      by_cases e : x = m
      · rw [if_pos e, e]
        exact ⟨l, rfl, hl2, nlo, nli⟩
      · rw [if_neg e]
        have hx : x ∈ dn := (List.mem_append.mp hx).elim (fun z => z) fun z => absurd (List.mem_singleton.mp z) e
        obtain ⟨l3, h1, h2, h3, h4⟩ := B.it x hx
        exact ⟨l3, h1, h2.sameY y2 B.hd B.ho h3 h4, h3, h4⟩
    · rw [hv2, if_neg fun e => hx (by rw [e]; simp)]
      exact B.no x fun z => hx (List.mem_append_left _ z)
    · have := putK_len kvs (Sum.inr m) (.ref l)
      rw [List.length_append, List.length_singleton]
      omega
  clear hl2
  generalize putK kvs (Sum.inr m) (.ref l) = kvs2 at y2 B2 ⊢
  generalize upd H1 id (.dK kvs2) = H2 at y2 B2 ⊢
  obtain ⟨l2, hv3, hl3, _, _⟩ := B2.it m (by simp)
  have hDG2 := DGet.k (k := Sum.inr m) B2.hd
  rw [hv3] at hDG2
  have hmil := md.len m hm
  refine ⟨_, rfl, g, _, dx, _, _, rfl, B2.hg, T.cl_Graph, T.n_Graph__items, gf_items, _, rfl, id, _, rfl, hDG2, l2, _, rfl, hl3, by omega, fun H3 p s3 hp0 hp => ?_⟩
  have npi : p ≠ id := (ne_of_none B2.hd hp0).symm
  have npo : p ≠ ol := (ne_of_none B2.ho hp0).symm
  have B3 : Bld K (itemsOf pcs) H3 g dx en td id ol tkvs kvs2 (dn ++ [m]) os := ⟨s3 _ _ B2.hg, B.tn, s3 _ _ B2.ht, s3 _ _ B2.hd, s3 _ _ B2.ho, fun x hx => by
    obtain ⟨l4, h1, h2, h3, h4⟩ := B2.it x hx
    exact ⟨l4, h1, h2.same s3, h3, h4⟩, B2.no, B2.kl⟩
  have y3 : SameY id ol H H3 := y2.trans (SameY.of s3)
  have hfl : (dn ++ [m]).length + cntN names (dn ++ [m]) ≤ 6 := by rw [List.length_append, List.length_singleton]; omega
  refine ⟨p, rfl, ⟨_, SqL.of hp⟩, ?_⟩
  refine for_list (K := K) (a := p) (xs := (need (itemsOf pcs m)).map V.str) (fun i σ H' => ∃ (v2 : Option V) (kvs' : List (L2.Key × V)) (dn' os' : List Str), σ = [some (.ref g), some (.str m), v2] ∧ SameY id ol H H' ∧
      Bld K (itemsOf pcs) H' g dx en td id ol tkvs kvs' dn' os' ∧ RStep (itemsOf pcs) names (dn ++ [m]) os dn' os' 0 ∧ (∀ x ∈ (need (itemsOf pcs m)).take i, x ∈ dn') ∧ H' p = some (.lst ((need (itemsOf pcs m)).map V.str)))
    ⟨none, kvs2, _, _, rfl, y3, B3, RStep.refl _ _, (fun x h => nomatch h), hp⟩ (fun i σ H' _ ⟨_, _, _, _, _, _, _, _, _, h⟩ => SqL.of h) ?_ ?_
  · rintro i x σ H4 hx ⟨v2, kvs4, dn4, os4, rfl, y4, B4, R4, t4, hp4⟩
    rw [List.getElem?_map] at hx
    obtain ⟨x, hx0, rfl⟩ := Option.map_eq_some_iff.mp hx
    have hxn : x ∈ names := by
      obtain ⟨it, h1, h2⟩ := List.mem_filterMap.mp (List.mem_of_getElem? hx0)
      exact md.nd m hm it h1 x h2
    have h6 := cntN_le (names := names) R4.d1
    have h7 := R4.dl
    have h8 := R4.ol
    refine ⟨_, rfl, g, dx, _, rfl, B4.hg, gf_no (by decide +kernel), _, rfl, g, dx, en, td, id, ol, tkvs, kvs4, pcs, names, dn4, os4, x, rfl, B4, md, tx, hxn, by omega, by omega, by omega, fun H5 kvs5 dn5 os5 y5 B5 hx5 R5 => ?_⟩
    refine ⟨_, kvs5, dn5, os5, rfl, y4.trans y5, B5, R4.trans R5, fun x2 h2 => ?_, y5 _ _ npi npo hp4⟩
    rw [take_snoc hx0] at h2
    rcases List.mem_append.mp h2 with h2 | h2
    · exact R5.d1 x2 (t4 x2 h2)
    · rw [List.mem_singleton.mp h2]; exact hx5
  · rintro σ H4 ⟨v2, kvs4, dn4, os4, rfl, y4, B4, R4, t4, hp4⟩
    have h8 := R4.ol
    have hol4 : H4 ol = some (.lst (os4.map V.str)) := B4.ho
    refine ⟨_, rfl, g, _, dx, _, _, rfl, B4.hg, T.cl_Graph, T.n_Graph__order, gf_order, .inl ⟨rfl, _, SqL.of hol4⟩, _, rfl, ol, _, _, rfl, rfl, hol4, szl (by rw [List.length_map]; omega), ?_⟩
    have y6 : SameY id ol H4 (upd H4 ol (.lst (os4.map V.str ++ [.str m]))) := SameY.u2
    rw [List.length_map, List.take_length] at t4
    have hN : Needs (itemsOf pcs) dn4 m := fun it hi m2 e => t4 m2 (List.mem_filterMap.mpr ⟨it, hi, e⟩)
    refine q _ kvs4 dn4 (os4 ++ [m]) (y4.trans y6) ⟨y6 _ _ ngi ngo B4.hg, B.tn, ?_, by rw [upd_ne nio]; exact B4.hd, by rw [upd_same]; unfold stL; rw [List.map_append]; rfl, fun x hx => ?_, B4.no, B4.kl⟩ (R4.d1 m (by simp)) (RStep.fin hm hmd R4 hN)
    · rw [upd_ne (ne_of B4.ht B4.ho (by intro z; cases z))]; exact B4.ht
    · obtain ⟨l4, h1, h2, h3, h4⟩ := B4.it x hx
      exact ⟨l4, h1, h2.sameY y6 B4.hd B4.ho h3 h4, h3, h4⟩
theorem c_reach0 (T : Tx K mg w) {k : Nat} : Met P w K mg base (k + 1) (He.ga K "Graph") "_reach" (spReach K 0) [] := by
  obtain ⟨fd, F⟩ := T.f_Graph__reach
  have no : ∀ vs H Q E, ¬ spReach K 0 vs H Q E := fun vs H Q E h => by
    obtain ⟨g, dx, en, td, id, ol, tkvs, kvs, pcs, names, dn, os, m, _, B, md, tx, hm, hc, _⟩ := h
    exact Nat.not_lt_zero _ hc
  exact metOf T.cl_Graph T.m_Graph__reach F (b_Graph__reach F) sc_Graph__reach (fun vs H Q E h => absurd h (no vs H Q E)) (fun cdv A outer s H vs Q E hr h => absurd h (no vs H Q E))
theorem c_reachN (T : Tx K mg w) : ∀ n : Nat, Met P w K mg base (n + 14) (He.ga K "Graph") "_reach" (spReach K n) []
  | 0 => c_reach0 T (k := 13)
  | n + 1 => c_Graph__reach T (k := n + 13) (by omega) (c_reachN T n)
/-! ## a graph of modules -/
/-- the graph that the law reads: its order, closed -/
structure GrO (K : PySem.W.Frag) (M : Str → List Item) (nm os : List Str) (H : Hp) (g : Addr) : Prop where
  G : GrS K M nm H g
  o : ∃ (dx : Addr) (en : V) (td id ol : Addr), H g = some (.ins (He.ga K "Graph") dx (gf en td id ol)) ∧ H ol = some (stL os)
  on : ∀ x, x ∈ os ↔ x ∈ nm
def spGraph (K : PySem.W.Frag) : Sp := fun vs H Q _ => ∃ (C dx r d : Addr) (tkvs : List (L2.Key × V)) (pcs : Str → List Pc) (names : List Str) (m : Str), vs = [.ref r, .ref d, .str m] ∧ H r = some (.ins C dx []) ∧ C = He.ga K "Graph" ∧ H d = some (.dK tkvs) ∧ Mods pcs names ∧ TxtD tkvs pcs names ∧ m ∈ names ∧
  ∀ (H' : Hp) (nm os : List Str), SameX r H H' → GrO K (itemsOf pcs) nm os H' r → (∀ x ∈ nm, x ∈ names) → os.length ≤ 6 → Q .non H'
theorem c_Graph (T : Tx K mg w) : Mak P w K mg base 22 "Graph" (He.ga K "Graph") (spGraph K) [] := by
  have c_Graph__reach : Met P w K mg base 21 (He.ga K "Graph") "_reach" (spReach K 7) [] := c_reachN T 7
  obtain ⟨fd, F⟩ := T.f_Graph___init__
  refine makOf T.mk_Graph T.g_Graph F (b_Graph___init__ F) sc_Graph___init__ (fun vs H Q E h => ?_) (fun cdv A outer s H vs Q E hr h => ?_)
  · obtain ⟨_, _, _, _, _, _, _, _, rfl, _⟩ := h; rfl
  obtain ⟨C, dx, r, d, tkvs, pcs, names, m, rfl, h0, rfl, hd, md, tx, hm, q⟩ := h
  have hu := hu_of hr
  refine ⟨_, (pss_cons (ps_fld (pv 0) (pv 2) rfl)
  (pss_cons (ps_fld (pv 0) (pe_callTy call_dictD (by rfl) T.z_dict (by decide +kernel) (pa_cons (pv 1) pa_nil)) rfl)
  (pss_cons (ps_fld (pv 0) pe_dnewK rfl)
  (pss_cons (ps_fld (pv 0) (pe_lst pa_nil) rfl)
  (pss_one (ps_expr (pe_mt c_Graph__reach hr (by omega) (pv 0) (pa_cons (pv 2) pa_nil)))))))), ?_⟩
  refine ⟨_, rfl, _, rfl, r, _, dx, _, rfl, h0, T.cl_Graph, T.n_Graph_entry, (by show 0 < 1000; decide), ?_⟩
  have ndr : d ≠ r := ne_of hd h0 (by intro z; cases z)
  have x1 : SameX r H (upd H r (.ins (He.ga K "Graph") dx (putF "entry" (.str m) []))) := SameX.upd
  refine ⟨_, rfl, d, tkvs, rfl, Rd.of (x1 _ _ ndr hd), fun td htd => ?_⟩
  have s2 := same_new htd (.dK tkvs)
  have x2 := x1.trans (SameX.of s2)
  refine ⟨_, rfl, r, _, dx, _, rfl, s2 _ _ upd_same, T.cl_Graph, T.n_Graph__texts, (by show 1 < 1000; decide), fun id hid => ?_⟩
  rw [gf_m2] at hid ⊢
  have ntr : td ≠ r := (ne_of_none upd_same htd).symm
  generalize hH2 : upd (upd (upd H r (.ins (He.ga K "Graph") dx (putF "entry" (.str m) []))) td (.dK tkvs)) r (.ins (He.ga K "Graph") dx [("entry", .str m), ("_texts", .ref td)]) = H2 at hid ⊢
  have e2 : H2 r = some (.ins (He.ga K "Graph") dx [("entry", .str m), ("_texts", .ref td)]) := by rw [← hH2]; exact upd_same
  have t2 : H2 td = some (.dK tkvs) := by rw [← hH2, upd_ne ntr]; exact upd_same
  have x3 : SameX r H H2 := by rw [← hH2]; exact x2.trans SameX.upd
  have s3 := same_new hid (.dK [])
  refine ⟨_, rfl, r, _, dx, _, rfl, s3 _ _ e2, T.cl_Graph, T.n_Graph__items, (by show 2 < 1000; decide), sz 0, fun ol hol => ?_⟩
  rw [← gf_m2, gf_m3] at hol ⊢
  have nir : id ≠ r := (ne_of_none e2 hid).symm
  have nti : td ≠ id := ne_of_none t2 hid
  generalize hH3 : upd (upd H2 id (.dK [])) r (.ins (He.ga K "Graph") dx [("entry", .str m), ("_texts", .ref td), ("_items", .ref id)]) = H3 at hol ⊢
  have e3 : H3 r = some (.ins (He.ga K "Graph") dx [("entry", .str m), ("_texts", .ref td), ("_items", .ref id)]) := by rw [← hH3]; exact upd_same
  have t3 : H3 td = some (.dK tkvs) := by rw [← hH3, upd_ne ntr, upd_ne nti]; exact t2
  have i3 : H3 id = some (.dK []) := by rw [← hH3, upd_ne nir]; exact upd_same
  have x4 : SameX r H H3 := by rw [← hH3]; exact (x3.trans (SameX.of s3)).trans SameX.upd
  have s4 := same_new hol (.lst [])
  refine ⟨_, rfl, r, _, dx, _, rfl, s4 _ _ e3, T.cl_Graph, T.n_Graph__order, (by show 3 < 1000; decide), ?_⟩
  rw [← gf_m3, gf_m4]
  have nor : ol ≠ r := (ne_of_none e3 hol).symm
  have nio : id ≠ ol := ne_of_none i3 hol
  have nto : td ≠ ol := ne_of_none t3 hol
  generalize hH4 : upd (upd H3 ol (.lst [])) r (.ins (He.ga K "Graph") dx (gf (.str m) td id ol)) = H4
  have x5 : SameX r H H4 := by rw [← hH4]; exact (x4.trans (SameX.of s4)).trans SameX.upd
  have B : Bld K (itemsOf pcs) H4 r dx (.str m) td id ol tkvs [] [] [] := by
    refine ⟨by rw [← hH4]; exact upd_same, nti, by rw [← hH4, upd_ne ntr, upd_ne nto]; exact t3, by rw [← hH4, upd_ne nir, upd_ne nio]; exact i3, by rw [← hH4, upd_ne nor]; exact upd_same, (fun n h => nomatch h), fun n _ => rfl, Nat.le_refl _⟩
  have hidH : H id = none := by
    cases h : H id with
    | none => rfl
    | some o => exact absurd ((x3 _ _ nir h).symm.trans hid) (by intro z; cases z)
  have holH : H ol = none := by
    cases h : H ol with
    | none => rfl
    | some o => exact absurd ((x4 _ _ nor h).symm.trans hol) (by intro z; cases z)
  have hcn : cntN names [] ≤ 6 := Nat.le_trans (List.length_filter_le _ _) md.few
  refine ⟨_, rfl, r, dx, _, rfl, B.hg, gf_no (by decide +kernel), _, rfl, r, dx, .str m, td, id, ol, tkvs, [], pcs, names, [], [], m, rfl, B, md, tx, hm, by omega, by show 0 + _ ≤ _; omega, by show 0 + _ ≤ _; omega, fun H5 kvs' dn os y5 B5 hm5 R5 => ?_⟩
  have hdn : ∀ x ∈ dn, x ∈ os ∧ Needs (itemsOf pcs) dn x := fun x hx => (R5.cl x hx).elim (fun z => nomatch z) fun h => h
  have hsub : ∀ x ∈ dn, x ∈ names := fun x hx => (R5.nm x hx).elim (fun z => nomatch z) fun h => h
  have hl1 := R5.dl
  have hl2 := R5.ol
  have z0 : ([] : List Str).length = 0 := rfl
  refine q H5 dn os (fun b o nb h => y5 b o (ne_of_none h hidH) (ne_of_none h holH) (x5 b o nb h)) ⟨⟨⟨⟨dx, .str m, td, id, ol, kvs', B5.hg, B5.hd, fun n hn => ?_⟩⟩, ⟨fun n hn => md.nm n (hsub n hn), fun n hn => md.td n (hsub n hn), fun n hn => md.len n (hsub n hn), fun n hn it hi => ?_⟩, by omega⟩, ⟨dx, .str m, td, id, ol, B5.hg, B5.ho⟩, fun x => ⟨fun h => (R5.ob x h).elim (fun z => nomatch z) fun h => h, fun h => (hdn x h).1⟩⟩ hsub (by omega)
  · obtain ⟨l, h1, h2, _⟩ := B5.it n hn
    exact ⟨l, h1, h2⟩
  · have h1 := md.ok n (hsub n hn) it hi
    have h2 := (hdn n hn).2 it hi
    cases it with
    | frm a b c => exact ⟨h2 a rfl, h1.2⟩
    | imp a b c => exact ⟨h2 a rfl, h1.2⟩
    | star a => exact h2 a rfl
    | ltI a b => exact h1
    | exp a b => trivial
    | spc a b => trivial
end
end Fz
set_option Elab.async false
set_option linter.all false
set_option maxRecDepth 100000
set_option maxHeartbeats 4000000
namespace Fz
open PySem PyProof.Rows L2
open C8 (Cal Met Mak pe_c pe_mk pe_mt pe_mt0 pe_gc)
section
variable {P : Program} {w : World} {K : PySem.W.Frag} {mg : Str → Option Value} {base : Heap}
/-! ## the law's numbers -/
def spCell (K : PySem.W.Frag) : Sp := fun vs H Q _ => ∃ (a : Addr) (ns : List Int), vs = [.ref a, .int 0] ∧ SqL K H a (ns.map V.int) ∧ ∀ n : Int, Q (.int n) H
theorem c__law_cell (T : Tx K mg w) : Cal P w K mg base 1 "_law_cell" (spCell K) [] := by
  obtain ⟨fd, F⟩ := T.f__law_cell
  refine calOf F T.g__law_cell (b__law_cell F) sc__law_cell (fun vs H Q E h => ?_) (fun cdv A outer s H vs Q E hr h => ?_)
  · obtain ⟨_, _, rfl, _⟩ := h; rfl
  obtain ⟨a, ns, rfl, hS, q⟩ := h
  refine ⟨_, (pss_cons (ps_if (pt_cmpR op_lt (pv 1) (pe_callB call_len_seq (by rfl) T.z_len PySem.boot_len (pa_cons (pv 0) pa_nil)) (nomark _)) (pss_one (ps_ret (pe_callTy call_int1 (by rfl) T.z_int (by decide +kernel) (pa_cons (pe_ix ix_list (pv 0) (pv 1) (fun _ _ => rfl)) pa_nil)))) pss_nil)
  (pss_one (ps_ret pe_int))), ?_⟩
  refine ⟨_, rfl, _, rfl, _, _, rfl, .inl hS, _, _, rfl, rfl, _, rfl, ?_⟩
  cases ns with
  | nil => exact if_F (by decide) (q 0)
  | cons n r =>
    refine if_T (decide_eq_true (by rw [List.map_cons, List.length_cons]; omega)) ?_
    exact ⟨_, rfl, _, rfl, a, _, 0, _, rfl, rfl, hS, at0, .inl ⟨n, rfl, q n⟩⟩
def spNumbers : Sp := fun vs H Q _ => ∃ (c : Int), vs = [.int c, .int 60] ∧ ∀ (H' : Hp) (p : Addr) (ns : List Int), Same H H' → H p = none → H' p = some (.lst (ns.map V.int)) → ns.length = 60 → Q (.ref p) H'
theorem c__law_numbers (T : Tx K mg w) : Cal P w K mg base 1 "_law_numbers" spNumbers [] := by
  obtain ⟨fd, F⟩ := T.f__law_numbers
  refine calOf F T.g__law_numbers (b__law_numbers F) sc__law_numbers (fun vs H Q E h => ?_) (fun cdv A outer s H vs Q E hr h => ?_)
  · obtain ⟨_, rfl, _⟩ := h; rfl
  obtain ⟨c, rfl, q⟩ := h
  refine ⟨_, (pss_cons (ps_set (i := 2) sc__law_numbers.nd rfl (Or.inl rfl) (pe_lst pa_nil))
  (pss_cons (ps_set (i := 3) sc__law_numbers.nd rfl (Or.inl rfl) (pe_callB call_abs (by rfl) T.z_abs (by decide +kernel) (pa_cons (pv 0) pa_nil)))
  (pss_cons (ps_if (pt_cmpR op_ge (pv 3) pe_int (nomark _)) (pss_cons (ps_for PassesOwn.never rfl (pi_range1 (by rfl) T.z_range (pa_cons (pv 1) pa_nil)) (pg_name (i := 4) sc__law_numbers.nd rfl (Or.inl rfl)) (pss_cons (ps_expr (pe_bm PySem.F.plainAttrs_list PySem.F.slot_list_append PySem.F.type_list_append mt_append (pv 2) (pa_cons (pe_op op_mod (pe_callTy call_int1 (by rfl) T.z_int (by decide +kernel) (pa_cons (pv 3) pa_nil)) pe_int) pa_nil)))
  (pss_one (ps_set (i := 3) sc__law_numbers.nd rfl (Or.inl rfl) (pe_op op_fdivN (pv 3) pe_int)))))
  (pss_one (ps_ret (pv 2)))) pss_nil)
  (pss_cons (ps_for PassesOwn.never rfl (pi_range1 (by rfl) T.z_range (pa_cons (pv 1) pa_nil)) (pg_name (i := 4) sc__law_numbers.nd rfl (Or.inl rfl)) (pss_cons (ps_set (i := 3) sc__law_numbers.nd rfl (Or.inl rfl) (pe_op op_mod (pe_callTy call_int1 (by rfl) T.z_int (by decide +kernel) (pa_cons (pe_op op_add (pe_op op_add (pe_op op_mul (pv 3) pe_int) (pe_op op_mul (pv 4) pe_int)) pe_int) pa_nil)) pe_int))
  (pss_one (ps_expr (pe_bm PySem.F.plainAttrs_list PySem.F.slot_list_append PySem.F.type_list_append mt_append (pv 2) (pa_cons (pe_op op_mod (pe_op op_mod (pe_callTy call_int1 (by rfl) T.z_int (by decide +kernel) (pa_cons (pe_op op_mul (pv 3) pe_int) pa_nil)) pe_int) pe_int) pa_nil))))))
  (pss_one (ps_ret (pv 2))))))), ?_⟩
  refine ⟨sz 0, fun p hp => ?_⟩
  refine ⟨_, rfl, c, rfl, ?_⟩
  generalize (if c < 0 then -c else c) = r
  refine ⟨_, rfl, _, _, rfl, rfl, _, rfl, ite2 (fun h1 => ?_) (fun h1 => ?_)⟩
  · refine ⟨_, rfl, 60, rfl, by decide, by decide, ?_⟩
    refine for_range (lo := 0) (n := 60) (fun i σ H' => ∃ (x : Int) (v4 : Option V) (ns : List Int), σ = [some (.int c), some (.int 60), some (.ref p), some (.int x), v4] ∧ Same H H' ∧ H' p = some (.lst (ns.map V.int)) ∧ ns.length = i)
      ⟨r, none, [], rfl, same_new hp _, upd_same, rfl⟩ ?_ ?_
    · rintro i σ H1 hi ⟨x, v4, ns, rfl, s1, e1, hn⟩
      refine ⟨_, rfl, .inl ⟨rfl, _, SqL.of e1⟩, ?_⟩
      refine ⟨_, rfl, .inl ⟨x, rfl, ?_⟩⟩
      refine ⟨_, _, rfl, rfl, (show (0:Int) < 1048576 by decide), p, _, _, rfl, rfl, e1, szl (by rw [List.length_map]; omega), ?_⟩
      refine ⟨_, rfl, _, _, rfl, rfl, ⟨by decide, by decide⟩, ?_⟩
      exact ⟨_, _, ns ++ [x % 1048576], rfl, Fz.Same.mut s1 hp, by rw [upd_same, List.map_append]; rfl, by rw [List.length_append, hn]; rfl⟩
    · rintro σ H1 ⟨x, v4, ns, rfl, s1, e1, hn⟩
      exact ⟨_, rfl, q H1 p ns s1 hp e1 hn⟩
  · refine ⟨_, rfl, 60, rfl, by decide, by decide, ?_⟩
    refine for_range (lo := 0) (n := 60) (fun i σ H' => ∃ (x : Int) (v4 : Option V) (ns : List Int), σ = [some (.int c), some (.int 60), some (.ref p), some (.int x), v4] ∧ Same H H' ∧ H' p = some (.lst (ns.map V.int)) ∧ ns.length = i)
      ⟨r, none, [], rfl, same_new hp _, upd_same, rfl⟩ ?_ ?_
    · rintro i σ H1 hi ⟨x, v4, ns, rfl, s1, e1, hn⟩
      refine ⟨_, rfl, _, _, rfl, rfl, .inr (by decide), _, rfl, _, _, rfl, rfl, .inr (by decide), _, _, rfl, rfl, _, _, rfl, rfl, .inl ⟨_, rfl, _, _, rfl, rfl, (show (0:Int) < 2147483647 by decide), ?_⟩⟩
      refine ⟨_, rfl, .inl ⟨rfl, _, SqL.of e1⟩, ?_⟩
      refine ⟨_, rfl, _, _, rfl, rfl, .inr (by decide), .inl ⟨_, rfl, _, _, rfl, rfl, (show (0:Int) < 2147483629 by decide), _, _, rfl, rfl, (show (0:Int) < 1048576 by decide), p, _, _, rfl, rfl, e1, szl (by rw [List.length_map]; omega), ?_⟩⟩
      exact ⟨_, _, ns ++ [_], rfl, Fz.Same.mut s1 hp, by rw [upd_same, List.map_append]; rfl, by rw [List.length_append, hn]; rfl⟩
    · rintro σ H1 ⟨x, v4, ns, rfl, s1, e1, hn⟩
      exact ⟨_, rfl, q H1 p ns s1 hp e1 hn⟩
/-! ## the feed -/
/-- the feed at d: i numbers were taken -/
def kA : L2.Key := .inr "at"
def kN : L2.Key := .inr "numbers"
structure Feed (H : Hp) (d p : Addr) (i : Nat) (ns : List Int) : Prop where
  hd : H d = some (.dK [(kA, .int (i : Int)), (kN, .ref p)])
  hp : H p = some (.lst (ns.map V.int))
  n60 : ns.length = 60
theorem Feed.same {H H' : Hp} {d p : Addr} {i : Nat} {ns : List Int} (s : Same H H') (F : Feed H d p i ns) : Feed H' d p i ns := ⟨s _ _ F.hd, s _ _ F.hp, F.n60⟩
theorem kAN : ¬ kN = kA := by decide +kernel
theorem feed_merge (x y : V) : mergeK [] [(kA, x), (kN, y)] = [(kA, x), (kN, y)] := by
  show putK (putK [] kA x) kN y = _
  rw [putK_new _ (valV_nil), List.nil_append, putK_new _ (by rw [valV_neg (fun z => kAN z.symm)]; exact valV_nil)]
  rfl
theorem feed_put (x y z : V) : putK [(kA, x), (kN, y)] kA z = [(kA, z), (kN, y)] := by
  unfold putK
  rw [if_pos (by simp), List.map_cons, List.map_cons, List.map_nil, if_pos rfl, if_neg kAN]
def spFeed : Sp := fun vs H Q _ => ∃ (c : Int), vs = [.int c, .int 60] ∧ ∀ (H' : Hp) (d p : Addr) (ns : List Int), Same H H' → H d = none → H p = none → Feed H' d p 0 ns → Q (.ref d) H'
theorem c__law_feed (T : Tx K mg w) : Cal P w K mg base 2 "_law_feed" spFeed [] := by
  have c__law_numbers : Cal P w K mg base 1 "_law_numbers" spNumbers [] := c__law_numbers T
  obtain ⟨fd, F⟩ := T.f__law_feed
  refine calOf F T.g__law_feed (b__law_feed F) sc__law_feed (fun vs H Q E h => ?_) (fun cdv A outer s H vs Q E hr h => ?_)
  · obtain ⟨_, rfl, _⟩ := h; rfl
  obtain ⟨c, rfl, q⟩ := h
  refine ⟨_, (pss_one (ps_ret (pe_disp (pps_cons pe_str pe_int (pps_cons pe_str (pe_c c__law_numbers hr (by omega) rfl (pa_cons (pv 0) (pa_cons (pv 1) pa_nil))) pps_nil)) (by rfl) (by rfl) (fun z => by cases z) (by decide)))), ?_⟩
  intro d hd
  refine ⟨_, rfl, _, rfl, c, rfl, fun H1 p ns s1 hp0 hp hn => ?_⟩
  have sd := same_new hd (.dK [])
  have ndp : p ≠ d := (ne_of_none upd_same hp0).symm
  refine ⟨s1 _ _ upd_same, [(kA, .int ((0 : Nat) : Int)), (kN, .ref p)], rfl, (show 2 ≤ 15 by decide), ?_⟩
  rw [feed_merge]
  have hpH : H p = none := by rw [upd_ne ndp] at hp0; exact hp0
  exact q _ d p ns (Fz.Same.mut (sd.trans s1) hd) hd hpH ⟨upd_same, by rw [upd_ne ndp]; exact hp, hn⟩
def spTake : Sp := fun vs H Q _ => ∃ (d p : Addr) (i : Nat) (ns : List Int) (lim : Nat), vs = [.ref d, .int (lim : Int)] ∧ 0 < lim ∧ Feed H d p i ns ∧ i ≤ 10000 ∧ ∀ (H' : Hp) (v : Nat), SameX d H H' → Feed H' d p (i + 1) ns → v < lim → Q (.int (v : Int)) H'
theorem c__law_take (T : Tx K mg w) : Cal P w K mg base 1 "_law_take" spTake [] := by
  obtain ⟨fd, F⟩ := T.f__law_take
  refine calOf F T.g__law_take (b__law_take F) sc__law_take (fun vs H Q E h => ?_) (fun cdv A outer s H vs Q E hr h => ?_)
  · obtain ⟨_, _, _, _, _, rfl, _⟩ := h; rfl
  obtain ⟨d, p, i, ns, lim, rfl, hlim, Fe, hi, q⟩ := h
  have hu := hu_of hr
  refine ⟨_, (pss_cons (ps_set (i := 2) sc__law_take.nd rfl (Or.inl rfl) (pe_dget hu (pv 0) pe_str (fun _ _ => rfl)))
  (pss_cons (ps_set (i := 3) sc__law_take.nd rfl (Or.inl rfl) (pe_dget hu (pv 0) pe_str (fun _ _ => rfl)))
  (pss_cons (ps_dput hu (pv 0) pe_str (pe_op op_add (pv 3) pe_int) rfl)
  (pss_one (ps_ret (pe_op op_mod (pe_callTy call_int1 (by rfl) T.z_int (by decide +kernel) (pa_cons (pe_op op_fdivN (pe_ix ix_list (pv 2) (pe_op op_mod (pv 3) (pe_callB call_len_seq (by rfl) T.z_len PySem.boot_len (pa_cons (pv 2) pa_nil))) (fun _ _ => rfl)) (pe_op op_add pe_int (pe_op op_mul (pe_op op_fdivN (pv 3) (pe_callB call_len_seq (by rfl) T.z_len PySem.boot_len (pa_cons (pv 2) pa_nil))) pe_int))) pa_nil)) (pv 1))))))), ?_⟩
  have g1 : DGet H d (.str "numbers") (some (.ref p)) := DGet.k (k := kN) Fe.hd
  have g2 : DGet H d (.str "at") (some (.int (i : Int))) := DGet.k (k := kA) Fe.hd
  refine ⟨_, rfl, d, _, rfl, g1, _, rfl, d, _, rfl, g2, ?_⟩
  refine ⟨_, rfl, _, _, rfl, rfl, _, rfl, d, _, rfl, DPut.k (k := kA) Fe.hd (szl (show 2 ≤ 100000 by decide)), ?_⟩
  rw [feed_put]
  have npd : p ≠ d := ne_of Fe.hp Fe.hd (by intro z; cases z)
  have F2 : Feed (upd H d (.dK [(kA, .int ((i : Int) + 1)), (kN, .ref p)])) d p (i + 1) ns := ⟨by rw [upd_same]; rfl, by rw [upd_ne npd]; exact Fe.hp, Fe.n60⟩
  have sx : SameX d H (upd H d (.dK [(kA, .int ((i : Int) + 1)), (kN, .ref p)])) := SameX.upd
  generalize upd H d (.dK [(kA, .int ((i : Int) + 1)), (kN, .ref p)]) = H1 at F2 sx ⊢
  have hl : (((ns.map V.int).length : Nat) : Int) = 60 := by rw [List.length_map, F2.n60]; rfl
  have hS := SqL.of (K := K) F2.hp
  have hix : i % 60 < ns.length := by rw [F2.n60]; omega
  obtain ⟨x, hx⟩ : ∃ x, ns[i % 60]? = some x := ⟨_, List.getElem?_eq_getElem hix⟩
  have hat : atI (ns.map V.int) ((i : Int) % (((ns.map V.int).length : Nat) : Int)) = some (.int x) := by
    rw [hl]
    have e : ((i : Int) % 60) = ((i % 60 : Nat) : Int) := by omega
    rw [e]
    exact atI_nat (by rw [List.getElem?_map, hx]; rfl)
  refine ⟨_, rfl, _, rfl, _, rfl, p, _, rfl, .inl hS, _, _, rfl, rfl, (by rw [hl]; exact (show (0:Int) < 60 by decide)), p, _, _, _, rfl, rfl, hS, hat, ?_⟩
  refine ⟨_, rfl, _, rfl, p, _, rfl, .inl hS, _, _, rfl, rfl, (by rw [hl]; exact ⟨by decide, by decide⟩), _, _, rfl, rfl, .inr (by decide), _, _, rfl, rfl, ?_⟩
  rw [hl]
  have hq : Int.fdiv (i : Int) 60 = ((i / 60 : Nat) : Int) := by
    rw [Int.fdiv_eq_ediv_of_nonneg _ (by decide)]
    omega
  rw [hq]
  refine ⟨_, _, rfl, rfl, ⟨by omega, by omega⟩, .inl ⟨_, rfl, _, rfl, _, _, rfl, rfl, (by show (0 : Int) < (lim : Int); omega), ?_⟩⟩
  generalize Int.fdiv x _ = X
  have h1 := Int.emod_nonneg X (show (lim : Int) ≠ 0 by omega)
  have h2 := Int.emod_lt_of_pos X (show (0 : Int) < (lim : Int) by omega)
  have e : X % (lim : Int) = (((X % (lim : Int)).toNat : Nat) : Int) := by omega
  show Q (.int (X % (lim : Int))) H1
  rw [e]
  exact q H1 _ sx F2 (by omega)
end
end Fz
set_option Elab.async false
set_option linter.all false
set_option maxRecDepth 100000
set_option maxHeartbeats 4000000
namespace Fz
open PySem PyProof.Rows L2
open C8 (Cal Met Mak pe_c pe_mk pe_mt pe_mt0 pe_gc)
/-! ## the law's own search -/
def kI : L2.Key := .inr "items"
def Wd (H : Hp) (wa : Addr) (M : Str → List Item) (names : List Str) : Prop := ∃ (id : Addr) (kvs : List (L2.Key × V)), H wa = some (.dK [(kI, .ref id)]) ∧ H id = some (.dK kvs) ∧ ItemsD H kvs M names
theorem Wd.same {H H' : Hp} (s : Same H H') {wa : Addr} {M : Str → List Item} {names : List Str} (h : Wd H wa M names) : Wd H' wa M names := by
  obtain ⟨id, kvs, h1, h2, h3⟩ := h
  exact ⟨id, kvs, s _ _ h1, s _ _ h2, h3.same s⟩
structure WIn (M : Str → List Item) (names : List Str) (H0 H : Hp) (wa sl : Addr) (seen : Seen) (n : Nat) : Prop where
  W : Wd H0 wa M names
  s : Same H0 H
  f : H0 sl = none
  a : SeenAt H sl seen
  wf : WF M names
  o : ∀ p ∈ seen, OkP p
  c : cnt (Uni names) seen < n
  l : seen.length + cnt (Uni names) seen ≤ 1000
theorem WIn.same {M : Str → List Item} {names : List Str} {H0 H H' : Hp} {wa sl : Addr} {seen : Seen} {n : Nat} (I : WIn M names H0 H wa sl seen n) (s : Same H H') : WIn M names H0 H' wa sl seen n :=
  ⟨I.W, I.s.trans s, I.f, I.a.same s, I.wf, I.o, I.c, I.l⟩
theorem WIn.step {M : Str → List Item} {names : List Str} {H0 H H' : Hp} {wa sl : Addr} {seen seen' : Seen} {n : Nat} (I : WIn M names H0 H wa sl seen n) (s : SameX sl H H') (a : SeenAt H' sl seen') (le : Le (Uni names) seen seen') : WIn M names H0 H' wa sl seen' n :=
  ⟨I.W, same_of_X I.s I.f s, I.f, a, I.wf, fun p hp => (le.2.2 p hp).elim (I.o p) id, Nat.lt_of_le_of_lt le.1 I.c, Nat.le_trans le.2.1 I.l⟩
def spLSearch (n : Nat) : Sp := fun vs H Q _ => ∃ (wa sl : Addr) (M : Str → List Item) (names : List Str) (H0 : Hp) (m wd : Str) (seen : Seen), vs = [.ref wa, .str m, .str wd, .ref sl] ∧ WIn M names H0 H wa sl seen n ∧ m ∈ names ∧ wd ∈ WORDS ∧ RetS H Q sl (srch M n m wd seen)
def spLLocal (n : Nat) : Sp := fun vs H Q _ => ∃ (wa sl : Addr) (M : Str → List Item) (names : List Str) (H0 : Hp) (m x : Str) (seen : Seen), vs = [.ref wa, .str m, .str x, .ref sl] ∧ WIn M names H0 H wa sl seen n ∧ m ∈ names ∧ RetS H Q sl (locS (srch M n) (M m) m x seen)
section
variable {P : Program} {w : World} {K : PySem.W.Frag} {mg : Str → Option Value} {base : Heap}
theorem c__law_local (T : Tx K mg w) {n k : Nat} (c__law_search : Cal P w K mg base (k + 1) "_law_search" (spLSearch n) []) : Cal P w K mg base (k + 2) "_law_local" (spLLocal n) [] := by
  obtain ⟨fd, F⟩ := T.f__law_local
  refine calOf F T.g__law_local (b__law_local F) sc__law_local (fun vs H Q E h => ?_) (fun cdv A outer s H vs Q E hr h => ?_)
  · obtain ⟨_, _, _, _, _, _, _, _, rfl, _⟩ := h; rfl
  obtain ⟨wa, sl, M, names, H0, m, x, seen, rfl, I, hm, q⟩ := h
  have hu := hu_of hr
  refine ⟨_, (pss_cons (ps_for PassesOwn.never rfl (pi_list (pe_dget hu (pe_dget hu (pv 0) pe_str (fun _ _ => rfl)) (pv 1) (fun _ _ => rfl))) (pg_name (i := 4) sc__law_local.nd rfl (Or.inl rfl)) (pss_one (ps_if (PW.pt (pw_and (pt_cmpR op_in_seq (pe_ix ix_tup (pv 4) pe_int (fun _ _ => rfl)) (pe_lst (pa_cons pe_str (pa_cons pe_str pa_nil))) (by rfl)) (pw_and1 (pt_cmpR op_eq (pe_ix ix_tup (pv 4) pe_int (fun _ _ => rfl)) (pv 2) (nomark _))))) (pss_one (ps_ret (pe_tup (pa_cons (pv 1) (pa_cons (pv 2) pa_nil))))) pss_nil)))
  (pss_cons (ps_set (i := 5) sc__law_local.nd rfl (Or.inl rfl) pe_non)
  (pss_cons (ps_for PassesOwn.never rfl (pi_list (pe_dget hu (pe_dget hu (pv 0) pe_str (fun _ _ => rfl)) (pv 1) (fun _ _ => rfl))) (pg_name (i := 4) sc__law_local.nd rfl (Or.inl rfl)) (pss_one (ps_if (pt_cmpR op_eq (pe_ix ix_tup (pv 4) pe_int (fun _ _ => rfl)) pe_str (nomark _)) (pss_one (ps_for PassesOwn.never rfl (pi_tup (pe_ix ix_tup (pv 4) pe_int (fun _ _ => rfl))) (pg_tup rfl (pgs_cons (pg_name (i := 6) sc__law_local.nd rfl (Or.inl rfl)) (pgs_cons (pg_name (i := 7) sc__law_local.nd rfl (Or.inl rfl)) pgs_nil))) (pss_one (ps_if (pt_cmpR op_eq (pv 7) (pv 2) (nomark _)) (pss_one (ps_set (i := 5) sc__law_local.nd rfl (Or.inl rfl) (pe_tup (pa_cons (pe_ix ix_tup (pv 4) pe_int (fun _ _ => rfl)) (pa_cons (pv 6) pa_nil))))) pss_nil)))) pss_nil)))
  (pss_cons (ps_if (pt_cmpR op_isN (pv 5) pe_non (nomark _)) (pss_one (ps_ret pe_non)) pss_nil)
  (pss_one (ps_ret (pe_c c__law_search hr (by omega) rfl (pa_cons (pv 0) (pa_cons (pe_ix ix_tup (pv 5) pe_int (fun _ _ => rfl)) (pa_cons (pe_ix ix_tup (pv 5) pe_int (fun _ _ => rfl)) (pa_cons (pv 3) pa_nil))))))))))), ?_⟩
  obtain ⟨id, kvs, hw, hid, hI⟩ := I.W.same I.s
  obtain ⟨l, hv, us, hl, hul⟩ := hI m hm
  have hlen := Paired.len (show Paired _ us (M m) from hul)
  have gW : DGet H wa (.str "items") (some (.ref id)) := DGet.k (k := kI) hw
  have gI : DGet H id (.str m) (some (.ref l)) := hv ▸ DGet.k (k := Sum.inr m) hid
  refine ⟨_, rfl, wa, _, rfl, gW, _, rfl, id, _, rfl, gI, l, rfl, ⟨us, SqL.of hl⟩, ?_⟩
  refine for_list (K := K) (a := l) (xs := us) (fun i σ H' => ∃ (v4 v5 v6 v7 : Option V), σ = [some (.ref wa), some (.str m), some (.str x), some (.ref sl), v4, v5, v6, v7] ∧ Same H H' ∧ x ∉ decl ((M m).take i))
    ⟨none, none, none, none, rfl, Same.refl _, (fun h => nomatch h)⟩ (fun i σ H' _ ⟨_, _, _, _, _, s1, _⟩ => SqL.of (s1 _ _ hl)) ?_ ?_
  · rintro i y σ H1 hx ⟨v4, v5, v6, v7, rfl, s1, nd⟩
    obtain ⟨it, hit, hi⟩ := ItemL.get (ItemL.keep (KeepT.of s1) hul) hx
    rw [take_snoc hit, decl_snoc]
    obtain ⟨t, more, rfl, ht⟩ := hi.head
    refine ⟨_, rfl, t, _, 0, _, rfl, rfl, SqT.of ht, at0, sz 2, fun c hc => ?_⟩
    have sc := same_new hc (.lst [.str "let", .str "fun"])
    by_cases hk : ∃ y k, it = .ltI y k
    · obtain ⟨y, k, rfl⟩ := hk
      obtain ⟨t2, e, j, e2, ht2, he⟩ := hi
      cases e2
      refine ⟨c, _, rfl, .inl (SqL.of upd_same), rfl, rfl, _, rfl, if_T (show inV (.str "let") [.str "let", .str "fun"] = true by decide +kernel) ?_⟩
      refine ⟨_, rfl, t, _, 1, _, rfl, rfl, SqT.of (sc _ _ ht2), at1, _, rfl, rfl, _, rfl, ite2 (fun h2 => ?_) (fun h2 => ?_)⟩
      · have e3 : y = x := V.str.inj (of_decide_eq_true h2)
        subst e3
        have hd : y ∈ decl (M m) := by
          have h1 : (Item.ltI y k) ∈ M m := List.mem_of_getElem? hit
          exact List.mem_filterMap.mpr ⟨_, h1, rfl⟩
        have eL : locS (srch M n) (M m) m y seen = (.one m y, seen) := by unfold locS; rw [if_pos hd]
        rw [eL] at q
        refine ⟨_, rfl, _, rfl, sz 2, fun t3 ht3 => ?_⟩
        have s3 := (s1.trans sc).trans (same_new ht3 (.tup [.str m, .str y]))
        exact q _ _ (SameX.of s3) (I.a.same s3) ⟨t3, rfl, upd_same⟩
      · refine ⟨_, _, _, _, rfl, s1.trans sc, fun h => ?_⟩
        rcases List.mem_append.mp h with h | h
        · exact nd h
        · have := List.mem_singleton.mp h
          exact h2 (decide_eq_true (congrArg V.str this.symm))
    · have hno : inV (V.str it.kind) [.str "let", .str "fun"] = false := by
        cases it with
        | ltI y k => exact absurd ⟨y, k, rfl⟩ hk
        | _ => simp only [Item.kind]; decide +kernel
      have hd : declF it = none := by
        cases it with
        | ltI y k => exact absurd ⟨y, k, rfl⟩ hk
        | _ => rfl
      rw [hd, List.append_nil]
      refine ⟨c, _, rfl, .inl (SqL.of upd_same), rfl, rfl, _, rfl, if_F hno (iteF ?_)⟩
      exact ⟨_, _, _, _, rfl, s1.trans sc, nd⟩
  · rintro σ H1 ⟨v4, v5, v6, v7, rfl, s1, nd⟩
    rw [hlen, List.take_length] at nd
    have e0 : locS (srch M n) (M m) m x seen = match lastImp x (M m) with | some (m', a) => srch M n m' a seen | none => (.no, seen) := by
      unfold locS
      rw [if_neg nd] <;> (cases lastImp x (M m) with
        | none => rfl
        | some ma => (obtain ⟨_, _⟩ := ma; rfl))
    rw [e0] at q
    have gW : DGet H1 wa (.str "items") (some (.ref id)) := DGet.k (k := kI) (s1 _ _ hw)
    have gI : DGet H1 id (.str m) (some (.ref l)) := hv ▸ DGet.k (k := Sum.inr m) (s1 _ _ hid)
    refine ⟨_, rfl, wa, _, rfl, gW, _, rfl, id, _, rfl, gI, l, rfl, ⟨us, SqL.of (s1 _ _ hl)⟩, ?_⟩
    refine for_list (K := K) (a := l) (xs := us) (fun i σ H' => ∃ (v4 v6 v7 : Option V) (fv : V), σ = [some (.ref wa), some (.str m), some (.str x), some (.ref sl), v4, some fv, v6, v7] ∧ Same H H' ∧
        (match lastImp x ((M m).take i) with | none => fv = .non | some (m', a) => ∃ t, fv = .ref t ∧ H' t = some (.tup [.str m', .str a])))
      ⟨_, _, _, .non, rfl, s1, rfl⟩ (fun i σ H' _ ⟨_, _, _, _, _, s1, _⟩ => SqL.of (s1 _ _ hl)) ?_ ?_
    · rintro i y σ H2 hx ⟨v4, v6, v7, fv, rfl, s2, fe⟩
      obtain ⟨it, hit, hi⟩ := ItemL.get (ItemL.keep (KeepT.of s2) hul) hx
      rw [take_snoc hit, lastImp_snoc]
      by_cases hk : ∃ m' a b, it = .imp m' a b
      · obtain ⟨m', a, b, rfl⟩ := hk
        obtain ⟨t, ps, qq, j, rfl, ht, hps, hqq⟩ := hi
        have hstep : impF x (lastImp x ((M m).take i)) (.imp m' a b) = if b = x then some (m', a) else lastImp x ((M m).take i) := rfl
        rw [hstep]
        refine ⟨_, rfl, t, _, 0, _, rfl, rfl, SqT.of ht, at0, rfl, _, rfl, if_T (by decide +kernel) ?_⟩
        refine ⟨_, rfl, t, _, 2, _, rfl, rfl, SqT.of ht, at2, ps, rfl, ⟨_, SqT.of hps⟩, ?_⟩
        refine for_tup (K := K) (a := ps) (xs := [.ref qq]) (fun kk σ H' => ∃ (v6 v7 : Option V) (fv' : V), σ = [some (.ref wa), some (.str m), some (.str x), some (.ref sl), some (.ref t), some fv', v6, v7] ∧ Same H2 H' ∧
            ((kk = 0 ∧ fv' = fv) ∨ (1 ≤ kk ∧ ((b = x ∧ ∃ t2, fv' = .ref t2 ∧ H' t2 = some (.tup [.str m', .str a])) ∨ (b ≠ x ∧ fv' = fv)))))
          ⟨_, _, fv, rfl, Same.refl _, .inl ⟨rfl, rfl⟩⟩ (fun kk σ H' _ ⟨_, _, _, _, s3, _⟩ => SqT.of (s3 _ _ hps)) ?_ ?_
        · rintro kk z σ H3 hz ⟨u6, u7, fv', rfl, s3, hcase⟩
          have hk0 : kk = 0 := by
            have := (List.getElem?_eq_some_iff.mp hz).1
            simp at this
            exact this
          subst hk0
          have ez : z = .ref qq := (Option.some.inj hz).symm
          subst ez
          rcases hcase with ⟨_, rfl⟩ | ⟨z, _⟩
          · refine ⟨qq, _, rfl, SqT.of (s3 _ _ hqq), rfl, _, _, rfl, _, _, rfl, rfl, ?_⟩
            refine ⟨_, rfl, _, rfl, rfl, _, rfl, ite2 (fun h2 => ?_) (fun h2 => ?_)⟩
            · have e3 : b = x := V.str.inj (of_decide_eq_true h2)
              refine ⟨_, rfl, t, _, 1, _, rfl, rfl, SqT.of (s3 _ _ ht), at1, _, rfl, sz 2, fun c hc => ?_⟩
              exact ⟨_, _, _, rfl, s3.trans (same_new hc _), .inr ⟨Nat.le_refl _, .inl ⟨e3, c, rfl, upd_same⟩⟩⟩
            · exact ⟨_, _, _, rfl, s3, .inr ⟨Nat.le_refl _, .inr ⟨fun z => h2 (decide_eq_true (congrArg V.str z)), rfl⟩⟩⟩
          · exact absurd z (by omega)
        · rintro σ H3 ⟨u6, u7, fv', rfl, s3, hcase⟩
          rcases hcase with ⟨z, _⟩ | ⟨_, hc⟩
          · exact absurd z (by simp)
          · refine ⟨_, _, _, fv', rfl, s2.trans s3, ?_⟩
            rcases hc with ⟨e3, h⟩ | ⟨e3, rfl⟩
            · rw [if_pos e3]; exact h
            · rw [if_neg e3]
              cases hL : lastImp x ((M m).take i) with
              | none => rw [hL] at fe; exact fe
              | some ma =>
                rw [hL] at fe
                obtain ⟨m2, a2⟩ := ma
                obtain ⟨t2, e4, h4⟩ := fe
                exact ⟨t2, e4, s3 _ _ h4⟩
      · obtain ⟨t, more, rfl, ht⟩ := hi.head
        have hno : ¬ it.kind = ("import" : Str) := by
          cases it with
          | imp m a b => exact absurd ⟨m, a, b, rfl⟩ hk
          | _ => simp only [Item.kind]; decide +kernel
        have hd : ∀ x acc, impF x acc it = acc := fun x acc => by
          cases it with
          | imp m a b => exact absurd ⟨m, a, b, rfl⟩ hk
          | _ => rfl
        rw [hd]
        refine ⟨_, rfl, t, _, 0, _, rfl, rfl, SqT.of ht, at0, rfl, _, rfl, if_F (dstr hno) ?_⟩
        exact ⟨_, _, _, fv, rfl, s2, fe⟩
    · rintro σ H2 ⟨v4, v6, v7, fv, rfl, s2, fe⟩
      rw [hlen, List.take_length] at fe
      cases hL : lastImp x (M m) with
      | none =>
        rw [hL] at fe q
        have fe : fv = .non := fe
        subst fe
        exact ⟨_, rfl, rfl, _, rfl, if_T (by decide) (q H2 _ (SameX.of s2) (I.a.same s2) rfl)⟩
      | some ma =>
        obtain ⟨m', a⟩ := ma
        rw [hL] at fe q
        obtain ⟨t, rfl, ht⟩ := fe
        have hok := I.wf.ok m hm _ (lastImp_in hL)
        refine ⟨_, rfl, rfl, _, rfl, if_F (decide_eq_false (by intro z; cases z)) ?_⟩
        refine ⟨_, rfl, _, rfl, t, _, 0, _, rfl, rfl, SqT.of ht, at0, _, rfl, t, _, 1, _, rfl, rfl, SqT.of ht, at1, _, rfl, ?_⟩
        exact ⟨wa, sl, M, names, H0, m', a, seen, rfl, I.same s2, hok.1, hok.2, q.same (SameX.of s2)⟩
end
end Fz
set_option Elab.async false
set_option linter.all false
set_option maxRecDepth 100000
set_option maxHeartbeats 4000000
namespace Fz
open PySem PyProof.Rows L2
open C8 (Cal Met Mak pe_c pe_mk pe_mt pe_mt0 pe_gc)
section
variable {P : Program} {w : World} {K : PySem.W.Frag} {mg : Str → Option Value} {base : Heap}
theorem c__law_search (T : Tx K mg w) {n k : Nat} (c__law_search : Cal P w K mg base (k + 1) "_law_search" (spLSearch n) []) : Cal P w K mg base (k + 3) "_law_search" (spLSearch (n + 1)) [] := by
  have c__law_local : Cal P w K mg base (k + 2) "_law_local" (spLLocal n) [] := c__law_local T c__law_search
  obtain ⟨fd, F⟩ := T.f__law_search
  refine calOf F T.g__law_search (b__law_search F) sc__law_search (fun vs H Q E h => ?_) (fun cdv A outer s H vs Q E hr h => ?_)
  · obtain ⟨_, _, _, _, _, _, _, _, rfl, _⟩ := h; rfl
  obtain ⟨wa, sl, M, names, H0, m, wd, seen, rfl, I, hm, hwd, q⟩ := h
  have hu := hu_of hr
  have okp : OkP (m, wd) := ⟨I.wf.nm m hm, words_ok wd hwd⟩
  refine ⟨_, (pss_cons (ps_if (pt_cmpR (op_inD (hu65_of hr)) (pe_tup (pa_cons (pv 1) (pa_cons (pv 2) pa_nil))) (pv 3) (by rfl)) (pss_one (ps_ret pe_non)) pss_nil)
  (pss_cons (ps_expr (pe_bm PySem.F.plainAttrs_list PySem.F.slot_list_append PySem.F.type_list_append mt_append (pv 3) (pa_cons (pe_tup (pa_cons (pv 1) (pa_cons (pv 2) pa_nil))) pa_nil)))
  (pss_cons (ps_set (i := 4) sc__law_search.nd rfl (Or.inl rfl) (pe_dget hu (pe_dget hu (pv 0) pe_str (fun _ _ => rfl)) (pv 1) (fun _ _ => rfl)))
  (pss_cons (ps_for PassesOwn.never rfl (pi_list (pv 4)) (pg_name (i := 5) sc__law_search.nd rfl (Or.inl rfl)) (pss_cons (ps_if (pt_cmpR op_eq (pe_ix ix_tup (pv 5) pe_int (fun _ _ => rfl)) pe_str (nomark _)) (pss_one (ps_for PassesOwn.never rfl (pi_tup (pe_ix ix_tup (pv 5) pe_int (fun _ _ => rfl))) (pg_tup rfl (pgs_cons (pg_name (i := 6) sc__law_search.nd rfl (Or.inl rfl)) (pgs_cons (pg_name (i := 7) sc__law_search.nd rfl (Or.inl rfl)) pgs_nil))) (pss_one (ps_if (pt_cmpR op_eq (pv 7) (pv 2) (nomark _)) (pss_one (ps_ret (pe_c c__law_local hr (by omega) rfl (pa_cons (pv 0) (pa_cons (pv 1) (pa_cons (pv 6) (pa_cons (pv 3) pa_nil))))))) pss_nil)))) pss_nil)
  (pss_one (ps_if (pt_cmpR op_eq (pe_ix ix_tup (pv 5) pe_int (fun _ _ => rfl)) pe_str (nomark _)) (pss_one (ps_for PassesOwn.never rfl (pi_tup (pe_ix ix_tup (pv 5) pe_int (fun _ _ => rfl))) (pg_tup rfl (pgs_cons (pg_name (i := 8) sc__law_search.nd rfl (Or.inl rfl)) (pgs_cons (pg_name (i := 7) sc__law_search.nd rfl (Or.inl rfl)) pgs_nil))) (pss_one (ps_if (pt_cmpR op_eq (pv 7) (pv 2) (nomark _)) (pss_one (ps_ret (pe_c c__law_search hr (by omega) rfl (pa_cons (pv 0) (pa_cons (pe_ix ix_tup (pv 5) pe_int (fun _ _ => rfl)) (pa_cons (pv 8) (pa_cons (pv 3) pa_nil))))))) pss_nil)))) pss_nil))))
  (pss_cons (ps_set (i := 9) sc__law_search.nd rfl (Or.inl rfl) pe_non)
  (pss_cons (ps_for PassesOwn.never rfl (pi_list (pv 4)) (pg_name (i := 5) sc__law_search.nd rfl (Or.inl rfl)) (pss_one (ps_if (pt_cmpR op_eq (pe_ix ix_tup (pv 5) pe_int (fun _ _ => rfl)) pe_str (nomark _)) (pss_cons (ps_set (i := 10) sc__law_search.nd rfl (Or.inl rfl) (pe_c c__law_search hr (by omega) rfl (pa_cons (pv 0) (pa_cons (pe_ix ix_tup (pv 5) pe_int (fun _ _ => rfl)) (pa_cons (pv 2) (pa_cons (pv 3) pa_nil))))))
  (pss_cons (ps_if (PW.pt (pw_or (pt_cmpR (op_eqD (hu64_of hr)) (pv 10) pe_str (nomark _)) (pw_or1 (PW.pt (pw_and (pt_cmpR op_notN (pv 10) pe_non (nomark _)) (pw_and (pt_cmpR op_notN (pv 9) pe_non (nomark _)) (pw_and1 (pt_cmpR (op_neD (hu64_of hr)) (pv 10) (pv 9) (nomark _))))))))) (pss_one (ps_ret pe_str)) pss_nil)
  (pss_one (ps_if (pt_cmpR op_notN (pv 10) pe_non (nomark _)) (pss_one (ps_set (i := 9) sc__law_search.nd rfl (Or.inl rfl) (pv 10))) pss_nil)))) pss_nil)))
  (pss_one (ps_ret (pv 9))))))))), ?_⟩
  obtain ⟨us, e0, p0⟩ := I.a
  refine ⟨_, rfl, _, rfl, sz 2, fun p hp => ?_⟩
  have sp := same_new hp (.tup [.str m, .str wd])
  have p1 : Paired (PairAt (upd H p (.tup [.str m, .str wd]))) us seen := Paired.mapP p0 fun _ _ ⟨t, e, ht⟩ => ⟨t, e, sp _ _ ht⟩
  refine ⟨_, rfl, pD (m, wd), seen.map pD, .tup (SqT.of upd_same) (.cons (.str _) (.cons (.str _) .nil)), .lst (SqL.of (sp _ _ e0)) (seen_dp p1), pD_shaped okp, pDs_shaped I.o, _, rfl, ?_⟩
  rw [seen_any]
  have hstep : srch M (n + 1) m wd seen = if (m, wd) ∈ seen then (.no, seen) else match hit wd (M m) with
    | some (.inl x) => locS (srch M n) (M m) m x (seen ++ [(m, wd)])
    | some (.inr (m', x)) => srch M n m' x (seen ++ [(m, wd)])
    | none => starS (srch M n) wd (M m) .no (seen ++ [(m, wd)]) := rfl
  refine ite2 (fun h1 => ?_) (fun h1 => ?_)
  · rw [hstep, if_pos (of_decide_eq_true h1)] at q
    exact q _ _ (SameX.of sp) ⟨us, sp _ _ e0, p1⟩ rfl
  have hns : (m, wd) ∉ seen := fun z => h1 (decide_eq_true z)
  rw [hstep, if_neg hns] at q
  refine ⟨_, rfl, .inl ⟨rfl, us, SqL.of (sp _ _ e0)⟩, _, rfl, _, rfl, sz 2, fun p2 hp2 => ?_⟩
  have sp2 := sp.trans (same_new hp2 (.tup [.str m, .str wd]))
  have hul := Paired.len (show Paired _ us seen from p0)
  have hsl := I.l
  refine ⟨sl, us, _, rfl, rfl, sp2 _ _ e0, szl (by omega), ?_⟩
  have sx : SameX sl H (upd (upd (upd H p (.tup [.str m, .str wd])) p2 (.tup [.str m, .str wd])) sl (.lst (us ++ [.ref p2]))) := (SameX.of sp2).trans SameX.upd
  have hat : SeenAt (upd (upd (upd H p (.tup [.str m, .str wd])) p2 (.tup [.str m, .str wd])) sl (.lst (us ++ [.ref p2]))) sl (seen ++ [(m, wd)]) := by
    refine ⟨_, upd_same, Paired.snoc ⟨p2, rfl, ?_⟩ (Paired.mapP p0 fun _ _ ⟨t, e, ht⟩ => ⟨t, e, ?_⟩)⟩
    · rw [upd_ne (ne_of (sp2 _ _ ht) (sp2 _ _ e0) (by intro z; cases z))]; exact sp2 _ _ ht
    · rw [upd_ne (ne_of upd_same (sp2 _ _ e0) (by intro z; cases z))]; exact upd_same
  have le := Le.add (mem_uni hm hwd) hns okp
  have I1 := I.step sx hat le
  have hc1 : cnt (Uni names) (seen ++ [(m, wd)]) < n := by
    have h2 := cnt_lt (mem_uni hm hwd) hns
    have h3 := I.c
    omega
  have I2 : WIn M names H0 _ wa sl (seen ++ [(m, wd)]) n := ⟨I1.W, I1.s, I1.f, I1.a, I1.wf, I1.o, hc1, I1.l⟩
  clear I1
  generalize upd (upd (upd H p (.tup [.str m, .str wd])) p2 (.tup [.str m, .str wd])) sl (.lst (us ++ [.ref p2])) = H1 at sx hat I2 ⊢
  obtain ⟨id, kvs, hw0, hid0, hI0⟩ := I2.W
  obtain ⟨l, hv, ius, hl0, hil0⟩ := hI0 m hm
  have hlen := Paired.len (show Paired _ ius (M m) from hil0)
  have q1 := q.same sx
  have gW : DGet H1 wa (.str "items") (some (.ref id)) := DGet.k (k := kI) (I2.s _ _ hw0)
  have gI : DGet H1 id (.str m) (some (.ref l)) := hv ▸ DGet.k (k := Sum.inr m) (I2.s _ _ hid0)
  have hl := I2.s _ _ hl0
  have hil : ItemL H1 ius (M m) := ItemL.keep (KeepT.of I2.s) hil0
  refine ⟨_, rfl, wa, _, rfl, gW, _, rfl, id, _, rfl, gI, ?_⟩
  refine ⟨_, rfl, l, rfl, ⟨ius, SqL.of hl⟩, ?_⟩
  refine for_list (K := K) (a := l) (xs := ius) (fun i σ H' => (∃ v5 v6 v7 v8 v9 v10, σ = [some (.ref wa), some (.str m), some (.str wd), some (.ref sl), some (.ref l), v5, v6, v7, v8, v9, v10]) ∧ H' = H1 ∧ hit wd ((M m).take i) = none)
    ⟨⟨_, _, _, _, _, _, rfl⟩, rfl, rfl⟩ (fun i σ H' _ ⟨_, e, _⟩ => by rw [e]; exact SqL.of hl) ?_ ?_
  · rintro i x σ H' hx ⟨⟨v5, v6, v7, v8, v9, v10, rfl⟩, rfl, hno⟩
    obtain ⟨it, hit', hi⟩ := ItemL.get hil hx
    have hT := hit_take hit' hno
    by_cases hke : ∃ x1 y1, it = .exp x1 y1
    · obtain ⟨x1, y1, rfl⟩ := hke
      obtain ⟨t, ps, qq, j, rfl, ht, hps, hqq⟩ := hi
      refine ⟨_, rfl, t, _, 0, _, rfl, rfl, SqT.of ht, at0, rfl, _, rfl, if_T (by decide +kernel) ?_⟩
      refine ⟨_, rfl, t, _, 1, _, rfl, rfl, SqT.of ht, at1, ps, rfl, ⟨_, SqT.of hps⟩, ?_⟩
      refine for_tup (K := K) (a := ps) (xs := [.ref qq]) (fun kk σ H2 => (∃ v6 v7 v8 v9 v10, σ = [some (.ref wa), some (.str m), some (.str wd), some (.ref sl), some (.ref l), some (.ref t), v6, v7, v8, v9, v10]) ∧ H2 = H' ∧ (1 ≤ kk → ¬ y1 = wd))
        ⟨⟨_, _, _, _, _, rfl⟩, rfl, fun z => absurd z (by decide)⟩ (fun kk σ H2 _ ⟨_, e, _⟩ => by rw [e]; exact SqT.of hps) ?_ ?_
      · rintro kk y σ H2 hy ⟨⟨u6, u7, u8, u9, u10, rfl⟩, rfl, _⟩
        have hk0 : kk = 0 := by
          have := (List.getElem?_eq_some_iff.mp hy).1
          simp at this
          exact this
        subst hk0
        have ey : y = .ref qq := (Option.some.inj hy).symm
        subst ey
        refine ⟨qq, _, rfl, SqT.of hqq, rfl, _, _, rfl, _, _, rfl, rfl, ?_⟩
        refine ⟨_, rfl, _, rfl, rfl, _, rfl, ite2 (fun h2 => ?_) (fun h2 => ?_)⟩
        · have e2 : y1 = wd := V.str.inj (of_decide_eq_true h2)
          have hh : hit wd (M m) = some (.inl x1) := by
            rw [hT]
            show ((if y1 = wd then some (Sum.inl x1) else none : Option (Sum Str (Str × Str))).or _) = _
            rw [if_pos e2]
            rfl
          rw [hh] at q1
          exact ⟨_, rfl, _, rfl, _, rfl, _, rfl, wa, sl, M, names, H0, m, x1, _, rfl, I2, hm, q1⟩
        · exact ⟨⟨_, _, _, _, _, rfl⟩, rfl, fun _ z => h2 (decide_eq_true (congrArg V.str z))⟩
      · rintro σ H2 ⟨⟨u6, u7, u8, u9, u10, rfl⟩, rfl, hne⟩
        have hne := hne (Nat.le_refl 1)
        refine ⟨_, rfl, t, _, 0, _, rfl, rfl, SqT.of ht, at0, rfl, _, rfl, if_F (by decide +kernel) ?_⟩
        refine ⟨⟨_, _, _, _, _, _, rfl⟩, rfl, hit_snoc hit' hno ?_⟩
        show (if y1 = wd then _ else none) = none
        rw [if_neg hne]
    by_cases hkf : ∃ m1 x1 y1, it = .frm m1 x1 y1
    · obtain ⟨m1, x1, y1, rfl⟩ := hkf
      obtain ⟨t, ps, qq, j, rfl, ht, hps, hqq⟩ := hi
      have hok := I2.wf.ok m hm _ (List.mem_of_getElem? hit')
      refine ⟨_, rfl, t, _, 0, _, rfl, rfl, SqT.of ht, at0, rfl, _, rfl, if_F (by decide +kernel) ?_⟩
      refine ⟨_, rfl, t, _, 0, _, rfl, rfl, SqT.of ht, at0, rfl, _, rfl, if_T (by decide +kernel) ?_⟩
      refine ⟨_, rfl, t, _, 2, _, rfl, rfl, SqT.of ht, at2, ps, rfl, ⟨_, SqT.of hps⟩, ?_⟩
      refine for_tup (K := K) (a := ps) (xs := [.ref qq]) (fun kk σ H2 => (∃ v6 v7 v8 v9 v10, σ = [some (.ref wa), some (.str m), some (.str wd), some (.ref sl), some (.ref l), some (.ref t), v6, v7, v8, v9, v10]) ∧ H2 = H' ∧ (1 ≤ kk → ¬ y1 = wd))
        ⟨⟨_, _, _, _, _, rfl⟩, rfl, fun z => absurd z (by decide)⟩ (fun kk σ H2 _ ⟨_, e, _⟩ => by rw [e]; exact SqT.of hps) ?_ ?_
      · rintro kk y σ H2 hy ⟨⟨u6, u7, u8, u9, u10, rfl⟩, rfl, _⟩
        have hk0 : kk = 0 := by
          have := (List.getElem?_eq_some_iff.mp hy).1
          simp at this
          exact this
        subst hk0
        have ey : y = .ref qq := (Option.some.inj hy).symm
        subst ey
        refine ⟨qq, _, rfl, SqT.of hqq, rfl, _, _, rfl, _, _, rfl, rfl, ?_⟩
        refine ⟨_, rfl, _, rfl, rfl, _, rfl, ite2 (fun h2 => ?_) (fun h2 => ?_)⟩
        · have e2 : y1 = wd := V.str.inj (of_decide_eq_true h2)
          have hh : hit wd (M m) = some (.inr (m1, x1)) := by
            rw [hT]
            show ((if y1 = wd then some (Sum.inr (m1, x1)) else none : Option (Sum Str (Str × Str))).or _) = _
            rw [if_pos e2]
            rfl
          rw [hh] at q1
          exact ⟨_, rfl, _, rfl, t, _, 1, _, rfl, rfl, SqT.of ht, at1, _, rfl, _, rfl, wa, sl, M, names, H0, m1, x1, _, rfl, I2, hok.1, hok.2, q1⟩
        · exact ⟨⟨_, _, _, _, _, rfl⟩, rfl, fun _ z => h2 (decide_eq_true (congrArg V.str z))⟩
      · rintro σ H2 ⟨⟨u6, u7, u8, u9, u10, rfl⟩, rfl, hne⟩
        have hne := hne (Nat.le_refl 1)
        refine ⟨⟨_, _, _, _, _, _, rfl⟩, rfl, hit_snoc hit' hno ?_⟩
        show (if y1 = wd then _ else none) = none
        rw [if_neg hne]
    · obtain ⟨t, more, rfl, ht⟩ := hi.head
      have hno2 : ¬ it.kind = ("export" : Str) ∧ ¬ it.kind = ("from" : Str) := by
        cases it with
        | exp a b => exact absurd ⟨a, b, rfl⟩ hke
        | frm a b c => exact absurd ⟨a, b, c, rfl⟩ hkf
        | _ => constructor <;> (simp only [Item.kind]; decide +kernel)
      have hz : hitF wd it = none := by
        cases it with
        | exp a b => exact absurd ⟨a, b, rfl⟩ hke
        | frm a b c => exact absurd ⟨a, b, c, rfl⟩ hkf
        | _ => rfl
      refine ⟨_, rfl, t, _, 0, _, rfl, rfl, SqT.of ht, at0, rfl, _, rfl, if_F (dstr hno2.1) ?_⟩
      refine ⟨_, rfl, t, _, 0, _, rfl, rfl, SqT.of ht, at0, rfl, _, rfl, if_F (dstr hno2.2) ?_⟩
      exact ⟨⟨_, _, _, _, _, _, rfl⟩, rfl, hit_snoc hit' hno hz⟩
  rintro σ H' ⟨⟨v5, v6, v7, v8, v9, v10, rfl⟩, rfl, hno⟩
  rw [hlen, List.take_length] at hno
  rw [hno] at q1
  have q1 : RetS H' Q sl (starS (srch M n) wd (M m) .no (seen ++ [(m, wd)])) := q1
  have hs0 : (seen ++ [(m, wd)]).length + 0 ≥ 0 := Nat.zero_le _
  generalize hse : seen ++ [(m, wd)] = seen1 at q1 I2
  clear hs0 hse hat q
  refine ⟨_, rfl, l, rfl, ⟨ius, SqL.of hl⟩, ?_⟩
  refine for_list (K := K) (a := l) (xs := ius) (fun i σ H2 => ∃ (f : Ans) (fv : V) (seen' : Seen) (v5 v6 v7 v8 v10 : Option V), σ = [some (.ref wa), some (.str m), some (.str wd), some (.ref sl), some (.ref l), v5, v6, v7, v8, some fv, v10] ∧ WIn M names H0 H2 wa sl seen' n ∧ SameX sl H' H2 ∧ AnsAt H2 fv f ∧ f ≠ .two ∧ OkA f ∧
      starS (srch M n) wd (M m) .no seen1 = starS (srch M n) wd ((M m).drop i) f seen')
    ⟨.no, .non, seen1, _, _, _, _, _, rfl, I2, SameX.refl _ _, rfl, (by intro z; cases z), True.intro, rfl⟩ (fun i σ H2 _ ⟨_, _, _, _, _, _, _, _, _, I1, _⟩ => SqL.of (I1.s _ _ hl0)) ?_ ?_
  · rintro i x σ H1 hx ⟨f, fv, seen', v5, v6, v7, v8, v10, rfl, I1, x1, af, hf2, okf, eq⟩
    obtain ⟨it, hit, hi⟩ := ItemL.get (ItemL.keep (KeepT.of I1.s) hil0) hx
    rw [drop_get hit] at eq
    by_cases hk : ∃ m', it = .star m'
    · obtain ⟨m', rfl⟩ := hk
      obtain ⟨t, j, rfl, ht⟩ := hi
      have hm' : m' ∈ names := I.wf.ok m hm _ (List.mem_of_getElem? hit)
      refine ⟨_, rfl, t, _, 0, _, rfl, rfl, SqT.of ht, at0, rfl, _, rfl, if_T (by decide +kernel) ?_⟩
      refine ⟨_, rfl, _, rfl, t, _, 1, _, rfl, rfl, SqT.of ht, at1, _, rfl, _, rfl, wa, sl, M, names, H0, m', wd, seen', rfl, I1, hm', hwd, fun H2 v s2 a2 an2 => ?_⟩
      have le := srch_le I.wf n m' wd seen' hm' hwd
      have okr := ok_of (srch_ok I.wf n m' wd seen' hm' hwd)
      have I2 := I1.step s2 a2 le
      have kt : KeepT H1 H2 := fun a xs h => by
        obtain ⟨us1, b1, _⟩ := I1.a
        exact s2 _ _ (ne_of h b1 (by intro z; cases z)) h
      have af2 := af.keep kt
      have x2 := x1.trans s2
      rw [starS_star] at eq
      cases hrr : srch M n m' wd seen' with
      | mk ans s'' =>
        rw [hrr] at eq a2 an2 okr I2
        have htwo : PyData.eqv (ansD ans) (.str "two") = decide (ans = .two) := ansD_eqv ans .two
        refine ⟨_, rfl, ansD ans, .str "two", an2.dp, .str _, ansD_shaped okr, by decide +kernel, _, rfl, ?_⟩
        rw [htwo]
        cases ans with
        | two =>
          have eq : starS (srch M n) wd (M m) .no seen1 = (.two, s'') := eq
          rw [eq] at q1
          exact if_T (by decide) (iteT (q1 H2 _ x2 a2 rfl))
        | no =>
          have eq : starS (srch M n) wd (M m) .no seen1 = starS (srch M n) wd ((M m).drop (i + 1)) f s'' := eq
          have ev : v = .non := an2
          subst ev
          refine if_F (by decide) ⟨_, rfl, rfl, _, rfl, if_F (by decide) (iteF ?_)⟩
          refine ⟨_, rfl, rfl, _, rfl, if_F (by decide) ?_⟩
          exact ⟨f, fv, s'', _, _, _, _, _, rfl, I2, x2, af2, hf2, okf, eq⟩
        | one a b =>
          have an2' := an2
          obtain ⟨t2, rfl, ht2⟩ := an2'
          have eq : starS (srch M n) wd (M m) .no seen1 = if f = .no ∨ f = .one a b then starS (srch M n) wd ((M m).drop (i + 1)) (.one a b) s'' else (.two, s'') := eq
          have nt2 : (!decide (V.ref t2 = V.non)) = true := nonB.mpr (by intro z; cases z)
          refine if_F (decide_eq_false (by intro z; cases z)) ⟨_, rfl, rfl, _, rfl, if_T nt2 ?_⟩
          cases f with
          | two => exact absurd rfl hf2
          | no =>
            have efv : fv = .non := af2
            subst efv
            rw [if_pos (.inl rfl)] at eq
            refine ⟨_, rfl, rfl, _, rfl, if_F (by decide) (iteF ?_)⟩
            refine ⟨_, rfl, rfl, _, rfl, if_T nt2 ?_⟩
            exact ⟨_, rfl, .one a b, _, s'', _, _, _, _, _, rfl, I2, x2, an2, (by intro z; cases z), okr, eq⟩
          | one a' b' =>
            have af2' := af2
            obtain ⟨t3, rfl, ht3⟩ := af2'
            have nt3 : (!decide (V.ref t3 = V.non)) = true := nonB.mpr (by intro z; cases z)
            refine ⟨_, rfl, rfl, _, rfl, if_T nt3 ?_⟩
            refine ⟨_, rfl, _, rfl, ansD (.one a b), ansD (.one a' b'), an2.dp, af2.dp, ansD_shaped okr, ansD_shaped okf, _, rfl, ?_⟩
            have hne : PyData.eqv (ansD (.one a b)) (ansD (.one a' b')) = decide (Ans.one a b = .one a' b') := ansD_eqv _ _
            rw [hne]
            by_cases he : Ans.one a b = .one a' b'
            · rw [if_pos (.inr he.symm)] at eq
              refine if_F (by rw [decide_eq_true he]; rfl) ?_
              refine ⟨_, rfl, rfl, _, rfl, if_T nt2 ?_⟩
              exact ⟨_, rfl, .one a b, _, s'', _, _, _, _, _, rfl, I2, x2, an2, (by intro z; cases z), okr, eq⟩
            · rw [if_neg (fun z => z.elim (fun z => by cases z) fun z => he z.symm)] at eq
              rw [eq] at q1
              exact if_T (by rw [decide_eq_false he]; rfl) (q1 H2 _ x2 a2 rfl)
    · obtain ⟨t, more, rfl, ht⟩ := hi.head
      have hno : ¬ it.kind = ("star" : Str) := by
        cases it with
        | star m' => exact absurd ⟨m', rfl⟩ hk
        | _ => simp only [Item.kind]; decide +kernel
      refine ⟨_, rfl, t, _, 0, _, rfl, rfl, SqT.of ht, at0, rfl, _, rfl, if_F (dstr hno) ?_⟩
      rw [starS_skip _ _ hno] at eq
      exact ⟨f, fv, seen', _, _, _, _, _, rfl, I1, x1, af, hf2, okf, eq⟩
  · rintro σ H1 ⟨f, fv, seen', v5, v6, v7, v8, v10, rfl, I1, x1, af, hf2, okf, eq⟩
    rw [hlen, List.drop_length] at eq
    have eq : starS (srch M n) wd (M m) .no seen1 = (f, seen') := eq
    rw [eq] at q1
    exact ⟨_, rfl, q1 H1 fv x1 I1.a af⟩
theorem c_lsearch0 (T : Tx K mg w) : Cal P w K mg base 1 "_law_search" (spLSearch 0) [] := by
  obtain ⟨fd, F⟩ := T.f__law_search
  have no : ∀ vs H Q E, ¬ spLSearch 0 vs H Q E := fun vs H Q E h => by
    obtain ⟨wa, sl, M, names, H0, m, wd, seen, _, I, _⟩ := h
    exact Nat.not_lt_zero _ I.c
  exact calOf F T.g__law_search (b__law_search F) sc__law_search (fun vs H Q E h => absurd h (no vs H Q E)) (fun cdv A outer s H vs Q E hr h => absurd h (no vs H Q E))
theorem c_lsearchN (T : Tx K mg w) : ∀ n : Nat, Cal P w K mg base (2 * n + 1) "_law_search" (spLSearch n) []
  | 0 => c_lsearch0 T
  | n + 1 => c__law_search T (k := 2 * n) (c_lsearchN T n)
structure WdS (M : Str → List Item) (names : List Str) (H : Hp) (wa : Addr) : Prop where
  W : Wd H wa M names
  wf : WF M names
  few : names.length ≤ 6
def spLResolve : Sp := fun vs H Q _ => ∃ (wa : Addr) (M : Str → List Item) (names : List Str) (m wd : Str), vs = [.ref wa, .str m, .str wd] ∧ WdS M names H wa ∧ m ∈ names ∧ wd ∈ WORDS ∧ ∀ (H' : Hp) (v : V), Same H H' → AnsAt H' v (res M m wd) → Q v H'
theorem c__law_resolve (T : Tx K mg w) : Cal P w K mg base 82 "_law_resolve" spLResolve [] := by
  have c__law_search : Cal P w K mg base 81 "_law_search" (spLSearch 40) [] := c_lsearchN T 40
  obtain ⟨fd, F⟩ := T.f__law_resolve
  refine calOf F T.g__law_resolve (b__law_resolve F) sc__law_resolve (fun vs H Q E h => ?_) (fun cdv A outer s H vs Q E hr h => ?_)
  · obtain ⟨_, _, _, _, _, rfl, _⟩ := h; rfl
  obtain ⟨wa, M, names, m, wd, rfl, G, hm, hwd, q⟩ := h
  have hu := hu_of hr
  refine ⟨_, (pss_cons (ps_set (i := 3) sc__law_resolve.nd rfl (Or.inl rfl) (pe_c c__law_search hr (by omega) rfl (pa_cons (pv 0) (pa_cons (pv 1) (pa_cons (pv 2) (pa_cons (pe_lst pa_nil) pa_nil))))))
  (pss_cons (ps_if (pt_cmpR (op_eqD (hu64_of hr)) (pv 3) pe_str (nomark _)) (pss_one (ps_ret pe_non)) pss_nil)
  (pss_one (ps_ret (pv 3))))), ?_⟩
  refine ⟨_, rfl, _, rfl, _, rfl, sz 0, fun p hp => ?_⟩
  have h1 := cnt_le (Uni names) []
  have h2 := uni_len names
  have h3 := G.few
  have I : WIn M names H (upd H p (.lst [])) wa p [] 40 := ⟨G.W, same_new hp _, hp, ⟨[], upd_same, .nil⟩, G.wf, (fun p h => nomatch h), by omega, by show 0 + _ ≤ _; omega⟩
  refine ⟨wa, p, M, names, H, m, wd, [], rfl, I, hm, hwd, fun H2 v s2 a2 an2 => ?_⟩
  have okr := ok_of (srch_ok G.wf 40 m wd [] hm hwd)
  have ss : Same H H2 := same_of_X I.s I.f s2
  unfold res at q
  cases hrr : srch M 40 m wd [] with
  | mk ans s'' =>
    rw [hrr] at q an2 okr
    have htwo : PyData.eqv (ansD ans) (.str "two") = decide (ans = .two) := ansD_eqv ans .two
    refine ⟨_, rfl, ansD ans, .str "two", an2.dp, .str _, ansD_shaped okr, by decide +kernel, _, rfl, ?_⟩
    rw [htwo]
    cases ans with
    | two => exact if_T (by decide) (q H2 _ ss rfl)
    | no => exact if_F (by decide) ⟨_, rfl, q H2 v ss an2⟩
    | one a b => exact if_F (decide_eq_false (by intro z; cases z)) ⟨_, rfl, q H2 v ss an2⟩
end
end Fz
set_option Elab.async false
set_option linter.all false
set_option maxRecDepth 100000
set_option maxHeartbeats 4000000
namespace Fz
open PySem PyProof.Rows L2
open C8 (Cal Met Mak pe_c pe_mk pe_mt pe_mt0 pe_gc)
/-! ## the law's texts, plain -/
def ABC : List Str := ["a", "b", "c"]
def INS : List Str := ["ia", "ib", "ic"]
def SNS : List Str := ["sa", "sb", "sc"]
def LNS : List Str := ["la", "lb", "lc"]
def NMS : List Str := ["m0", "m1", "m2", "m3", "m4", "m5"]
def aN (i : Nat) : Str := ABC.getD i "a"
def iN (i : Nat) : Str := INS.getD i "a"
def sN (i : Nat) : Str := SNS.getD i "a"
def lN (i : Nat) : Str := LNS.getD i "a"
def mN (i : Nat) : Str := NMS.getD i "m0"
def dg (k : Nat) : Str := Str.ofString (toString (k : Int))
theorem mN_eq : ∀ k, k < 6 → ("m" : Str) ++ dg k = mN k := by
  have h : ∀ k ∈ List.range 6, ("m" : Str) ++ dg k = mN k := by decide +kernel
  exact fun k hk => h k (List.mem_range.mpr hk)
/-- a piece of text and what it says -/
def Good (e : List Nat) (new : List Pc) : Prop := lexF 100 e = some (new.flatMap Pc.toks) ∧ e.getLast? = some 10 ∧ e.length ≤ 100
instance (e : List Nat) (new : List Pc) : Decidable (Good e new) := by unfold Good; infer_instance
theorem good0 : ∀ i, i < 3 → ∀ k, k < 6 → Good (tl "export let " ++ (tl (aN i) ++ (tl " = " ++ (tl (dg k) ++ tl ";\n")))) [.elet (aN i) k] := by
  have h : ∀ i ∈ List.range 3, ∀ k ∈ List.range 6, Good (tl "export let " ++ (tl (aN i) ++ (tl " = " ++ (tl (dg k) ++ tl ";\n")))) [.elet (aN i) k] := by decide +kernel
  exact fun i hi k hk => h i (List.mem_range.mpr hi) k (List.mem_range.mpr hk)
theorem good1 : ∀ i, i < 3 → ∀ j, j < 3 → ∀ k, k < 6 → Good (tl "export { " ++ (tl (aN j) ++ (tl " as " ++ (tl (aN i) ++ (tl " } from \"" ++ (tl (mN k) ++ tl "\";\n")))))) [.frm (mN k) (aN j) (aN i)] := by
  have h : ∀ i ∈ List.range 3, ∀ j ∈ List.range 3, ∀ k ∈ List.range 6, Good (tl "export { " ++ (tl (aN j) ++ (tl " as " ++ (tl (aN i) ++ (tl " } from \"" ++ (tl (mN k) ++ tl "\";\n")))))) [.frm (mN k) (aN j) (aN i)] := by decide +kernel
  exact fun i hi j hj k hk => h i (List.mem_range.mpr hi) j (List.mem_range.mpr hj) k (List.mem_range.mpr hk)
theorem good2 : ∀ i, i < 3 → ∀ j, j < 3 → ∀ k, k < 6 → Good (tl "import { " ++ (tl (aN j) ++ (tl " as i" ++ (tl (aN i) ++ (tl " } from \"" ++ (tl (mN k) ++ tl "\";\n")))))) [.imp (mN k) (aN j) (iN i)] := by
  have h : ∀ i ∈ List.range 3, ∀ j ∈ List.range 3, ∀ k ∈ List.range 6, Good (tl "import { " ++ (tl (aN j) ++ (tl " as i" ++ (tl (aN i) ++ (tl " } from \"" ++ (tl (mN k) ++ tl "\";\n")))))) [.imp (mN k) (aN j) (iN i)] := by decide +kernel
  exact fun i hi j hj k hk => h i (List.mem_range.mpr hi) j (List.mem_range.mpr hj) k (List.mem_range.mpr hk)
theorem good2b : ∀ i, i < 3 → Good (tl "export { i" ++ (tl (aN i) ++ (tl " as " ++ (tl (aN i) ++ tl " };\n")))) [.exp (iN i) (aN i)] := by
  have h : ∀ i ∈ List.range 3, Good (tl "export { i" ++ (tl (aN i) ++ (tl " as " ++ (tl (aN i) ++ tl " };\n")))) [.exp (iN i) (aN i)] := by decide +kernel
  exact fun i hi => h i (List.mem_range.mpr hi)
theorem good3 : ∀ i, i < 3 → ∀ k, k < 6 → Good (tl "import * as s" ++ (tl (aN i) ++ (tl " from \"" ++ (tl (mN k) ++ (tl "\"; let l" ++ (tl (aN i) ++ tl " = 1;\n")))))) [.spc (mN k) (sN i), .let_ (lN i) 1] := by
  have h : ∀ i ∈ List.range 3, ∀ k ∈ List.range 6, Good (tl "import * as s" ++ (tl (aN i) ++ (tl " from \"" ++ (tl (mN k) ++ (tl "\"; let l" ++ (tl (aN i) ++ tl " = 1;\n")))))) [.spc (mN k) (sN i), .let_ (lN i) 1] := by decide +kernel
  exact fun i hi k hk => h i (List.mem_range.mpr hi) k (List.mem_range.mpr hk)
theorem good4 : ∀ k, k < 6 → Good (tl "export * from \"m" ++ (tl (dg k) ++ tl "\";\n")) [.star (mN k)] := by
  have h : ∀ k ∈ List.range 6, Good (tl "export * from \"m" ++ (tl (dg k) ++ tl "\";\n")) [.star (mN k)] := by decide +kernel
  exact fun k hk => h k (List.mem_range.mpr hk)
/-- a text so far -/
structure Tx1 (z : Str) (ps : List Pc) (n : Nat) : Prop where
  lx : Lex (tl z) (ps.flatMap Pc.toks)
  nl : tl z = [] ∨ ∃ l, tl z = l ++ [10]
  len : z.length ≤ n
theorem tl_app (a b : Str) : tl (a ++ b) = tl a ++ tl b := by
  show ((a ++ b).cps).toList = _
  rw [Str.cps_append, Array.toList_append]
theorem Tx1.nil : Tx1 "" [] 0 := by
  have e : tl ("" : Str) = [] := by decide +kernel
  exact ⟨by rw [e]; exact .nil, .inl e, by rw [len_tl, e]; exact Nat.le_refl _⟩
theorem lex_nil {ts : List Tk} (h : Lex [] ts) : ts = [] := by
  cases h with
  | nil => rfl
  | tk h1 _ => cases h1
theorem Tx1.add {z z' : Str} {ps new : List Pc} {n : Nat} {e : List Nat} (h : Tx1 z ps n) (he : tl z' = tl z ++ e) (g : Good e new) : Tx1 z' (ps ++ new) (n + 100) := by
  obtain ⟨g1, g2, g3⟩ := g
  refine ⟨?_, .inr ?_, ?_⟩
  · rw [he, List.flatMap_append]
    rcases h.nl with z0 | ⟨l, z0⟩
    · have h1 := h.lx
      rw [z0] at h1
      rw [z0, lex_nil h1]
      exact lexF_Lex g1
    · exact Lex.app h.lx (lexF_Lex g1) z0
  · obtain ⟨l, hl⟩ := List.getLast?_eq_some_iff.mp g2
    exact ⟨tl z ++ l, by rw [he, hl, List.append_assoc]⟩
  · have h2 := h.len
    rw [len_tl] at h2 ⊢
    rw [he, List.length_append]
    omega
/-! ### what a module's pieces are -/
def spcN : Item → Option Str
  | .spc _ x => some x
  | _ => none
def impN : Item → Option Str
  | .imp _ _ y => some y
  | _ => none
def its (ps : List Pc) : List Item := ps.flatMap Pc.items
theorem its_app (a b : List Pc) : its (a ++ b) = its a ++ its b := List.flatMap_append
/-- i letters are done; c: the modules' names -/
structure MOk (names : List Str) (ps : List Pc) (i k : Nat) : Prop where
  pl : ps.length ≤ k
  il : (its ps).length ≤ k
  ok : ∀ it ∈ its ps, ItemOk names it
  td : ∀ it ∈ its ps, ∀ y, toldF it = some y → y ∈ TOLD
  nd : ∀ it ∈ its ps, ∀ m, needF it = some m → m ∈ names
  sp : ((its ps).filterMap spcN).Sublist (SNS.take i)
  ip : ((its ps).filterMap impN).Sublist (INS.take i)
theorem MOk.nil (names : List Str) : MOk names [] 0 0 := ⟨Nat.le_refl _, Nat.le_refl _, (fun _ h => nomatch h), (fun _ h => nomatch h), (fun _ h => nomatch h), List.Sublist.refl _, List.Sublist.refl _⟩
theorem MOk.add {names : List Str} {ps new : List Pc} {i k : Nat} (hi : i < 3) (M : MOk names ps i k) (h1 : new.length ≤ 2) (h2 : (its new).length ≤ 2) (ok : ∀ it ∈ its new, ItemOk names it) (td : ∀ it ∈ its new, ∀ y, toldF it = some y → y ∈ TOLD) (nd : ∀ it ∈ its new, ∀ m, needF it = some m → m ∈ names)
    (sp : ((its new).filterMap spcN).Sublist [sN i]) (ip : ((its new).filterMap impN).Sublist [iN i]) : MOk names (ps ++ new) (i + 1) (k + 2) where
  pl := by rw [List.length_append]; have := M.pl; omega
  il := by rw [its_app, List.length_append]; have := M.il; omega
  ok := fun it h => by rw [its_app] at h; exact (List.mem_append.mp h).elim (M.ok it) (ok it)
  td := fun it h => by rw [its_app] at h; exact (List.mem_append.mp h).elim (M.td it) (td it)
  nd := fun it h => by rw [its_app] at h; exact (List.mem_append.mp h).elim (M.nd it) (nd it)
  sp := by
    rw [its_app, List.filterMap_append]
    have e : SNS.take (i + 1) = SNS.take i ++ [sN i] := by
      match i, hi with
      | 0, _ => rfl
      | 1, _ => rfl
      | 2, _ => rfl
    rw [e]
    exact M.sp.append sp
  ip := by
    rw [its_app, List.filterMap_append]
    have e : INS.take (i + 1) = INS.take i ++ [iN i] := by
      match i, hi with
      | 0, _ => rfl
      | 1, _ => rfl
      | 2, _ => rfl
    rw [e]
    exact M.ip.append ip
theorem MOk.star {names : List Str} {ps : List Pc} {i k : Nat} {m : Str} (hm : m ∈ names) (M : MOk names ps i k) : MOk names (ps ++ [.star m]) i (k + 1) where
  pl := by rw [List.length_append]; have := M.pl; show _ + 1 ≤ _; omega
  il := by rw [its_app, List.length_append]; have := M.il; show _ + 1 ≤ _; omega
  ok := fun it h => by
    rw [its_app] at h
    rcases List.mem_append.mp h with h | h
    · exact M.ok it h
    · rw [List.mem_singleton.mp (show it ∈ [Item.star m] from h)]; exact hm
  td := fun it h => by
    rw [its_app] at h
    rcases List.mem_append.mp h with h | h
    · exact M.td it h
    · rw [List.mem_singleton.mp (show it ∈ [Item.star m] from h)]; intro y e; cases e
  nd := fun it h => by
    rw [its_app] at h
    rcases List.mem_append.mp h with h | h
    · exact M.nd it h
    · rw [List.mem_singleton.mp (show it ∈ [Item.star m] from h)]; intro y e; cases e; exact hm
  sp := by
    rw [its_app, List.filterMap_append, show (its [Pc.star m]).filterMap spcN = [] from rfl, List.append_nil]
    exact M.sp
  ip := by
    rw [its_app, List.filterMap_append, show (its [Pc.star m]).filterMap impN = [] from rfl, List.append_nil]
    exact M.ip
theorem aN_told : ∀ i, i < 3 → aN i ∈ TOLD := by
  have h : ∀ i ∈ List.range 3, aN i ∈ TOLD := by decide +kernel
  exact fun i hi => h i (List.mem_range.mpr hi)
theorem aN_word : ∀ i, i < 3 → aN i ∈ WORDS := fun i hi => told_words _ (aN_told i hi)
theorem aN_ok : ∀ i, i < 3 → OkS (aN i) := fun i hi => words_ok _ (aN_word i hi)
theorem lN_ok : ∀ i, i < 3 → OkS (lN i) := by
  have h : ∀ i ∈ List.range 3, PyData.strOk (lN i) = true := by decide +kernel
  exact fun i hi => h i (List.mem_range.mpr hi)
section
variable {names : List Str} {ps : List Pc} {i j k n : Nat} (hi : i < 3) (hj : j < 3) (M : MOk names ps i n)
include hi M
theorem MOk.p0 : MOk names (ps ++ [.elet (aN i) k]) (i + 1) (n + 2) := by
  refine M.add hi (show 1 ≤ 2 by decide) (show 2 ≤ 2 by decide) ?_ ?_ ?_ (List.nil_sublist _) (List.nil_sublist _) <;> (intro it h; rcases List.mem_cons.mp (show it ∈ [Item.ltI (aN i) k, .exp (aN i) (aN i)] from h) with rfl | h)
  · exact aN_ok i hi
  · rw [List.mem_singleton.mp h]; trivial
  · intro y e; cases e
  · rw [List.mem_singleton.mp h]; intro y e; cases e; exact aN_told i hi
  · intro y e; cases e
  · rw [List.mem_singleton.mp h]; intro y e; cases e
include hj
theorem MOk.p1 {m : Str} (hm : m ∈ names) : MOk names (ps ++ [.frm m (aN j) (aN i)]) (i + 1) (n + 2) := by
  refine M.add hi (show 1 ≤ 2 by decide) (show 1 ≤ 2 by decide) ?_ ?_ ?_ (List.nil_sublist _) (List.nil_sublist _) <;> (intro it h; rw [List.mem_singleton.mp (show it ∈ [Item.frm m (aN j) (aN i)] from h)])
  · exact ⟨hm, aN_word j hj⟩
  · intro y e; cases e; exact aN_told i hi
  · intro y e; cases e; exact hm
theorem MOk.p2 {m : Str} (hm : m ∈ names) : MOk names (ps ++ [.imp m (aN j) (iN i), .exp (iN i) (aN i)]) (i + 1) (n + 2) := by
  refine M.add hi (show 2 ≤ 2 by decide) (show 2 ≤ 2 by decide) ?_ ?_ ?_ (List.nil_sublist _) (List.Sublist.refl _) <;> (intro it h; rcases List.mem_cons.mp (show it ∈ [Item.imp m (aN j) (iN i), .exp (iN i) (aN i)] from h) with rfl | h)
  · exact ⟨hm, aN_word j hj⟩
  · rw [List.mem_singleton.mp h]; trivial
  · intro y e; cases e
  · rw [List.mem_singleton.mp h]; intro y e; cases e; exact aN_told i hi
  · intro y e; cases e; exact hm
  · rw [List.mem_singleton.mp h]; intro y e; cases e
omit hj
theorem MOk.p3 {m : Str} (hm : m ∈ names) : MOk names (ps ++ [.spc m (sN i), .let_ (lN i) 1]) (i + 1) (n + 2) := by
  refine M.add hi (show 2 ≤ 2 by decide) (show 2 ≤ 2 by decide) ?_ ?_ ?_ (List.Sublist.refl _) (List.nil_sublist _) <;> (intro it h; rcases List.mem_cons.mp (show it ∈ [Item.spc m (sN i), .ltI (lN i) 1] from h) with rfl | h)
  · trivial
  · rw [List.mem_singleton.mp h]; exact lN_ok i hi
  · intro y e; cases e
  · rw [List.mem_singleton.mp h]; intro y e; cases e
  · intro y e; cases e; exact hm
  · rw [List.mem_singleton.mp h]; intro y e; cases e
theorem MOk.p9 : MOk names ps (i + 1) (n + 2) := by
  have h := M.add (new := []) hi (by decide) (by decide) (fun _ h => nomatch h) (fun _ h => nomatch h) (fun _ h => nomatch h) (List.nil_sublist _) (List.nil_sublist _)
  rw [List.append_nil] at h
  exact h
end
/-! ### each local name is written once -/
theorem uniq_gen {α : Type} {F : Item → Option Str} {G : Item → α} (step : Option α → Item → Option α) (x : Str) (h1 : ∀ acc it, F it = some x → step acc it = some (G it)) (h2 : ∀ acc it, F it ≠ some x → step acc it = acc) :
    ∀ (l : List Item) (acc : Option α) (it : Item), it ∈ l → F it = some x → (l.filterMap F).Nodup → l.foldl step acc = some (G it)
  | y :: r, acc, it, hm, hf, hn => by
    rw [List.foldl_cons]
    have keep : ∀ (r : List Item) (acc : Option α), x ∉ r.filterMap F → r.foldl step acc = acc := by
      intro r
      induction r with
      | nil => intro acc _; rfl
      | cons z r ih =>
        intro acc hz
        rw [List.foldl_cons]
        have hz1 : F z ≠ some x := fun e => hz (List.mem_filterMap.mpr ⟨z, List.mem_cons_self, e⟩)
        rw [h2 acc z hz1]
        exact ih acc fun h => by
          obtain ⟨u, hu, e⟩ := List.mem_filterMap.mp h
          exact hz (List.mem_filterMap.mpr ⟨u, List.mem_cons_of_mem _ hu, e⟩)
    by_cases hy : F y = some x
    · rw [List.filterMap_cons, hy] at hn
      obtain ⟨hn1, hn2⟩ := List.nodup_cons.mp hn
      rcases List.mem_cons.mp hm with e | hm
      · subst e
        rw [h1 acc it hy]
        exact keep r _ hn1
      · exact absurd (List.mem_filterMap.mpr ⟨it, hm, hf⟩) hn1
    · rcases List.mem_cons.mp hm with e | hm
      · exact absurd (e ▸ hf) hy
      · have hn2 : (r.filterMap F).Nodup := by
          rw [List.filterMap_cons] at hn
          cases e : F y with
          | none => rw [e] at hn; exact hn
          | some u => rw [e] at hn; exact (List.nodup_cons.mp hn).2
        exact uniq_gen step x h1 h2 r _ it hm hf hn2
def spcG : Item → Str
  | .spc m _ => m
  | _ => ""
def impG : Item → Str × Str
  | .imp m x _ => (m, x)
  | _ => ("", "")
theorem uniq_spc {l : List Item} (hn : (l.filterMap spcN).Nodup) {m x : Str} (h : .spc m x ∈ l) : lastSpc x l = some m :=
  uniq_gen (F := spcN) (G := spcG) (spcF x) x (fun acc it e => by cases it <;> cases e; exact if_pos rfl) (fun acc it e => by
    cases it with
    | spc m y => exact if_neg fun z => e (by rw [z]; rfl)
    | _ => rfl) l none _ h rfl hn
theorem uniq_imp {l : List Item} (hn : (l.filterMap impN).Nodup) {m x y : Str} (h : .imp m x y ∈ l) : lastImp y l = some (m, x) :=
  uniq_gen (F := impN) (G := impG) (impF y) y (fun acc it e => by cases it <;> cases e; exact if_pos rfl) (fun acc it e => by
    cases it with
    | imp m x z => exact if_neg fun z => e (by rw [z]; rfl)
    | _ => rfl) l none _ h rfl hn
theorem sns_nd : SNS.Nodup := by decide +kernel
theorem ins_nd : INS.Nodup := by decide +kernel
theorem MOk.us {names : List Str} {ps : List Pc} {i k : Nat} (M : MOk names ps i k) : ((its ps).filterMap spcN).Nodup := (sns_nd.sublist (List.take_sublist _ _)).sublist M.sp
theorem MOk.ui {names : List Str} {ps : List Pc} {i k : Nat} (M : MOk names ps i k) : ((its ps).filterMap impN).Nodup := (ins_nd.sublist (List.take_sublist _ _)).sublist M.ip
end Fz
set_option Elab.async false
set_option linter.all false
set_option maxRecDepth 100000
set_option maxHeartbeats 4000000
namespace Fz
open PySem PyProof.Rows L2
open C8 (Cal Met Mak pe_c pe_mk pe_mt pe_mt0 pe_gc)
def namesOf (c : Nat) : List Str := NMS.take c
theorem mN_mem {c v : Nat} (hc : c ≤ 6) (h : v < c) : mN v ∈ namesOf c := by
  have hx : ∀ c ∈ List.range 7, ∀ v ∈ List.range c, mN v ∈ namesOf c := by decide +kernel
  exact hx c (List.mem_range.mpr (by omega)) v (List.mem_range.mpr h)
theorem mem_mN {c : Nat} {n : Str} (hc : c ≤ 6) (h : n ∈ namesOf c) : ∃ v, v < c ∧ n = mN v := by
  have hx : ∀ c ∈ List.range 7, ∀ n ∈ namesOf c, ∃ v ∈ List.range c, n = mN v := by decide +kernel
  obtain ⟨v, h1, h2⟩ := hx c (List.mem_range.mpr (by omega)) n h
  exact ⟨v, List.mem_range.mp h1, h2⟩
theorem mN_inj {j k : Nat} (hj : j < 6) (hk : k < 6) (h : mN j = mN k) : j = k := by
  have hx : ∀ j ∈ List.range 6, ∀ k ∈ List.range 6, mN j = mN k → j = k := by decide +kernel
  exact hx j (List.mem_range.mpr hj) k (List.mem_range.mpr hk) h
theorem mN_ok {j : Nat} (hj : j < 6) : OkS (mN j) := by
  have hx : ∀ j ∈ List.range 6, PyData.strOk (mN j) = true := by decide +kernel
  exact hx j (List.mem_range.mpr hj)
theorem aN_at {j : Nat} (hj : j < 3) : ([.str "a", .str "b", .str "c"] : List V)[j]? = some (.str (aN j)) := by
  match j, hj with
  | 0, _ => rfl
  | 1, _ => rfl
  | 2, _ => rfl
theorem log_small {v : Nat} (h : v < 6) : (v : Int).natAbs.log2 < 1920 := by
  have hx : ∀ v ∈ List.range 6, (v : Int).natAbs.log2 < 1920 := by decide +kernel
  exact hx v (List.mem_range.mpr h)
theorem dg_len {v : Nat} (h : v < 6) : (dg v).length ≤ 10 := by
  have hx : ∀ v ∈ List.range 6, (dg v).length ≤ 10 := by decide +kernel
  exact hx v (List.mem_range.mpr h)
theorem aN_len {v : Nat} (h : v < 3) : (aN v).length ≤ 10 := by
  have hx : ∀ v ∈ List.range 3, (aN v).length ≤ 10 := by decide +kernel
  exact hx v (List.mem_range.mpr h)
theorem mN_len {v : Nat} (h : v < 6) : (mN v).length ≤ 10 := by
  have hx : ∀ v ∈ List.range 6, (mN v).length ≤ 10 := by decide +kernel
  exact hx v (List.mem_range.mpr h)
theorem lapp (a b : Str) : (a ++ b).length = a.length + b.length := Str.length_append a b
/-- short pieces may be put together -/
theorem szs {a b : Str} (ha : a.length ≤ 50000) (hb : b.length ≤ 100) : a.length + b.length ≤ sizeLine := sz _ (by omega)
theorem Tx1.up {z : Str} {ps : List Pc} {n k : Nat} (h : Tx1 z ps n) (hk : n ≤ k) : Tx1 z ps k := ⟨h.lx, h.nl, Nat.le_trans h.len hk⟩
section
variable {P : Program} {w : World} {K : PySem.W.Frag} {mg : Str → Option Value} {base : Heap}
def spStarM : Sp := fun vs H Q _ => ∃ (c : Int), vs = [.int c] ∧ ∀ (H' : Hp) (d : Addr) (tkvs : List (L2.Key × V)) (pcs : Str → List Pc) (names : List Str), Same H H' → H d = none → H' d = some (.dK tkvs) → Mods pcs names → TxtD tkvs pcs names → ("m0" : Str) ∈ names →
  (∀ n ∈ names, ((itemsOf pcs n).filterMap spcN).Nodup ∧ ((itemsOf pcs n).filterMap impN).Nodup) → Q (.ref d) H'
theorem c__law_star_modules (T : Tx K mg w) : Cal P w K mg base 3 "_law_star_modules" spStarM [] := by
  have c__law_feed : Cal P w K mg base 2 "_law_feed" spFeed [] := c__law_feed T
  have c__law_take : Cal P w K mg base 1 "_law_take" spTake [] := c__law_take T
  obtain ⟨fd, F⟩ := T.f__law_star_modules
  refine calOf F T.g__law_star_modules (b__law_star_modules F) sc__law_star_modules (fun vs H Q E h => ?_) (fun cdv A outer s H vs Q E hr h => ?_)
  · obtain ⟨_, rfl, _⟩ := h; rfl
  obtain ⟨c, rfl, q⟩ := h
  have hu := hu_of hr
  refine ⟨_, (pss_cons (ps_set (i := 1) sc__law_star_modules.nd rfl (Or.inl rfl) (pe_c c__law_feed hr (by omega) rfl (pa_cons (pv 0) (pa_cons pe_int pa_nil))))
  (pss_cons (ps_set (i := 2) sc__law_star_modules.nd rfl (Or.inl rfl) (pe_op op_add pe_int (pe_c c__law_take hr (by omega) rfl (pa_cons (pv 1) (pa_cons pe_int pa_nil)))))
  (pss_cons (ps_set (i := 3) sc__law_star_modules.nd rfl (Or.inl rfl) pe_dnewK)
  (pss_cons (ps_for PassesOwn.never rfl (pi_range1 (by rfl) T.z_range (pa_cons (pv 2) pa_nil)) (pg_name (i := 4) sc__law_star_modules.nd rfl (Or.inl rfl)) (pss_cons (ps_set (i := 5) sc__law_star_modules.nd rfl (Or.inl rfl) pe_str)
  (pss_cons (ps_for PassesOwn.never rfl (pi_list (pe_lst (pa_cons pe_str (pa_cons pe_str (pa_cons pe_str pa_nil))))) (pg_name (i := 6) sc__law_star_modules.nd rfl (Or.inl rfl)) (pss_cons (ps_set (i := 7) sc__law_star_modules.nd rfl (Or.inl rfl) (pe_c c__law_take hr (by omega) rfl (pa_cons (pv 1) (pa_cons pe_int pa_nil))))
  (pss_cons (ps_set (i := 8) sc__law_star_modules.nd rfl (Or.inl rfl) (pe_op op_add_str pe_str (pe_callTy call_str_int (by rfl) T.z_str (by decide +kernel) (pa_cons (pe_c c__law_take hr (by omega) rfl (pa_cons (pv 1) (pa_cons (pv 2) pa_nil))) pa_nil))))
  (pss_one (ps_if (pt_cmpR op_eq (pv 7) pe_int (nomark _)) (pss_one (ps_set (i := 5) sc__law_star_modules.nd rfl (Or.inl rfl) (pe_op op_add_str (pe_op op_add_str (pe_op op_add_str (pe_op op_add_str (pe_op op_add_str (pv 5) pe_str) (pv 6)) pe_str) (pe_callTy call_str_int (by rfl) T.z_str (by decide +kernel) (pa_cons (pv 4) pa_nil))) pe_str))) (pss_one (ps_if (pt_cmpR op_eq (pv 7) pe_int (nomark _)) (pss_one (ps_set (i := 5) sc__law_star_modules.nd rfl (Or.inl rfl) (pe_op op_add_str (pe_op op_add_str (pe_op op_add_str (pe_op op_add_str (pe_op op_add_str (pe_op op_add_str (pe_op op_add_str (pv 5) pe_str) (pe_ix ix_list (pe_lst (pa_cons pe_str (pa_cons pe_str (pa_cons pe_str pa_nil)))) (pe_c c__law_take hr (by omega) rfl (pa_cons (pv 1) (pa_cons pe_int pa_nil))) (fun _ _ => rfl))) pe_str) (pv 6)) pe_str) (pv 8)) pe_str))) (pss_one (ps_if (pt_cmpR op_eq (pv 7) pe_int (nomark _)) (pss_cons (ps_set (i := 5) sc__law_star_modules.nd rfl (Or.inl rfl) (pe_op op_add_str (pe_op op_add_str (pe_op op_add_str (pe_op op_add_str (pe_op op_add_str (pe_op op_add_str (pe_op op_add_str (pv 5) pe_str) (pe_ix ix_list (pe_lst (pa_cons pe_str (pa_cons pe_str (pa_cons pe_str pa_nil)))) (pe_c c__law_take hr (by omega) rfl (pa_cons (pv 1) (pa_cons pe_int pa_nil))) (fun _ _ => rfl))) pe_str) (pv 6)) pe_str) (pv 8)) pe_str))
  (pss_one (ps_set (i := 5) sc__law_star_modules.nd rfl (Or.inl rfl) (pe_op op_add_str (pe_op op_add_str (pe_op op_add_str (pe_op op_add_str (pe_op op_add_str (pv 5) pe_str) (pv 6)) pe_str) (pv 6)) pe_str)))) (pss_one (ps_if (pt_cmpR op_eq (pv 7) pe_int (nomark _)) (pss_one (ps_set (i := 5) sc__law_star_modules.nd rfl (Or.inl rfl) (pe_op op_add_str (pe_op op_add_str (pe_op op_add_str (pe_op op_add_str (pe_op op_add_str (pe_op op_add_str (pe_op op_add_str (pv 5) pe_str) (pv 6)) pe_str) (pv 8)) pe_str) (pv 6)) pe_str))) pss_nil)))))))))))
  (pss_cons (ps_for PassesOwn.never rfl (pi_range1 (by rfl) T.z_range (pa_cons (pe_c c__law_take hr (by omega) rfl (pa_cons (pv 1) (pa_cons pe_int pa_nil))) pa_nil)) (pg_name (i := 9) sc__law_star_modules.nd rfl (Or.inl rfl)) (pss_one (ps_set (i := 5) sc__law_star_modules.nd rfl (Or.inl rfl) (pe_op op_add_str (pe_op op_add_str (pe_op op_add_str (pv 5) pe_str) (pe_callTy call_str_int (by rfl) T.z_str (by decide +kernel) (pa_cons (pe_c c__law_take hr (by omega) rfl (pa_cons (pv 1) (pa_cons (pv 2) pa_nil))) pa_nil))) pe_str))))
  (pss_one (ps_dput hu (pv 3) (pe_op op_add_str pe_str (pe_callTy call_str_int (by rfl) T.z_str (by decide +kernel) (pa_cons (pv 4) pa_nil))) (pv 5) rfl))))))
  (pss_one (ps_ret (pv 3))))))), ?_⟩
  refine ⟨_, rfl, c, rfl, fun H1 d p ns s1 hd0 hp0 F1 => ?_⟩
  refine ⟨_, rfl, d, p, 0, ns, 5, rfl, by decide, F1, by omega, fun H2 v sx F2 hv => ⟨_, _, rfl, rfl, ?_⟩⟩
  have s2 : Same H H2 := same_of_X s1 hd0 sx
  have ec : ((2 : Int) + (v : Int)) = ((2 + v : Nat) : Int) := by omega
  show gName 2 (.int ((2 : Int) + (v : Int))) _ H2 _
  rw [ec]
  generalize hcnt : 2 + v = cnt
  have hc2 : 2 ≤ cnt := by omega
  have hc6 : cnt ≤ 6 := by omega
  clear ec hcnt
  intro D hD
  have hD0 : H D = none := s2.free hD
  have nDd : D ≠ d := (ne_of_none F2.hd hD).symm
  have nDp : D ≠ p := (ne_of_none F2.hp hD).symm
  refine ⟨_, rfl, (cnt : Int), rfl, by omega, by omega, ?_⟩
  refine for_range (lo := 0) (n := cnt) (fun k σ H' => ∃ (v4 v5 v6 v7 v8 v9 : Option V) (i : Nat) (kvs : List (L2.Key × V)) (pcs : Str → List Pc), σ = [some (.int c), some (.ref d), some (.int (cnt : Int)), some (.ref D), v4, v5, v6, v7, v8, v9] ∧ Same H H' ∧ Feed H' d p i ns ∧ i ≤ 1 + 20 * k ∧ H' D = some (.dK kvs) ∧ kvs.length ≤ k ∧
      (∀ j, j < k → ∃ z : Str, valV kvs (.inr (mN j)) = some (.str z) ∧ z.length ≤ 20000 ∧ Lex (tl z) ((pcs (mN j)).flatMap Pc.toks)) ∧ (∀ j, j < k → ∃ a b, b ≤ 20 ∧ MOk (namesOf cnt) (pcs (mN j)) a b))
    ⟨_, _, _, _, _, _, 1, [], fun _ => [], rfl, s2.trans (same_new hD _), F2.same (same_new hD _), by omega, upd_same, Nat.le_refl _, (fun j h => absurd h (Nat.not_lt_zero _)), (fun j h => absurd h (Nat.not_lt_zero _))⟩ ?_ ?_
  · rintro k σ H3 hk ⟨v4, v5, v6, v7, v8, v9, i, kvs, pcs, rfl, s3, F3, hi, e3, hkl, tx, mo⟩
    rw [Int.zero_add]
    refine ⟨sz 3, fun lc hlc => ⟨lc, rfl, ⟨_, SqL.of upd_same⟩, ?_⟩⟩
    have s4 := same_new hlc (.lst [.str "a", .str "b", .str "c"])
    have nld : lc ≠ d := (ne_of_none F3.hd hlc).symm
    have k6 : k < 6 := by omega
    refine for_list (K := K) (a := lc) (xs := [.str "a", .str "b", .str "c"]) (fun j σ H' => ∃ (z : Str) (ps : List Pc) (v6 v7 v8 v9 : Option V) (i' : Nat), σ = [some (.int c), some (.ref d), some (.int (cnt : Int)), some (.ref D), some (.int (k : Int)), some (.str z), v6, v7, v8, v9] ∧
        SameX d (upd H3 lc (.lst [.str "a", .str "b", .str "c"])) H' ∧ Feed H' d p i' ns ∧ i' ≤ i + 3 * j ∧ Tx1 z ps (200 * j) ∧ MOk (namesOf cnt) ps j (2 * j))
      ⟨"", [], _, _, _, _, i, rfl, SameX.refl _ _, F3.same s4, by omega, Tx1.nil, MOk.nil _⟩ (fun j σ H' _ ⟨_, _, _, _, _, _, _, _, x, _⟩ => SqL.of (x _ _ nld upd_same)) ?_ ?_
    · rintro j x σ H4 hx ⟨z, ps, u6, u7, u8, u9, i4, rfl, x4, F4, hi4, T4, M4⟩
      have hj : j < 3 := (List.getElem?_eq_some_iff.mp hx).1
      have ex : x = .str (aN j) := by rw [aN_at hj] at hx; exact (Option.some.inj hx).symm
      subst ex
      have zl : z.length ≤ 600 := Nat.le_trans T4.len (by omega)
      refine ⟨_, rfl, d, p, i4, ns, 6, rfl, by decide, F4, by omega, fun H5 pk x5 F5 hpk => ?_⟩
      refine ⟨_, rfl, _, rfl, d, p, i4 + 1, ns, cnt, rfl, by omega, F5, by omega, fun H6 v6 x6 F6 hv6 => ⟨(v6 : Int), rfl, log_small (by omega), _, _, rfl, rfl, szs (show ("m" : Str).length ≤ 50000 by decide +kernel) (Nat.le_trans (dg_len (v := v6) (by omega)) (by decide)), ?_⟩⟩
      show gName 8 (.str (("m" : Str) ++ dg v6)) _ H6 _
      rw [mN_eq v6 (by omega)]
      have x46 : SameX d (upd H3 lc (.lst [.str "a", .str "b", .str "c"])) H6 := (x4.trans x5).trans x6
      have m6 : mN v6 ∈ namesOf cnt := mN_mem hc6 hv6
      have hv66 : v6 < 6 := by omega
      have al := aN_len hj
      have dl : (Str.ofString (toString (k : Int))).length ≤ 10 := dg_len k6
      have c0 : ("export let " : Str).length ≤ 100 := by decide +kernel
      have c1 : (" = " : Str).length ≤ 100 := by decide +kernel
      have c2 : (";\n" : Str).length ≤ 100 := by decide +kernel
      have c3 : ("export { " : Str).length ≤ 100 := by decide +kernel
      have c4 : (" as " : Str).length ≤ 100 := by decide +kernel
      have c5 : (" } from \"" : Str).length ≤ 100 := by decide +kernel
      have c6 : ("\";\n" : Str).length ≤ 100 := by decide +kernel
      have c7 : ("import { " : Str).length ≤ 100 := by decide +kernel
      have c8 : (" as i" : Str).length ≤ 100 := by decide +kernel
      have c9 : ("export { i" : Str).length ≤ 100 := by decide +kernel
      have c10 : (" };\n" : Str).length ≤ 100 := by decide +kernel
      have c11 : ("import * as s" : Str).length ≤ 100 := by decide +kernel
      have c12 : (" from \"" : Str).length ≤ 100 := by decide +kernel
      have c13 : ("\"; let l" : Str).length ≤ 100 := by decide +kernel
      have c14 : (" = 1;\n" : Str).length ≤ 100 := by decide +kernel
      have ml := mN_len hv66
      refine ⟨_, rfl, rfl, _, rfl, ite2 (fun h0 => ?_) (fun h0 => ?_)⟩
      · refine ⟨_, rfl, _, _, rfl, rfl, sz _ (by first | omega | (simp only [lapp]; omega)), _, rfl, _, _, rfl, rfl, sz _ (by first | omega | (simp only [lapp]; omega)), _, _, rfl, rfl, sz _ (by first | omega | (simp only [lapp]; omega)), _, rfl, (k : Int), rfl, log_small k6, _, _, rfl, rfl, sz _ (by first | omega | (simp only [lapp]; omega)), _, _, rfl, rfl, sz _ (by first | omega | (simp only [lapp]; omega)), ?_⟩
        exact ⟨_, ps ++ [.elet (aN j) k], _, _, _, _, _, rfl, x46, F6, by omega, (Tx1.add T4 (by simp only [tl_app, List.append_assoc] <;> rfl) (good0 j hj k k6)).up (by omega), MOk.p0 hj M4⟩
      refine ⟨_, rfl, rfl, _, rfl, ite2 (fun h1 => ?_) (fun h1 => ?_)⟩
      · refine ⟨_, rfl, _, _, rfl, rfl, sz _ (by first | omega | (simp only [lapp]; omega)), sz 3, fun lc2 hlc2 => ?_⟩
        have s7 := same_new hlc2 (.lst [.str "a", .str "b", .str "c"])
        have nl2 : lc2 ≠ d := (ne_of_none F6.hd hlc2).symm
        refine ⟨_, rfl, d, p, i4 + 1 + 1, ns, 3, rfl, by decide, F6.same s7, by omega, fun H7 y x7 F7 hy => ⟨lc2, _, _, _, rfl, rfl, SqL.of (x7 _ _ nl2 upd_same), atI_nat (aN_at hy), ?_⟩⟩
        have al2 := aN_len hy
        have x47 := (x46.trans (SameX.of s7)).trans x7
        refine ⟨_, _, rfl, rfl, sz _ (by first | omega | (simp only [lapp]; omega)), _, _, rfl, rfl, sz _ (by first | omega | (simp only [lapp]; omega)), _, rfl, _, _, rfl, rfl, sz _ (by first | omega | (simp only [lapp]; omega)), _, _, rfl, rfl, sz _ (by first | omega | (simp only [lapp]; omega)), _, rfl, _, _, rfl, rfl, sz _ (by first | omega | (simp only [lapp]; omega)), _, _, rfl, rfl, sz _ (by first | omega | (simp only [lapp]; omega)), ?_⟩
        exact ⟨_, ps ++ [.frm (mN v6) (aN y) (aN j)], _, _, _, _, _, rfl, x47, F7, by omega, (Tx1.add T4 (by simp only [tl_app, List.append_assoc] <;> rfl) (good1 j hj y hy v6 hv66)).up (by omega), MOk.p1 hj hy M4 m6⟩
      refine ⟨_, rfl, rfl, _, rfl, ite2 (fun h2 => ?_) (fun h2 => ?_)⟩
      · refine ⟨_, rfl, _, _, rfl, rfl, sz _ (by first | omega | (simp only [lapp]; omega)), sz 3, fun lc2 hlc2 => ?_⟩
        have s7 := same_new hlc2 (.lst [.str "a", .str "b", .str "c"])
        have nl2 : lc2 ≠ d := (ne_of_none F6.hd hlc2).symm
        refine ⟨_, rfl, d, p, i4 + 1 + 1, ns, 3, rfl, by decide, F6.same s7, by omega, fun H7 y x7 F7 hy => ⟨lc2, _, _, _, rfl, rfl, SqL.of (x7 _ _ nl2 upd_same), atI_nat (aN_at hy), ?_⟩⟩
        have al2 := aN_len hy
        have x47 := (x46.trans (SameX.of s7)).trans x7
        refine ⟨_, _, rfl, rfl, sz _ (by first | omega | (simp only [lapp]; omega)), _, _, rfl, rfl, sz _ (by first | omega | (simp only [lapp]; omega)), _, rfl, _, _, rfl, rfl, sz _ (by first | omega | (simp only [lapp]; omega)), _, _, rfl, rfl, sz _ (by first | omega | (simp only [lapp]; omega)), _, rfl, _, _, rfl, rfl, sz _ (by first | omega | (simp only [lapp]; omega)), _, _, rfl, rfl, sz _ (by first | omega | (simp only [lapp]; omega)), ?_⟩
        refine ⟨_, rfl, _, _, rfl, rfl, sz _ (by first | omega | (simp only [lapp]; omega)), _, rfl, _, _, rfl, rfl, sz _ (by first | omega | (simp only [lapp]; omega)), _, _, rfl, rfl, sz _ (by first | omega | (simp only [lapp]; omega)), _, rfl, _, _, rfl, rfl, sz _ (by first | omega | (simp only [lapp]; omega)), _, _, rfl, rfl, sz _ (by first | omega | (simp only [lapp]; omega)), ?_⟩
        have Ta := Tx1.add (z' := z ++ "import { " ++ aN y ++ " as i" ++ aN j ++ " } from \"" ++ mN v6 ++ "\";\n") T4 (by simp only [tl_app, List.append_assoc] <;> rfl) (good2 j hj y hy v6 hv66)
        have Tb := Tx1.add (z' := z ++ "import { " ++ aN y ++ " as i" ++ aN j ++ " } from \"" ++ mN v6 ++ "\";\n" ++ "export { i" ++ aN j ++ " as " ++ aN j ++ " };\n") Ta (by simp only [tl_app, List.append_assoc] <;> rfl) (good2b j hj)
        rw [List.append_assoc] at Tb
        exact ⟨_, ps ++ [.imp (mN v6) (aN y) (iN j), .exp (iN j) (aN j)], _, _, _, _, _, rfl, x47, F7, by omega, Tb.up (by omega), MOk.p2 hj hy M4 m6⟩
      refine ⟨_, rfl, rfl, _, rfl, ite2 (fun h3 => ?_) (fun h3 => ?_)⟩
      · refine ⟨_, rfl, _, _, rfl, rfl, sz _ (by first | omega | (simp only [lapp]; omega)), _, rfl, _, _, rfl, rfl, sz _ (by first | omega | (simp only [lapp]; omega)), _, _, rfl, rfl, sz _ (by first | omega | (simp only [lapp]; omega)), _, rfl, _, _, rfl, rfl, sz _ (by first | omega | (simp only [lapp]; omega)), _, _, rfl, rfl, sz _ (by first | omega | (simp only [lapp]; omega)), _, rfl, _, _, rfl, rfl, sz _ (by first | omega | (simp only [lapp]; omega)), _, _, rfl, rfl, sz _ (by first | omega | (simp only [lapp]; omega)), ?_⟩
        exact ⟨_, ps ++ [.spc (mN v6) (sN j), .let_ (lN j) 1], _, _, _, _, _, rfl, x46, F6, by omega, (Tx1.add T4 (by simp only [tl_app, List.append_assoc] <;> rfl) (good3 j hj v6 hv66)).up (by omega), MOk.p3 hj M4 m6⟩
      · exact ⟨z, ps, _, _, _, _, _, rfl, x46, F6, by omega, T4.up (by omega), MOk.p9 hj M4⟩
    · rintro σ H4 ⟨z, ps, u6, u7, u8, u9, i4, rfl, x4, F4, hi4, T4, M4⟩
      have hi4 : i4 ≤ i + 9 := hi4
      have T4 : Tx1 z ps 600 := T4
      have M4 : MOk (namesOf cnt) ps 3 6 := M4
      refine ⟨_, rfl, d, p, i4, ns, 3, rfl, by decide, F4, by omega, fun H5 nst x5 F5 hn => ⟨(nst : Int), rfl, by omega, by omega, ?_⟩⟩
      refine for_range (lo := 0) (n := nst) (fun jj σ H' => ∃ (z : Str) (ps : List Pc) (v6 v7 v8 v9 : Option V) (i' : Nat), σ = [some (.int c), some (.ref d), some (.int (cnt : Int)), some (.ref D), some (.int (k : Int)), some (.str z), v6, v7, v8, v9] ∧
          SameX d (upd H3 lc (.lst [.str "a", .str "b", .str "c"])) H' ∧ Feed H' d p i' ns ∧ i' ≤ i + 10 + jj ∧ Tx1 z ps (600 + 100 * jj) ∧ MOk (namesOf cnt) ps 3 (6 + jj))
        ⟨z, ps, _, _, _, _, i4 + 1, rfl, x4.trans x5, F5, by omega, T4, M4⟩ ?_ ?_
      · rintro jj σ H6 hjj ⟨z, ps, u6, u7, u8, u9, i6, rfl, x6, F6, hi6, T6, M6⟩
        have zl : z.length ≤ 1000 := Nat.le_trans T6.len (by omega)
        have c1 : ("export * from \"m" : Str).length ≤ 100 := by decide +kernel
        have c2 : ("\";\n" : Str).length ≤ 100 := by decide +kernel
        refine ⟨_, rfl, _, _, rfl, rfl, sz _ (by first | omega | (simp only [lapp]; omega)), _, rfl, _, rfl, d, p, i6, ns, cnt, rfl, by omega, F6, by omega, fun H7 v7 x7 F7 hv7 => ?_⟩
        have dl : (Str.ofString (toString (v7 : Int))).length ≤ 10 := dg_len (v := v7) (by omega)
        refine ⟨(v7 : Int), rfl, log_small (by omega), _, _, rfl, rfl, sz _ (by first | omega | (simp only [lapp]; omega)), _, _, rfl, rfl, sz _ (by first | omega | (simp only [lapp]; omega)), ?_⟩
        exact ⟨_, ps ++ [.star (mN v7)], _, _, _, _, _, rfl, x6.trans x7, F7, by omega, (Tx1.add T6 (by simp only [tl_app, List.append_assoc] <;> rfl) (good4 v7 (by omega))).up (by omega), MOk.star (mN_mem hc6 hv7) M6⟩
      · rintro σ H6 ⟨z, ps, u6, u7, u8, u9, i6, rfl, x6, F6, hi6, T6, M6⟩
        have eD : H6 D = some (.dK kvs) := x6 _ _ nDd (s4 _ _ e3)
        have s6 : Same H H6 := same_of_X (s3.trans s4) hd0 x6
        refine ⟨_, rfl, _, rfl, _, rfl, (k : Int), rfl, log_small k6, _, _, rfl, rfl, szs (show ("m" : Str).length ≤ 50000 by decide +kernel) (Nat.le_trans (dg_len k6) (by decide)), ?_⟩
        refine ⟨D, _, rfl, DPut.k (k := Sum.inr (("m" : Str) ++ dg k)) eD (szl (by omega)), ?_⟩
        rw [mN_eq k k6]
        have hv : ∀ j, j < k → valV (putK kvs (Sum.inr (mN k)) (.str z)) (.inr (mN j)) = valV kvs (.inr (mN j)) := fun j hj => by
          rw [valV_put, if_neg fun e => ?_]
          have := mN_inj (by omega) k6 (Sum.inr.inj e)
          omega
        have hpc : ∀ j, j < k → (fun n => if n = mN k then ps else pcs n) (mN j) = pcs (mN j) := fun j hj => if_neg fun e => by
          have := mN_inj (by omega) k6 e
          omega
        refine ⟨_, _, _, _, _, _, i6, putK kvs (Sum.inr (mN k)) (.str z), (fun n => if n = mN k then ps else pcs n), rfl, Fz.Same.mut s6 hD0, ⟨by rw [upd_ne nDd.symm]; exact F6.hd, by rw [upd_ne nDp.symm]; exact F6.hp, F6.n60⟩, by omega, upd_same, ?_, fun j hj => ?_, fun j hj => ?_⟩
        · have := putK_len kvs (Sum.inr (mN k)) (.str z)
          omega
        · by_cases e : j = k
          · subst e
            refine ⟨z, by rw [valV_put, if_pos rfl], Nat.le_trans T6.len (by omega), ?_⟩
            rw [show (fun n => if n = mN j then ps else pcs n) (mN j) = ps from if_pos rfl]
            exact T6.lx
          · have hj : j < k := by omega
            rw [hv j hj, hpc j hj]
            exact tx j hj
        · by_cases e : j = k
          · subst e
            rw [show (fun n => if n = mN j then ps else pcs n) (mN j) = ps from if_pos rfl]
            exact ⟨3, 6 + nst, by omega, M6⟩
          · have hj : j < k := by omega
            rw [hpc j hj]
            exact mo j hj
  · rintro σ H3 ⟨v4, v5, v6, v7, v8, v9, i, kvs, pcs, rfl, s3, F3, hi, e3, hkl, tx, mo⟩
    have mo2 : ∀ n ∈ namesOf cnt, ∃ a b, b ≤ 20 ∧ MOk (namesOf cnt) (pcs n) a b := fun n hn => by
      obtain ⟨j, hj, rfl⟩ := mem_mN hc6 hn
      exact mo j hj
    have lt6 : ∀ n ∈ namesOf cnt, ∃ j, j < 6 ∧ n = mN j := fun n hn => by
      obtain ⟨j, hj, rfl⟩ := mem_mN hc6 hn
      exact ⟨j, by omega, rfl⟩
    refine ⟨_, rfl, q H3 D kvs pcs (namesOf cnt) s3 hD0 e3 ⟨?_, fun n hn => ?_, fun n hn => ?_, fun n hn => ?_, fun n hn => ?_, fun n hn => ?_, fun n hn => ?_⟩ (fun n hn => ?_) (mN_mem (v := 0) hc6 (by omega)) (fun n hn => ?_)⟩
    · unfold namesOf
      rw [List.length_take]
      exact Nat.le_trans (Nat.min_le_left _ _) hc6
    · obtain ⟨j, hj, rfl⟩ := lt6 n hn
      exact mN_ok hj
    · obtain ⟨a, b, hb, M⟩ := mo2 n hn
      exact Nat.le_trans M.pl (by omega)
    · obtain ⟨a, b, hb, M⟩ := mo2 n hn
      exact Nat.le_trans M.il (by omega)
    · obtain ⟨a, b, hb, M⟩ := mo2 n hn
      exact M.ok
    · obtain ⟨a, b, hb, M⟩ := mo2 n hn
      exact M.td
    · obtain ⟨a, b, hb, M⟩ := mo2 n hn
      exact M.nd
    · obtain ⟨j, hj, rfl⟩ := mem_mN hc6 hn
      exact tx j hj
    · obtain ⟨a, b, hb, M⟩ := mo2 n hn
      exact ⟨M.us, M.ui⟩
end
end Fz
set_option Elab.async false
set_option linter.all false
set_option maxRecDepth 100000
set_option maxHeartbeats 4000000
namespace Fz
open PySem PyProof.Rows L2
open C8 (Cal Met Mak pe_c pe_mk pe_mt pe_mt0 pe_gc)
/-! ## lists of texts as data -/
def sD (xs : List Str) : PyData := .list (xs.map PyData.str)
theorem strs_dp {K : PySem.W.Frag} {H : Hp} : ∀ xs : List Str, DpAll K H (xs.map V.str) (xs.map PyData.str)
  | [] => .nil
  | x :: r => .cons (.str x) (strs_dp r)
theorem strs_lay : ∀ xs : List Str, (∀ x ∈ xs, OkS x) → PyData.canLayAll0 (xs.map PyData.str) = true
  | [], _ => by simp [PyData.canLayAll0]
  | x :: r, h => by
    have h1 : PyData.strOk x = true := h x List.mem_cons_self
    simp [PyData.canLayAll0, PyData.canLay0, h1, strs_lay r fun y hy => h y (List.mem_cons_of_mem _ hy)]
theorem strs_depth : ∀ xs : List Str, PyData.depthAll (xs.map PyData.str) ≤ 1
  | [] => by simp [PyData.depthAll]
  | x :: r => by
    have h := strs_depth r
    have h1 : PyData.depth (.str x) ≤ 1 := by simp [PyData.depth]
    simp only [List.map_cons, PyData.depthAll]
    omega
theorem sD_shaped {xs : List Str} (h : ∀ x ∈ xs, OkS x) : SeqAt.shaped (sD xs) = true := by
  have h1 := strs_depth xs
  have h2 : PyData.depth (sD xs) ≤ 64 := by
    simp only [sD, PyData.depth]
    omega
  show (PyData.canLay0 (sD xs) && decide (PyData.depth (sD xs) ≤ 64)) = true
  rw [Bool.and_eq_true]
  exact ⟨by simp only [sD, PyData.canLay0]; exact strs_lay xs h, decide_eq_true h2⟩
theorem strs_eqv : ∀ xs : List Str, PyData.eqvAll (xs.map PyData.str) (xs.map PyData.str) = true
  | [] => by simp [PyData.eqvAll]
  | x :: r => by
    simp only [List.map_cons, PyData.eqvAll, PyData.eqv, strs_eqv r, Bool.and_true]
    exact beq_self_eq_true x
theorem sD_eqv (xs : List Str) : PyData.eqv (sD xs) (sD xs) = true := by
  simp only [sD, PyData.eqv]
  exact strs_eqv xs
/-! ## what is asked in vain -/
theorem res_no {M : Str → List Item} {names : List Str} (wf : WF M names) {m w : Str} (hm : m ∈ names) (hw : w ∉ TOLD) : res M m w = .no := by
  by_cases h : res M m w = .no
  · exact h
  · exact absurd (res_told (s := names) (f := TOLD) (fun x hx it hi => ⟨fun y e => wf.td x hx it hi y e, fun m' e => by
      have := wf.ok x hx it hi
      rw [e] at this
      exact this⟩) hm h) hw
theorem due_eq {M : Str → List Item} {names : List Str} (wf : WF M names) {m : Str} (hm : m ∈ names) : WORDS.filter (okE M m) = TOLD.filter (okE M m) := by
  have no : ∀ w, w ∉ TOLD → okE M m w = false := fun w hw => by unfold okE; rw [res_no wf hm hw]; rfl
  have e : WORDS = TOLD ++ (["ia", "la", "zz"] : List Str) := rfl
  rw [e, List.filter_append, List.filter_cons_of_neg (by rw [no _ (by decide +kernel)]; decide), List.filter_cons_of_neg (by rw [no _ (by decide +kernel)]; decide), List.filter_cons_of_neg (by rw [no _ (by decide +kernel)]; decide), List.filter_nil, List.append_nil]
theorem res_ok {M : Str → List Item} {names : List Str} (wf : WF M names) {m w : Str} (hm : m ∈ names) (hw : w ∈ WORDS) : OkA (res M m w) := by
  have h := ok_of (srch_ok wf 40 m w [] hm hw)
  unfold res
  cases e : (srch M 40 m w []).1 with
  | no => trivial
  | two => trivial
  | one a b => rw [e] at h; exact h
theorem decl_ok {M : Str → List Item} {names : List Str} (wf : WF M names) {m : Str} (hm : m ∈ names) : ∀ x ∈ decl (M m), OkS x := fun x hx => by
  obtain ⟨k, hk⟩ := decl_mem hx
  exact wf.ok m hm _ hk
theorem words_at {j : Nat} {x : V} (h : ([.str "a", .str "b", .str "c", .str "ia", .str "la", .str "zz"] : List V)[j]? = some x) : ∃ y, WORDS[j]? = some y ∧ x = .str y := by
  have e : ([.str "a", .str "b", .str "c", .str "ia", .str "la", .str "zz"] : List V) = WORDS.map V.str := rfl
  rw [e, List.getElem?_map] at h
  obtain ⟨y, h1, h2⟩ := Option.map_eq_some_iff.mp h
  exact ⟨y, h1, h2.symm⟩
theorem world_merge (x : V) : mergeK [] [(kI, x)] = [(kI, x)] := by
  show putK [] kI x = _
  rw [putK_new _ (valV_nil)]
  rfl
section
variable {P : Program} {w : World} {K : PySem.W.Frag} {mg : Str → Option Value} {base : Heap}
def spLaw (K : PySem.W.Frag) : Sp := fun vs H Q _ => ∃ (a : Addr) (ns : List Int), vs = [.ref a] ∧ SqL K H a (ns.map V.int) ∧ ∀ H', Q (.bl true) H'
theorem ok_law (T : Tx K mg w) {f : Addr} {fd : FuncData} (F : Fun K "law" "law" s_law f fd) : FnOk P w K mg base CX0 84 f fd ["_law_script"] (spLaw K) := by
  have c__law_star_modules : Cal P w K mg base 3 "_law_star_modules" spStarM [] := c__law_star_modules T
  have c__law_cell : Cal P w K mg base 1 "_law_cell" (spCell K) [] := c__law_cell T
  have c_Graph : Mak P w K mg base 22 "Graph" (He.ga K "Graph") (spGraph K) [] := c_Graph T
  have c_Graph_order : Met P w K mg base 1 (He.ga K "Graph") "order" (spOrder (K := K)) [] := c_Graph_order T
  have c_Graph_module_items : Met P w K mg base 1 (He.ga K "Graph") "module_items" (spModItems (K := K)) [] := c_Graph_module_items T
  have c_Graph_resolve : Met P w K mg base 82 (He.ga K "Graph") "resolve" (spResolve K) [] := c_Graph_resolve T
  have c_Graph_exports : Met P w K mg base 83 (He.ga K "Graph") "exports" (spExports K) [] := c_Graph_exports T
  have c_Graph_declared : Met P w K mg base 1 (He.ga K "Graph") "declared" (spDeclared (K := K)) [] := c_Graph_declared T
  have c_Graph_spaces : Met P w K mg base 1 (He.ga K "Graph") "spaces" (spSpaces (K := K)) [] := c_Graph_spaces T
  have c_Graph_imported : Met P w K mg base 1 (He.ga K "Graph") "imported" (spImported (K := K)) [] := c_Graph_imported T
  have c__law_resolve : Cal P w K mg base 82 "_law_resolve" spLResolve [] := c__law_resolve T
  refine F.ok sc_law (fun vs H Q E h => ?_) (fun cdv A outer s H vs Q E hr h => ?_)
  · obtain ⟨_, _, rfl, _⟩ := h; rfl
  obtain ⟨a, ns, rfl, hS, q⟩ := h
  have hu := hu_of hr
  refine ⟨_, (pss_cons (ps_set (i := 1) sc_law.nd rfl (Or.inl rfl) (pe_c c__law_star_modules hr (by omega) rfl (pa_cons (pe_c c__law_cell hr (by omega) rfl (pa_cons (pv 0) (pa_cons pe_int pa_nil))) pa_nil)))
  (pss_cons (ps_set (i := 2) sc_law.nd rfl (Or.inl rfl) (pe_mk c_Graph hr (by omega) rfl (pa_cons (pv 1) (pa_cons pe_str pa_nil))))
  (pss_cons (ps_set (i := 3) sc_law.nd rfl (Or.inl rfl) pe_dnewK)
  (pss_cons (ps_for PassesOwn.never rfl (pi_list (pe_mt0 c_Graph_order hr (by omega) (pv 2))) (pg_name (i := 4) sc_law.nd rfl (Or.inl rfl)) (pss_one (ps_dput hu (pv 3) (pv 4) (pe_mt c_Graph_module_items hr (by omega) (pv 2) (pa_cons (pv 4) pa_nil)) rfl)))
  (pss_cons (ps_set (i := 5) sc_law.nd rfl (Or.inl rfl) (pe_disp (pps_cons pe_str (pv 3) pps_nil) (by rfl) (by rfl) (fun z => by cases z) (by decide)))
  (pss_cons (ps_for PassesOwn.never rfl (pi_list (pe_mt0 c_Graph_order hr (by omega) (pv 2))) (pg_name (i := 6) sc_law.nd rfl (Or.inl rfl)) (pss_cons (ps_set (i := 7) sc_law.nd rfl (Or.inl rfl) (pe_lst pa_nil))
  (pss_cons (ps_for PassesOwn.never rfl (pi_list (pe_lst (pa_cons pe_str (pa_cons pe_str (pa_cons pe_str (pa_cons pe_str (pa_cons pe_str (pa_cons pe_str pa_nil)))))))) (pg_name (i := 4) sc_law.nd rfl (Or.inl rfl)) (pss_cons (ps_set (i := 8) sc_law.nd rfl (Or.inl rfl) (pe_c c__law_resolve hr (by omega) rfl (pa_cons (pv 5) (pa_cons (pv 6) (pa_cons (pv 4) pa_nil)))))
  (pss_cons (ps_if (pt_cmpR (op_neD (hu64_of hr)) (pe_mt c_Graph_resolve hr (by omega) (pv 2) (pa_cons (pv 6) (pa_cons (pv 4) pa_nil))) (pv 8) (nomark _)) (pss_one (ps_ret pe_bl)) pss_nil)
  (pss_one (ps_if (pt_cmpR op_notN (pv 8) pe_non (nomark _)) (pss_one (ps_expr (pe_bm PySem.F.plainAttrs_list PySem.F.slot_list_append PySem.F.type_list_append mt_append (pv 7) (pa_cons (pv 4) pa_nil)))) pss_nil)))))
  (pss_cons (ps_if (pt_cmpR (op_neD (hu64_of hr)) (pe_mt c_Graph_exports hr (by omega) (pv 2) (pa_cons (pv 6) pa_nil)) (pv 7) (nomark _)) (pss_one (ps_ret pe_bl)) pss_nil)
  (pss_cons (ps_if (pt_cmpR (op_neD (hu64_of hr)) (pe_mt c_Graph_declared hr (by omega) (pv 2) (pa_cons (pv 6) pa_nil)) (pe_lc (own := [("_law_item", 9)]) (by rfl) sc_law.nd (pi_list (pe_dget hu (pv 3) (pv 6) (fun _ _ => rfl))) (blkOk_by (own := [("_law_item", 9)]) (N := ["_law_script", "_law_modules", "_law_graph", "_law_items", "_law_name", "_law_world", "_law_module", "_law_due", "_law_one", "_law_item", "_law_spaces", "_law_imported"]) (sc := defScope s_law) (by decide +kernel)) (fun _ _ _ _ _ => (pg_name (i := 9) sc_law.nd rfl (Or.inl rfl))) (fun _ _ _ _ _ => (pts_one (pt_cmpR (r := rIn K false) op_in_seq (pe_ix (r := rIxT K) ix_tup (pv 9) pe_int (fun _ _ => rfl)) (pe_lst (pa_cons pe_str (pa_cons pe_str pa_nil))) (by rfl)))) (fun _ _ _ _ _ => (pe_ix (r := rIxT K) ix_tup (pv 9) pe_int (fun _ _ => rfl)))) (nomark _)) (pss_one (ps_ret pe_bl)) pss_nil)
  (pss_cons (ps_set (i := 10) sc_law.nd rfl (Or.inl rfl) (pe_mt c_Graph_spaces hr (by omega) (pv 2) (pa_cons (pv 6) pa_nil)))
  (pss_cons (ps_set (i := 11) sc_law.nd rfl (Or.inl rfl) (pe_mt c_Graph_imported hr (by omega) (pv 2) (pa_cons (pv 6) pa_nil)))
  (pss_one (ps_for PassesOwn.never rfl (pi_list (pe_dget hu (pv 3) (pv 6) (fun _ _ => rfl))) (pg_name (i := 9) sc_law.nd rfl (Or.inl rfl)) (pss_cons (ps_if (PW.pt (pw_and (pt_cmpR op_eq (pe_ix ix_tup (pv 9) pe_int (fun _ _ => rfl)) pe_str (nomark _)) (pw_and1 (pt_cmpR op_ne (pe_dget hu (pv 10) (pe_ix ix_tup (pv 9) pe_int (fun _ _ => rfl)) (fun _ _ => rfl)) (pe_ix ix_tup (pv 9) pe_int (fun _ _ => rfl)) (nomark _))))) (pss_one (ps_ret pe_bl)) pss_nil)
  (pss_one (ps_if (PW.pt (pw_and (pt_cmpR op_eq (pe_ix ix_tup (pv 9) pe_int (fun _ _ => rfl)) pe_str (nomark _)) (pw_and1 (pt_cmpR (op_neD (hu64_of hr)) (pe_dget hu (pv 11) (pe_ix ix_tup (pe_ix ix_tup (pe_ix ix_tup (pv 9) pe_int (fun _ _ => rfl)) pe_int (fun _ _ => rfl)) pe_int (fun _ _ => rfl)) (fun _ _ => rfl)) (pe_tup (pa_cons (pe_ix ix_tup (pv 9) pe_int (fun _ _ => rfl)) (pa_cons (pe_ix ix_tup (pe_ix ix_tup (pe_ix ix_tup (pv 9) pe_int (fun _ _ => rfl)) pe_int (fun _ _ => rfl)) pe_int (fun _ _ => rfl)) pa_nil))) (nomark _))))) (pss_one (ps_ret pe_bl)) pss_nil))))))))))))
  (pss_one (ps_ret pe_bl)))))))), ?_⟩
  refine ⟨_, rfl, a, ns, rfl, hS, fun n => ⟨n, rfl, fun H1 d tkvs pcs names s1 hd0 hd md tx hm0 un => ?_⟩⟩
  refine ⟨_, rfl, fun r dx hr0 hdx nex => ?_⟩
  have ndr : d ≠ r := ne_of_none hd hr0
  have ndx : d ≠ dx := ne_of_none hd hdx
  refine ⟨_, dx, r, d, tkvs, pcs, names, "m0", rfl, upd_same, rfl, by rw [upd_ne ndr, upd_ne ndx]; exact hd, md, tx, hm0, fun H2 nm os sx G hsub hos => ⟨rfl, ?_⟩⟩
  intro I hI
  have un2 : ∀ n ∈ nm, ((itemsOf pcs n).filterMap spcN).Nodup ∧ ((itemsOf pcs n).filterMap impN).Nodup := fun n hn => un n (hsub n hn)
  clear sx hr0 hdx nex ndr ndx un hm0 md tx hd hsub s1 hd0
  generalize itemsOf pcs = M at G un2
  obtain ⟨gdx, en, td, id, ol, hg, ho⟩ := G.o
  have sI := same_new hI (.dK [])
  have hos1 : ∀ x ∈ os, x ∈ nm := fun x hx => (G.on x).mp hx
  have ho : H2 ol = some (.lst (os.map V.str)) := ho
  refine ⟨_, rfl, r, gdx, _, rfl, sI _ _ hg, gf_no (by decide +kernel), r, gdx, en, td, id, ol, os.map V.str, rfl, sI _ _ hg, sI _ _ ho, fun p hp => ⟨p, rfl, ⟨_, SqL.of upd_same⟩, ?_⟩⟩
  have sp := sI.trans (same_new hp (.lst (os.map V.str)))
  have eI : upd (upd H2 I (.dK [])) p (.lst (os.map V.str)) I = some (.dK []) := same_new hp _ _ _ upd_same
  have nIp : I ≠ p := ne_of_none upd_same hp
  have ep : upd (upd H2 I (.dK [])) p (.lst (os.map V.str)) p = some (.lst (os.map V.str)) := upd_same
  generalize upd (upd H2 I (.dK [])) p (.lst (os.map V.str)) = H3 at sp eI ep ⊢
  have keepI : ∀ {H H' : Hp} {kvs : List (L2.Key × V)}, H I = some (.dK kvs) → SameX I H H' → KeepT H H' := fun h x b xs hb => x b _ (ne_of hb h (by intro z; cases z)) hb
  refine for_list (K := K) (a := p) (xs := os.map V.str) (fun i σ H' => ∃ (v4 v5 v6 v7 v8 v9 v10 v11 : Option V) (kvs : List (L2.Key × V)), σ = [some (.ref a), some (.ref d), some (.ref r), some (.ref I), v4, v5, v6, v7, v8, v9, v10, v11] ∧ Same H2 H' ∧ H' p = some (.lst (os.map V.str)) ∧ H' I = some (.dK kvs) ∧ kvs.length ≤ i ∧
      ∀ x ∈ os.take i, ∃ l, valV kvs (.inr x) = some (.ref l) ∧ l ≠ I ∧ ItemsAt H' l (M x))
    ⟨_, _, _, _, _, _, _, _, [], rfl, sp, ep, eI, Nat.le_refl _, (fun x h => nomatch h)⟩ (fun i σ H' _ ⟨_, _, _, _, _, _, _, _, _, _, _, h, _⟩ => SqL.of h) ?_ ?_
  · rintro i x σ H4 hx ⟨v4, v5, v6, v7, v8, v9, v10, v11, kvs, rfl, s4, p4, e4, hkl, hit⟩
    rw [List.getElem?_map] at hx
    obtain ⟨x, hx0, rfl⟩ := Option.map_eq_some_iff.mp hx
    have hlt : i < os.length := (List.getElem?_eq_some_iff.mp hx0).1
    have hxn := hos1 x (List.mem_of_getElem? hx0)
    have G4 := G.G.same s4
    refine ⟨_, rfl, r, gdx, _, rfl, s4 _ _ hg, gf_no (by decide +kernel), _, rfl, r, x, M, nm, rfl, G4.G, hxn, fun l us hl hul => ?_⟩
    have sl := same_new hl (.lst us)
    have nlI : l ≠ I := (ne_of_none e4 hl).symm
    have npl : p ≠ l := ne_of_none p4 hl
    refine ⟨_, rfl, _, rfl, I, _, rfl, DPut.k (k := Sum.inr x) (sl _ _ e4) (szl (by omega)), ?_⟩
    have xI : SameX I H4 (upd (upd H4 l (.lst us)) I (.dK (putK kvs (Sum.inr x) (.ref l)))) := (SameX.of sl).trans SameX.upd
    have kt := keepI e4 xI
    refine ⟨_, _, _, _, _, _, _, _, putK kvs (Sum.inr x) (.ref l), rfl, Fz.Same.mut (s4.trans sl) hI, xI _ _ nIp.symm p4, upd_same, ?_, fun y hy => ?_⟩
    · have := putK_len kvs (Sum.inr x) (.ref l)
      omega
    · rw [valV_put]
      by_cases e : y = x
      · rw [if_pos (by rw [e]), e]
        exact ⟨l, rfl, nlI, us, by rw [upd_ne nlI]; exact upd_same, ItemL.keep kt hul⟩
      · rw [if_neg fun z => e (Sum.inr.inj z)]
        rw [take_snoc hx0] at hy
        have hy : y ∈ os.take i := (List.mem_append.mp hy).elim (fun z => z) fun z => absurd (List.mem_singleton.mp z) e
        obtain ⟨l2, h1, h2, us2, h3, h4⟩ := hit y hy
        exact ⟨l2, h1, h2, us2, xI _ _ h2 h3, ItemL.keep kt h4⟩
  rintro σ H4 ⟨v4, v5, v6, v7, v8, v9, v10, v11, kvs, rfl, s4, p4, e4, hkl, hit⟩
  rw [List.length_map, List.take_length] at hit
  intro wa hwa
  have swa := same_new hwa (.dK [])
  have nIw : I ≠ wa := ne_of_none e4 hwa
  refine ⟨_, rfl, upd_same, [(kI, .ref I)], rfl, (show 1 ≤ 15 by decide), ?_⟩
  rw [world_merge]
  have s5 : Same H4 (upd (upd H4 wa (.dK [])) wa (.dK [(kI, .ref I)])) := Fz.Same.mut swa hwa
  have ew : upd (upd H4 wa (.dK [])) wa (.dK [(kI, .ref I)]) wa = some (.dK [(kI, .ref I)]) := upd_same
  generalize upd (upd H4 wa (.dK [])) wa (.dK [(kI, .ref I)]) = H5 at s5 ew ⊢
  have e5 := s5 _ _ e4
  have hIt : ItemsD H5 kvs M nm := fun x hx => by
    obtain ⟨l, h1, _, h3⟩ := hit x ((G.on x).mpr hx)
    exact ⟨l, h1, h3.same s5⟩
  have W : Wd H5 wa M nm := ⟨I, kvs, ew, e5, hIt⟩
  have G5 := G.G.same (s4.trans s5)
  have hg5 := (s4.trans s5) _ _ hg
  have ho5 := (s4.trans s5) _ _ ho
  clear hit s4 p4 e4 hkl swa nIw ew hI sI sp eI ep nIp s5
  refine ⟨_, rfl, r, gdx, _, rfl, hg5, gf_no (by decide +kernel), r, gdx, en, td, id, ol, os.map V.str, rfl, hg5, ho5, fun p2 hp2 => ⟨p2, rfl, ⟨_, SqL.of upd_same⟩, ?_⟩⟩
  have s6 := same_new hp2 (.lst (os.map V.str))
  refine for_list (K := K) (a := p2) (xs := os.map V.str) (fun i σ H' => ∃ (v4 v6 v7 v8 v9 v10 v11 : Option V), σ = [some (.ref a), some (.ref d), some (.ref r), some (.ref I), v4, some (.ref wa), v6, v7, v8, v9, v10, v11] ∧ Same H5 H' ∧ H' p2 = some (.lst (os.map V.str)))
    ⟨_, _, _, _, _, _, _, rfl, s6, upd_same⟩ (fun i σ H' _ ⟨_, _, _, _, _, _, _, _, _, h⟩ => SqL.of h) ?_ ?_
  · rintro i x σ H6 hx ⟨v4, v6, v7, v8, v9, v10, v11, rfl, s6, p6⟩
    rw [List.getElem?_map] at hx
    obtain ⟨m, hx0, rfl⟩ := Option.map_eq_some_iff.mp hx
    have hm := hos1 m (List.mem_of_getElem? hx0)
    have wf := G5.wf
    refine ⟨sz 0, fun du hdu => ?_⟩
    refine ⟨sz 6, fun lw hlw => ⟨lw, rfl, ⟨_, SqL.of upd_same⟩, ?_⟩⟩
    have sdu := same_new hdu (.lst [])
    have slw := same_new hlw (.lst [.str "a", .str "b", .str "c", .str "ia", .str "la", .str "zz"])
    have ndl : du ≠ lw := ne_of_none upd_same hlw
    refine for_list (K := K) (a := lw) (xs := [.str "a", .str "b", .str "c", .str "ia", .str "la", .str "zz"]) (fun j σ H' => ∃ (v4 v8 v9 v10 v11 : Option V), σ = [some (.ref a), some (.ref d), some (.ref r), some (.ref I), v4, some (.ref wa), some (.str m), some (.ref du), v8, v9, v10, v11] ∧ Same H6 H' ∧
        H' lw = some (.lst [.str "a", .str "b", .str "c", .str "ia", .str "la", .str "zz"]) ∧ H' du = some (.lst (((WORDS.take j).filter (okE M m)).map V.str)))
      ⟨_, _, _, _, _, rfl, sdu.trans slw, upd_same, slw _ _ upd_same⟩ (fun j σ H' _ ⟨_, _, _, _, _, _, _, h, _⟩ => SqL.of h) ?_ ?_
    · rintro j x σ H7 hx ⟨v4, v8, v9, v10, v11, rfl, s7, l7, d7⟩
      obtain ⟨wd, hwj, rfl⟩ := words_at hx
      have hwd := List.mem_of_getElem? hwj
      have W7 : WdS M nm H7 wa := ⟨W.same (s6.trans s7), wf, G5.few⟩
      refine ⟨_, rfl, _, rfl, _, rfl, wa, M, nm, m, wd, rfl, W7, hm, hwd, fun H8 v s8 an => ?_⟩
      have s68 := (s6.trans s7).trans s8
      refine ⟨_, rfl, r, gdx, _, rfl, s68 _ _ hg5, gf_no (by decide +kernel), _, rfl, _, rfl, r, M, nm, m, wd, rfl, G5.same s68, hm, hwd, fun H9 v2 s9 an2 => ?_⟩
      have an9 : AnsAt H9 v (res M m wd) := an.keep (KeepT.of s9)
      have okr := res_ok wf hm hwd
      refine ⟨_, rfl, ansD (res M m wd), ansD (res M m wd), an2.dp, an9.dp, ansD_shaped okr, ansD_shaped okr, _, rfl, if_F (by rw [ansD_eqv, decide_eq_true rfl]; rfl) ?_⟩
      refine ⟨_, rfl, rfl, _, rfl, ?_⟩
      rw [ansAt_non an9]
      have s79 := s8.trans s9
      have d9 := s79 _ _ d7
      rw [take_snoc hwj, List.filter_append]
      have hwl : ((WORDS.take j).filter (okE M m)).length ≤ 6 := by
        have h1 := List.length_filter_le (okE M m) (WORDS.take j)
        have h2 : (WORDS.take j).length ≤ WORDS.length := by rw [List.length_take]; exact Nat.min_le_right _ _
        have h3 : WORDS.length = 6 := rfl
        omega
      refine ite2 (fun hk => ?_) (fun hk => ?_)
      · have hk : okE M m wd = true := hk
        refine ⟨_, rfl, .inl ⟨rfl, _, SqL.of d9⟩, _, rfl, du, _, _, rfl, rfl, d9, szl (by rw [List.length_map]; omega), ?_⟩
        refine ⟨_, _, _, _, _, rfl, Fz.Same.mut (s7.trans s79) hdu, by rw [upd_ne ndl.symm]; exact s79 _ _ l7, ?_⟩
        rw [upd_same, List.filter_cons_of_pos hk, List.filter_nil, List.map_append]
        rfl
      · have hk : ¬ okE M m wd = true := hk
        refine ⟨_, _, _, _, _, rfl, s7.trans s79, s79 _ _ l7, ?_⟩
        rw [List.filter_cons_of_neg hk, List.filter_nil, List.append_nil]
        exact d9
    · rintro σ H7 ⟨v4, v8, v9, v10, v11, rfl, s7, l7, d7⟩
      have d7 : H7 du = some (.lst ((WORDS.filter (okE M m)).map V.str)) := d7
      rw [due_eq wf hm] at d7
      have s57 := s6.trans s7
      refine ⟨_, rfl, r, gdx, _, rfl, s57 _ _ hg5, gf_no (by decide +kernel), _, rfl, r, M, nm, m, rfl, G5.same s57, hm, fun H8 pe s8 hpe0 hpe => ?_⟩
      have dOk : ∀ x ∈ TOLD.filter (okE M m), OkS x := fun x hx => words_ok _ (told_words _ (List.mem_filter.mp hx).1)
      refine ⟨_, rfl, sD (TOLD.filter (okE M m)), sD (TOLD.filter (okE M m)), .lst (SqL.of hpe) (strs_dp _), .lst (SqL.of (s8 _ _ d7)) (strs_dp _), sD_shaped dOk, sD_shaped dOk, _, rfl, if_F (by rw [sD_eqv]; rfl) ?_⟩
      have s58 := s57.trans s8
      obtain ⟨l, hlv, us, hl5, hul5⟩ := hIt m hm
      have hlen := Paired.len (show Paired _ us (M m) from hul5)
      have hml := wf.len m hm
      -- declared
      refine ⟨_, rfl, r, gdx, _, rfl, s58 _ _ hg5, gf_no (by decide +kernel), _, rfl, r, m, M, nm, rfl, (G5.same s58).G, hm, by omega, fun H9 pd s9 hpd0 hpd => ?_⟩
      have s59 := s58.trans s9
      refine ⟨_, rfl, _, rfl, I, _, rfl, hlv ▸ DGet.k (k := Sum.inr m) (s59 _ _ e5), l, rfl, ⟨us, SqL.of (s59 _ _ hl5)⟩, fun D hD => ?_⟩
      refine lc_list (K := K) (a := l) (xs := us) (fun i H' => Same H9 H' ∧ H' D = some (.lst ((decl ((M m).take i)).map V.str)) ∧ (decl ((M m).take i)).length ≤ i) ⟨same_new hD _, upd_same, Nat.le_refl _⟩ (fun i H' _ ⟨s10, _⟩ => SqL.of ((s59.trans s10) _ _ hl5)) ?_ ?_
      · rintro i y H10 hy ⟨s10, e10, z10⟩
        obtain ⟨hlt, _⟩ := List.getElem?_eq_some_iff.mp hy
        obtain ⟨it, hit, hi⟩ := ItemL.get (ItemL.keep (KeepT.of (s59.trans s10)) hul5) hy
        rw [take_snoc hit, decl_snoc]
        obtain ⟨t, more, rfl, ht⟩ := hi.head
        have hl100 : i ≤ 100 := by omega
        refine ⟨rfl, _, rfl, t, _, 0, _, rfl, rfl, SqT.of ht, at0, sz 2, fun c hc => ?_⟩
        have sc := same_new hc (.lst [.str "let", .str "fun"])
        have ncD : D ≠ c := ne_of_none e10 hc
        by_cases hk : ∃ y k, it = .ltI y k
        · obtain ⟨y, k, rfl⟩ := hk
          obtain ⟨t2, e, j, e2, ht2, he⟩ := hi
          cases e2
          refine ⟨c, _, rfl, .inl (SqL.of upd_same), rfl, rfl, _, rfl, if_T (show inV (.str "let") [.str "let", .str "fun"] = true by decide +kernel) ?_⟩
          refine ⟨_, rfl, t, _, 1, _, rfl, rfl, SqT.of (sc _ _ ht2), at1, _, sc _ _ e10, szl (by rw [List.length_map]; omega), Fz.Same.mut (s10.trans sc) hD, ?_, ?_⟩
          · rw [List.map_append]; exact upd_same
          · rw [List.length_append]; simp only [declF, List.length_cons, List.length_nil]; omega
        · have hno : inV (V.str it.kind) [.str "let", .str "fun"] = false := by
            cases it with
            | ltI y k => exact absurd ⟨y, k, rfl⟩ hk
            | _ => simp only [Item.kind]; decide +kernel
          have hd : declF it = none := by
            cases it with
            | ltI y k => exact absurd ⟨y, k, rfl⟩ hk
            | _ => rfl
          rw [hd, List.append_nil]
          refine ⟨c, _, rfl, .inl (SqL.of upd_same), rfl, rfl, _, rfl, if_F hno ?_⟩
          exact ⟨s10.trans sc, sc _ _ e10, by omega⟩
      · rintro H10 ⟨s10, e10, z10⟩
        rw [hlen, List.take_length] at e10
        have hdk := decl_ok wf hm
        refine ⟨sD (decl (M m)), sD (decl (M m)), .lst (SqL.of (s10 _ _ hpd)) (strs_dp _), .lst (SqL.of e10) (strs_dp _), sD_shaped hdk, sD_shaped hdk, _, rfl, if_F (by rw [sD_eqv]; rfl) ?_⟩
        have s510 := s59.trans s10
        -- spaces, imported
        refine ⟨_, rfl, r, gdx, _, rfl, s510 _ _ hg5, gf_no (by decide +kernel), _, rfl, r, m, M, nm, rfl, (G5.same s510).G, hm, by omega, fun H11 sd skvs s11 hsd0 hsd hsv => ?_⟩
        have s511 := s510.trans s11
        refine ⟨_, rfl, r, gdx, _, rfl, s511 _ _ hg5, gf_no (by decide +kernel), _, rfl, r, m, M, nm, rfl, (G5.same s511).G, hm, by omega, fun H12 id2 ikvs s12 hid0 hid2 hiv => ?_⟩
        have s512 := s511.trans s12
        refine ⟨_, rfl, _, rfl, I, _, rfl, hlv ▸ DGet.k (k := Sum.inr m) (s512 _ _ e5), l, rfl, ⟨us, SqL.of (s512 _ _ hl5)⟩, ?_⟩
        refine for_list (K := K) (a := l) (xs := us) (fun i σ H' => ∃ (v4 v8 v9 : Option V), σ = [some (.ref a), some (.ref d), some (.ref r), some (.ref I), v4, some (.ref wa), some (.str m), some (.ref du), v8, v9, some (.ref sd), some (.ref id2)] ∧ Same H12 H')
          ⟨_, _, _, rfl, Same.refl _⟩ (fun i σ H' _ ⟨_, _, _, _, s13⟩ => SqL.of ((s512.trans s13) _ _ hl5)) ?_ ?_
        · rintro i y σ H13 hy ⟨v4, v8, v9, rfl, s13⟩
          obtain ⟨it, hit, hi⟩ := ItemL.get (ItemL.keep (KeepT.of (s512.trans s13)) hul5) hy
          have hin := List.mem_of_getElem? hit
          by_cases hks : ∃ m1 x1, it = .spc m1 x1
          · obtain ⟨m1, x1, rfl⟩ := hks
            obtain ⟨t, j, rfl, ht⟩ := hi
            have hq1 : DGet H13 sd (.str x1) (some (.str m1)) := by
              have h1 := DGet.k (k := Sum.inr x1) ((s12.trans s13) _ _ hsd)
              rw [hsv x1, uniq_spc (un2 m hm).1 hin] at h1
              exact h1
            refine ⟨_, rfl, t, _, 0, _, rfl, rfl, SqT.of ht, at0, rfl, _, rfl, if_T (by decide +kernel) ?_⟩
            refine ⟨_, rfl, _, rfl, t, _, 2, _, rfl, rfl, SqT.of ht, at2, sd, _, rfl, hq1, _, rfl, t, _, 1, _, rfl, rfl, SqT.of ht, at1, rfl, _, rfl, if_F (by rw [decide_eq_true rfl]; rfl) ?_⟩
            refine ⟨_, rfl, t, _, 0, _, rfl, rfl, SqT.of ht, at0, rfl, _, rfl, if_F (by decide +kernel) (iteF ?_)⟩
            exact ⟨_, _, _, rfl, s13⟩
          by_cases hki : ∃ m1 x1 y1, it = .imp m1 x1 y1
          · obtain ⟨m1, x1, y1, rfl⟩ := hki
            obtain ⟨t, ps, qq, j, rfl, ht, hps, hqq⟩ := hi
            have hiy := hiv y1
            rw [uniq_imp (un2 m hm).2 hin] at hiy
            obtain ⟨t2, hv2, ht2⟩ := hiy
            have hq1 : DGet H13 id2 (.str y1) (some (.ref t2)) := by
              have h1 := DGet.k (k := Sum.inr y1) (s13 _ _ hid2)
              rw [hv2] at h1
              exact h1
            have hok := wf.ok m hm _ hin
            have hpk : OkP (m1, x1) := ⟨wf.nm m1 hok.1, words_ok _ hok.2⟩
            refine ⟨_, rfl, t, _, 0, _, rfl, rfl, SqT.of ht, at0, rfl, _, rfl, if_F (by decide +kernel) (iteF ?_)⟩
            refine ⟨_, rfl, t, _, 0, _, rfl, rfl, SqT.of ht, at0, rfl, _, rfl, if_T (by decide +kernel) ?_⟩
            refine ⟨_, rfl, _, rfl, t, _, 2, _, rfl, rfl, SqT.of ht, at2, ps, _, 0, _, rfl, rfl, SqT.of hps, at0, qq, _, 1, _, rfl, rfl, SqT.of hqq, at1, id2, _, rfl, hq1, ?_⟩
            refine ⟨_, rfl, t, _, 1, _, rfl, rfl, SqT.of ht, at1, _, rfl, t, _, 2, _, rfl, rfl, SqT.of ht, at2, ps, _, 0, _, rfl, rfl, SqT.of hps, at0, qq, _, 0, _, rfl, rfl, SqT.of hqq, at0, sz 2, fun tt htt => ?_⟩
            have st := same_new htt (.tup [.str m1, .str x1])
            refine ⟨pD (m1, x1), pD (m1, x1), .tup (SqT.of (st _ _ (s13 _ _ ht2))) (.cons (.str _) (.cons (.str _) .nil)), .tup (SqT.of upd_same) (.cons (.str _) (.cons (.str _) .nil)), pD_shaped hpk, pD_shaped hpk, _, rfl, if_F (by rw [pD_eqv, decide_eq_true rfl]; rfl) ?_⟩
            exact ⟨_, _, _, rfl, s13.trans st⟩
          · obtain ⟨t, more, rfl, ht⟩ := hi.head
            have hno2 : ¬ it.kind = ("space" : Str) ∧ ¬ it.kind = ("import" : Str) := by
              cases it with
              | spc a b => exact absurd ⟨a, b, rfl⟩ hks
              | imp a b c => exact absurd ⟨a, b, c, rfl⟩ hki
              | _ => constructor <;> (simp only [Item.kind]; decide +kernel)
            refine ⟨_, rfl, t, _, 0, _, rfl, rfl, SqT.of ht, at0, rfl, _, rfl, if_F (dstr hno2.1) (iteF ?_)⟩
            refine ⟨_, rfl, t, _, 0, _, rfl, rfl, SqT.of ht, at0, rfl, _, rfl, if_F (dstr hno2.2) (iteF ?_)⟩
            exact ⟨_, _, _, rfl, s13⟩
        · rintro σ H13 ⟨v4, v8, v9, rfl, s13⟩
          have s613 : Same H6 H13 := (((((s7.trans s8).trans s9).trans s10).trans s11).trans s12).trans s13
          exact ⟨_, _, _, _, _, _, _, rfl, s512.trans s13, s613 _ _ p6⟩
  · rintro σ H6 ⟨v4, v6, v7, v8, v9, v10, v11, rfl, s6, p6⟩
    exact q H6
end
end Fz
set_option Elab.async false
set_option linter.all false
set_option maxRecDepth 100000
set_option maxHeartbeats 4000000
namespace Fz
open PySem PyProof.Rows L2
open C8 (Cal Met Mak pe_c pe_mk pe_mt pe_mt0 pe_gc)
theorem facts {P : Program} {w : World} {K : PySem.W.Frag} {h : Heap} {mg : Str → Option Value} {f : Addr} (X : K.In h) (G : h.Ns mainGlobals mg) (hfa : mg ("law" : Str) = some (.ref f)) (c : He.SaysX fa fn ts [] ex w h K) :
    ∃ fd : FuncData, (∀ (s : Shared) (v : Value), BindsTo s fd ⟨[v], []⟩ [("_law_script", v)]) ∧ ∀ base : Heap, K.In base → base.Ns mainGlobals mg → FnOk P w K mg base CX0 84 f fd ["_law_script"] (spLaw K) := by
  have T : Tx K mg w := ⟨⟨h, X, G, c⟩⟩
  obtain ⟨fd, D⟩ := c.t.d.def_ 56 (d := d_law) rfl
  have e := hfa.symm.trans T.g_law
  cases e
  have b := FunD.bindsA (ps := ["_law_script"]) D fun _ _ _ _ _ _ us hl => match us, hl with | [_], _ => rfl
  exact ⟨fd, fun s v => b s [v] rfl, fun base _ _ => ok_law T (fun_of D)⟩
end Fz
open PySem PySem.W PySem.Calls PyProof.Rows
theorem PySem.Challenge.cw_fascicle_k06_search_of_exports_holds : PySem.Challenge.rw_fascicle_k06_search_of_exports.Holds := by
  w_on; o_law
  refine HandSHeadRun.head_any (r := OpenLaw.row PySem.Challenge.rw_fascicle_k06_search_of_exports) (q := view (OpenLaw.row PySem.Challenge.rw_fascicle_k06_search_of_exports).prog [65]) (H := Fz.hk) (ob := Fz.ob) (M := 4000) (loose := Fz.loose) (d := HandSHeadRun.topDef (OpenLaw.row PySem.Challenge.rw_fascicle_k06_search_of_exports).prog 65) (kwd := []) Fz.ob_eq
    (by kernel_rfl) (fun s => by kernel_rfl) Fz.run (by kernel_rfl) (by kernel_rfl) (by kernel_rfl) (by rfl) (by first | assumption | decide +kernel) (by decide +kernel) ⟨rfl, rfl, rfl, rfl, rfl, by decide +kernel⟩ ?hw ?hc
  case hw => w_witness2
  case hc =>
    refine L2.walk_ofE (l := PySem.Challenge.rw_fascicle_k06_search_of_exports) (n := 63) (k := 84) (x := "_law_script") (CX := L2.CX0) rfl (by decide) (by kernel_rfl) ⟨rfl, by decide, by decide⟩ ?F (fun _ _ _ _ z => z)
    intro w mg fa h Y G hmg0
    obtain ⟨K, KX, c⟩ := Y
    have hmg : mg ("law" : PySem.Str) = some (.ref fa) := by
      have e : (HandSHeadRun.topDef (OpenLaw.row PySem.Challenge.rw_fascicle_k06_search_of_exports).prog 65).name = ("law" : PySem.Str) := by kernel_rfl
      rw [← e]
      exact hmg0
    obtain ⟨fd, hb, hF⟩ := Fz.facts (P := (PySem.Challenge.rw_fascicle_k06_search_of_exports).prog) (w := w) KX G hmg c
    exact ⟨K, fd, Fz.spLaw K, KX, hb, fun H a ns hl _ hS => ⟨a, ns, rfl, hS, fun _ => rfl⟩, hF⟩
