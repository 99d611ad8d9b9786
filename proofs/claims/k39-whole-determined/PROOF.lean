import PyProof.Rows.All
import Wide.All
import OpenK.AllK
import Wide.FinOn
import KE.KStateDown
import Lean
import HandS.ForMost
import HandS.More
import HandS.Conv
import HandS.Style
import HandS.TupAny
import HandS.SortInts
import HandS.IsInst
import HandS.Zip
import HandS.Defaults
import HandS.Head0
import HandS.Head1
import HandS.Head2
import HandS.HeadEnd
import HandS.HeadHook1
import HandS.HeadHook2
import HandS.HeadHook3
import HandS.HeadHook4
import KE.GoesMore
import HandS.List
import KE.KRevSl
import HandS.Dict
import PySem.Challenge.RW_bytebridge_k39_whole_determined_bytes_ar
set_option Elab.async false
set_option linter.all false
set_option maxRecDepth 100000
set_option maxHeartbeats 0
namespace BB
open PySem PySem.Spec PyProof.Rows L2
/-! ### the text: the places of the defs in the row -/
def topS (i : Nat) : Stmt := PySem.Challenge.pw_bytebridge_k39_whole_determined_bytes_ar.main.body.getD i (.Pass ⟨0, 0, 0, 0⟩)
abbrev s_word_size : Stmt := topS 2
abbrev s_code_of : Stmt := topS 3
abbrev s_first_bits : Stmt := topS 4
abbrev s_fields : Stmt := topS 7
abbrev s_placed : Stmt := topS 8
abbrev s_count_of : Stmt := topS 9
abbrev s_element_layout : Stmt := topS 10
abbrev s_wrap : Stmt := topS 11
abbrev s_case_named : Stmt := topS 12
abbrev s_ones : Stmt := topS 14
abbrev s_agreement : Stmt := topS 15
abbrev s_common_bits : Stmt := topS 16
abbrev s_check_byte : Stmt := topS 18
abbrev s_known_word : Stmt := topS 20
abbrev s_append_code : Stmt := topS 21
abbrev s_append_number : Stmt := topS 22
abbrev s_append_elements : Stmt := topS 23
abbrev s_append_entry : Stmt := topS 24
abbrev s_append_item : Stmt := topS 25
abbrev s_append_pattern : Stmt := topS 26
abbrev s_determined : Stmt := topS 27
abbrev s_l_tape : Stmt := topS 29
abbrev s_l_draw : Stmt := topS 30
abbrev s_l_name : Stmt := topS 31
abbrev s_l_runs : Stmt := topS 32
abbrev s_l_listed : Stmt := topS 33
abbrev s_l_constant : Stmt := topS 34
abbrev s_l_crossed : Stmt := topS 35
abbrev s_l_series : Stmt := topS 36
abbrev s_l_check : Stmt := topS 37
abbrev s_l_alike : Stmt := topS 38
abbrev s_l_are_bytes : Stmt := topS 39
abbrev s_l_same_bytes : Stmt := topS 40
abbrev s_l_size : Stmt := topS 41
abbrev s_l_bytes : Stmt := topS 42
abbrev s_l_read : Stmt := topS 43
abbrev s_l_any_word : Stmt := topS 44
abbrev s_l_a_count : Stmt := topS 45
abbrev s_l_a_field : Stmt := topS 46
abbrev s_l_ranges : Stmt := topS 47
abbrev s_l_a_number : Stmt := topS 48
abbrev s_l_part : Stmt := topS 49
abbrev s_l_case_numbers : Stmt := topS 50
abbrev s_l_not_empty : Stmt := topS 51
abbrev s_l_small : Stmt := topS 52
abbrev s_l_joined : Stmt := topS 53
abbrev s_l_small_item : Stmt := topS 54
abbrev s_l_small_word : Stmt := topS 55
abbrev s_l_small_choice : Stmt := topS 56
abbrev s_l_kinds : Stmt := topS 57
abbrev s_l_once : Stmt := topS 58
abbrev s_l_set : Stmt := topS 59
abbrev s_l_pattern : Stmt := topS 60
abbrev s_l_pattern_of : Stmt := topS 61
abbrev s_l_bytes_of : Stmt := topS 62
abbrev s_l_put_items : Stmt := topS 63
abbrev s_l_put_inside : Stmt := topS 64
abbrev s_l_has : Stmt := topS 65
abbrev s_l_has_in : Stmt := topS 66
abbrev s_l_in_set : Stmt := topS 67
abbrev s_l_common : Stmt := topS 68
abbrev s_law : Stmt := topS 69
/-! ### the head: facts by names, the run -/
def d_word_size : He.DefD := ⟨("word_size", none), "word_size", "word_size", defArgs s_word_size, defBody s_word_size, defScope s_word_size, [], []⟩
def d_code_of : He.DefD := ⟨("code_of", none), "code_of", "code_of", defArgs s_code_of, defBody s_code_of, defScope s_code_of, [], []⟩
def d_first_bits : He.DefD := ⟨("first_bits", none), "first_bits", "first_bits", defArgs s_first_bits, defBody s_first_bits, defScope s_first_bits, [], []⟩
def d_fields : He.DefD := ⟨("fields", none), "fields", "fields", defArgs s_fields, defBody s_fields, defScope s_fields, [], []⟩
def d_placed : He.DefD := ⟨("placed", none), "placed", "placed", defArgs s_placed, defBody s_placed, defScope s_placed, [], []⟩
def d_count_of : He.DefD := ⟨("count_of", none), "count_of", "count_of", defArgs s_count_of, defBody s_count_of, defScope s_count_of, [], []⟩
def d_element_layout : He.DefD := ⟨("element_layout", none), "element_layout", "element_layout", defArgs s_element_layout, defBody s_element_layout, defScope s_element_layout, [], []⟩
def d_wrap : He.DefD := ⟨("wrap", none), "wrap", "wrap", defArgs s_wrap, defBody s_wrap, defScope s_wrap, [], []⟩
def d_case_named : He.DefD := ⟨("case_named", none), "case_named", "case_named", defArgs s_case_named, defBody s_case_named, defScope s_case_named, [], []⟩
def d_ones : He.DefD := ⟨("ones", none), "ones", "ones", defArgs s_ones, defBody s_ones, defScope s_ones, [], []⟩
def d_agreement : He.DefD := ⟨("agreement", none), "agreement", "agreement", defArgs s_agreement, defBody s_agreement, defScope s_agreement, [], []⟩
def d_common_bits : He.DefD := ⟨("common_bits", none), "common_bits", "common_bits", defArgs s_common_bits, defBody s_common_bits, defScope s_common_bits, [], []⟩
def d_check_byte : He.DefD := ⟨("check_byte", none), "check_byte", "check_byte", defArgs s_check_byte, defBody s_check_byte, defScope s_check_byte, [], []⟩
def d_known_word : He.DefD := ⟨("known_word", none), "known_word", "known_word", defArgs s_known_word, defBody s_known_word, defScope s_known_word, [], []⟩
def d_append_code : He.DefD := ⟨("append_code", none), "append_code", "append_code", defArgs s_append_code, defBody s_append_code, defScope s_append_code, [], []⟩
def d_append_number : He.DefD := ⟨("append_number", none), "append_number", "append_number", defArgs s_append_number, defBody s_append_number, defScope s_append_number, [], []⟩
def d_append_elements : He.DefD := ⟨("append_elements", none), "append_elements", "append_elements", defArgs s_append_elements, defBody s_append_elements, defScope s_append_elements, [], []⟩
def d_append_entry : He.DefD := ⟨("append_entry", none), "append_entry", "append_entry", defArgs s_append_entry, defBody s_append_entry, defScope s_append_entry, [], []⟩
def d_append_item : He.DefD := ⟨("append_item", none), "append_item", "append_item", defArgs s_append_item, defBody s_append_item, defScope s_append_item, [], []⟩
def d_append_pattern : He.DefD := ⟨("append_pattern", none), "append_pattern", "append_pattern", defArgs s_append_pattern, defBody s_append_pattern, defScope s_append_pattern, [], []⟩
def d_determined : He.DefD := ⟨("determined", none), "determined", "determined", defArgs s_determined, defBody s_determined, defScope s_determined, [], []⟩
def d_l_tape : He.DefD := ⟨("_law_tape", none), "_law_tape", "_law_tape", defArgs s_l_tape, defBody s_l_tape, defScope s_l_tape, [], []⟩
def d_l_draw : He.DefD := ⟨("_law_draw", none), "_law_draw", "_law_draw", defArgs s_l_draw, defBody s_l_draw, defScope s_l_draw, [], []⟩
def d_l_name : He.DefD := ⟨("_law_name", none), "_law_name", "_law_name", defArgs s_l_name, defBody s_l_name, defScope s_l_name, [], []⟩
def d_l_runs : He.DefD := ⟨("_law_runs", none), "_law_runs", "_law_runs", defArgs s_l_runs, defBody s_l_runs, defScope s_l_runs, [], []⟩
def d_l_listed : He.DefD := ⟨("_law_listed", none), "_law_listed", "_law_listed", defArgs s_l_listed, defBody s_l_listed, defScope s_l_listed, [], []⟩
def d_l_constant : He.DefD := ⟨("_law_constant", none), "_law_constant", "_law_constant", defArgs s_l_constant, defBody s_l_constant, defScope s_l_constant, [], []⟩
def d_l_crossed : He.DefD := ⟨("_law_crossed", none), "_law_crossed", "_law_crossed", defArgs s_l_crossed, defBody s_l_crossed, defScope s_l_crossed, [], []⟩
def d_l_series : He.DefD := ⟨("_law_series", none), "_law_series", "_law_series", defArgs s_l_series, defBody s_l_series, defScope s_l_series, [], []⟩
def d_l_check : He.DefD := ⟨("_law_check", none), "_law_check", "_law_check", defArgs s_l_check, defBody s_l_check, defScope s_l_check, [], []⟩
def d_l_alike : He.DefD := ⟨("_law_alike", none), "_law_alike", "_law_alike", defArgs s_l_alike, defBody s_l_alike, defScope s_l_alike, [], []⟩
def d_l_are_bytes : He.DefD := ⟨("_law_are_bytes", none), "_law_are_bytes", "_law_are_bytes", defArgs s_l_are_bytes, defBody s_l_are_bytes, defScope s_l_are_bytes, [], []⟩
def d_l_same_bytes : He.DefD := ⟨("_law_same_bytes", none), "_law_same_bytes", "_law_same_bytes", defArgs s_l_same_bytes, defBody s_l_same_bytes, defScope s_l_same_bytes, [], []⟩
def d_l_size : He.DefD := ⟨("_law_size", none), "_law_size", "_law_size", defArgs s_l_size, defBody s_l_size, defScope s_l_size, [], []⟩
def d_l_bytes : He.DefD := ⟨("_law_bytes", none), "_law_bytes", "_law_bytes", defArgs s_l_bytes, defBody s_l_bytes, defScope s_l_bytes, [], []⟩
def d_l_read : He.DefD := ⟨("_law_read", none), "_law_read", "_law_read", defArgs s_l_read, defBody s_l_read, defScope s_l_read, [], []⟩
def d_l_any_word : He.DefD := ⟨("_law_any_word", none), "_law_any_word", "_law_any_word", defArgs s_l_any_word, defBody s_l_any_word, defScope s_l_any_word, [], []⟩
def d_l_a_count : He.DefD := ⟨("_law_a_count", none), "_law_a_count", "_law_a_count", defArgs s_l_a_count, defBody s_l_a_count, defScope s_l_a_count, [], []⟩
def d_l_a_field : He.DefD := ⟨("_law_a_field", none), "_law_a_field", "_law_a_field", defArgs s_l_a_field, defBody s_l_a_field, defScope s_l_a_field, [], []⟩
def d_l_ranges : He.DefD := ⟨("_law_ranges", none), "_law_ranges", "_law_ranges", defArgs s_l_ranges, defBody s_l_ranges, defScope s_l_ranges, [], []⟩
def d_l_a_number : He.DefD := ⟨("_law_a_number", none), "_law_a_number", "_law_a_number", defArgs s_l_a_number, defBody s_l_a_number, defScope s_l_a_number, [], []⟩
def d_l_part : He.DefD := ⟨("_law_part", none), "_law_part", "_law_part", defArgs s_l_part, defBody s_l_part, defScope s_l_part, [], []⟩
def d_l_case_numbers : He.DefD := ⟨("_law_case_numbers", none), "_law_case_numbers", "_law_case_numbers", defArgs s_l_case_numbers, defBody s_l_case_numbers, defScope s_l_case_numbers, [], []⟩
def d_l_not_empty : He.DefD := ⟨("_law_not_empty", none), "_law_not_empty", "_law_not_empty", defArgs s_l_not_empty, defBody s_l_not_empty, defScope s_l_not_empty, [], []⟩
def d_l_small : He.DefD := ⟨("_law_small", none), "_law_small", "_law_small", defArgs s_l_small, defBody s_l_small, defScope s_l_small, [], []⟩
def d_l_joined : He.DefD := ⟨("_law_joined", none), "_law_joined", "_law_joined", defArgs s_l_joined, defBody s_l_joined, defScope s_l_joined, [], []⟩
def d_l_small_item : He.DefD := ⟨("_law_small_item", none), "_law_small_item", "_law_small_item", defArgs s_l_small_item, defBody s_l_small_item, defScope s_l_small_item, [], []⟩
def d_l_small_word : He.DefD := ⟨("_law_small_word", none), "_law_small_word", "_law_small_word", defArgs s_l_small_word, defBody s_l_small_word, defScope s_l_small_word, [], []⟩
def d_l_small_choice : He.DefD := ⟨("_law_small_choice", none), "_law_small_choice", "_law_small_choice", defArgs s_l_small_choice, defBody s_l_small_choice, defScope s_l_small_choice, [], []⟩
def d_l_kinds : He.DefD := ⟨("_law_kinds", none), "_law_kinds", "_law_kinds", defArgs s_l_kinds, defBody s_l_kinds, defScope s_l_kinds, [], []⟩
def d_l_once : He.DefD := ⟨("_law_once", none), "_law_once", "_law_once", defArgs s_l_once, defBody s_l_once, defScope s_l_once, [], []⟩
def d_l_set : He.DefD := ⟨("_law_set", none), "_law_set", "_law_set", defArgs s_l_set, defBody s_l_set, defScope s_l_set, [], []⟩
def d_l_pattern : He.DefD := ⟨("_law_pattern", none), "_law_pattern", "_law_pattern", defArgs s_l_pattern, defBody s_l_pattern, defScope s_l_pattern, [], []⟩
def d_l_pattern_of : He.DefD := ⟨("_law_pattern_of", none), "_law_pattern_of", "_law_pattern_of", defArgs s_l_pattern_of, defBody s_l_pattern_of, defScope s_l_pattern_of, [], []⟩
def d_l_bytes_of : He.DefD := ⟨("_law_bytes_of", none), "_law_bytes_of", "_law_bytes_of", defArgs s_l_bytes_of, defBody s_l_bytes_of, defScope s_l_bytes_of, [], []⟩
def d_l_put_items : He.DefD := ⟨("_law_put_items", none), "_law_put_items", "_law_put_items", defArgs s_l_put_items, defBody s_l_put_items, defScope s_l_put_items, [], []⟩
def d_l_put_inside : He.DefD := ⟨("_law_put_inside", none), "_law_put_inside", "_law_put_inside", defArgs s_l_put_inside, defBody s_l_put_inside, defScope s_l_put_inside, [], []⟩
def d_l_has : He.DefD := ⟨("_law_has", none), "_law_has", "_law_has", defArgs s_l_has, defBody s_l_has, defScope s_l_has, [], []⟩
def d_l_has_in : He.DefD := ⟨("_law_has_in", none), "_law_has_in", "_law_has_in", defArgs s_l_has_in, defBody s_l_has_in, defScope s_l_has_in, [], []⟩
def d_l_in_set : He.DefD := ⟨("_law_in_set", none), "_law_in_set", "_law_in_set", defArgs s_l_in_set, defBody s_l_in_set, defScope s_l_in_set, [], []⟩
def d_l_common : He.DefD := ⟨("_law_common", none), "_law_common", "_law_common", defArgs s_l_common, defBody s_l_common, defScope s_l_common, [], []⟩
def d_law : He.DefD := ⟨("law", none), "law", "law", defArgs s_law, defBody s_law, defScope s_law, [], []⟩
def hfn0 : List He.DefD := [d_word_size, d_code_of, d_first_bits, d_fields, d_placed, d_count_of, d_element_layout, d_wrap, d_case_named, d_ones, d_agreement, d_common_bits, d_check_byte, d_known_word, d_append_code, d_append_number, d_append_elements, d_append_entry, d_append_item, d_append_pattern, d_determined, d_l_tape, d_l_draw, d_l_name, d_l_runs, d_l_listed, d_l_constant, d_l_crossed, d_l_series, d_l_check]
def hfn1 : List He.DefD := [d_l_alike, d_l_are_bytes, d_l_same_bytes, d_l_size, d_l_bytes, d_l_read, d_l_any_word, d_l_a_count, d_l_a_field, d_l_ranges, d_l_a_number, d_l_part, d_l_case_numbers, d_l_not_empty, d_l_small, d_l_joined, d_l_small_item, d_l_small_word, d_l_small_choice, d_l_kinds, d_l_once, d_l_set, d_l_pattern, d_l_pattern_of, d_l_bytes_of, d_l_put_items, d_l_put_inside, d_l_has, d_l_has_in, d_l_in_set]
def hfn2 : List He.DefD := [d_l_common, d_law]
def hfn : List He.DefD := hfn0 ++ hfn1 ++ hfn2
def hfa0 : List He.Fa := [.glo "word_size", .glo "code_of", .glo "first_bits", .glo "fields", .glo "placed", .glo "count_of", .glo "element_layout", .glo "wrap", .glo "case_named", .glo "ones", .glo "agreement", .glo "common_bits", .glo "check_byte", .glo "known_word", .glo "append_code", .glo "append_number", .glo "append_elements", .glo "append_entry", .glo "append_item", .glo "append_pattern", .glo "determined", .glo "_law_tape", .glo "_law_draw", .glo "_law_name", .glo "_law_runs", .glo "_law_listed", .glo "_law_constant", .glo "_law_crossed", .glo "_law_series", .glo "_law_check"]
def hfa1 : List He.Fa := [.glo "_law_alike", .glo "_law_are_bytes", .glo "_law_same_bytes", .glo "_law_size", .glo "_law_bytes", .glo "_law_read", .glo "_law_any_word", .glo "_law_a_count", .glo "_law_a_field", .glo "_law_ranges", .glo "_law_a_number", .glo "_law_part", .glo "_law_case_numbers", .glo "_law_not_empty", .glo "_law_small", .glo "_law_joined", .glo "_law_small_item", .glo "_law_small_word", .glo "_law_small_choice", .glo "_law_kinds", .glo "_law_once", .glo "_law_set", .glo "_law_pattern", .glo "_law_pattern_of", .glo "_law_bytes_of", .glo "_law_put_items", .glo "_law_put_inside", .glo "_law_has", .glo "_law_has_in", .glo "_law_in_set"]
def hfa2 : List He.Fa := [.glo "_law_common", .glo "law", .glo "WORD_SIZES", .glo "COMPOSITES", .free "len", .free "abs", .free "int", .free "max", .free "min", .free "range", .free "list", .free "tuple", .free "sorted", .free "sum", .free "str", .free "zip", .free "isinstance", .free "bool"]
def hfa : List He.Fa := hfa0 ++ hfa1 ++ hfa2
def hts : List He.Tab := [(fun K => He.ga K "WORD_SIZES", ["u8", "u16be", "u16le", "u32be", "u32le"])]
def hex_ (K : PySem.W.Frag) : Bool := He.valsB K (He.ga K "WORD_SIZES") [("u8", .int 1), ("u16be", .int 2), ("u16le", .int 2), ("u32be", .int 4), ("u32le", .int 4)] && He.tupB K "COMPOSITES" [.str "array", .str "list", .str "choice", .str "record"]
abbrev hR : PySem.W.OpenRow := PySem.W.OpenLaw.row PySem.Challenge.rw_bytebridge_k39_whole_determined_bytes_ar
abbrev hk : PySem.W.Hook := He.hookX 4 hfa hfn hts [] hex_
def hob (s : PySem.W.SharedT) : He.AlX := He.obsX 4 hfa hfn hts [] hex_ (HandSHeadRun.getT s)
theorem hob_eq (s : PySem.W.SharedT) : hob s = hk.obs s.abs := He.obsX_eq (HandSHeadRun.getT_eq s)
def hloose0 : List Str := ["WORD_SIZES", "word_size", "code_of", "first_bits", "COMPOSITES", "fields", "placed", "count_of", "element_layout", "wrap", "case_named", "ones", "agreement", "common_bits", "check_byte", "known_word", "append_code", "append_number", "append_elements", "append_entry", "append_item", "append_pattern", "determined", "_law_tape", "_law_draw", "_law_name", "_law_runs", "_law_listed", "_law_constant", "_law_crossed"]
def hloose1 : List Str := ["_law_series", "_law_check", "_law_alike", "_law_are_bytes", "_law_same_bytes", "_law_size", "_law_bytes", "_law_read", "_law_any_word", "_law_a_count", "_law_a_field", "_law_ranges", "_law_a_number", "_law_part", "_law_case_numbers", "_law_not_empty", "_law_small", "_law_joined", "_law_small_item", "_law_small_word", "_law_small_choice", "_law_kinds", "_law_once", "_law_set", "_law_pattern", "_law_pattern_of", "_law_bytes_of", "_law_put_items", "_law_put_inside", "_law_has"]
def hloose2 : List Str := ["_law_has_in", "_law_in_set", "_law_common"]
def hloose : List Str := hloose0 ++ hloose1 ++ hloose2
theorem map3 {α β γ δ : Type} {r : Option α} {a : α → β} {b : α → γ} {c : α → δ} {x : β} {y : γ} {z : δ} (h1 : r.map a = some x) (h2 : r.map b = some y) (h3 : r.map c = some z) : r.map (fun s => (a s, b s, c s)) = some (x, y, z) := by
  cases r with
  | none => cases h1
  | some s =>
    rw [← Option.some.inj h1, ← Option.some.inj h2, ← Option.some.inj h3]
    rfl
section
open HandSHeadRun PySem.W PySem.Calls
abbrev hv : Program := PySem.W.view hR.prog [69]
noncomputable abbrev hgo (w : World) (os : OsState) : Option PySem.W.SharedT := endF (stepQ (denQ tabQ) hR.prog w) 8000 hR.prog w os
theorem hrunAF (w : World) (os : OsState) : (hgo (w.withFollow "special-get-raises" false) os).map (fun s => looksF hR.prog (boot_heap (w.withFollow "special-get-raises" false).params) s.abs) = some true := by
  kernel_rfl
theorem hrunBF (w : World) (os : OsState) : (hgo (w.withFollow "special-get-raises" false) os).map (fun s => seenQ hv hloose (importedModules hR.prog.main.body) (fun s => xlAt hv [] s && recOk hR.toRowW.records s) s.abs) = some (openGood hv hloose) := by
  kernel_rfl
theorem hrunCF (w : World) (os : OsState) : (hgo (w.withFollow "special-get-raises" false) os).map (fun s => hob s) = some (hk.val (w.withFollow "special-get-raises" false)) := by
  kernel_rfl
theorem hrunF (w : World) : RunEq hR hv hk hob 8000 hloose (w.withFollow "special-get-raises" false) := fun os => map3 (hrunAF w os) (hrunBF w os) (hrunCF w os)
theorem hrunAT (w : World) (os : OsState) : (hgo (w.withFollow "special-get-raises" true) os).map (fun s => looksF hR.prog (boot_heap (w.withFollow "special-get-raises" true).params) s.abs) = some true := by
  kernel_rfl
theorem hrunBT (w : World) (os : OsState) : (hgo (w.withFollow "special-get-raises" true) os).map (fun s => seenQ hv hloose (importedModules hR.prog.main.body) (fun s => xlAt hv [] s && recOk hR.toRowW.records s) s.abs) = some (openGood hv hloose) := by
  kernel_rfl
theorem hrunCT (w : World) (os : OsState) : (hgo (w.withFollow "special-get-raises" true) os).map (fun s => hob s) = some (hk.val (w.withFollow "special-get-raises" true)) := by
  kernel_rfl
theorem hrunT (w : World) : RunEq hR hv hk hob 8000 hloose (w.withFollow "special-get-raises" true) := fun os => map3 (hrunAT w os) (hrunBT w os) (hrunCT w os)
theorem hrun (w : World) : RunEq hR hv hk hob 8000 hloose w := PySem.W.byRow2 "special-get-raises" hrunF hrunT w
end
end BB

set_option maxHeartbeats 4000000
namespace BB
open PySem PySem.Spec PyProof.Rows L2

/-! ## Data: Python values by value; a list that is still changed stands by its address -/
inductive D where
  | non | bl (b : Bool) | int (i : Int) | str (s : Str) | tup (ds : List D) | lst (ds : List D) | adr (a : Addr) | scr (ns : List Int)

mutual
def IsD (K : PySem.W.Frag) (F : Hp) : D → V → Prop
  | .non, v => v = .non
  | .bl b, v => v = .bl b
  | .int i, v => v = .int i
  | .str s, v => v = .str s
  | .tup ds, v => ∃ a xs, v = .ref a ∧ SqT K F a xs ∧ IsDs K F ds xs
  | .lst ds, v => ∃ a xs, v = .ref a ∧ F a = some (.lst xs) ∧ IsDs K F ds xs
  | .adr a, v => v = .ref a
  | .scr ns, v => ∃ a, v = .ref a ∧ SqL K F a (ns.map V.int)
def IsDs (K : PySem.W.Frag) (F : Hp) : List D → List V → Prop
  | [], xs => xs = []
  | d :: ds, xs => ∃ x r, xs = x :: r ∧ IsD K F d x ∧ IsDs K F ds r
end

variable {K : PySem.W.Frag}
theorem same_t {F G : Hp} {a : Addr} {xs : List V} (e : Same F G) (h : SqT K F a xs) : SqT K G a xs := by
  rcases h with (h | ⟨o, h⟩) | h
  · exact .inl (.inl (e _ _ h))
  · exact .inl (.inr ⟨o, e _ _ h⟩)
  · exact .inr h
mutual
theorem isD_mono {F G : Hp} (e : Same F G) : ∀ {d : D} {v : V}, IsD K F d v → IsD K G d v
  | .non, _, h => h
  | .bl _, _, h => h
  | .int _, _, h => h
  | .str _, _, h => h
  | .tup _, _, ⟨a, xs, hv, hF, hs⟩ => ⟨a, xs, hv, same_t e hF, isDs_mono e hs⟩
  | .lst _, _, ⟨a, xs, hv, hF, hs⟩ => ⟨a, xs, hv, e _ _ hF, isDs_mono e hs⟩
  | .adr _, _, h => h
  | .scr _, _, ⟨a, h1, h2⟩ => ⟨a, h1, e.seq h2⟩
theorem isDs_mono {F G : Hp} (e : Same F G) : ∀ {ds : List D} {xs : List V}, IsDs K F ds xs → IsDs K G ds xs
  | [], _, h => h
  | _ :: _, _, ⟨x, r, h1, h2, h3⟩ => ⟨x, r, h1, isD_mono e h2, isDs_mono e h3⟩
end
theorem isDs_len {F : Hp} : ∀ {ds : List D} {xs : List V}, IsDs K F ds xs → xs.length = ds.length
  | [], _, h => by
    have e : _ = _ := h
    rw [e]
    rfl
  | d :: ds, _, ⟨x, r, h1, _, h3⟩ => by
    rw [h1, List.length_cons, List.length_cons, isDs_len h3]
theorem isDs_get {F : Hp} : ∀ {ds : List D} {xs : List V} {i : Nat} {d : D}, IsDs K F ds xs → ds[i]? = some d → ∃ x, xs[i]? = some x ∧ IsD K F d x
  | [], _, i, d, _, e => by simp at e
  | d' :: ds, _, 0, d, ⟨x, r, h1, h2, h3⟩, e => by
    have e' : d' = d := Option.some.inj e
    subst e'
    subst h1
    exact ⟨x, rfl, h2⟩
  | d' :: ds, _, i + 1, d, ⟨x, r, h1, h2, h3⟩, e => by
    subst h1
    exact isDs_get (i := i) h3 e
theorem isDs_get' {F : Hp} : ∀ {ds : List D} {xs : List V} {i : Nat} {x : V}, IsDs K F ds xs → xs[i]? = some x → ∃ d, ds[i]? = some d ∧ IsD K F d x
  | [], _, i, x, h, e => by
    have h' : _ = _ := h
    rw [h'] at e
    simp at e
  | d :: ds, _, 0, x, ⟨y, r, h1, h2, h3⟩, e => by
    subst h1
    have e' : y = x := Option.some.inj e
    subst e'
    exact ⟨d, rfl, h2⟩
  | d :: ds, _, i + 1, x, ⟨y, r, h1, h2, h3⟩, e => by
    subst h1
    exact isDs_get' (i := i) h3 e
theorem isDs_cons {F : Hp} {d : D} {ds : List D} {x : V} {xs : List V} (h : IsD K F d x) (t : IsDs K F ds xs) : IsDs K F (d :: ds) (x :: xs) := ⟨x, xs, rfl, h, t⟩
theorem isDs_app {F : Hp} : ∀ {ds es : List D} {xs ys : List V}, IsDs K F ds xs → IsDs K F es ys → IsDs K F (ds ++ es) (xs ++ ys)
  | [], _, xs, _, h, t => by
    have h' : xs = [] := h
    subst h'
    exact t
  | d :: ds, _, _, _, ⟨x, r, h1, h2, h3⟩, t => by
    subst h1
    exact isDs_cons h2 (isDs_app h3 t)
theorem isDs_one {F : Hp} {d : D} {x : V} (h : IsD K F d x) : IsDs K F [d] [x] := ⟨x, [], rfl, h, rfl⟩
theorem isDs_take {F : Hp} : ∀ {ds : List D} {xs : List V} (n : Nat), IsDs K F ds xs → IsDs K F (ds.take n) (xs.take n)
  | _, _, 0, _ => rfl
  | [], xs, _ + 1, h => by
    have h' : xs = [] := h
    subst h'
    exact (rfl : ([] : List V) = [])
  | d :: ds, _, n + 1, ⟨x, r, h1, h2, h3⟩ => by
    subst h1
    exact isDs_cons h2 (isDs_take n h3)
theorem isDs_drop {F : Hp} : ∀ {ds : List D} {xs : List V} (n : Nat), IsDs K F ds xs → IsDs K F (ds.drop n) (xs.drop n)
  | _, _, 0, h => h
  | [], xs, _ + 1, h => by
    have h' : xs = [] := h
    subst h'
    exact (rfl : ([] : List V) = [])
  | d :: ds, _, n + 1, ⟨x, r, h1, h2, h3⟩ => by
    subst h1
    exact isDs_drop n h3
theorem isDs_rev {F : Hp} : ∀ {ds : List D} {xs : List V}, IsDs K F ds xs → IsDs K F ds.reverse xs.reverse
  | [], xs, h => by
    have h' : xs = [] := h
    subst h'
    exact (rfl : ([] : List V) = [])
  | d :: ds, _, ⟨x, r, h1, h2, h3⟩ => by
    subst h1
    rw [List.reverse_cons, List.reverse_cons]
    exact isDs_app (isDs_rev h3) (isDs_one h2)
theorem isDs_set {F : Hp} {d : D} {x : V} (h : IsD K F d x) : ∀ {ds : List D} {xs : List V} (i : Nat), IsDs K F ds xs → IsDs K F (ds.set i d) (xs.set i x)
  | [], xs, i, t => by
    have h' : xs = [] := t
    subst h'
    exact (rfl : ([] : List V) = [])
  | e :: ds, _, 0, ⟨y, r, h1, h2, h3⟩ => by
    subst h1
    exact isDs_cons h h3
  | e :: ds, _, i + 1, ⟨y, r, h1, h2, h3⟩ => by
    subst h1
    exact isDs_cons h2 (isDs_set h i h3)
theorem isDs_ints {F : Hp} : ∀ {ns : List Int} {xs : List V}, IsDs K F (ns.map D.int) xs → xs = ns.map V.int
  | [], _, h => h
  | n :: ns, _, ⟨x, r, h1, h2, h3⟩ => by
    have e : x = V.int n := h2
    rw [h1, e, isDs_ints h3]
    rfl
theorem ints_isDs {F : Hp} : ∀ ns : List Int, IsDs K F (ns.map D.int) (ns.map V.int)
  | [] => rfl
  | n :: ns => isDs_cons rfl (ints_isDs ns)
theorem isDs_strs {F : Hp} : ∀ {ns : List Str} {xs : List V}, IsDs K F (ns.map D.str) xs → xs = ns.map V.str
  | [], _, h => h
  | n :: ns, _, ⟨x, r, h1, h2, h3⟩ => by
    have e : x = V.str n := h2
    rw [h1, e, isDs_strs h3]
    rfl
theorem strs_isDs {F : Hp} : ∀ ns : List Str, IsDs K F (ns.map D.str) (ns.map V.str)
  | [] => rfl
  | n :: ns => isDs_cons rfl (strs_isDs ns)
theorem isDs_rep {F : Hp} {ds : List D} {xs : List V} (h : IsDs K F ds xs) : ∀ k : Nat, IsDs K F (List.replicate k ds).flatten (List.replicate k xs).flatten
  | 0 => rfl
  | k + 1 => by
    rw [List.replicate_succ, List.replicate_succ, List.flatten_cons, List.flatten_cons]
    exact isDs_app h (isDs_rep h k)

/-! ## the lists that are still changed -/
abbrev Mu := Addr → Option (List D)
def mset (m : Mu) (a : Addr) (ds : List D) : Mu := fun b => if b = a then some ds else m b
def mdel (m : Mu) (a : Addr) : Mu := fun b => if b = a then none else m b
theorem mset_same {m : Mu} {a : Addr} {ds : List D} : mset m a ds a = some ds := by
  unfold mset
  rw [if_pos rfl]
theorem mset_ne {m : Mu} {a b : Addr} {ds : List D} (h : b ≠ a) : mset m a ds b = m b := by
  unfold mset
  rw [if_neg h]
theorem mset_mset {m : Mu} {a : Addr} {ds es : List D} : mset (mset m a ds) a es = mset m a es := by
  funext b
  unfold mset
  split <;> rfl
theorem mset_comm {m : Mu} {a b : Addr} {ds es : List D} (h : a ≠ b) : mset (mset m a ds) b es = mset (mset m b es) a ds := by
  funext c
  show (if c = b then some es else if c = a then some ds else m c) = (if c = a then some ds else if c = b then some es else m c)
  by_cases h1 : c = a
  · have h2 : ¬ c = b := fun e => h (h1.symm.trans e)
    simp only [h1, h2, h, if_true, if_false]
  · simp only [h1, if_false]
theorem mdel_mset {m : Mu} {a : Addr} {ds : List D} (h : m a = none) : mdel (mset m a ds) a = m := by
  funext b
  unfold mdel mset
  by_cases e : b = a
  · subst e
    rw [if_pos rfl, h]
  · rw [if_neg e, if_neg e]
theorem mset_id {m : Mu} {a : Addr} {ds : List D} (h : m a = some ds) : mset m a ds = m := by
  funext b
  unfold mset
  by_cases e : b = a
  · subst e
    rw [if_pos rfl, h]
  · rw [if_neg e]
theorem mne {m : Mu} {a b : Addr} {ds : List D} (h : m a = some ds) (h' : m b = none) : a ≠ b := by
  intro e
  subst e
  rw [h] at h'
  cases h'

/-- F: what stands still; H: the heap; m: the lists that may be changed -/
structure Rep (K : PySem.W.Frag) (F H : Hp) (m : Mu) : Prop where
  sub : Same F H
  mem : ∀ a ds, m a = some ds → F a = none ∧ ∃ xs, H a = some (.lst xs) ∧ IsDs K F ds xs
theorem same_new {F : Hp} {p : Addr} {o : HO} (h : F p = none) : Same F (upd F p o) := fun b u e => by
  rw [upd_ne (ne_of_none e h)]
  exact e
section
variable {F H : Hp} {m : Mu} {a p : Addr} {ds es : List D} {xs : List V} {o : HO}
theorem Rep.fr (r : Rep K F H m) (h : H p = none) : F p = none := by
  cases e : F p with
  | none => rfl
  | some u =>
    rw [r.sub _ _ e] at h
    cases h
theorem Rep.mfr (r : Rep K F H m) (h : H p = none) : m p = none := by
  cases e : m p with
  | none => rfl
  | some u =>
    obtain ⟨_, xs, e2, _⟩ := r.mem _ _ e
    rw [e2] at h
    cases h
/-- a new thing that stands still -/
theorem Rep.newF (r : Rep K F H m) (h : H p = none) : Rep K (upd F p o) (upd H p o) m where
  sub := fun b u e => by
    by_cases hb : b = p
    · subst hb
      rw [upd_same] at e ⊢
      exact e
    · rw [upd_ne hb] at e ⊢
      exact r.sub _ _ e
  mem := fun b es e => by
    obtain ⟨h1, ys, h2, h3⟩ := r.mem _ _ e
    have hb : b ≠ p := ne_of_none h2 h
    exact ⟨by rw [upd_ne hb]; exact h1, ys, by rw [upd_ne hb]; exact h2, isDs_mono (same_new (r.fr h)) h3⟩
/-- a new list that may be changed -/
theorem Rep.newM (r : Rep K F H m) (h : H p = none) (t : IsDs K F ds xs) : Rep K F (upd H p (.lst xs)) (mset m p ds) where
  sub := fun b u e => by
    rw [upd_ne (ne_of_none (r.sub _ _ e) h)]
    exact r.sub _ _ e
  mem := fun b es e => by
    by_cases hb : b = p
    · subst hb
      rw [mset_same] at e
      cases e
      exact ⟨r.fr h, xs, upd_same, t⟩
    · rw [mset_ne hb] at e
      obtain ⟨h1, ys, h2, h3⟩ := r.mem _ _ e
      exact ⟨h1, ys, by rw [upd_ne hb]; exact h2, h3⟩
/-- a store -/
theorem Rep.wr (r : Rep K F H m) (h : m a = some es) (t : IsDs K F ds xs) : Rep K F (upd H a (.lst xs)) (mset m a ds) where
  sub := fun b u e => by
    have hb : b ≠ a := ne_of_none e (r.mem _ _ h).1
    rw [upd_ne hb]
    exact r.sub _ _ e
  mem := fun b es e => by
    by_cases hb : b = a
    · subst hb
      rw [mset_same] at e
      cases e
      exact ⟨(r.mem _ _ h).1, xs, upd_same, t⟩
    · rw [mset_ne hb] at e
      obtain ⟨h1, ys, h2, h3⟩ := r.mem _ _ e
      exact ⟨h1, ys, by rw [upd_ne hb]; exact h2, h3⟩
/-- a thing that is laid and forgotten -/
theorem Rep.junk (r : Rep K F H m) (h : H p = none) : Rep K F (upd H p o) m where
  sub := fun b u e => by
    rw [upd_ne (ne_of_none (r.sub _ _ e) h)]
    exact r.sub _ _ e
  mem := fun b es e => by
    obtain ⟨h1, ys, h2, h3⟩ := r.mem _ _ e
    exact ⟨h1, ys, by rw [upd_ne (ne_of_none h2 h)]; exact h2, h3⟩
/-- a list that is changed no more -/
theorem Rep.freeze (r : Rep K F H m) (h : m a = some ds) : ∃ G, Same F G ∧ Rep K G H (mdel m a) ∧ IsD K G (.lst ds) (.ref a) := by
  obtain ⟨h1, xs, h2, h3⟩ := r.mem _ _ h
  have s : Same F (upd F a (.lst xs)) := same_new h1
  refine ⟨upd F a (.lst xs), s, ⟨fun b u e => ?_, fun b es e => ?_⟩, a, xs, rfl, upd_same, isDs_mono s h3⟩
  · by_cases hb : b = a
    · subst hb
      rw [upd_same] at e
      rw [h2]
      exact e
    · rw [upd_ne hb] at e
      exact r.sub _ _ e
  · unfold mdel at e
    by_cases hb : b = a
    · rw [if_pos hb] at e
      cases e
    · rw [if_neg hb] at e
      obtain ⟨k1, ys, k2, k3⟩ := r.mem _ _ e
      exact ⟨by rw [upd_ne hb]; exact k1, ys, k2, isDs_mono s k3⟩
theorem Rep.weak {m' : Mu} (r : Rep K F H m) (h : ∀ b es, m' b = some es → m b = some es) : Rep K F H m' := ⟨r.sub, fun b es e => r.mem b es (h b es e)⟩
end

/-! ## slots -/
abbrev Env' := List (Option D)
def Slots (K : PySem.W.Frag) (F : Hp) (σ : L2.St) (g : Env') : Prop := σ.length = g.length ∧ ∀ (i : Nat) (d : D), g[i]? = some (some d) → ∃ v, σ[i]? = some (some v) ∧ IsD K F d v
theorem Slots.mono {F G : Hp} {σ : L2.St} {g : Env'} (s : Slots K F σ g) (e : Same F G) : Slots K G σ g := ⟨s.1, fun i d h => by
  obtain ⟨v, h1, h2⟩ := s.2 i d h
  exact ⟨v, h1, isD_mono e h2⟩⟩
theorem Slots.set {F : Hp} {σ : L2.St} {g : Env'} {d : D} {v : V} (s : Slots K F σ g) (h : IsD K F d v) (i : Nat) : Slots K F (σ.set i (some v)) (g.set i (some d)) := by
  refine ⟨by rw [List.length_set, List.length_set, s.1], fun j e hj => ?_⟩
  by_cases hij : i = j
  · subst hij
    by_cases hl : i < g.length
    · rw [List.getElem?_set_self hl] at hj
      cases hj
      exact ⟨v, List.getElem?_set_self (by rw [s.1]; exact hl), h⟩
    · rw [List.getElem?_eq_none (by rw [List.length_set]; omega)] at hj
      cases hj
  · rw [List.getElem?_set_ne hij] at hj
    rw [List.getElem?_set_ne hij]
    exact s.2 j e hj
def wipeD (g : Env') : List Nat → Env'
  | [] => g
  | v :: vs => (wipeD g vs).set v none
theorem Slots.forget {F : Hp} {σ : L2.St} {g : Env'} (s : Slots K F σ g) (i : Nat) : Slots K F (σ.set i none) (g.set i none) := by
  refine ⟨by rw [List.length_set, List.length_set, s.1], fun j e hj => ?_⟩
  by_cases hij : i = j
  · subst hij
    by_cases hl : i < g.length
    · rw [List.getElem?_set_self hl] at hj
      cases hj
    · rw [List.getElem?_eq_none (by rw [List.length_set]; omega)] at hj
      cases hj
  · rw [List.getElem?_set_ne hij] at hj
    rw [List.getElem?_set_ne hij]
    exact s.2 j e hj
theorem Slots.wipe {F : Hp} {σ : L2.St} {g : Env'} (s : Slots K F σ g) : ∀ vs : List Nat, Slots K F (L2.wipe σ vs) (wipeD g vs)
  | [] => s
  | v :: vs => (Slots.wipe s vs).forget v
theorem slots_start {F : Hp} {ds : List D} {vs : List V} (h : IsDs K F ds vs) (N : List Str) : Slots K F (L2.start N vs) (ds.map some ++ List.replicate (N.length - ds.length) none) := by
  have el := isDs_len h
  refine ⟨by unfold L2.start; rw [List.length_append, List.length_append, List.length_map, List.length_map, List.length_replicate, List.length_replicate, el], fun i d hi => ?_⟩
  by_cases hl : i < ds.length
  · rw [List.getElem?_append_left (by rw [List.length_map]; exact hl), List.getElem?_map] at hi
    cases e : ds[i]? with
    | none =>
      rw [e] at hi
      cases hi
    | some d' =>
      rw [e] at hi
      have ed : d' = d := Option.some.inj (Option.some.inj hi)
      subst ed
      obtain ⟨v, h1, h2⟩ := isDs_get h e
      refine ⟨v, ?_, h2⟩
      unfold L2.start
      rw [List.getElem?_append_left (by rw [List.length_map, el]; exact hl), List.getElem?_map, h1]
      rfl
  · rw [List.getElem?_append_right (by rw [List.length_map]; omega), List.getElem?_replicate] at hi
    split at hi <;> cases hi
end BB

namespace BB
open PySem PySem.Spec PyProof.Rows L2

/-! ## judgements: a rule's reading over data -/
abbrev TED := Env' → Mu → (D → Mu → Prop) → Prop
abbrev TTD := Env' → Mu → (Bool → Mu → Prop) → Prop
abbrev TAD := Env' → Mu → (List D → Mu → Prop) → Prop
abbrev TOD := Env' → Mu → (Option Int → Mu → Prop) → Prop
abbrev RD2 := D → D → Mu → (D → Mu → Prop) → Prop
abbrev RDC := List D → Mu → (D → Mu → Prop) → Prop
/-- from what is wanted over data to what is wanted of the heap -/
abbrev KtD (K : PySem.W.Frag) (F : Hp) (Q : D → Mu → Prop) (R : VK) : Prop := ∀ (d : D) (m' : Mu) (v : V) (F' H' : Hp), Q d m' → Same F F' → Rep K F' H' m' → IsD K F' d v → R v H'
def Snd (K : PySem.W.Frag) (t : TE) (td : TED) : Prop := ∀ (F H : Hp) (m : Mu) (σ : L2.St) (g : Env') (Q : D → Mu → Prop) (R : VK), Rep K F H m → Slots K F σ g → td g m Q → KtD K F Q R → t σ H R
def SndT (K : PySem.W.Frag) (t : TT) (td : TTD) : Prop := ∀ (F H : Hp) (m : Mu) (σ : L2.St) (g : Env') (Q : Bool → Mu → Prop) (R : Bool → Hp → Prop), Rep K F H m → Slots K F σ g → td g m Q →
  (∀ (b : Bool) (m' : Mu) (F' H' : Hp), Q b m' → Same F F' → Rep K F' H' m' → R b H') → t σ H R
def SndA (K : PySem.W.Frag) (t : TA) (td : TAD) : Prop := ∀ (F H : Hp) (m : Mu) (σ : L2.St) (g : Env') (Q : List D → Mu → Prop) (R : List V → Hp → Prop), Rep K F H m → Slots K F σ g → td g m Q →
  (∀ (ds : List D) (m' : Mu) (xs : List V) (F' H' : Hp), Q ds m' → Same F F' → Rep K F' H' m' → IsDs K F' ds xs → R xs H') → t σ H R
def SndO (K : PySem.W.Frag) (t : TO) (td : TOD) : Prop := ∀ (F H : Hp) (m : Mu) (σ : L2.St) (g : Env') (Q : Option Int → Mu → Prop) (R : Option Int → Hp → Prop), Rep K F H m → Slots K F σ g → td g m Q →
  (∀ (o : Option Int) (m' : Mu) (F' H' : Hp), Q o m' → Same F F' → Rep K F' H' m' → R o H') → t σ H R
def Snd2 (K : PySem.W.Frag) (r : R2) (rd : RD2) : Prop := ∀ (F H : Hp) (m : Mu) (x y : D) (v w : V) (Q : D → Mu → Prop) (R : VK), Rep K F H m → IsD K F x v → IsD K F y w → rd x y m Q → KtD K F Q R → r v w H R
def SndC (K : PySem.W.Frag) (r : List V → Hp → VK → Prop) (rd : RDC) : Prop := ∀ (F H : Hp) (m : Mu) (ds : List D) (xs : List V) (Q : D → Mu → Prop) (R : VK), Rep K F H m → IsDs K F ds xs → rd ds m Q → KtD K F Q R → r xs H R
structure DE (X : Cx) (e : Expr) (t : PySem.W.Frag → TE) (td : TED) : Prop where
  pe : PE X e (t X.K)
  sn : Snd X.K (t X.K) td
structure DT (X : Cx) (e : Expr) (t : PySem.W.Frag → TT) (td : TTD) : Prop where
  pe : PT X e (t X.K)
  sn : SndT X.K (t X.K) td
structure DW (X : Cx) (e : Expr) (t : PySem.W.Frag → TT) (td : TTD) : Prop where
  pe : PW X e (t X.K)
  sn : SndT X.K (t X.K) td
structure DA (X : Cx) (es : List Expr) (t : PySem.W.Frag → TA) (td : TAD) : Prop where
  pe : PA X es (t X.K)
  sn : SndA X.K (t X.K) td
structure DP (X : Cx) (e : Option Expr) (t : PySem.W.Frag → TO) (td : TOD) : Prop where
  pe : PO X e (t X.K)
  sn : SndO X.K (t X.K) td

section
variable {X : Cx}
/-! ## names, constants -/
def dVar (i : Nat) : TED := fun g m Q => match g[i]? with
  | some (some d) => Q d m
  | _ => False
def dC (d : D) : TED := fun _ m Q => Q d m
theorem sn_var {K : PySem.W.Frag} {i : Nat} : Snd K (tVar i) (dVar i) := fun F H m σ g Q R r s h k => by
  unfold dVar at h
  split at h
  · rename_i d e
    obtain ⟨v, h1, h2⟩ := s.2 i d e
    exact ⟨v, h1, k d m v F H h (Same.refl F) r h2⟩
  · exact h.elim
theorem dv (i : Nat) {x : Str} {pos : Pos} (hN : X.N[i]? = some x := by rfl) (hv : Vis X.env.scope x := by first | exact Or.inl rfl | exact Or.inr (Or.inl rfl) | exact Or.inr (Or.inr rfl)) (hd : (x == ("__debug__" : Str)) = false := by decide)
    (hcd : (x == ("__classdict__" : Str)) = false := by decide) : DE X (.Name x pos) (fun _ => tVar i) (dVar i) := ⟨pe_var hN hv hd hcd, sn_var⟩
theorem sn_c {K : PySem.W.Frag} {v : V} {d : D} (h : ∀ F : Hp, IsD K F d v) : Snd K (tC v) (dC d) := fun F H m σ g Q R r s q k => k d m v F H q (Same.refl F) r (h F)
theorem de_int {i j pos} : DE X (.Constant (.int i) j pos) (fun _ => tC (.int i)) (dC (.int i)) := ⟨pe_int, sn_c fun _ => rfl⟩
theorem de_bl {b j pos} : DE X (.Constant (.bool b) j pos) (fun _ => tC (.bl b)) (dC (.bl b)) := ⟨pe_bl, sn_c fun _ => rfl⟩
theorem de_non {j pos} : DE X (.Constant .none j pos) (fun _ => tC .non) (dC .non) := ⟨pe_non, sn_c fun _ => rfl⟩
theorem de_str {x j pos} : DE X (.Constant (.str x) j pos) (fun _ => tC (.str x)) (dC (.str x)) := ⟨pe_str, sn_c fun _ => rfl⟩
/-- a module's tuple -/
theorem de_glob {x : Str} {v : V} {d : D} {u : Value} {pos : Pos} (hg : Gl X x) (hm : X.mg x = some u) (r : RelV v u) (h : ∀ F : Hp, IsD X.K F d v) (hd : (x == ("__debug__" : Str)) = false := by decide) : DE X (.Name x pos) (fun _ => tC v) (dC d) := ⟨pe_glob hg hm r hd, sn_c h⟩

/-! ## operators -/
def dOp (rd : RD2) (ta tb : TED) : TED := fun g m Q => ta g m fun x m1 => tb g m1 fun y m2 => rd x y m2 Q
theorem sn_op {K : PySem.W.Frag} {r : R2} {rd : RD2} {ta tb : TE} {da db : TED} (hr : Snd2 K r rd) (ha : Snd K ta da) (hb : Snd K tb db) : Snd K (tOp r ta tb) (dOp rd da db) := fun F H m σ g Q R re s h k => by
  refine ha F H m σ g _ _ re s h fun x m1 v F1 H1 h1 e1 r1 i1 => ?_
  refine hb F1 H1 m1 σ g _ _ r1 (s.mono e1) h1 fun y m2 w F2 H2 h2 e2 r2 i2 => ?_
  exact hr F2 H2 m2 x y v w Q R r2 (isD_mono e2 i1) i2 h2 fun d m' u F' H' q e => k d m' u F' H' q ((e1.trans e2).trans e)
variable {a b e : Expr} {ta tb te : PySem.W.Frag → TE} {da db dd : TED} {pos : Pos}
theorem de_op (r : PySem.W.Frag → R2) {op : Operator} {rd : RD2} (ho : OpR X (binaryOp op) (r X.K)) (hr : Snd2 X.K (r X.K) rd) (ha : DE X a ta da) (hb : DE X b tb db) : DE X (.BinOp a op b pos) (fun K => tOp (r K) (ta K) (tb K)) (dOp rd da db) := ⟨pe_op ho ha.pe hb.pe, sn_op hr ha.sn hb.sn⟩
theorem de_cmp (r : PySem.W.Frag → R2) {op : CmpOp} {rd : RD2} (ho : OpR X (compareOp op) (r X.K)) (hr : Snd2 X.K (r X.K) rd) (ha : DE X a ta da) (hb : DE X b tb db) (hm : behindInMarks op b = false) : DE X (.Compare a [op] [b] pos) (fun K => tOp (r K) (ta K) (tb K)) (dOp rd da db) := ⟨pe_cmpR ho ha.pe hb.pe hm, sn_op hr ha.sn hb.sn⟩
def dTest (t : TED) : TTD := fun g m Q => t g m fun d m1 => match d with
  | .bl k => Q k m1
  | _ => False
theorem sn_test {K : PySem.W.Frag} {t : TE} {td : TED} (h : Snd K t td) : SndT K (tTest t) (dTest td) := fun F H m σ g Q R r s q k => by
  refine h F H m σ g _ _ r s q fun d m' v F' H' h1 e1 r1 i1 => ?_
  split at h1
  · rename_i c
    have ev : v = .bl c := i1
    exact ⟨c, ev, k c m' F' H' h1 e1 r1⟩
  · exact h1.elim
theorem sn_B {K : PySem.W.Frag} {t : TE} {td : TED} (h : Snd K t td) : SndT K (tB t) (dTest td) := sn_test h
theorem dt_cmp (r : PySem.W.Frag → R2) {op : CmpOp} {rd : RD2} (ho : OpR X (compareOp op) (r X.K)) (hr : Snd2 X.K (r X.K) rd) (ha : DE X a ta da) (hb : DE X b tb db) (hm : behindInMarks op b = false) : DT X (.Compare a [op] [b] pos) (fun K => tTest (tOp (r K) (ta K) (tb K))) (dTest (dOp rd da db)) :=
  ⟨pt_cmpR ho ha.pe hb.pe hm, sn_test (sn_op hr ha.sn hb.sn)⟩
theorem dt_val (h : DE X e te dd) (he : ∀ whole, isTrue e X.env whole = (do let v ← whole; standAt e.pos; holding [v] (truthy v)) := by intro _; rfl) : DT X e (fun K => tB (te K)) (dTest dd) := ⟨pt_val h.pe he, sn_B h.sn⟩

/-! the operators' readings -/
def dI (f : Int → Int → D) : RD2 := fun x y m Q => match x, y with
  | .int i, .int j => Q (f i j) m
  | _, _ => False
def dIc (C : Int → Int → Prop) (f : Int → Int → D) : RD2 := fun x y m Q => match x, y with
  | .int i, .int j => C i j ∧ Q (f i j) m
  | _, _ => False
theorem s2_I {K : PySem.W.Frag} {f : Int → Int → V} {fd : Int → Int → D} (h : ∀ (F : Hp) i j, IsD K F (fd i j) (f i j)) : Snd2 K (rI0 f) (dI fd) := fun F H m x y v w Q R r ix iy q k => by
  unfold dI at q
  split at q
  · rename_i i j
    exact ⟨i, j, ix, iy, k _ _ _ _ _ q (Same.refl F) r (h F i j)⟩
  · exact q.elim
theorem s2_Ic {K : PySem.W.Frag} {C : Int → Int → Prop} {f : Int → Int → V} {fd : Int → Int → D} (h : ∀ (F : Hp) i j, IsD K F (fd i j) (f i j)) : Snd2 K (rI C f) (dIc C fd) := fun F H m x y v w Q R r ix iy q k => by
  unfold dIc at q
  split at q
  · rename_i i j
    exact ⟨i, j, ix, iy, q.1, k _ _ _ _ _ q.2 (Same.refl F) r (h F i j)⟩
  · exact q.elim
abbrev dSub : RD2 := dI fun i j => .int (i - j)
abbrev dAnd : RD2 := dI fun i j => .int (Builtin.bitAnd i j)
abbrev dOr : RD2 := dI fun i j => .int (Builtin.bitOr i j)
abbrev dXor : RD2 := dI fun i j => .int (Builtin.bitXor i j)
abbrev dFdv : RD2 := dIc CDiv fun i j => .int (i / j)
abbrev dMod : RD2 := dIc (fun _ j => 0 < j) fun i j => .int (i % j)
abbrev dPow : RD2 := dIc CPow fun i j => .int (i ^ j.toNat)
abbrev dShl : RD2 := dIc CPow fun i j => .int (i * 2 ^ j.toNat)
abbrev dShr : RD2 := dIc (fun _ j => 0 ≤ j) fun i j => .int (i / 2 ^ j.toNat)
abbrev dLt : RD2 := dI fun i j => .bl (decide (i < j))
abbrev dLe : RD2 := dI fun i j => .bl (decide (i ≤ j))
abbrev dGt : RD2 := dI fun i j => .bl (decide (j < i))
abbrev dGe : RD2 := dI fun i j => .bl (decide (j ≤ i))
abbrev q_sub : R2 := rI0 fun i j => V.int (i - j)
abbrev q_and : R2 := rI0 fun i j => V.int (Builtin.bitAnd i j)
abbrev q_or : R2 := rI0 fun i j => V.int (Builtin.bitOr i j)
abbrev q_xor : R2 := rI0 fun i j => V.int (Builtin.bitXor i j)
abbrev q_fdv : R2 := rI CDiv fun i j => V.int (i / j)
abbrev q_mod : R2 := rI (fun _ j => 0 < j) fun i j => V.int (i % j)
abbrev q_pow : R2 := rI CPow fun i j => V.int (i ^ j.toNat)
abbrev q_shl : R2 := rI CPow fun i j => V.int (i * 2 ^ j.toNat)
abbrev q_shr : R2 := rI (fun _ j => 0 ≤ j) fun i j => V.int (i / 2 ^ j.toNat)
theorem de_sub (ha : DE X a ta da) (hb : DE X b tb db) : DE X (.BinOp a .Sub b pos) (fun K => tOp q_sub (ta K) (tb K)) (dOp dSub da db) := de_op (fun _ => q_sub) op_sub (s2_I fun _ _ _ => rfl) ha hb
theorem de_and (ha : DE X a ta da) (hb : DE X b tb db) : DE X (.BinOp a .BitAnd b pos) (fun K => tOp q_and (ta K) (tb K)) (dOp dAnd da db) := de_op (fun _ => q_and) op_and (s2_I fun _ _ _ => rfl) ha hb
theorem de_or (ha : DE X a ta da) (hb : DE X b tb db) : DE X (.BinOp a .BitOr b pos) (fun K => tOp q_or (ta K) (tb K)) (dOp dOr da db) := de_op (fun _ => q_or) op_or (s2_I fun _ _ _ => rfl) ha hb
theorem de_xor (ha : DE X a ta da) (hb : DE X b tb db) : DE X (.BinOp a .BitXor b pos) (fun K => tOp q_xor (ta K) (tb K)) (dOp dXor da db) := de_op (fun _ => q_xor) op_xor (s2_I fun _ _ _ => rfl) ha hb
theorem de_fdv (ha : DE X a ta da) (hb : DE X b tb db) : DE X (.BinOp a .FloorDiv b pos) (fun K => tOp q_fdv (ta K) (tb K)) (dOp dFdv da db) := de_op (fun _ => q_fdv) op_fdiv (s2_Ic fun _ _ _ => rfl) ha hb
theorem de_mod (ha : DE X a ta da) (hb : DE X b tb db) : DE X (.BinOp a .Mod b pos) (fun K => tOp q_mod (ta K) (tb K)) (dOp dMod da db) := de_op (fun _ => q_mod) op_mod (s2_Ic fun _ _ _ => rfl) ha hb
theorem de_pow (ha : DE X a ta da) (hb : DE X b tb db) : DE X (.BinOp a .Pow b pos) (fun K => tOp q_pow (ta K) (tb K)) (dOp dPow da db) := de_op (fun _ => q_pow) op_pow (s2_Ic fun _ _ _ => rfl) ha hb
theorem de_shl (ha : DE X a ta da) (hb : DE X b tb db) : DE X (.BinOp a .LShift b pos) (fun K => tOp q_shl (ta K) (tb K)) (dOp dShl da db) := de_op (fun _ => q_shl) op_shl (s2_Ic fun _ _ _ => rfl) ha hb
theorem de_shr (ha : DE X a ta da) (hb : DE X b tb db) : DE X (.BinOp a .RShift b pos) (fun K => tOp q_shr (ta K) (tb K)) (dOp dShr da db) := de_op (fun _ => q_shr) op_shr (s2_Ic fun _ _ _ => rfl) ha hb
theorem s2_or {K : PySem.W.Frag} {r r' : R2} {rd rd' : RD2} (h : Snd2 K r rd) (h' : Snd2 K r' rd') : Snd2 K (fun x y H Q => r x y H Q ∨ r' x y H Q) (fun x y m Q => rd x y m Q ∨ rd' x y m Q) := fun F H m x y v w Q R re ix iy q k => q.elim
  (fun z => .inl (h F H m x y v w Q R re ix iy z k)) fun z => .inr (h' F H m x y v w Q R re ix iy z k)
/-- + : ints, texts, tuples, lists that stand still -/
def dAdd : RD2 := fun x y m Q => match x, y with
  | .int i, .int j => Q (.int (i + j)) m
  | .str i, .str j => i.length + j.length ≤ sizeLine ∧ Q (.str (i ++ j)) m
  | .tup a, .tup b => a.length + b.length ≤ sizeLine ∧ Q (.tup (a ++ b)) m
  | .lst a, .lst b => a.length + b.length ≤ sizeLine ∧ Q (.lst (a ++ b)) m
  | _, _ => False
theorem rep_t {K : PySem.W.Frag} {F H : Hp} {m : Mu} {a : Addr} {xs : List V} (r : Rep K F H m) (h : SqT K F a xs) : SqT K H a xs := same_t r.sub h
abbrev q_add (K : PySem.W.Frag) : R2 := fun x y H Q => (rI0 fun i j => V.int (i + j)) x y H Q ∨ ((∃ i j, x = V.str i ∧ y = V.str j ∧ i.length + j.length ≤ sizeLine ∧ Q (V.str (i ++ j)) H) ∨ (rCatA K x y H Q ∨ rCat x y H Q))
theorem s2_add {K : PySem.W.Frag} : Snd2 K (q_add K) dAdd := fun F H m x y v w Q R r ix iy q k => by
  unfold dAdd at q
  split at q
  · rename_i i j
    exact .inl ⟨i, j, ix, iy, k _ _ _ _ _ q (Same.refl F) r rfl⟩
  · rename_i i j
    exact .inr (.inl ⟨i, j, ix, iy, q.1, k _ _ _ _ _ q.2 (Same.refl F) r rfl⟩)
  · rename_i ds es
    obtain ⟨p, xs, rfl, h1, h2⟩ := ix
    obtain ⟨u, ys, rfl, h3, h4⟩ := iy
    have l1 := isDs_len h2
    have l2 := isDs_len h4
    refine .inr (.inr (.inl ⟨p, u, xs, ys, rfl, rfl, rep_t r h1, rep_t r h3, by rw [l1, l2]; exact q.1, fun e => ?_, fun e e' => ?_, fun _ _ z hz => ?_⟩))
    · subst e
      have e2 : ds = [] := List.length_eq_zero_iff.mp l1.symm
      subst e2
      exact k _ _ _ _ _ q.2 (Same.refl F) r ⟨u, ys, rfl, h3, h4⟩
    · subst e'
      have e2 : es = [] := List.length_eq_zero_iff.mp l2.symm
      subst e2
      rw [List.append_nil] at q
      exact k _ _ _ _ _ q.2 (Same.refl F) r ⟨p, xs, rfl, h1, h2⟩
    · exact k _ _ _ _ _ q.2 (same_new (r.fr hz)) (r.newF hz) ⟨z, _, rfl, .inl (.inl upd_same), isDs_mono (same_new (r.fr hz)) (isDs_app h2 h4)⟩
  · rename_i ds es
    obtain ⟨p, xs, rfl, h1, h2⟩ := ix
    obtain ⟨u, ys, rfl, h3, h4⟩ := iy
    refine .inr (.inr (.inr ⟨p, u, xs, ys, rfl, rfl, r.sub _ _ h1, r.sub _ _ h3, by rw [isDs_len h2, isDs_len h4]; exact q.1, fun z hz => ?_⟩))
    exact k _ _ _ _ _ q.2 (same_new (r.fr hz)) (r.newF hz) ⟨z, _, rfl, upd_same, isDs_mono (same_new (r.fr hz)) (isDs_app h2 h4)⟩
  · exact q.elim
theorem de_add (ha : DE X a ta da) (hb : DE X b tb db) : DE X (.BinOp a .Add b pos) (fun K => tOp (q_add K) (ta K) (tb K)) (dOp dAdd da db) :=
  de_op q_add (op_add.or (op_add_str.or (op_catA.or op_cat))) s2_add ha hb
/-- * : ints (one below 2^64), a list by an int -/
def dMul : RD2 := fun x y m Q => match x, y with
  | .int i, .int j => CMul i j ∧ Q (.int (i * j)) m
  | .lst ds, .int k => 0 ≤ k ∧ k < 2 ^ 63 ∧ ds.length * k.toNat ≤ sizeLine ∧ Q (.lst (List.replicate k.toNat ds).flatten) m
  | _, _ => False
abbrev q_mul : R2 := fun x y H Q => (rI CMul fun i j => V.int (i * j)) x y H Q ∨ rRep x y H Q
theorem s2_mul {K : PySem.W.Frag} : Snd2 K q_mul dMul := fun F H m x y v w Q R r ix iy q k => by
  unfold dMul at q
  split at q
  · rename_i i j
    exact .inl ⟨i, j, ix, iy, q.1, k _ _ _ _ _ q.2 (Same.refl F) r rfl⟩
  · rename_i ds n
    obtain ⟨p, xs, rfl, h1, h2⟩ := ix
    obtain ⟨q1, q2, q3, q4⟩ := q
    refine .inr ⟨p, n, xs, rfl, iy, r.sub _ _ h1, by omega, q2, by rw [isDs_len h2]; exact q3, fun z hz => ?_⟩
    exact k _ _ _ _ _ q4 (same_new (r.fr hz)) (r.newF hz) ⟨z, _, rfl, upd_same, isDs_mono (same_new (r.fr hz)) (isDs_rep h2 _)⟩
  · exact q.elim
theorem de_mul (ha : DE X a ta da) (hb : DE X b tb db) : DE X (.BinOp a .Mult b pos) (fun K => tOp q_mul (ta K) (tb K)) (dOp dMul da db) :=
  de_op (fun _ => q_mul) (op_mul.or op_rep) s2_mul ha hb
/-! comparisons -/
def dEq : RD2 := fun x y m Q => match x, y with
  | .int i, .int j => Q (.bl (decide (i = j))) m
  | .str i, .str j => Q (.bl (decide (i = j))) m
  | _, _ => False
def dNe : RD2 := fun x y m Q => match x, y with
  | .int i, .int j => Q (.bl (!decide (i = j))) m
  | .str i, .str j => Q (.bl (!decide (i = j))) m
  | _, _ => False
theorem s2_eq {K : PySem.W.Frag} : Snd2 K rEq dEq := fun F H m x y v w Q R r ix iy q k => by
  unfold dEq at q
  split at q
  · rename_i i j
    have e1 : v = .int i := ix
    have e2 : w = .int j := iy
    subst e1 e2
    refine ⟨rfl, k _ _ _ _ _ q (Same.refl F) r ?_⟩
    show V.bl _ = V.bl _
    rw [dec_int, Bool.beq_eq_decide_eq]
  · rename_i i j
    have e1 : v = .str i := ix
    have e2 : w = .str j := iy
    subst e1 e2
    refine ⟨rfl, k _ _ _ _ _ q (Same.refl F) r ?_⟩
    show V.bl _ = V.bl _
    congr 1
    exact decide_eq_decide.mpr ⟨fun e => V.str.inj e, fun e => congrArg V.str e⟩
  · exact q.elim
theorem s2_ne {K : PySem.W.Frag} : Snd2 K rNe dNe := fun F H m x y v w Q R r ix iy q k => by
  unfold dNe at q
  split at q
  · rename_i i j
    have e1 : v = .int i := ix
    have e2 : w = .int j := iy
    subst e1 e2
    refine ⟨rfl, k _ _ _ _ _ q (Same.refl F) r ?_⟩
    show V.bl _ = V.bl _
    rw [dec_int, Bool.beq_eq_decide_eq]
  · rename_i i j
    have e1 : v = .str i := ix
    have e2 : w = .str j := iy
    subst e1 e2
    refine ⟨rfl, k _ _ _ _ _ q (Same.refl F) r ?_⟩
    show V.bl _ = V.bl _
    congr 2
    exact decide_eq_decide.mpr ⟨fun e => V.str.inj e, fun e => congrArg V.str e⟩
  · exact q.elim
def isNonD : D → Bool
  | .non => true
  | _ => false
theorem isNon_of {K : PySem.W.Frag} {F : Hp} {d : D} {v : V} (h : IsD K F d v) : decide (v = .non) = isNonD d := by
  cases d with
  | non =>
    have e : v = .non := h
    rw [e]
    rfl
  | bl _ =>
    have e : v = _ := h
    rw [e]
    rfl
  | int _ =>
    have e : v = _ := h
    rw [e]
    rfl
  | str _ =>
    have e : v = _ := h
    rw [e]
    rfl
  | tup _ =>
    obtain ⟨a, xs, rfl, _⟩ := h
    rfl
  | lst _ =>
    obtain ⟨a, xs, rfl, _⟩ := h
    rfl
  | adr _ =>
    have e : v = _ := h
    rw [e]
    rfl
  | scr _ =>
    obtain ⟨a, rfl, _⟩ := h
    rfl
def dIsN : RD2 := fun x y m Q => isNonD y = true ∧ Q (.bl (isNonD x)) m
def dNotN : RD2 := fun x y m Q => isNonD y = true ∧ Q (.bl (!isNonD x)) m
theorem isN_v {K : PySem.W.Frag} {F : Hp} {d : D} {v : V} (h : IsD K F d v) (e : isNonD d = true) : v = .non := of_decide_eq_true ((isNon_of h).trans e)
abbrev rIsN' : R2 := fun x y H Q => y = .non ∧ Q (.bl (decide (x = .non))) H
abbrev rNotN' : R2 := fun x y H Q => y = .non ∧ Q (.bl (!decide (x = .non))) H
theorem s2_isN {K : PySem.W.Frag} : Snd2 K rIsN' dIsN := fun F H m x y v w Q R r ix iy q k => ⟨isN_v iy q.1, k _ _ _ _ _ q.2 (Same.refl F) r (by
  show V.bl _ = V.bl _
  rw [isNon_of ix])⟩
theorem s2_notN {K : PySem.W.Frag} : Snd2 K rNotN' dNotN := fun F H m x y v w Q R r ix iy q k => ⟨isN_v iy q.1, k _ _ _ _ _ q.2 (Same.refl F) r (by
  show V.bl _ = V.bl _
  rw [isNon_of ix])⟩
theorem op_isN' : OpR X (compareOp .Is) rIsN' := op_isN
theorem op_notN' : OpR X (compareOp .IsNot) rNotN' := op_notN
/-! a sequence's items -/
/-- a list's items, as it stands -/
def LAt (m : Mu) : D → List D → Prop
  | .lst ds, es => es = ds
  | .adr a, es => m a = some es
  | _, _ => False
theorem lAt_h {K : PySem.W.Frag} {F H : Hp} {m : Mu} {d : D} {es : List D} {v : V} (r : Rep K F H m) (h : IsD K F d v) (l : LAt m d es) : ∃ a xs, v = .ref a ∧ H a = some (.lst xs) ∧ IsDs K F es xs := by
  cases d with
  | lst ds =>
    obtain ⟨a, xs, e, h1, h2⟩ := h
    have e2 : es = ds := l
    subst e2
    exact ⟨a, xs, e, r.sub _ _ h1, h2⟩
  | adr a =>
    have e : v = .ref a := h
    obtain ⟨_, xs, h2, h3⟩ := r.mem _ _ l
    exact ⟨a, xs, e, h2, h3⟩
  | non => exact False.elim l
  | bl _ => exact False.elim l
  | int _ => exact False.elim l
  | str _ => exact False.elim l
  | tup _ => exact False.elim l
  | scr _ => exact False.elim l
/-- with the items of a list or a tuple -/
def withSeq (d : D) (m : Mu) (k : List D → Prop) : Prop := match d with
  | .tup ds => k ds
  | .lst ds => k ds
  | .adr a => ∃ ds, m a = some ds ∧ k ds
  | .scr ns => k (ns.map D.int)
  | _ => False
theorem withSeq_h {K : PySem.W.Frag} {F H : Hp} {m : Mu} {d : D} {v : V} {k : List D → Prop} (r : Rep K F H m) (h : IsD K F d v) (l : withSeq d m k) : ∃ a xs ds, v = .ref a ∧ (SqL K H a xs ∨ SqT K H a xs) ∧ IsDs K F ds xs ∧ k ds := by
  cases d with
  | lst ds =>
    obtain ⟨a, xs, e, h1, h2⟩ := h
    exact ⟨a, xs, ds, e, .inl (.of (r.sub _ _ h1)), h2, l⟩
  | adr a =>
    have e : v = .ref a := h
    obtain ⟨ds, h1, h2⟩ := l
    obtain ⟨_, xs, h3, h4⟩ := r.mem _ _ h1
    exact ⟨a, xs, ds, e, .inl (.of h3), h4, h2⟩
  | tup ds =>
    obtain ⟨a, xs, e, h1, h2⟩ := h
    exact ⟨a, xs, ds, e, .inr (rep_t r h1), h2, l⟩
  | scr ns =>
    obtain ⟨a, e, h1⟩ := h
    exact ⟨a, _, _, e, .inl (r.sub.seq h1), ints_isDs ns, l⟩
  | non => exact False.elim l
  | bl _ => exact False.elim l
  | int _ => exact False.elim l
  | str _ => exact False.elim l
theorem isDs_at {K : PySem.W.Frag} {F : Hp} {ds : List D} {xs : List V} {i : Int} {d : D} (h : IsDs K F ds xs) (e : atI ds i = some d) : ∃ x, atI xs i = some x ∧ IsD K F d x := by
  unfold atI at e ⊢
  rw [isDs_len h]
  cases q : ixN ds.length i with
  | none =>
    rw [q] at e
    cases e
  | some j =>
    rw [q] at e
    exact isDs_get h e
def onSome {α : Type} (o : Option α) (k : α → Prop) : Prop := match o with
  | some x => k x
  | none => False
theorem onSome_h {α : Type} {o : Option α} {k : α → Prop} (h : onSome o k) : ∃ x, o = some x ∧ k x := by
  cases o with
  | none => exact h.elim
  | some x => exact ⟨x, rfl, h⟩
theorem onSome_i {α : Type} {o : Option α} {k : α → Prop} {x : α} (e : o = some x) (h : k x) : onSome o k := by
  rw [e]
  exact h
/-- xs[i] of a tuple, a list, a text -/
def dIx : RD2 := fun x y m Q => match x, y with
  | .str z, .int i => z.length ≤ sizeLine ∧ ∃ c, atI z.cps.toList i = some c ∧ Q (.str ⟨#[c]⟩) m
  | d, .int i => withSeq d m fun ds => onSome (atI ds i) fun e => Q e m
  | _, _ => False
theorem s2_ix {K : PySem.W.Frag} : Snd2 K (rIx K) dIx := fun F H m x y v w Q R r ix iy q k => by
  unfold dIx at q
  split at q
  · rename_i z i
    obtain ⟨q1, c, q2, q3⟩ := q
    exact .inr (.inr ⟨z, i, c, ix, iy, q1, q2, k _ _ _ _ _ q3 (Same.refl F) r rfl⟩)
  · rename_i i _
    obtain ⟨p, xs, ds, h1, h2, h3, q2⟩ := withSeq_h r ix q
    obtain ⟨e, h4, h5⟩ := onSome_h q2
    obtain ⟨u, h6, h7⟩ := isDs_at h3 h4
    rcases h2 with h2 | h2
    · exact .inl ⟨p, xs, i, u, h1, iy, h2, h6, k _ _ _ _ _ h5 (Same.refl F) r h7⟩
    · exact .inr (.inl ⟨p, xs, i, u, h1, iy, h2, h6, k _ _ _ _ _ h5 (Same.refl F) r h7⟩)
  · exact q.elim
theorem de_ix (ha : DE X a ta da) (hb : DE X b tb db) (hs : PlainIx b := by exact fun _ _ => rfl) : DE X (.Subscript a b pos) (fun K => tOp (rIx K) (ta K) (tb K)) (dOp dIx da db) := ⟨pe_ix ix_seq ha.pe hb.pe hs, sn_op s2_ix ha.sn hb.sn⟩
/-- x in xs -/
def dIn (neg : Bool) : RD2 := fun x y m Q => match x with
  | .str s => withSeq y m fun ds => ∃ ss : List Str, ds = ss.map D.str ∧ Q (.bl (if neg then !decide (s ∈ ss) else decide (s ∈ ss))) m
  | .int i => withSeq y m fun ds => ∃ ns : List Int, ds = ns.map D.int ∧ Q (.bl (if neg then !decide (i ∈ ns) else decide (i ∈ ns))) m
  | _ => False
theorem flat_strs : ∀ ss : List Str, (ss.map V.str).all flatV = true
  | [] => rfl
  | s :: ss => by
    rw [List.map_cons, List.all_cons, flat_strs ss]
    rfl
theorem flat_ints : ∀ ss : List Int, (ss.map V.int).all flatV = true
  | [] => rfl
  | s :: ss => by
    rw [List.map_cons, List.all_cons, flat_ints ss]
    rfl
theorem inV_strs (s : Str) : ∀ ss : List Str, inV (.str s) (ss.map V.str) = decide (s ∈ ss)
  | [] => by
    rw [decide_eq_false (List.not_mem_nil)]
    rfl
  | t :: ss => by
    have ih := inV_strs s ss
    unfold inV at ih ⊢
    rw [List.map_cons, List.any_cons, ih]
    have e : eqV (.str t) (.str s) = decide (t = s) := by
      show (t == s) = _
      exact Bool.beq_eq_decide_eq _ _
    rw [e, ← Bool.decide_or]
    exact decide_eq_decide.mpr ⟨fun h => h.elim (fun z => z ▸ List.mem_cons_self) (fun z => List.mem_cons_of_mem _ z), fun h => (List.mem_cons.mp h).elim (fun z => .inl z.symm) .inr⟩
theorem inV_ints (s : Int) : ∀ ss : List Int, inV (.int s) (ss.map V.int) = decide (s ∈ ss)
  | [] => by
    rw [decide_eq_false (List.not_mem_nil)]
    rfl
  | t :: ss => by
    have ih := inV_ints s ss
    unfold inV at ih ⊢
    rw [List.map_cons, List.any_cons, ih]
    have e : eqV (.int t) (.int s) = decide (t = s) := by
      show (t == s) = _
      exact Bool.beq_eq_decide_eq _ _
    rw [e, ← Bool.decide_or]
    exact decide_eq_decide.mpr ⟨fun h => h.elim (fun z => z ▸ List.mem_cons_self) (fun z => List.mem_cons_of_mem _ z), fun h => (List.mem_cons.mp h).elim (fun z => .inl z.symm) .inr⟩
theorem s2_in {K : PySem.W.Frag} {neg : Bool} : Snd2 K (rIn K neg) (dIn neg) := fun F H m x y v w Q R r ix iy q k => by
  unfold dIn at q
  split at q
  · rename_i s
    obtain ⟨p, xs, ds, h1, h2, h3, ss, h4, h5⟩ := withSeq_h r iy q
    subst h4
    have ex := isDs_strs h3
    subst ex
    have ev : v = .str s := ix
    subst ev
    exact ⟨p, _, h1, h2, rfl, flat_strs ss, k _ _ _ _ _ h5 (Same.refl F) r (by rw [inV_strs] <;> rfl)⟩
  · rename_i s
    obtain ⟨p, xs, ds, h1, h2, h3, ss, h4, h5⟩ := withSeq_h r iy q
    subst h4
    have ex := isDs_ints h3
    subst ex
    have ev : v = .int s := ix
    subst ev
    exact ⟨p, _, h1, h2, rfl, flat_ints ss, k _ _ _ _ _ h5 (Same.refl F) r (by rw [inV_ints] <;> rfl)⟩
  · exact q.elim
/-! -x -/
def dNeg (td : TED) : TED := fun g m Q => td g m fun d m1 => match d with
  | .int i => Q (.int (-i)) m1
  | _ => False
theorem de_neg (ha : DE X a ta da) : DE X (.UnaryOp .USub a pos) (fun K => tUn (rU fun i => .int (-i)) (ta K)) (dNeg da) := ⟨pe_un un_neg ha.pe, fun F H m σ g Q R r s h k => by
  refine ha.sn F H m σ g _ _ r s h fun d m1 v F1 H1 h1 e1 r1 i1 => ?_
  split at h1
  · rename_i i
    exact ⟨i, i1, k _ _ _ _ _ h1 e1 r1 rfl⟩
  · exact h1.elim⟩

/-! ## and, or, not, if-else -/
def dAndT (t u : TTD) : TTD := fun g m Q => t g m fun c m1 => if c = true then u g m1 Q else Q false m1
def dOrT (t u : TTD) : TTD := fun g m Q => t g m fun c m1 => if c = true then Q true m1 else u g m1 Q
def dNotT (t : TTD) : TTD := fun g m Q => t g m fun c m1 => Q (!c) m1
variable {tA tB' : PySem.W.Frag → TT} {dA dB : TTD} {rest : List Expr}
theorem dw_and1 (h : DT X a tA dA) : DW X (.BoolOp .And [a] pos) tA dA := ⟨pw_and1 h.pe, h.sn⟩
theorem dw_or1 (h : DT X a tA dA) : DW X (.BoolOp .Or [a] pos) tA dA := ⟨pw_or1 h.pe, h.sn⟩
theorem dw_and (h : DT X a tA dA) (h' : DW X (.BoolOp .And (b :: rest) pos) tB' dB) : DW X (.BoolOp .And (a :: b :: rest) pos) (fun K => tAnd (tA K) (tB' K)) (dAndT dA dB) := ⟨pw_and h.pe h'.pe, fun F H m σ g Q R r s q k => by
  refine h.sn F H m σ g _ _ r s q fun c m1 F1 H1 h1 e1 r1 => ?_
  by_cases hc : c = true
  · rw [if_pos hc] at h1 ⊢
    exact h'.sn F1 H1 m1 σ g Q R r1 (s.mono e1) h1 fun c m' F' H' q e => k c m' F' H' q (e1.trans e)
  · rw [if_neg hc] at h1 ⊢
    exact k _ _ _ _ h1 e1 r1⟩
theorem dw_or (h : DT X a tA dA) (h' : DW X (.BoolOp .Or (b :: rest) pos) tB' dB) : DW X (.BoolOp .Or (a :: b :: rest) pos) (fun K => tOr (tA K) (tB' K)) (dOrT dA dB) := ⟨pw_or h.pe h'.pe, fun F H m σ g Q R r s q k => by
  refine h.sn F H m σ g _ _ r s q fun c m1 F1 H1 h1 e1 r1 => ?_
  by_cases hc : c = true
  · rw [if_pos hc] at h1 ⊢
    exact k _ _ _ _ h1 e1 r1
  · rw [if_neg hc] at h1 ⊢
    exact h'.sn F1 H1 m1 σ g Q R r1 (s.mono e1) h1 fun c m' F' H' q e => k c m' F' H' q (e1.trans e)⟩
theorem DW.dt (h : DW X e tA dA) : DT X e tA dA := ⟨h.pe.pt, h.sn⟩
theorem dt_not (h : DT X a tA dA) : DT X (.UnaryOp .Not a pos) (fun K => tNot (tA K)) (dNotT dA) := ⟨pt_not h.pe, fun F H m σ g Q R r s q k =>
  h.sn F H m σ g _ _ r s q fun c m1 F1 H1 h1 e1 r1 => k _ _ _ _ h1 e1 r1⟩
/-- a and b as a value, a a bool -/
def dAndV (ta tb : TED) : TED := fun g m Q => ta g m fun d m1 => match d with
  | .bl c => if c = true then tb g m1 Q else Q (.bl false) m1
  | _ => False
theorem de_one {op} (h : DE X a ta da) : DE X (.BoolOp op [a] pos) ta da := ⟨pe_one h.pe, h.sn⟩
theorem de_andV (h : DE X a ta da) (h' : DE X (.BoolOp .And (b :: rest) pos) tb db) : DE X (.BoolOp .And (a :: b :: rest) pos) (fun K => tAndV (ta K) (tb K)) (dAndV da db) := ⟨pe_and h.pe h'.pe, fun F H m σ g Q R r s q k => by
  refine h.sn F H m σ g _ _ r s q fun d m1 v F1 H1 h1 e1 r1 i1 => ?_
  split at h1
  · rename_i c
    refine ⟨c, i1, ?_⟩
    by_cases hc : c = true
    · rw [if_pos hc] at h1 ⊢
      exact h'.sn F1 H1 m1 σ g Q R r1 (s.mono e1) h1 fun d m' v F' H' q e => k d m' v F' H' q (e1.trans e)
    · rw [if_neg hc] at h1 ⊢
      exact k _ _ _ _ _ h1 e1 r1 rfl
  · exact h1.elim⟩
def dIfE (t : TTD) (ta tb : TED) : TED := fun g m Q => t g m fun c m1 => if c = true then ta g m1 Q else tb g m1 Q
theorem de_if {c : Expr} (hc : DT X c tA dA) (ha : DE X a ta da) (hb : DE X b tb db) : DE X (.IfExp c a b pos) (fun K => tIf (tA K) (ta K) (tb K)) (dIfE dA da db) := ⟨pe_ifExp hc.pe ha.pe hb.pe, fun F H m σ g Q R r s q k => by
  refine hc.sn F H m σ g _ _ r s q fun c m1 F1 H1 h1 e1 r1 => ?_
  by_cases hc : c = true
  · rw [if_pos hc] at h1 ⊢
    exact ha.sn F1 H1 m1 σ g Q R r1 (s.mono e1) h1 fun d m' v F' H' q e => k d m' v F' H' q (e1.trans e)
  · rw [if_neg hc] at h1 ⊢
    exact hb.sn F1 H1 m1 σ g Q R r1 (s.mono e1) h1 fun d m' v F' H' q e => k d m' v F' H' q (e1.trans e)⟩
/-- the truth of a list -/
def dTru (td : TED) : TTD := fun g m Q => td g m fun d m1 => match d with
  | .lst ds => Q (!ds.isEmpty) m1
  | .adr a => ∃ ds, m1 a = some ds ∧ Q (!ds.isEmpty) m1
  | _ => False
theorem isDs_empty {K : PySem.W.Frag} {F : Hp} {ds : List D} {xs : List V} (h : IsDs K F ds xs) : xs.isEmpty = ds.isEmpty := by
  have l := isDs_len h
  cases xs with
  | nil => cases ds with
    | nil => rfl
    | cons _ _ => cases l
  | cons _ _ => cases ds with
    | nil => cases l
    | cons _ _ => rfl
theorem dt_tru (ha : DE X a ta da) (he : ∀ whole, isTrue a X.env whole = (do let v ← whole; standAt a.pos; holding [v] (truthy v)) := by intro _; rfl) : DT X a (fun K => fun σ H Q => (ta K) σ H fun x H' => ∃ k, TruV K x H' k ∧ Q k H') (dTru da) := ⟨pt_truth ha.pe he, fun F H m σ g Q R r s q k => by
  refine ha.sn F H m σ g _ _ r s q fun d m1 v F1 H1 h1 e1 r1 i1 => ?_
  split at h1
  · rename_i ds
    obtain ⟨p, xs, rfl, h2, h3⟩ := i1
    refine ⟨!ds.isEmpty, .inl ⟨xs, .of (r1.sub _ _ h2), by rw [isDs_empty h3]⟩, k _ _ _ _ h1 e1 r1⟩
  · rename_i p
    obtain ⟨ds, h4, h1⟩ := h1
    have ev : v = .ref p := i1
    subst ev
    obtain ⟨_, xs, h2, h3⟩ := r1.mem _ _ h4
    refine ⟨!ds.isEmpty, .inl ⟨xs, .of h2, by rw [isDs_empty h3]⟩, k _ _ _ _ h1 e1 r1⟩
  · exact h1.elim⟩

/-! ## argument lists, displays -/
def dNil : TAD := fun _ m Q => Q [] m
def dCons (ta : TED) (tr : TAD) : TAD := fun g m Q => ta g m fun x m1 => tr g m1 fun xs m2 => Q (x :: xs) m2
variable {es : List Expr} {t : PySem.W.Frag → TA} {dt : TAD}
theorem da_nil : DA X [] (fun _ => tNil) dNil := ⟨pa_nil, fun F H m σ g Q R r s q k => k [] m [] F H q (Same.refl F) r rfl⟩
theorem da_cons (ha : DE X e te dd) (hr : DA X es t dt) (hs : starEach (e :: es) X.env = (false, eval e X.env) :: starEach es X.env := by rfl) : DA X (e :: es) (fun K => tCons (te K) (t K)) (dCons dd dt) := ⟨pa_cons ha.pe hr.pe hs, fun F H m σ g Q R r s q k => by
  refine ha.sn F H m σ g _ _ r s q fun x m1 v F1 H1 h1 e1 r1 i1 => ?_
  refine hr.sn F1 H1 m1 σ g _ _ r1 (s.mono e1) h1 fun xs m2 vs F2 H2 h2 e2 r2 i2 => ?_
  exact k _ _ _ _ _ h2 (e1.trans e2) r2 (isDs_cons (isD_mono e2 i1) i2)⟩
def dTup (t : TAD) : TED := fun g m Q => t g m fun ds m1 => ds.length ≤ sizeLine ∧ Q (.tup ds) m1
def dLst (t : TAD) : TED := fun g m Q => t g m fun ds m1 => ds.length ≤ sizeLine ∧ Q (.lst ds) m1
/-- a new list that will be changed -/
def dNew (t : TAD) : TED := fun g m Q => t g m fun ds m1 => ds.length ≤ sizeLine ∧ ∀ p, m1 p = none → Q (.adr p) (mset m1 p ds)
theorem de_tup {x1} (h : DA X es t dt) : DE X (.Tuple es x1 pos) (fun K => tTup (t K)) (dTup dt) := ⟨pe_tup h.pe, fun F H m σ g Q R r s q k => by
  refine h.sn F H m σ g _ _ r s q fun ds m1 xs F1 H1 h1 e1 r1 i1 => ?_
  refine ⟨by rw [isDs_len i1]; exact h1.1, fun p hp => ?_⟩
  exact k _ _ _ _ _ h1.2 (e1.trans (same_new (r1.fr hp))) (r1.newF hp) ⟨p, xs, rfl, .inl (.inl upd_same), isDs_mono (same_new (r1.fr hp)) i1⟩⟩
theorem de_lst (h : DA X es t dt) : DE X (.List es pos) (fun K => tLst (t K)) (dLst dt) := ⟨pe_lst h.pe, fun F H m σ g Q R r s q k => by
  refine h.sn F H m σ g _ _ r s q fun ds m1 xs F1 H1 h1 e1 r1 i1 => ?_
  refine ⟨by rw [isDs_len i1]; exact h1.1, fun p hp => ?_⟩
  exact k _ _ _ _ _ h1.2 (e1.trans (same_new (r1.fr hp))) (r1.newF hp) ⟨p, xs, rfl, upd_same, isDs_mono (same_new (r1.fr hp)) i1⟩⟩
theorem de_new (h : DA X es t dt) : DE X (.List es pos) (fun K => tLst (t K)) (dNew dt) := ⟨pe_lst h.pe, fun F H m σ g Q R r s q k => by
  refine h.sn F H m σ g _ _ r s q fun ds m1 xs F1 H1 h1 e1 r1 i1 => ?_
  refine ⟨by rw [isDs_len i1]; exact h1.1, fun p hp => ?_⟩
  exact k _ _ _ _ _ (h1.2 p (r1.mfr hp)) e1 (r1.newM hp i1) rfl⟩

/-! ## slices -/
def dNoP : TOD := fun _ m Q => Q none m
def dPart (td : TED) : TOD := fun g m Q => td g m fun d m1 => match d with
  | .int i => Q (some i) m1
  | _ => False
theorem dp_none : DP X none (fun _ => tNoPart) dNoP := ⟨po_none, fun F H m σ g Q R r s q k => k none m F H q (Same.refl F) r⟩
theorem dp_some (h : DE X e te dd) : DP X (some e) (fun K => tPart (te K)) (dPart dd) := ⟨po_some h.pe, fun F H m σ g Q R r s q k => by
  refine h.sn F H m σ g _ _ r s q fun d m1 v F1 H1 h1 e1 r1 i1 => ?_
  split at h1
  · rename_i i
    exact ⟨i, i1, k _ _ _ _ h1 e1 r1⟩
  · exact h1.elim⟩
def cutD (ds : List D) (lo hi : Option Int) : List D := (ds.drop (HT.sIx ds.length 0 lo)).take (HT.sIx ds.length ds.length hi - HT.sIx ds.length 0 lo)
theorem isDs_cut {K : PySem.W.Frag} {F : Hp} {ds : List D} {xs : List V} (lo hi : Option Int) (h : IsDs K F ds xs) : IsDs K F (cutD ds lo hi) (cutV xs lo hi) := by
  unfold cutD cutV
  rw [isDs_len h]
  exact isDs_take _ (isDs_drop _ h)
theorem cutD_whole {ds : List D} {lo hi : Option Int} (h : HT.sIx ds.length 0 lo = 0 ∧ HT.sIx ds.length ds.length hi = ds.length) : cutD ds lo hi = ds := by
  unfold cutD
  rw [h.1, h.2, List.drop_zero, Nat.sub_zero, List.take_length]
def dSl (td : TED) (tl th : TOD) : TED := fun g m Q => td g m fun d m1 => tl g m1 fun lo m2 => th g m2 fun hi m3 => match d with
  | .tup ds => Q (.tup (cutD ds lo hi)) m3
  | .lst ds => Q (.lst (cutD ds lo hi)) m3
  | .adr a => ∃ ds, m3 a = some ds ∧ Q (.lst (cutD ds lo hi)) m3
  | _ => False
abbrev q_sl (K : PySem.W.Frag) : V → Option Int → Option Int → Hp → VK → Prop := fun x lo hi H Q => rSlL K x lo hi H Q ∨ rSlA K x lo hi H Q
theorem de_sl {lo hi : Option Expr} {tl th : PySem.W.Frag → TO} {dl dh : TOD} {p2 : Pos} (ha : DE X e te dd) (hl : DP X lo tl dl) (hh : DP X hi th dh) : DE X (.Subscript e (.Slice lo hi none p2) pos) (fun K => tSl (q_sl K) (te K) (tl K) (th K)) (dSl dd dl dh) := ⟨pe_slice (sl_list.or sl_tupA) ha.pe hl.pe hh.pe, fun F H m σ g Q R r s q k => by
  refine ha.sn F H m σ g _ _ r s q fun d m1 v F1 H1 h1 e1 r1 i1 => ?_
  refine hl.sn F1 H1 m1 σ g _ _ r1 (s.mono e1) h1 fun l m2 F2 H2 h2 e2 r2 => ?_
  refine hh.sn F2 H2 m2 σ g _ _ r2 ((s.mono e1).mono e2) h2 fun u m3 F3 H3 h3 e3 r3 => ?_
  have i3 := isD_mono (e2.trans e3) i1
  have e4 := (e1.trans e2).trans e3
  split at h3
  · rename_i ds
    obtain ⟨p, xs, rfl, k1, k2⟩ := i3
    have ln := isDs_len k2
    refine .inr ⟨p, xs, rfl, rep_t r3 k1, fun hw => ?_, fun hw z hz => ?_⟩
    · rw [ln] at hw
      rw [cutD_whole hw] at h3
      exact k _ _ _ _ _ h3 e4 r3 ⟨p, xs, rfl, k1, k2⟩
    · exact k _ _ _ _ _ h3 (e4.trans (same_new (r3.fr hz))) (r3.newF hz) ⟨z, _, rfl, .inl (.inl upd_same), isDs_mono (same_new (r3.fr hz)) (isDs_cut l u k2)⟩
  · rename_i ds
    obtain ⟨p, xs, rfl, k1, k2⟩ := i3
    refine .inl ⟨p, xs, rfl, .of (r3.sub _ _ k1), fun z hz => ?_⟩
    exact k _ _ _ _ _ h3 (e4.trans (same_new (r3.fr hz))) (r3.newF hz) ⟨z, _, rfl, upd_same, isDs_mono (same_new (r3.fr hz)) (isDs_cut l u k2)⟩
  · rename_i p
    obtain ⟨ds, k1, k2⟩ := h3
    have ev : v = .ref p := i3
    subst ev
    obtain ⟨_, xs, k3, k4⟩ := r3.mem _ _ k1
    refine .inl ⟨p, xs, rfl, .of k3, fun z hz => ?_⟩
    exact k _ _ _ _ _ k2 (e4.trans (same_new (r3.fr hz))) (r3.newF hz) ⟨z, _, rfl, upd_same, isDs_mono (same_new (r3.fr hz)) (isDs_cut l u k4)⟩
  · exact h3.elim⟩
/-- xs[::-1] of a list -/
def dRevL (td : TED) : TED := fun g m Q => td g m fun d m1 => match d with
  | .lst ds => Q (.lst ds.reverse) m1
  | _ => False
theorem de_revL {k0 : Nat} {p1 p2 p3 : Pos} (he : DE X e te dd) : DE X (.Subscript e (.Slice none none (some (.UnaryOp .USub (.Constant (.int 1) k0 p1) p2)) p3) pos) (fun K => tRevL K (te K)) (dRevL dd) := ⟨pe_revL he.pe, fun F H m σ g Q R r s q k => by
  refine he.sn F H m σ g _ _ r s q fun d m1 v F1 H1 h1 e1 r1 i1 => ?_
  split at h1
  · rename_i ds
    obtain ⟨p, xs, rfl, k1, k2⟩ := i1
    refine ⟨p, xs, rfl, .of (r1.sub _ _ k1), fun z hz => ?_⟩
    exact k _ _ _ _ _ h1 (e1.trans (same_new (r1.fr hz))) (r1.newF hz) ⟨z, _, rfl, upd_same, isDs_mono (same_new (r1.fr hz)) (isDs_rev k2)⟩
  · exact h1.elim⟩
end
end BB

namespace BB
open PySem PySem.Spec PyProof.Rows L2

/-! ## calls -/
/-- what a def promises, over data -/
abbrev SpD := List D → Mu → (D → Mu → Prop) → Prop
def up (K : PySem.W.Frag) (n : Nat) (sp : SpD) : Sp := fun vs H R _ => vs.length = n ∧ ∃ (F : Hp) (m : Mu) (ds : List D) (Q : D → Mu → Prop), Rep K F H m ∧ IsDs K F ds vs ∧ sp ds m Q ∧ KtD K F Q R
/-- a def that may be called by its name -/
structure Cal (P : Program) (w : World) (K : PySem.W.Frag) (mg : Str → Option Value) (base : Heap) (x : Str) (k : Nat) (ps : List Str) (sp : Sp) : Prop where
  ex : ∃ (f : Addr) (fd : FuncData), FnOk P w K mg base CX0 k f fd ps sp ∧ mg x = some (.ref f) ∧ PySem.W.keepIn K (.ref f) = true ∧ Binds K fd ps []
theorem Cal.mono {P : Program} {w : World} {K : PySem.W.Frag} {mg : Str → Option Value} {base : Heap} {x : Str} {j k : Nat} {ps : List Str} {sp : Sp} (C : Cal P w K mg base x j ps sp) (h : j ≤ k) : Cal P w K mg base x k ps sp := by
  obtain ⟨f, fd, h1, h2⟩ := C.ex
  exact ⟨f, fd, h1.mono h, h2⟩
/-- a def as it stands behind the top -/
structure Def (K : PySem.W.Frag) (mg : Str → Option Value) (x : Str) (st : Stmt) : Prop where
  ex : ∃ (f : Addr) (fd : FuncData), FunD K x x (defArgs st) (defBody st) (defScope st) [] [] f fd ∧ mg x = some (.ref f)
section
variable {X : Cx}
variable {a b e : Expr} {ta tb te : PySem.W.Frag → TE} {da db dd : TED} {pos : Pos} {tA tB' : PySem.W.Frag → TT} {dA dB : TTD} {es : List Expr} {t : PySem.W.Frag → TA} {dt : TAD}
def dCall (n : Nat) (sp : SpD) (dt : TAD) : TED := fun g m Q => dt g m fun ds m1 => ds.length = n ∧ sp ds m1 Q
theorem sn_call {K : PySem.W.Frag} {n : Nat} {sp : SpD} {t : TA} {dt : TAD} (h : SndA K t dt) : Snd K (tCall (up K n sp) [] E0 t) (dCall n sp dt) := fun F H m σ g Q R r s q k => by
  refine h F H m σ g _ _ r s q fun ds m1 xs F1 H1 h1 e1 r1 i1 => ?_
  show up K n sp (xs ++ []) H1 R E0
  rw [List.append_nil]
  refine ⟨by rw [isDs_len i1]; exact h1.1, F1, m1, ds, Q, r1, i1, h1.2, fun d m' v F' H' q e => k d m' v F' H' q (e1.trans e)⟩
theorem de_call {x : Str} {p : Pos} {k n : Nat} {ps : List Str} {sp : SpD} (C : Cal X.prog X.w X.K X.mg X.base x k ps (up X.K n sp)) (hr : Room k X.A) (hg : Gl X x) (ha : DA X (e :: es) t dt) (hdb : (x == ("__debug__" : Str)) = false := by decide)
    (he : starEach (e :: es) X.env = (false, eval e X.env) :: starEach es X.env := by rfl) (hpl : (backTo pos (starEach es X.env)).any (·.1) = false := by rfl) : DE X (.Call (.Name x p) (e :: es) [] pos) (fun K => tCall (up K n sp) [] E0 (t K)) (dCall n sp dt) := by
  obtain ⟨f, fd, h1, h2, h3, h4⟩ := C.ex
  exact ⟨pe_call h1 hr hg h2 h3 h4 .nil pass0 ha.pe hdb he hpl, sn_call ha.sn⟩
/-! built-in functions and types -/
def dCB (rd : RDC) (dt : TAD) : TED := fun g m Q => dt g m fun ds m1 => rd ds m1 Q
theorem sn_cb {K : PySem.W.Frag} {r : List V → Hp → VK → Prop} {rd : RDC} {t : TA} {dt : TAD} (hr : SndC K r rd) (h : SndA K t dt) : Snd K (tCB r t) (dCB rd dt) := fun F H m σ g Q R re s q k => by
  refine h F H m σ g _ _ re s q fun ds m1 xs F1 H1 h1 e1 r1 i1 => ?_
  exact hr F1 H1 m1 ds xs Q R r1 i1 h1 fun d m' v F' H' q e => k d m' v F' H' q (e1.trans e)
theorem de_cb (r : PySem.W.Frag → List V → Hp → VK → Prop) {x : Str} {p : Pos} {id : String} {rd : RDC} (hc : CallR X (.builtin id) (r X.K)) (hs : SndC X.K (r X.K) rd) (hg : Gl X x) (hm : X.mg x = none) (hv : bootBuiltins x = some (.builtin id)) (ha : DA X (e :: es) t dt) (hn : x ≠ "__name__" := by decide) (hdb : (x == ("__debug__" : Str)) = false := by decide)
    (he : starEach (e :: es) X.env = (false, eval e X.env) :: starEach es X.env := by rfl) (hpl : (backTo pos (starEach es X.env)).any (·.1) = false := by rfl) : DE X (.Call (.Name x p) (e :: es) [] pos) (fun K => tCB (r K) (t K)) (dCB rd dt) := ⟨pe_callB hc hg hm hv ha.pe hn hdb he hpl, sn_cb hs ha.sn⟩
theorem de_ct (r : PySem.W.Frag → List V → Hp → VK → Prop) {x : Str} {p : Pos} {id : String} {rd : RDC} (hc : CallR X (.type id) (r X.K)) (hs : SndC X.K (r X.K) rd) (hg : Gl X x) (hm : X.mg x = none) (hv : bootBuiltins x = some (.type id)) (ha : DA X (e :: es) t dt) (hn : x ≠ "__name__" := by decide) (hdb : (x == ("__debug__" : Str)) = false := by decide)
    (he : starEach (e :: es) X.env = (false, eval e X.env) :: starEach es X.env := by rfl) (hpl : (backTo pos (starEach es X.env)).any (·.1) = false := by rfl) : DE X (.Call (.Name x p) (e :: es) [] pos) (fun K => tCB (r K) (t K)) (dCB rd dt) := ⟨pe_callTy hc hg hm hv ha.pe hn hdb he hpl, sn_cb hs ha.sn⟩
theorem isDs1 {K : PySem.W.Frag} {F : Hp} {d : D} {xs : List V} (h : IsDs K F [d] xs) : ∃ x, xs = [x] ∧ IsD K F d x := by
  obtain ⟨x, r, h1, h2, h3⟩ := h
  have h3' : r = [] := h3
  rw [h3'] at h1
  exact ⟨x, h1, h2⟩
theorem isDs2 {K : PySem.W.Frag} {F : Hp} {d d' : D} {xs : List V} (h : IsDs K F [d, d'] xs) : ∃ x y, xs = [x, y] ∧ IsD K F d x ∧ IsD K F d' y := by
  obtain ⟨x, r, h1, h2, h3⟩ := h
  obtain ⟨y, e1, e2⟩ := isDs1 h3
  rw [e1] at h1
  exact ⟨x, y, h1, h2, e2⟩
/-- with one argument | with two -/
def with1 (ds : List D) (k : D → Prop) : Prop := match ds with
  | [d] => k d
  | _ => False
theorem with1_h {ds : List D} {k : D → Prop} (h : with1 ds k) : ∃ d, ds = [d] ∧ k d := by
  unfold with1 at h
  split at h
  · exact ⟨_, rfl, h⟩
  · exact h.elim
abbrev rAbs' (_ : PySem.W.Frag) : List V → Hp → VK → Prop := fun xs H Q => ∃ i, xs = [V.int i] ∧ Q (.int (if i < 0 then -i else i)) H
abbrev rInt' (_ : PySem.W.Frag) : List V → Hp → VK → Prop := fun xs H Q => (∃ i, xs = [V.int i] ∧ Q (.int i) H) ∨ ∃ k, xs = [V.bl k] ∧ Q (.int (if k then 1 else 0)) H
abbrev rMax' (_ : PySem.W.Frag) : List V → Hp → VK → Prop := fun xs H Q => ∃ i j, xs = [V.int i, V.int j] ∧ Q (.int (if j > i then j else i)) H
abbrev rMin' (_ : PySem.W.Frag) : List V → Hp → VK → Prop := fun xs H Q => ∃ i j, xs = [V.int i, V.int j] ∧ Q (.int (if j < i then j else i)) H
abbrev rStr' (_ : PySem.W.Frag) : List V → Hp → VK → Prop := fun xs H Q => ∃ i : Int, xs = [V.int i] ∧ i.natAbs.log2 < 1920 ∧ Q (.str (toString i : String)) H
def rLen' (K : PySem.W.Frag) : List V → Hp → VK → Prop := fun xs H Q => ∃ p ys, xs = [.ref p] ∧ (SqL K H p ys ∨ SqT K H p ys) ∧ Q (.int ys.length) H
def dLen : RDC := fun ds m Q => with1 ds fun d => withSeq d m fun es => Q (.int es.length) m
theorem sc_len {K : PySem.W.Frag} : SndC K (rLen' K) dLen := fun F H m ds xs Q R r i q k => by
  obtain ⟨d, rfl, q⟩ := with1_h q
  obtain ⟨x, rfl, ix⟩ := isDs1 i
  obtain ⟨p, ys, es, rfl, h1, h2, h3⟩ := withSeq_h r ix q
  refine ⟨p, ys, rfl, h1, k _ _ _ _ _ h3 (Same.refl F) r ?_⟩
  show V.int _ = V.int _
  rw [isDs_len h2]
def dInt1 (f : Int → Int) : RDC := fun ds m Q => match ds with
  | [.int i] => Q (.int (f i)) m
  | _ => False
def dInt2 (f : Int → Int → Int) : RDC := fun ds m Q => match ds with
  | [.int i, .int j] => Q (.int (f i j)) m
  | _ => False
theorem sc_abs {K : PySem.W.Frag} : SndC K (fun xs H Q => ∃ i, xs = [V.int i] ∧ Q (.int (if i < 0 then -i else i)) H) (dInt1 fun i => if i < 0 then -i else i) := fun F H m ds xs Q R r i q k => by
  unfold dInt1 at q
  split at q
  · rename_i j
    obtain ⟨x, rfl, ix⟩ := isDs1 i
    have ex : x = V.int j := ix
    subst ex
    exact ⟨j, rfl, k _ _ _ _ _ q (Same.refl F) r rfl⟩
  · exact q.elim
theorem sc_int {K : PySem.W.Frag} : SndC K (fun xs H Q => (∃ i, xs = [V.int i] ∧ Q (.int i) H) ∨ ∃ k, xs = [V.bl k] ∧ Q (.int (if k then 1 else 0)) H) (dInt1 fun i => i) := fun F H m ds xs Q R r i q k => by
  unfold dInt1 at q
  split at q
  · rename_i j
    obtain ⟨x, rfl, ix⟩ := isDs1 i
    have ex : x = V.int j := ix
    subst ex
    exact .inl ⟨j, rfl, k _ _ _ _ _ q (Same.refl F) r rfl⟩
  · exact q.elim
theorem sc_max {K : PySem.W.Frag} : SndC K (fun xs H Q => ∃ i j, xs = [V.int i, V.int j] ∧ Q (.int (if j > i then j else i)) H) (dInt2 fun i j => if j > i then j else i) := fun F H m ds xs Q R r i q k => by
  unfold dInt2 at q
  split at q
  · rename_i a b
    obtain ⟨x, y, rfl, ix, iy⟩ := isDs2 i
    have ex : x = V.int a := ix
    have ey : y = V.int b := iy
    subst ex ey
    exact ⟨a, b, rfl, k _ _ _ _ _ q (Same.refl F) r rfl⟩
  · exact q.elim
theorem sc_min {K : PySem.W.Frag} : SndC K (fun xs H Q => ∃ i j, xs = [V.int i, V.int j] ∧ Q (.int (if j < i then j else i)) H) (dInt2 fun i j => if j < i then j else i) := fun F H m ds xs Q R r i q k => by
  unfold dInt2 at q
  split at q
  · rename_i a b
    obtain ⟨x, y, rfl, ix, iy⟩ := isDs2 i
    have ex : x = V.int a := ix
    have ey : y = V.int b := iy
    subst ex ey
    exact ⟨a, b, rfl, k _ _ _ _ _ q (Same.refl F) r rfl⟩
  · exact q.elim
def rListOf (K : PySem.W.Frag) : List V → Hp → VK → Prop := fun xs H Q => ∃ p ys, xs = [.ref p] ∧ (SqL K H p ys ∨ SqT K H p ys) ∧ ∀ l, H l = none → Q (.ref l) (upd H l (.lst ys))
/-- list(..): a list that stands still -/
def dListF : RDC := fun ds m Q => with1 ds fun d => withSeq d m fun es => Q (.lst es) m
theorem sc_list {K : PySem.W.Frag} : SndC K (rListOf K) dListF := fun F H m ds xs Q R r i q k => by
  obtain ⟨d, rfl, q⟩ := with1_h q
  obtain ⟨x, rfl, ix⟩ := isDs1 i
  obtain ⟨p, ys, es, rfl, h1, h2, h3⟩ := withSeq_h r ix q
  refine ⟨p, ys, rfl, h1, fun l hl => k _ _ _ _ _ h3 (same_new (r.fr hl)) (r.newF hl) ⟨l, ys, rfl, upd_same, isDs_mono (same_new (r.fr hl)) h2⟩⟩
def rTupOf (K : PySem.W.Frag) : List V → Hp → VK → Prop := fun xs H Q => ∃ a ys, xs = [V.ref a] ∧ ((SqL K H a ys ∧ ∀ l, H l = none → Q (.ref l) (upd H l (.tup ys))) ∨ (SqT K H a ys ∧ Q (.ref a) H))
def dTupOf : RDC := fun ds m Q => with1 ds fun d => withSeq d m fun es => Q (.tup es) m
theorem sc_tup {K : PySem.W.Frag} : SndC K (rTupOf K) dTupOf := fun F H m ds xs Q R r i q k => by
  obtain ⟨d, rfl, q⟩ := with1_h q
  obtain ⟨x, rfl, ix⟩ := isDs1 i
  cases d with
  | tup es =>
    obtain ⟨p, ys, rfl, h1, h2⟩ := ix
    exact ⟨p, ys, rfl, .inr ⟨rep_t r h1, k _ _ _ _ _ q (Same.refl F) r ⟨p, ys, rfl, h1, h2⟩⟩⟩
  | lst es =>
    obtain ⟨p, ys, rfl, h1, h2⟩ := ix
    exact ⟨p, ys, rfl, .inl ⟨.of (r.sub _ _ h1), fun l hl => k _ _ _ _ _ q (same_new (r.fr hl)) (r.newF hl) ⟨l, ys, rfl, .inl (.inl upd_same), isDs_mono (same_new (r.fr hl)) h2⟩⟩⟩
  | adr p =>
    have ev : x = .ref p := ix
    subst ev
    obtain ⟨es, h1, q⟩ := q
    obtain ⟨_, ys, h2, h3⟩ := r.mem _ _ h1
    exact ⟨p, ys, rfl, .inl ⟨.of h2, fun l hl => k _ _ _ _ _ q (same_new (r.fr hl)) (r.newF hl) ⟨l, ys, rfl, .inl (.inl upd_same), isDs_mono (same_new (r.fr hl)) h3⟩⟩⟩
  | scr ns =>
    obtain ⟨p, rfl, h1⟩ := ix
    exact ⟨p, _, rfl, .inl ⟨r.sub.seq h1, fun l hl => k _ _ _ _ _ q (same_new (r.fr hl)) (r.newF hl) ⟨l, _, rfl, .inl (.inl upd_same), ints_isDs ns⟩⟩⟩
  | non => exact False.elim q
  | bl _ => exact False.elim q
  | int _ => exact False.elim q
  | str _ => exact False.elim q
/-- sum of ints -/
def dSumI : RDC := fun ds m Q => with1 ds fun d => ∃ ns : List Int, LAt m d (ns.map D.int) ∧ Q (.int ns.sum) m
theorem sc_sum {K : PySem.W.Frag} : SndC K (rSum K) dSumI := fun F H m ds xs Q R r i q k => by
  obtain ⟨d, rfl, ns, h1, q⟩ := with1_h q
  obtain ⟨x, rfl, ix⟩ := isDs1 i
  obtain ⟨a, ys, rfl, h2, h3⟩ := lAt_h r ix h1
  have ey := isDs_ints h3
  subst ey
  exact ⟨a, ns, rfl, .of h2, k _ _ _ _ _ q (Same.refl F) r rfl⟩
/-- sorted of ints -/
def dSorted : RDC := fun ds m Q => with1 ds fun d => ∃ ns : List Int, LAt m d (ns.map D.int) ∧ ∀ ns' : List Int, ns'.Perm ns → ns'.Pairwise (· ≤ ·) → Q (.lst (ns'.map D.int)) m
theorem sc_sorted {K : PySem.W.Frag} : SndC K (rSortedI K) dSorted := fun F H m ds xs Q R r i q k => by
  obtain ⟨d, rfl, ns, h1, q⟩ := with1_h q
  obtain ⟨x, rfl, ix⟩ := isDs1 i
  obtain ⟨a, ys, rfl, h2, h3⟩ := lAt_h r ix h1
  have ey := isDs_ints h3
  subst ey
  refine ⟨a, ns, rfl, .of h2, ?_⟩
  intro ns' p hperm hsorted hp
  exact k _ _ _ _ _ (q ns' hperm hsorted) (same_new (r.fr hp)) (r.newF hp) ⟨p, _, rfl, upd_same, ints_isDs ns'⟩
/-- str of an int -/
def dStrI : RDC := fun ds m Q => match ds with
  | [.int i] => i.natAbs.log2 < 1920 ∧ Q (.str (toString i : String)) m
  | _ => False
theorem sc_str {K : PySem.W.Frag} : SndC K (fun xs H Q => ∃ i : Int, xs = [V.int i] ∧ i.natAbs.log2 < 1920 ∧ Q (.str (toString i : String)) H) dStrI := fun F H m ds xs Q R r i q k => by
  unfold dStrI at q
  split at q
  · rename_i j
    obtain ⟨x, rfl, ix⟩ := isDs1 i
    have ex : x = V.int j := ix
    subst ex
    exact ⟨j, rfl, q.1, k _ _ _ _ _ q.2 (Same.refl F) r rfl⟩
  · exact q.elim
/-- list(range(..)) -/
def SndRg (K : PySem.W.Frag) (t : L2.St → Hp → (Int → Int → Hp → Prop) → Prop) (td : Env' → Mu → (Int → Int → Mu → Prop) → Prop) : Prop := ∀ (F H : Hp) (m : Mu) (σ : L2.St) (g : Env') (Q : Int → Int → Mu → Prop) (R : Int → Int → Hp → Prop), Rep K F H m → Slots K F σ g → td g m Q →
  (∀ (i j : Int) (m' : Mu) (F' H' : Hp), Q i j m' → Same F F' → Rep K F' H' m' → R i j H') → t σ H R
structure DRg (X : Cx) (e : Expr) (t : PySem.W.Frag → L2.St → Hp → (Int → Int → Hp → Prop) → Prop) (td : Env' → Mu → (Int → Int → Mu → Prop) → Prop) : Prop where
  pe : PRg X e (t X.K)
  sn : SndRg X.K (t X.K) td
def dRg1 (td : TED) : Env' → Mu → (Int → Int → Mu → Prop) → Prop := fun g m Q => td g m fun d m1 => match d with
  | .int n => Q 0 n m1
  | _ => False
def dRg2 (ta tb : TED) : Env' → Mu → (Int → Int → Mu → Prop) → Prop := fun g m Q => ta g m fun d m1 => tb g m1 fun d' m2 => match d, d' with
  | .int i, .int j => Q i j m2
  | _, _ => False
theorem drg1 {p pos : Pos} (hg : Gl X "range") (hm : X.mg "range" = none) (ha : DE X a ta da) (na : starEach [a] X.env = (false, eval a X.env) :: starEach [] X.env := by rfl) : DRg X (.Call (.Name "range" p) [a] [] pos) (fun K => tRg1 (ta K)) (dRg1 da) := ⟨prg_1 hg hm ha.pe na, fun F H m σ g Q R r s q k => by
  refine ha.sn F H m σ g _ _ r s q fun d m1 v F1 H1 h1 e1 r1 i1 => ?_
  split at h1
  · rename_i n
    exact ⟨n, i1, k _ _ _ _ _ h1 e1 r1⟩
  · exact h1.elim⟩
theorem drg2 {p pos : Pos} (hg : Gl X "range") (hm : X.mg "range" = none) (ha : DE X a ta da) (hb : DE X b tb db) (na : starEach [a, b] X.env = (false, eval a X.env) :: starEach [b] X.env := by rfl) (nb : starEach [b] X.env = (false, eval b X.env) :: starEach [] X.env := by rfl) (hp : (backTo pos (starEach [b] X.env)).any (·.1) = false := by rfl) :
    DRg X (.Call (.Name "range" p) [a, b] [] pos) (fun K => tRg2 (ta K) (tb K)) (dRg2 da db) := ⟨prg_2 hg hm ha.pe hb.pe na nb hp, fun F H m σ g Q R r s q k => by
  refine ha.sn F H m σ g _ _ r s q fun d m1 v F1 H1 h1 e1 r1 i1 => ?_
  refine hb.sn F1 H1 m1 σ g _ _ r1 (s.mono e1) h1 fun d2 m2 v2 F2 H2 h2 e2 r2 i2 => ?_
  split at h2
  · rename_i i j
    exact ⟨i, j, i1, i2, k _ _ _ _ _ h2 (e1.trans e2) r2⟩
  · exact h2.elim⟩
def rgI (a b : Int) : List Int := (List.range (b - a).toNat).map fun i => a + (i : Nat)
theorem rgV_ints (a b : Int) : rgV a b = (rgI a b).map V.int := by
  unfold rgV rgI
  rw [List.map_map]
  rfl
def dListRg (t : Env' → Mu → (Int → Int → Mu → Prop) → Prop) : TED := fun g m Q => t g m fun a b m1 => RgOk a b ∧ Q (.lst ((rgI a b).map D.int)) m1
def dNewRg (t : Env' → Mu → (Int → Int → Mu → Prop) → Prop) : TED := fun g m Q => t g m fun a b m1 => RgOk a b ∧ ∀ p, m1 p = none → Q (.adr p) (mset m1 p ((rgI a b).map D.int))
theorem de_listRg {p pos : Pos} {tr : PySem.W.Frag → L2.St → Hp → (Int → Int → Hp → Prop) → Prop} {dr : Env' → Mu → (Int → Int → Mu → Prop) → Prop} (hc : X.calm = true) (hg : Gl X "list") (hm : X.mg "list" = none) (he : DRg X e tr dr) (na : starEach [e] X.env = (false, eval e X.env) :: starEach [] X.env := by rfl) :
    DE X (.Call (.Name "list" p) [e] [] pos) (fun K => tLstRg (tr K)) (dListRg dr) := ⟨pe_listRg hc hg hm he.pe na, fun F H m σ g Q R r s q k => by
  refine he.sn F H m σ g _ _ r s q fun i j m1 F1 H1 h1 e1 r1 => ?_
  refine ⟨h1.1, fun z hz => ?_⟩
  rw [rgV_ints]
  exact k _ _ _ _ _ h1.2 (e1.trans (same_new (r1.fr hz))) (r1.newF hz) ⟨z, _, rfl, upd_same, ints_isDs _⟩⟩
theorem de_newRg {p pos : Pos} {tr : PySem.W.Frag → L2.St → Hp → (Int → Int → Hp → Prop) → Prop} {dr : Env' → Mu → (Int → Int → Mu → Prop) → Prop} (hc : X.calm = true) (hg : Gl X "list") (hm : X.mg "list" = none) (he : DRg X e tr dr) (na : starEach [e] X.env = (false, eval e X.env) :: starEach [] X.env := by rfl) :
    DE X (.Call (.Name "list" p) [e] [] pos) (fun K => tLstRg (tr K)) (dNewRg dr) := ⟨pe_listRg hc hg hm he.pe na, fun F H m σ g Q R r s q k => by
  refine he.sn F H m σ g _ _ r s q fun i j m1 F1 H1 h1 e1 r1 => ?_
  refine ⟨h1.1, fun z hz => ?_⟩
  rw [rgV_ints]
  exact k _ _ _ _ _ (h1.2 z (r1.mfr hz)) e1 (r1.newM hz (ints_isDs _)) rfl⟩

/-! ## methods -/
def dAppend (to : TED) (ta : TED) : TED := fun g m Q => to g m fun x m1 => match x with
  | .adr p => (∃ es, m1 p = some es) ∧ ta g m1 fun d m2 => ∃ ds, m2 p = some ds ∧ ds.length < sizeLine ∧ Q .non (mset m2 p (ds ++ [d]))
  | _ => False
theorem de_append {o : Expr} {to : PySem.W.Frag → TE} {dO : TED} {apos cpos : Pos} (ho : DE X o to dO) (ha : DE X e te dd)
    (hbase : attributeBase o "append" X.env (eval o X.env) = eval o X.env := by rfl)
    (hfew : ((backTo cpos (starEach [e] X.env)).all (fun x => !x.1) && (backToKw cpos (keywordEach [] X.env)).all (fun x => x.1.isSome)
      && decide ([e].length + ([] : List Keyword).length + (if ([] : List Keyword).isEmpty then 0 else 1) < 30)) = true := by rfl)
    (hline : (apos.endLine == cpos.line) = true := by rfl) (hs : starEach [e] X.env = (false, eval e X.env) :: starEach [] X.env := by rfl) (hplain : (backTo cpos (starEach [] X.env)).any (·.1) = false := by rfl) :
    DE X (.Call (.Attribute o "append" apos) [e] [] cpos) (fun K => tBM K "list" rAppend (to K) (tCons (te K) tNil)) (dAppend dO dd) :=
  ⟨pe_bm PySem.F.plainAttrs_list PySem.F.slot_list_append PySem.F.type_list_append mt_append ho.pe (pa_cons ha.pe pa_nil hs) hbase hfew hline hs hplain, fun F H m σ g Q R r s q k => by
  refine ho.sn F H m σ g _ _ r s q fun d m1 v F1 H1 h1 e1 r1 i1 => ?_
  split at h1
  · rename_i p
    obtain ⟨⟨es, h2⟩, h3⟩ := h1
    have ev : v = .ref p := i1
    subst ev
    obtain ⟨_, xs, h4, h5⟩ := r1.mem _ _ h2
    refine ⟨.inl ⟨rfl, xs, .of h4⟩, ?_⟩
    refine ha.sn F1 H1 m1 σ g _ _ r1 (s.mono e1) h3 fun d2 m2 v2 F2 H2 k1 e2 r2 i2 => ?_
    obtain ⟨ds, k2, k3, k4⟩ := k1
    obtain ⟨_, ys, k5, k6⟩ := r2.mem _ _ k2
    refine ⟨p, ys, v2, rfl, rfl, k5, by rw [isDs_len k6]; exact k3, ?_⟩
    exact k _ _ _ _ _ k4 (e1.trans e2) (r2.wr k2 (isDs_app k6 (isDs_one i2))) rfl
  · exact h1.elim⟩
def dExtend (to : TED) (ta : TED) : TED := fun g m Q => to g m fun x m1 => match x with
  | .adr p => (∃ es, m1 p = some es) ∧ ta g m1 fun d m2 => ∃ ds es, m2 p = some ds ∧ LAt m2 d es ∧ ds.length + es.length ≤ sizeLine ∧ Q .non (mset m2 p (ds ++ es))
  | _ => False
theorem de_extend {o : Expr} {to : PySem.W.Frag → TE} {dO : TED} {apos cpos : Pos} (ho : DE X o to dO) (ha : DE X e te dd)
    (hbase : attributeBase o "extend" X.env (eval o X.env) = eval o X.env := by rfl)
    (hfew : ((backTo cpos (starEach [e] X.env)).all (fun x => !x.1) && (backToKw cpos (keywordEach [] X.env)).all (fun x => x.1.isSome)
      && decide ([e].length + ([] : List Keyword).length + (if ([] : List Keyword).isEmpty then 0 else 1) < 30)) = true := by rfl)
    (hline : (apos.endLine == cpos.line) = true := by rfl) (hs : starEach [e] X.env = (false, eval e X.env) :: starEach [] X.env := by rfl) (hplain : (backTo cpos (starEach [] X.env)).any (·.1) = false := by rfl) :
    DE X (.Call (.Attribute o "extend" apos) [e] [] cpos) (fun K => tBM K "list" rExtend (to K) (tCons (te K) tNil)) (dExtend dO dd) :=
  ⟨pe_bm PySem.F.plainAttrs_list PySem.F.slot_list_extend PySem.F.type_list_extend mt_extend ho.pe (pa_cons ha.pe pa_nil hs) hbase hfew hline hs hplain, fun F H m σ g Q R r s q k => by
  refine ho.sn F H m σ g _ _ r s q fun d m1 v F1 H1 h1 e1 r1 i1 => ?_
  split at h1
  · rename_i p
    obtain ⟨⟨es, h2⟩, h3⟩ := h1
    have ev : v = .ref p := i1
    subst ev
    obtain ⟨_, xs, h4, h5⟩ := r1.mem _ _ h2
    refine ⟨.inl ⟨rfl, xs, .of h4⟩, ?_⟩
    refine ha.sn F1 H1 m1 σ g _ _ r1 (s.mono e1) h3 fun d2 m2 v2 F2 H2 k1 e2 r2 i2 => ?_
    obtain ⟨ds, es2, k2, k3, k3', k4⟩ := k1
    obtain ⟨_, ys, k5, k6⟩ := r2.mem _ _ k2
    obtain ⟨b2, zs, rfl, k7, k8⟩ := lAt_h r2 i2 k3
    refine ⟨p, b2, ys, zs, rfl, rfl, k5, k7, by rw [isDs_len k6, isDs_len k8]; exact k3', ?_⟩
    exact k _ _ _ _ _ k4 (e1.trans e2) (r2.wr k2 (isDs_app k6 k8)) rfl
  · exact h1.elim⟩
/-- a text's method of one text -/
def dEndsW (to ta : TED) : TED := fun g m Q => to g m fun x m1 => ta g m1 fun y m2 => match x, y with
  | .str a, .str b => Q (.bl (Txt.endswith a b)) m2
  | _, _ => False
theorem isStr_v {K : PySem.W.Frag} {F : Hp} {z : Str} {v : V} (h : IsD K F (.str z) v) : v = .str z := h
def dSplit (to ta : TED) : TED := fun g m Q => to g m fun x m1 => match x with
  | .str a => ta g m1 fun y m2 => match y with
    | .str b => (b.length == 0) = false ∧ a.length + 2 ≤ sizeLine ∧ Q (.lst ((Txt.split a b).map D.str)) m2
    | _ => False
  | _ => False
/-- list.index of a text among texts -/
def dIndex (to ta : TED) : TED := fun g m Q => to g m fun x m1 => ta g m1 fun y m2 => match x, y with
  | .lst ds, .str z => ∃ (ss : List Str) (j : Nat), ds = ss.map D.str ∧ ss[j]? = some z ∧ (∀ n, n < j → ss[n]? ≠ some z) ∧ Q (.int (j : Nat)) m2
  | _, _ => False

/-! ## targets -/
abbrev TGD := D → Env' → Mu → (Env' → Mu → Prop) → Prop
def SndG (K : PySem.W.Frag) (gg : TG) (tg : TGD) : Prop := ∀ (F H : Hp) (m : Mu) (d : D) (v : V) (σ : L2.St) (g : Env') (Q : Env' → Mu → Prop) (R : L2.St → Hp → Prop), Rep K F H m → IsD K F d v → Slots K F σ g → tg d g m Q →
  (∀ (g' : Env') (m' : Mu) (σ' : L2.St) (F' H' : Hp), Q g' m' → Same F F' → Rep K F' H' m' → Slots K F' σ' g' → R σ' H') → gg v σ H R
structure DG (X : Cx) (e : Expr) (gg : PySem.W.Frag → TG) (tg : TGD) : Prop where
  pe : PG X e (gg X.K)
  sn : SndG X.K (gg X.K) tg
abbrev TGDs := List D → Env' → Mu → (Env' → Mu → Prop) → Prop
structure DGs (X : Cx) (es : List Expr) (gg : PySem.W.Frag → TGs) (tg : TGDs) : Prop where
  pe : PGs X es (gg X.K)
  sn : ∀ (F H : Hp) (m : Mu) (ds : List D) (vs : List V) (σ : L2.St) (g : Env') (Q : Env' → Mu → Prop) (R : L2.St → Hp → Prop), Rep X.K F H m → IsDs X.K F ds vs → Slots X.K F σ g → tg ds g m Q →
    (∀ (g' : Env') (m' : Mu) (σ' : L2.St) (F' H' : Hp), Q g' m' → Same F F' → Rep X.K F' H' m' → Slots X.K F' σ' g' → R σ' H') → gg X.K vs σ H R
def gdN (i : Nat) : TGD := fun d g m Q => Q (g.set i (some d)) m
theorem dg_name {i : Nat} {x : Str} (hN : X.N.Nodup) (hi : X.N[i]? = some x) (hx : Loc X.env.scope x) (hf : X.fn x = true ∨ X.env.scope.names.lookup x = some .local := by first | exact .inl rfl | exact .inr rfl | assumption) : DG X (.Name x pos) (fun _ => gName i) (gdN i) := ⟨pg_name hN hi hx hf, fun F H m d v σ g Q R r i1 s q k =>
  k _ _ _ _ _ q (Same.refl F) r (s.set i1 i)⟩
def gdNil : TGDs := fun ds g m Q => ds = [] ∧ Q g m
def gdCons (t : TGD) (u : TGDs) : TGDs := fun ds g m Q => match ds with
  | d :: r => t d g m fun g1 m1 => u r g1 m1 Q
  | [] => False
theorem dgs_nil : DGs X [] (fun _ => gNil) gdNil := ⟨pgs_nil, fun F H m ds vs σ g Q R r i s q k => by
  obtain ⟨rfl, q⟩ := q
  exact ⟨i, k _ _ _ _ _ q (Same.refl F) r s⟩⟩
theorem dgs_cons {gg : PySem.W.Frag → TG} {gs : PySem.W.Frag → TGs} {tg : TGD} {tgs : TGDs} (h1 : DG X e gg tg) (h2 : DGs X es gs tgs) (hs : (assignEach (e :: es) X.env).map (·.2) = assign e X.env :: (assignEach es X.env).map (·.2) := by rfl) : DGs X (e :: es) (fun K => gCons (gg K) (gs K)) (gdCons tg tgs) := ⟨pgs_cons h1.pe h2.pe hs, fun F H m ds vs σ g Q R r i s q k => by
  unfold gdCons at q
  split at q
  · rename_i d ds
    obtain ⟨v, vr, rfl, i1, i2⟩ := i
    refine ⟨v, vr, rfl, ?_⟩
    refine h1.sn F H m d v σ g _ _ r i1 s q fun g1 m1 σ1 F1 H1 q1 e1 r1 s1 => ?_
    exact h2.sn F1 H1 m1 _ _ σ1 g1 Q R r1 (isDs_mono e1 i2) s1 q1 fun g' m' σ' F' H' q e => k g' m' σ' F' H' q (e1.trans e)
  · exact q.elim⟩
def gdTup (n : Nat) (t : TGDs) : TGD := fun d g m Q => match d with
  | .tup ds => ds.length = n ∧ t ds g m Q
  | _ => False
theorem dg_tup {es : List Expr} {k n : Nat} {gs : PySem.W.Frag → TGs} {tgs : TGDs} (hc : X.calm = true) (h : DGs X es gs tgs)
    (hn : (assignEach es X.env).length = n := by rfl) (hst : (assignEach es X.env).findIdx? (·.1) = none := by rfl) : DG X (.Tuple es k pos) (fun K => gTup K n (gs K)) (gdTup n tgs) := ⟨pg_tup hc h.pe hn hst, fun F H m d v σ g Q R r i s q k => by
  unfold gdTup at q
  split at q
  · rename_i ds
    obtain ⟨a, xs, rfl, h1, h2⟩ := i
    exact ⟨a, xs, rfl, rep_t r h1, by rw [isDs_len h2]; exact q.1, h.sn F H m ds xs σ g Q R r h2 s q.2 k⟩
  · exact q.elim⟩
/-- xs[i] = .. -/
def gdSub (to ti : TED) : TGD := fun d g m Q => to g m fun o m1 => ti g m1 fun i m2 => match o, i with
  | .adr p, .int n => ∃ ds j, m2 p = some ds ∧ ixN ds.length n = some j ∧ Q g (mset m2 p (ds.set j d))
  | _, _ => False
theorem dg_sub {o i : Expr} {to ti : PySem.W.Frag → TE} {dO di : TED} (ho : DE X o to dO) (hi : DE X i ti di)
    (ha : ∀ v, assign (.Subscript o i pos) X.env v = (do
      let ov ← holding [v] (eval o X.env)
      let iv ← holding [v, ov] (eval i X.env)
      standAt pos
      holding [v, ov, iv] (setItem ov iv v)
      release [v, ov, iv] []) := by intro _; rfl) : DG X (.Subscript o i pos) (fun K => gSub (to K) (ti K) rSetL) (gdSub dO di) := ⟨pg_sub ho.pe hi.pe set_list ha, fun F H m d v σ g Q R r id s q k => by
  refine ho.sn F H m σ g _ _ r s q fun x m1 w F1 H1 h1 e1 r1 i1 => ?_
  refine hi.sn F1 H1 m1 σ g _ _ r1 (s.mono e1) h1 fun y m2 w2 F2 H2 h2 e2 r2 i2 => ?_
  split at h2
  · rename_i p n
    obtain ⟨ds, j, h3, h4, h5⟩ := h2
    have ev : w = .ref p := i1
    subst ev
    obtain ⟨_, xs, h6, h7⟩ := r2.mem _ _ h3
    refine ⟨p, xs, n, j, rfl, i2, h6, by rw [isDs_len h7]; exact h4, ?_⟩
    exact k _ _ _ _ _ h5 (e1.trans e2) (r2.wr h3 (isDs_set (isD_mono (e1.trans e2) id) j h7)) ((s.mono e1).mono e2)
  · exact h2.elim⟩
end
end BB

namespace BB
open PySem PySem.Spec PyProof.Rows L2

/-! ## statements -/
structure EndsD where
  nx : Env' → Mu → Prop
  rt : D → Mu → Prop
abbrev TSD := EndsD → Env' → Mu → Prop
def SndS (K : PySem.W.Frag) (t : TS) (td : TSD) : Prop := ∀ (F H : Hp) (m : Mu) (σ : L2.St) (g : Env') (E : EndsD) (De : Ends), Rep K F H m → Slots K F σ g → td E g m →
  (∀ (g' : Env') (m' : Mu) (σ' : L2.St) (F' H' : Hp), E.nx g' m' → Same F F' → Rep K F' H' m' → Slots K F' σ' g' → De.nx σ' H') →
  (∀ (d : D) (m' : Mu) (v : V) (F' H' : Hp), E.rt d m' → Same F F' → Rep K F' H' m' → IsD K F' d v → De.rt v H') → t De σ H
structure DS (X : Cx) (st : Stmt) (t : PySem.W.Frag → TS) (td : TSD) : Prop where
  pe : PS X st (t X.K)
  sn : SndS X.K (t X.K) td
structure DSs (X : Cx) (st : List Stmt) (t : PySem.W.Frag → TS) (td : TSD) : Prop where
  pe : PSs X st (t X.K)
  sn : SndS X.K (t X.K) td
section
variable {X : Cx}
variable {a b e c : Expr} {ta tb te : PySem.W.Frag → TE} {da db dd : TED} {pos : Pos} {tA : PySem.W.Frag → TT} {dA : TTD} {es : List Expr} {st : Stmt} {sts : List Stmt} {t u : PySem.W.Frag → TS} {td ud : TSD}
def dNext : TSD := fun E g m => E.nx g m
def dSeq (t u : TSD) : TSD := fun E g m => t ⟨u E, E.rt⟩ g m
theorem dss_nil : DSs X [] (fun _ => tNext) dNext := ⟨pss_nil, fun F H m σ g E De r s q k1 k2 => k1 _ _ _ _ _ q (Same.refl F) r s⟩
theorem dss_cons (h : DS X st t td) (h' : DSs X sts u ud) : DSs X (st :: sts) (fun K => tSeq (t K) (u K)) (dSeq td ud) := ⟨pss_cons h.pe h'.pe, fun F H m σ g E De r s q k1 k2 => by
  refine h.sn F H m σ g ⟨ud E, E.rt⟩ { De with nx := u X.K De } r s q (fun g' m' σ' F' H' q1 e1 r1 s1 => ?_) k2
  exact h'.sn F' H' m' σ' g' E De r1 s1 q1 (fun g2 m2 σ2 F2 H2 q2 e2 r2 s2 => k1 g2 m2 σ2 F2 H2 q2 (e1.trans e2) r2 s2) fun d m2 v F2 H2 q2 e2 r2 i2 => k2 d m2 v F2 H2 q2 (e1.trans e2) r2 i2⟩
theorem dss_one (h : DS X st t td) : DSs X [st] t td := ⟨pss_one h.pe, h.sn⟩
def dAsg (te : TED) (tg : TGD) : TSD := fun E g m => te g m fun d m1 => tg d g m1 E.nx
theorem sn_asg {K : PySem.W.Frag} {te : TE} {gg : TG} {tg : TGD} (h : Snd K te dd) (hg : SndG K gg tg) : SndS K (tAsg te gg) (dAsg dd tg) := fun F H m σ g E De r s q k1 k2 => by
  refine h F H m σ g _ _ r s q fun d m1 v F1 H1 h1 e1 r1 i1 => ?_
  exact hg F1 H1 m1 d v σ g _ _ r1 i1 (s.mono e1) h1 fun g' m' σ' F' H' q e => k1 g' m' σ' F' H' q (e1.trans e)
theorem ds_asg {tg : Expr} {gg : PySem.W.Frag → TG} {gd : TGD} (he : DE X e te dd) (hg : DG X tg gg gd) (hs : swapsWithSole [tg] e pos.line X.env = pure false := by rfl) (hw : swappedStores [tg] e X.env = pure none := by rfl) (h1 : (assignEach [tg] X.env).map (·.2) = [assign tg X.env] := by rfl) : DS X (.Assign [tg] e pos) (fun K => tAsg (te K) (gg K)) (dAsg dd gd) := ⟨ps_asg he.pe hg.pe hs hw h1, sn_asg he.sn hg.sn⟩
theorem ds_set {i : Nat} {x : Str} {pos' : Pos} (hN : X.N.Nodup) (hi : X.N[i]? = some x) (hx : Loc X.env.scope x) (he : DE X e te dd) (hs : swapsWith e (some (.Name x pos')) pos.line X.env = pure false := by rfl) (hf : X.fn x = true ∨ X.env.scope.names.lookup x = some .local := by first | exact .inl rfl | exact .inr rfl | assumption) :
    DS X (.Assign [.Name x pos'] e pos) (fun K => tAsg (te K) (gName i)) (dAsg dd (gdN i)) := ⟨ps_set hN hi hx he.pe hs hf, sn_asg he.sn fun F H m d v σ g Q R r i1 s q k => k _ _ _ _ _ q (Same.refl F) r (s.set i1 i)⟩
def dRet (te : TED) : TSD := fun E g m => te g m E.rt
/-- a list that is changed no more is handed out -/
def dRetF (te : TED) : TSD := fun E g m => te g m fun d m1 => match d with
  | .adr p => ∃ ds, m1 p = some ds ∧ E.rt (.lst ds) (mdel m1 p)
  | _ => False
theorem ds_ret (he : DE X e te dd) : DS X (.Return (some e) pos) (fun K => tRet (te K)) (dRet dd) := ⟨ps_ret he.pe, fun F H m σ g E De r s q k1 k2 => he.sn F H m σ g E.rt De.rt r s q k2⟩
theorem ds_retF (he : DE X e te dd) : DS X (.Return (some e) pos) (fun K => tRet (te K)) (dRetF dd) := ⟨ps_ret he.pe, fun F H m σ g E De r s q k1 k2 => by
  refine he.sn F H m σ g _ _ r s q fun d m1 v F1 H1 h1 e1 r1 i1 => ?_
  split at h1
  · rename_i p
    obtain ⟨ds, h2, h3⟩ := h1
    have ev : v = .ref p := i1
    subst ev
    obtain ⟨G, e2, r2, i2⟩ := r1.freeze h2
    exact k2 _ _ _ _ _ h3 (e1.trans e2) r2 i2
  · exact h1.elim⟩
def dDrop (te : TED) : TSD := fun E g m => te g m fun _ m1 => E.nx g m1
theorem ds_expr (he : DE X e te dd) (hs : swapsWith e none pos.line X.env = pure false := by rfl) : DS X (.Expr e pos) (fun K => tDrop (te K)) (dDrop dd) := ⟨ps_expr he.pe hs, fun F H m σ g E De r s q k1 k2 => by
  refine he.sn F H m σ g _ _ r s q fun d m1 v F1 H1 h1 e1 r1 i1 => ?_
  exact k1 _ _ _ _ _ h1 e1 r1 (s.mono e1)⟩
def dIfS (t : TTD) (u v : TSD) : TSD := fun E g m => t g m fun b m1 => if b = true then u E g m1 else v E g m1
theorem ds_if {a' b' : List Stmt} (hc : DT X c tA dA) (ha : DSs X a' t td) (hb : DSs X b' u ud) : DS X (.If c a' b' pos) (fun K => tIfS (tA K) (t K) (u K)) (dIfS dA td ud) := ⟨ps_if hc.pe ha.pe hb.pe, fun F H m σ g E De r s q k1 k2 => by
  refine hc.sn F H m σ g _ _ r s q fun b m1 F1 H1 h1 e1 r1 => ?_
  by_cases hb' : b = true
  · rw [if_pos hb'] at h1 ⊢
    exact ha.sn F1 H1 m1 σ g E De r1 (s.mono e1) h1 (fun g2 m2 σ2 F2 H2 q2 e2 r2 s2 => k1 g2 m2 σ2 F2 H2 q2 (e1.trans e2) r2 s2) fun d m2 v F2 H2 q2 e2 r2 i2 => k2 d m2 v F2 H2 q2 (e1.trans e2) r2 i2
  · rw [if_neg hb'] at h1 ⊢
    exact hb.sn F1 H1 m1 σ g E De r1 (s.mono e1) h1 (fun g2 m2 σ2 F2 H2 q2 e2 r2 s2 => k1 g2 m2 σ2 F2 H2 q2 (e1.trans e2) r2 s2) fun d m2 v F2 H2 q2 e2 r2 i2 => k2 d m2 v F2 H2 q2 (e1.trans e2) r2 i2⟩

/-! ## what is walked -/
abbrev TID := Env' → Mu → (List D → (Mu → Prop) → Mu → Prop) → Prop
def ItOk (K : PySem.W.Frag) (F : Hp) (J : It) (ds : List D) (Sb : Mu → Prop) : Prop := ∀ (i : Nat) (F' H' : Hp) (m' : Mu), Same F F' → Rep K F' H' m' → Sb m' →
  (i < ds.length → J.go i H' ∧ ∀ (x : V) (H2 : Hp), J.yld i H' x H2 → ∃ (d : D) (F2 : Hp), ds[i]? = some d ∧ Same F' F2 ∧ Rep K F2 H2 m' ∧ IsD K F2 d x ∧ (∀ b o, H' b = some o → H2 b = some o)) ∧ (i = ds.length → J.stop i H')
def SndI (K : PySem.W.Frag) (wi : TI) (ti : TID) : Prop := ∀ (F H : Hp) (m : Mu) (σ : L2.St) (g : Env') (Q : List D → (Mu → Prop) → Mu → Prop) (R : It → Hp → Prop), Rep K F H m → Slots K F σ g → ti g m Q →
  (∀ (ds : List D) (Sb : Mu → Prop) (m' : Mu) (J : It) (F' H' : Hp), Q ds Sb m' → Same F F' → Rep K F' H' m' → ItOk K F' J ds Sb → R J H') → wi σ H R
structure DI (X : Cx) (tg iter : Expr) (wi : PySem.W.Frag → TI) (ti : TID) : Prop where
  pe : PI X tg iter (wi X.K)
  sn : SndI X.K (wi X.K) ti
/-- a list or a tuple -/
def iSeq (K : PySem.W.Frag) (tl : TE) : TI := fun σ H R => tl σ H fun x H1 => ∃ a, x = .ref a ∧ (((∃ xs, SqL K H1 a xs) ∧ R (Itl K a) H1) ∨ ((∃ xs, SqT K H1 a xs) ∧ R (Itt K a) H1))
theorem pi_seq {tg l : Expr} {tl : TE} (hl : PE X l tl) : PI X tg l (iSeq X.K tl) := by
  refine ⟨fun pins s σ H R I h => thn (hl.run pins s σ H _ I h) fun v s1 ⟨x, H1, I1, r1, a, ex, q1⟩ => ?_⟩
  subst ex
  cases r1
  have hn := I1.hok.fresh (Nat.le_refl s1.heap.objs.size)
  have fp1 : ∀ b ∈ [s1.heap.objs.size], FpOk X pins H1 b := fun b hb => by
    rw [List.mem_singleton.mp hb]
    exact I1.fpOk (Nat.le_refl _) hn
  rcases q1 with ⟨⟨xs, hq⟩, q⟩ | ⟨⟨xs, hq⟩, q⟩
  · obtain ⟨its, _, p, _⟩ := I1.list hq
    exact wpAny_pyIter_list p.isList ⟨_, _, _, _, H1, rfl, I1.kept (t' := s1.toks) (fun b o e => Heap.get?_push_of_some _ e), turn_list a _, ⟨_, Heap.get?_push_size _ rfl, rfl, rfl⟩, fp1, q⟩
  · obtain ⟨its, _, p, _⟩ := I1.tuple hq
    exact wpAny_pyIter_tuple (show s1.heap.IsTuple a its.toArray from p) ⟨_, _, _, _, H1, rfl, I1.kept (t' := s1.toks) (fun b o e => Heap.get?_push_of_some _ e), turn_tuple a _, ⟨_, Heap.get?_push_size _ rfl, rfl, rfl⟩, fp1, q⟩
def diSeq (td : TED) : TID := fun g m Q => td g m fun d m1 => match d with
  | .tup ds => Q ds (fun _ => True) m1
  | .lst ds => Q ds (fun _ => True) m1
  | .adr p => ∃ ds, m1 p = some ds ∧ Q ds (fun m2 => m2 p = some ds) m1
  | .scr ns => Q (ns.map D.int) (fun _ => True) m1
  | _ => False
theorem lst_inj {K : PySem.W.Frag} {H : Hp} {a : Addr} {xs ys : List V} (h : H a = some (.lst xs)) (h' : SqL K H a ys) (hk : K.lookup a = none) : ys = xs := by
  rcases h' with (h' | ⟨o, h'⟩) | ⟨o, its, n, h', _⟩
  · rw [h] at h'
    cases h'
    rfl
  · rw [h] at h'
    cases h'
  · rw [hk] at h'
    cases h'
/-- the walk of a list that is read as it stands -/
theorem itOk_l {K : PySem.W.Frag} {F : Hp} {a : Addr} {ds : List D} {Sb : Mu → Prop} (h : ∀ (F' H' : Hp) (m' : Mu), Same F F' → Rep K F' H' m' → Sb m' → ∃ xs, SqL K H' a xs ∧ IsDs K F' ds xs) : ItOk K F (Itl K a) ds Sb := fun i F' H' m' e r sb => by
  obtain ⟨xs, h1, h2⟩ := h F' H' m' e r sb
  have l := isDs_len h2
  refine ⟨fun hi => ?_, fun hi => ⟨xs, h1, by omega⟩⟩
  have hx : i < xs.length := by omega
  refine ⟨⟨xs, xs[i], h1, List.getElem?_eq_getElem hx⟩, fun x H2 ⟨eH, y⟩ => ?_⟩
  have ex := y xs h1
  obtain ⟨d, k1, k2⟩ := isDs_get' h2 ex
  rw [eH]
  exact ⟨d, F', k1, Same.refl F', r, k2, fun _ _ z => z⟩
theorem itOk_t {K : PySem.W.Frag} {F : Hp} {a : Addr} {ds : List D} {xs : List V} (h1 : SqT K F a xs) (h2 : IsDs K F ds xs) : ItOk K F (Itt K a) ds (fun _ => True) := fun i F' H' m' e r _ => by
  have l := isDs_len h2
  have h3 : SqT K H' a xs := rep_t r (same_t e h1)
  refine ⟨fun hi => ?_, fun hi => ⟨xs, h3, by omega⟩⟩
  have hx : i < xs.length := by omega
  refine ⟨⟨xs, xs[i], h3, List.getElem?_eq_getElem hx⟩, fun x H2 ⟨eH, y⟩ => ?_⟩
  have ex := y xs h3
  obtain ⟨d, k1, k2⟩ := isDs_get' h2 ex
  rw [eH]
  exact ⟨d, F', k1, Same.refl F', r, isD_mono e k2, fun _ _ z => z⟩
theorem di_seq {tg : Expr} (h : DE X e te dd) : DI X tg e (fun K => iSeq K (te K)) (diSeq dd) := ⟨pi_seq h.pe, fun F H m σ g Q R r s q k => by
  refine h.sn F H m σ g _ _ r s q fun d m1 v F1 H1 h1 e1 r1 i1 => ?_
  split at h1
  · rename_i ds
    obtain ⟨p, xs, rfl, h2, h3⟩ := i1
    exact ⟨p, rfl, .inr ⟨⟨xs, rep_t r1 h2⟩, k _ _ _ _ _ _ h1 e1 r1 (itOk_t h2 h3)⟩⟩
  · rename_i ds
    obtain ⟨p, xs, rfl, h2, h3⟩ := i1
    exact ⟨p, rfl, .inl ⟨⟨xs, .of (r1.sub _ _ h2)⟩, k _ _ _ _ _ _ h1 e1 r1 (itOk_l fun F' H' m' e r' _ => ⟨xs, .of (r'.sub _ _ (e _ _ h2)), isDs_mono e h3⟩)⟩⟩
  · rename_i p
    have ev : v = .ref p := i1
    subst ev
    obtain ⟨ds, h4, h5⟩ := h1
    obtain ⟨_, xs, h2, h3⟩ := r1.mem _ _ h4
    refine ⟨p, rfl, .inl ⟨⟨xs, .of h2⟩, k _ _ _ _ _ _ h5 e1 r1 (itOk_l fun F' H' m' e r' sb => ?_)⟩⟩
    obtain ⟨_, ys, h6, h7⟩ := r'.mem _ _ sb
    exact ⟨ys, .of h6, h7⟩
  · rename_i ns
    obtain ⟨p, rfl, h2⟩ := i1
    exact ⟨p, rfl, .inl ⟨⟨_, r1.sub.seq h2⟩, k _ _ _ _ _ _ h1 e1 r1 (itOk_l fun F' H' m' e r' _ => ⟨_, r'.sub.seq (e.seq h2), ints_isDs ns⟩)⟩⟩
  · exact h1.elim⟩
/-- range -/
def diRg1 (td : TED) : TID := fun g m Q => td g m fun d m1 => match d with
  | .int n => n < 2 ^ 62 ∧ -(2 ^ 62) ≤ n ∧ Q ((rgI 0 n).map D.int) (fun _ => True) m1
  | _ => False
theorem rgI_len (a b : Int) : (rgI a b).length = (b - a).toNat := by
  unfold rgI
  rw [List.length_map, List.length_range]
theorem rgI_get {a b : Int} {i : Nat} (h : i < (b - a).toNat) : (rgI a b)[i]? = some (a + (i : Nat)) := by
  unfold rgI
  rw [List.getElem?_map, List.getElem?_range h]
  rfl
theorem itOk_r {K : PySem.W.Frag} {F : Hp} {a b : Int} : ItOk K F (Itr a (b - a).toNat) ((rgI a b).map D.int) (fun _ => True) := fun i F' H' m' e r _ => by
  rw [List.length_map, rgI_len]
  refine ⟨fun hi => ⟨hi, fun x H2 ⟨eH, ex⟩ => ?_⟩, fun hi => Nat.le_of_eq hi.symm⟩
  rw [eH, ex]
  refine ⟨.int (a + (i : Nat)), F', ?_, Same.refl F', r, rfl, fun _ _ z => z⟩
  rw [List.getElem?_map, rgI_get hi]
  rfl
theorem di_rg1 {tg : Expr} {p : Pos} (hg : Gl X "range") (hm : X.mg "range" = none) (ha : DE X a ta da) (hs : starEach [a] X.env = [(false, eval a X.env)] := by rfl) : DI X tg (.Call (.Name "range" p) [a] [] pos) (fun K => iRng1 (tCons (ta K) tNil)) (diRg1 da) := ⟨pi_range1 hg hm (pa_cons ha.pe pa_nil hs) hs, fun F H m σ g Q R r s q k => by
  refine ha.sn F H m σ g _ _ r s q fun d m1 v F1 H1 h1 e1 r1 i1 => ?_
  split at h1
  · rename_i n
    have ev : v = .int n := i1
    subst ev
    refine ⟨n, rfl, h1.2.1, h1.1, k _ _ _ _ _ _ h1.2.2 e1 r1 ?_⟩
    have z := itOk_r (K := X.K) (F := F1) (a := 0) (b := n)
    rw [Int.sub_zero] at z
    exact z
  · exact h1.elim⟩

/-! ## for -/
def LoopD (ds : List D) (Sb : Mu → Prop) (tg : TGD) (body : TSD) (E : EndsD) (g : Env') (m : Mu) : Prop :=
  ∃ Inv : List D → Env' → Mu → Prop, Inv [] g m ∧ (∀ pre g' m', Inv pre g' m' → Sb m') ∧
    (∀ pre d post g' m', ds = pre ++ d :: post → Inv pre g' m' → tg d g' m' fun g2 m2 => body ⟨Inv (pre ++ [d]), E.rt⟩ g2 m2) ∧ ∀ g' m', Inv ds g' m' → E.nx g' m'
def dFor (ti : TID) (tg : TGD) (body : TSD) : TSD := fun E g m => ti g m fun ds Sb m1 => LoopD ds Sb tg body E g m1
theorem take_succ_get {α : Type} {l : List α} {i : Nat} {d : α} (h : l[i]? = some d) : l = l.take i ++ d :: l.drop (i + 1) ∧ l.take (i + 1) = l.take i ++ [d] := by
  obtain ⟨hl, e⟩ := List.getElem?_eq_some_iff.mp h
  refine ⟨?_, ?_⟩
  · have h1 := List.drop_eq_getElem_cons hl
    rw [e] at h1
    rw [← h1, List.take_append_drop]
  · rw [List.take_succ_eq_append_getElem hl, e]
theorem ds_for {tg iter : Expr} {body : List Stmt} {wi : PySem.W.Frag → TI} {ti : TID} {gg : PySem.W.Frag → TG} {gd : TGD} (hp : PassesOwn (model X.prog X.w) X.A X.env X.xe) (hc : X.calm = true) (hi : DI X tg iter wi ti) (hg : DG X tg gg gd) (hb : DSs X body t td)
    (hs : ∀ x, foldedSetIterable iter X.env x = pure x := by intro _; rfl) : DS X (.For tg iter body [] pos) (fun K => tFor (wi K) (gg K) (t K)) (dFor ti gd td) := ⟨ps_for hp hc hi.pe hg.pe hb.pe hs, fun F H m σ g E De r s q k1 k2 => by
  refine hi.sn F H m σ g _ _ r s q fun ds Sb m1 J F1 H1 q1 e1 r1 ok => ?_
  obtain ⟨Iv, i0, ist, istep, iend⟩ := q1
  refine ⟨fun i n σ' H' => n = ds.length - i ∧ i ≤ ds.length ∧ ∃ g' m' F', Same F1 F' ∧ Rep X.K F' H' m' ∧ Slots X.K F' σ' g' ∧ Iv (ds.take i) g' m',
    ⟨ds.length, rfl, Nat.zero_le _, g, m1, F1, Same.refl F1, r1, s.mono e1, i0⟩, fun i n σ' H' ⟨en, hi', g', m', F', e', r', s', iv⟩ => ?_⟩
  obtain ⟨k3, k4⟩ := ok i F' H' m' e' r' (ist _ _ _ iv)
  by_cases hlt : i < ds.length
  · obtain ⟨go, yl⟩ := k3 hlt
    refine .inr ⟨go, fun σ2 H2 => ∃ g2 m2 F2, Same F1 F2 ∧ Rep X.K F2 H2 m2 ∧ Slots X.K F2 σ2 g2 ∧ Iv (ds.take (i + 1)) g2 m2, fun σ2 H2 n2 => ⟨ds.length - (i + 1), by omega, rfl, hlt, n2⟩, fun x H2 y => ?_⟩
    obtain ⟨d, F2, hd, e2, r2, i2, _⟩ := yl x H2 y
    obtain ⟨t1, t2⟩ := take_succ_get hd
    have st := istep (ds.take i) d (ds.drop (i + 1)) g' m' t1 iv
    rw [← t2] at st
    refine hg.sn F2 H2 m' d x σ' g' _ _ r2 i2 (s'.mono e2) st fun g3 m3 σ3 F3 H3 q3 e3 r3 s3 => ?_
    refine hb.sn F3 H3 m3 σ3 g3 ⟨Iv (ds.take (i + 1)), E.rt⟩ _ r3 s3 q3 (fun g4 m4 σ4 F4 H4 q4 e4 r4 s4 => ?_) fun d4 m4 v4 F4 H4 q4 e4 r4 i4 => ?_
    · exact ⟨g4, m4, F4, ((e'.trans e2).trans e3).trans e4, r4, s4, q4⟩
    · exact k2 d4 m4 v4 F4 H4 q4 (e1.trans (((e'.trans e2).trans e3).trans e4)) r4 i4
  · have ei : i = ds.length := by omega
    refine .inl ⟨k4 (by omega), ?_⟩
    rw [ei, List.take_length] at iv
    exact k1 g' m' σ' F' H' (iend g' m' iv) (e1.trans e') r' s'⟩

/-! ## comprehensions -/
def LcD (ds : List D) (Sb : Mu → Prop) (tg : TGD) (tt : TTD) (te : TED) (g : Env') (m : Mu) (Q : D → Mu → Prop) : Prop := ∀ a, m a = none →
  ∃ Inv : List D → List D → Mu → Prop, Inv [] [] m ∧ (∀ pre acc m', Inv pre acc m' → Sb (mset m' a acc) ∧ m' a = none) ∧
    (∀ pre d post acc m', ds = pre ++ d :: post → Inv pre acc m' → tg d g (mset m' a acc) fun g2 m2 => tt g2 m2 fun b m3 =>
      if b = true then te g2 m3 fun y m4 => acc.length < sizeLine ∧ ∃ m5, m4 = mset m5 a acc ∧ Inv (pre ++ [d]) (acc ++ [y]) m5
      else ∃ m5, m3 = mset m5 a acc ∧ Inv (pre ++ [d]) acc m5) ∧ ∀ acc m', Inv ds acc m' → Q (.lst acc) m'
def dLc (ti : TID) (tg : TGD) (tt : TTD) (te : TED) (vs : List Nat) : TED := fun g m Q => ti g m fun ds Sb m1 => LcD ds Sb tg tt te (wipeD g vs) m1 Q
structure DTs (X : Cx) (ifs : List Expr) (t : PySem.W.Frag → TT) (td : TTD) : Prop where
  pe : PTs X ifs (t X.K)
  sn : SndT X.K (t X.K) td
def dYes : TTD := fun _ m Q => Q true m
theorem dts_nil : DTs X [] (fun _ => tYes) dYes := ⟨pts_nil, fun F H m σ g Q R r s q k => k _ _ _ _ q (Same.refl F) r⟩
theorem dts_one (h : DT X c tA dA) : DTs X [c] tA dA := ⟨pts_one h.pe, h.sn⟩
/-- the target fills the block's own names alone -/
def KeepW (gg : TG) (vs : List Nat) : Prop := ∀ (v : V) (σ : L2.St) (H : Hp) (Q : L2.St → Hp → Prop), gg v (L2.wipe σ vs) H Q → gg v (L2.wipe σ vs) H fun σ2 H2 => L2.wipe σ2 vs = L2.wipe σ vs ∧ Q σ2 H2
theorem keepN (i : Nat) : KeepW (gName i) [i] := fun v σ H Q q => by
  refine ⟨?_, q⟩
  show ((σ.set i none).set i (some v)).set i none = σ.set i none
  rw [List.set_set, List.set_set]
theorem keepT2 {K : PySem.W.Frag} (i j : Nat) : KeepW (gTup K 2 (gCons (gName i) (gCons (gName j) gNil))) [i, j] := fun v σ H Q q => by
  obtain ⟨a, xs, h1, h2, h3, v1, r1, h4, v2, r2, h5, h6, h7⟩ := q
  refine ⟨a, xs, h1, h2, h3, v1, r1, h4, v2, r2, h5, h6, ?_, h7⟩
  show (((((σ.set j none).set i none).set i (some v1)).set j (some v2)).set j none).set i none = (σ.set j none).set i none
  by_cases hij : i = j
  · subst hij
    rw [List.set_set, List.set_set, List.set_set, List.set_set, List.set_set]
  · rw [List.set_set, List.set_set, List.set_comm _ _ (show i ≠ j from hij), List.set_set, List.set_set]
theorem sn_lc {K : PySem.W.Frag} {te : TE} {wi : TI} {ti : TID} {gg : TG} {gd : TGD} {tt : TT} {dt : TTD} {vs : List Nat} (hi : SndI K wi ti) (hg : SndG K gg gd) (hk : KeepW gg vs) (ht : SndT K tt dt) (he : Snd K te dd) : Snd K (tLc wi gg tt te vs) (dLc ti gd dt dd vs) := fun F H m σ g Q R r s q k => by
  refine hi F H m σ g _ _ r s q fun ds Sb m1 J F1 H1 q1 e1 r1 ok => ?_
  intro p hp
  obtain ⟨Iv, i0, ist, istep, iend⟩ := q1 p (r1.mfr hp)
  refine ⟨fun i n H' => n = ds.length - i ∧ i ≤ ds.length ∧ ∃ m' F' acc, Same F1 F' ∧ Rep K F' H' (mset m' p acc) ∧ Iv (ds.take i) acc m',
    ⟨ds.length, rfl, Nat.zero_le _, m1, F1, [], Same.refl F1, r1.newM hp rfl, i0⟩, fun i n H' ⟨en, hi', m', F', acc, e', r', iv⟩ => ?_⟩
  obtain ⟨sb, mp⟩ := ist _ _ _ iv
  obtain ⟨k3, k4⟩ := ok i F' H' _ e' r' sb
  by_cases hlt : i < ds.length
  · obtain ⟨go, yl⟩ := k3 hlt
    refine .inr ⟨go, fun H2 => ∃ m2 F2 acc2, Same F1 F2 ∧ Rep K F2 H2 (mset m2 p acc2) ∧ Iv (ds.take (i + 1)) acc2 m2, fun H2 n2 => ⟨ds.length - (i + 1), by omega, rfl, hlt, n2⟩, fun x H2 y => ?_⟩
    obtain ⟨d, F2, hd, e2, r2, i2, _⟩ := yl x H2 y
    obtain ⟨t1, t2⟩ := take_succ_get hd
    have st := istep (ds.take i) d (ds.drop (i + 1)) acc m' t1 iv
    rw [← t2] at st
    have s2 : Slots K F2 (L2.wipe σ vs) (wipeD g vs) := ((s.mono e1).mono (e'.trans e2)).wipe vs
    refine hk x σ H2 _ (hg F2 H2 _ d x _ _ _ _ r2 i2 s2 st fun g3 m3 σ3 F3 H3 q3 e3 r3 s3 => ?_)
    refine ht F3 H3 m3 σ3 g3 _ _ r3 s3 q3 fun b m4 F4 H4 q4 e4 r4 => ?_
    by_cases hb : b = true
    · rw [if_pos hb] at q4 ⊢
      refine he F4 H4 m4 σ3 g3 _ _ r4 (s3.mono e4) q4 fun y m5 v5 F5 H5 q5 e5 r5 i5 => ?_
      obtain ⟨hl, m6, rfl, iv6⟩ := q5
      obtain ⟨_, xs, hx, hxs⟩ := r5.mem p acc mset_same
      refine ⟨xs, hx, by rw [isDs_len hxs]; exact hl, m6, F5, acc ++ [y], (((e'.trans e2).trans e3).trans e4).trans e5, ?_, iv6⟩
      have z := r5.wr (mset_same (m := m6) (a := p) (ds := acc)) (isDs_app hxs (isDs_one i5))
      rw [mset_mset] at z
      exact z
    · rw [if_neg hb] at q4 ⊢
      obtain ⟨m6, rfl, iv6⟩ := q4
      exact ⟨m6, F4, acc, ((e'.trans e2).trans e3).trans e4, r4, iv6⟩
  · have ei : i = ds.length := by omega
    refine .inl ⟨k4 (by omega), ?_⟩
    rw [ei, List.take_length] at iv
    obtain ⟨G, e2, r2, i2⟩ := r'.freeze (mset_same (m := m') (a := p) (ds := acc))
    rw [mdel_mset mp] at r2
    exact k _ _ _ _ _ (iend acc m' iv) ((e1.trans e').trans e2) r2 i2
theorem de_lc {elt tg iter : Expr} {ifs : List Expr} {scope : Scope} {own : List (Str × Nat)} {wi : PySem.W.Frag → TI} {ti : TID} {gg : PySem.W.Frag → TG} {gd : TGD} {tt : PySem.W.Frag → TT} {dt : TTD} (hc : X.calm = true) (hN : X.N.Nodup) (hi : DI X tg iter wi ti) (ok : BlkOk X.N X.env.scope scope own)
    (hg : ∀ (s : Shared) (H : Hp) (C : Addr) (cl : List (Str × Addr)) (fp : List Addr), DG (X.blk s H scope (compEnvC scope cl C X.env) fp) tg gg gd) (hk : KeepW (gg X.K) (own.map (·.2))) (ht : ∀ (s : Shared) (H : Hp) (C : Addr) (cl : List (Str × Addr)) (fp : List Addr), DTs (X.blk s H scope (compEnvC scope cl C X.env) fp) ifs tt dt)
    (he : ∀ (s : Shared) (H : Hp) (C : Addr) (cl : List (Str × Addr)) (fp : List Addr), DE (X.blk s H scope (compEnvC scope cl C X.env) fp) elt te dd) (hs : ∀ x, foldedSetIterable iter X.env x = pure x := by intro _; rfl) (s0 : Shared) (h0 : Hp) :
    DE X (.ListComp elt [⟨tg, iter, ifs, 0⟩] scope pos) (fun K => tLc (wi K) (gg K) (tt K) (te K) (own.map (·.2))) (dLc ti gd dt dd (own.map (·.2))) :=
  ⟨pe_lc hc hN hi.pe ok (fun s H C cl fp => (hg s H C cl fp).pe) (fun s H C cl fp => (ht s H C cl fp).pe) (fun s H C cl fp => (he s H C cl fp).pe) hs, sn_lc hi.sn (hg s0 h0 0 [] []).sn hk (ht s0 h0 0 [] []).sn (he s0 h0 0 [] []).sn⟩
theorem ds_setLc {i : Nat} {y : Str} {py : Pos} {elt tg iter : Expr} {ifs : List Expr} {scope : Scope} {own : List (Str × Nat)} {spos : Pos} {wi : PySem.W.Frag → TI} {ti : TID} {gg : PySem.W.Frag → TG} {gd : TGD} {tt : PySem.W.Frag → TT} {dt : TTD} (hc : X.calm = true) (hN : X.N.Nodup) (hy : X.N[i]? = some y) (hyl : X.env.scope.names.lookup y = some .local)
    (hsw : swapsWith (.ListComp elt [⟨tg, iter, ifs, 0⟩] scope pos) (some (.Name y py)) spos.line X.env = pure true) (hi : DI X tg iter wi ti) (ok : BlkOk X.N X.env.scope scope own)
    (hg : ∀ (s : Shared) (H : Hp) (C : Addr) (cl : List (Str × Addr)) (fp : List Addr), DG (X.blk s H scope (compEnvC scope cl C X.env) fp) tg gg gd) (hk : KeepW (gg X.K) (own.map (·.2))) (ht : ∀ (s : Shared) (H : Hp) (C : Addr) (cl : List (Str × Addr)) (fp : List Addr), DTs (X.blk s H scope (compEnvC scope cl C X.env) fp) ifs tt dt)
    (he : ∀ (s : Shared) (H : Hp) (C : Addr) (cl : List (Str × Addr)) (fp : List Addr), DE (X.blk s H scope (compEnvC scope cl C X.env) fp) elt te dd) (hs : ∀ x, foldedSetIterable iter X.env x = pure x := by intro _; rfl) (s0 : Shared) (h0 : Hp) :
    DS X (.Assign [.Name y py] (.ListComp elt [⟨tg, iter, ifs, 0⟩] scope pos) spos) (fun K => tAsg (tLc (wi K) (gg K) (tt K) (te K) (own.map (·.2))) (gName i)) (dAsg (dLc ti gd dt dd (own.map (·.2))) (gdN i)) :=
  ⟨ps_setLc hc hN hy hyl hsw hi.pe ok (fun s H C cl fp => (hg s H C cl fp).pe) (fun s H C cl fp => (ht s H C cl fp).pe) (fun s H C cl fp => (he s H C cl fp).pe) hs, sn_asg (sn_lc hi.sn (hg s0 h0 0 [] []).sn hk (ht s0 h0 0 [] []).sn (he s0 h0 0 [] []).sn) fun F H m d v σ g Q R r i1 s q k => k _ _ _ _ _ q (Same.refl F) r (s.set i1 i)⟩
end

/-! ## a return that forgets lists -/
def dRetW (te : TED) : TSD := fun E g m => te g m fun d m1 => ∃ m2 : Mu, (∀ b es, m2 b = some es → m1 b = some es) ∧ E.rt d m2
theorem ds_retW {X : Cx} {e : Expr} {te : PySem.W.Frag → TE} {dd : TED} {pos : Pos} (he : DE X e te dd) : DS X (.Return (some e) pos) (fun K => tRet (te K)) (dRetW dd) := ⟨ps_ret he.pe, fun F H m σ g E De r s q k1 k2 => he.sn F H m σ g _ De.rt r s q fun d m1 v F1 H1 ⟨m2, h2, q2⟩ e1 r1 i1 => k2 _ _ _ _ _ q2 e1 (r1.weak h2) i1⟩
/-! ## the rule for a def -/
section
variable {P : Program} {w : World} {K : PySem.W.Frag} {mg : Str → Option Value} {base : Heap}
theorem up_len {n : Nat} {sp : SpD} {vs : List V} {H : Hp} {Q : VK} {E : XK} (h : up K n sp vs H Q E) : vs.length = n := h.1
theorem okD {x : Str} {st : Stmt} {N ps : List Str} {k : Nat} {sp : SpD} {f : Addr} {fd : FuncData} (F : FunD K x x (defArgs st) (defBody st) (defScope st) [] [] f fd) (S : FnScope N ps (defScope st)) (tl : List (Option D)) (htl : List.replicate (N.length - ps.length) none = tl)
    (hbody : ∀ (f : Addr) (cdv : Value) (A : Around) (outer : List Env) (s : Shared) (H : Hp) (E : XK), Room k (A.deeper (envOfC x (defScope st) s.heap.objs.size f cdv)) →
      ∃ t td, DSs (cxOf CX0 P w K mg base N x (defScope st) f cdv A outer s H E).nox (defBody st) t td ∧ ∀ (ds : List D) (m : Mu) (Q : D → Mu → Prop), ds.length = ps.length → sp ds m Q → td ⟨fun _ m' => Q .non m', Q⟩ (ds.map some ++ tl) m) :
    FnOk P w K mg base CX0 (k + 1) f fd ps (up K ps.length sp) := by
  refine F.ok S (fun vs H Q E h => h.1) fun cdv A outer s H vs Q E hr h => ?_
  obtain ⟨t, td, hd, hsp⟩ := hbody f cdv A outer s H E hr
  refine ⟨t K, hd.pe.nox, ?_⟩
  obtain ⟨hl, F0, m, ds, Qd, r, i, q, k⟩ := h
  have hl2 : ds.length = ps.length := by rw [← isDs_len i]; exact hl
  have ss := slots_start i N
  rw [hl2, htl] at ss
  refine hd.sn F0 H m _ _ ⟨fun _ m' => Qd .non m', Qd⟩ _ r ss (hsp ds m Qd hl2 q) (fun g' m' σ' F' H' q' e' r' s' => ?_) fun d m' v F' H' q' e' r' i' => ?_
  · exact k _ _ _ _ _ q' e' r' rfl
  · exact k _ _ _ _ _ q' e' r' i'
theorem Def.cal {x : Str} {st : Stmt} {N ps : List Str} {k : Nat} {sp : SpD} (D0 : Def K mg x st) (S : FnScope N ps (defScope st)) (tl : List (Option D)) (htl : List.replicate (N.length - ps.length) none = tl)
    (hb : ∀ (kV doc pm : Value) (an : Option Addr) (cdv ct : Value) (us : List Value), us.length = ps.length → bindArgs (PySem.W.fnOf x x (defArgs st) (defBody st) (defScope st) .none kV doc pm an cdv ct) ⟨us, []⟩ = pure (ps.zip us))
    (hbody : ∀ (f : Addr) (cdv : Value) (A : Around) (outer : List Env) (s : Shared) (H : Hp) (E : XK), Room k (A.deeper (envOfC x (defScope st) s.heap.objs.size f cdv)) →
      ∃ t td, DSs (cxOf CX0 P w K mg base N x (defScope st) f cdv A outer s H E).nox (defBody st) t td ∧ ∀ (ds : List D) (m : Mu) (Q : D → Mu → Prop), ds.length = ps.length → sp ds m Q → td ⟨fun _ m' => Q .non m', Q⟩ (ds.map some ++ tl) m) :
    Cal P w K mg base x (k + 1) ps (up K ps.length sp) := by
  obtain ⟨f, fd, F, hm⟩ := D0.ex
  exact ⟨f, fd, okD F S tl htl hbody, hm, F.kp, F.bindsN hb⟩
end
end BB

namespace BB
open PySem PySem.Spec PyProof.Rows L2

/-- the built-in names that the program does not bind -/
structure Blt (mg : Str → Option Value) : Prop where
  len : mg "len" = none
  abs : mg "abs" = none
  int : mg "int" = none
  max : mg "max" = none
  min : mg "min" = none
  range : mg "range" = none
  list : mg "list" = none
  tuple : mg "tuple" = none
  sorted : mg "sorted" = none
  sum : mg "sum" = none
  str : mg "str" = none
  zip : mg "zip" = none
  isinstance : mg "isinstance" = none
  bool : mg "bool" = none
section
variable {X : Cx}
variable {a b e c : Expr} {ta tb te : PySem.W.Frag → TE} {da db dd : TED} {pos : Pos} {tA : PySem.W.Frag → TT} {dA : TTD} {es : List Expr}
theorem de_eq (ha : DE X a ta da) (hb : DE X b tb db) : DE X (.Compare a [.Eq] [b] pos) (fun K => tOp rEq (ta K) (tb K)) (dOp dEq da db) := de_cmp (fun _ => rEq) op_eq s2_eq ha hb (nomark _)
theorem de_ne (ha : DE X a ta da) (hb : DE X b tb db) : DE X (.Compare a [.NotEq] [b] pos) (fun K => tOp rNe (ta K) (tb K)) (dOp dNe da db) := de_cmp (fun _ => rNe) op_ne s2_ne ha hb (nomark _)
theorem dt_eq (ha : DE X a ta da) (hb : DE X b tb db) : DT X (.Compare a [.Eq] [b] pos) (fun K => tTest (tOp rEq (ta K) (tb K))) (dTest (dOp dEq da db)) := dt_cmp (fun _ => rEq) op_eq s2_eq ha hb (nomark _)
theorem dt_ne (ha : DE X a ta da) (hb : DE X b tb db) : DT X (.Compare a [.NotEq] [b] pos) (fun K => tTest (tOp rNe (ta K) (tb K))) (dTest (dOp dNe da db)) := dt_cmp (fun _ => rNe) op_ne s2_ne ha hb (nomark _)
abbrev q_lt : R2 := rI0 fun i j => V.bl (decide (i < j))
abbrev q_le : R2 := rI0 fun i j => V.bl (decide (i ≤ j))
abbrev q_gt : R2 := rI0 fun i j => V.bl (decide (j < i))
abbrev q_ge : R2 := rI0 fun i j => V.bl (decide (j ≤ i))
theorem dt_lt (ha : DE X a ta da) (hb : DE X b tb db) : DT X (.Compare a [.Lt] [b] pos) (fun K => tTest (tOp q_lt (ta K) (tb K))) (dTest (dOp dLt da db)) := dt_cmp (fun _ => q_lt) op_lt (s2_I fun _ _ _ => rfl) ha hb (nomark _)
theorem dt_le (ha : DE X a ta da) (hb : DE X b tb db) : DT X (.Compare a [.LtE] [b] pos) (fun K => tTest (tOp q_le (ta K) (tb K))) (dTest (dOp dLe da db)) := dt_cmp (fun _ => q_le) op_le (s2_I fun _ _ _ => rfl) ha hb (nomark _)
theorem dt_gt (ha : DE X a ta da) (hb : DE X b tb db) : DT X (.Compare a [.Gt] [b] pos) (fun K => tTest (tOp q_gt (ta K) (tb K))) (dTest (dOp dGt da db)) := dt_cmp (fun _ => q_gt) op_gt (s2_I fun _ _ _ => rfl) ha hb (nomark _)
theorem dt_ge (ha : DE X a ta da) (hb : DE X b tb db) : DT X (.Compare a [.GtE] [b] pos) (fun K => tTest (tOp q_ge (ta K) (tb K))) (dTest (dOp dGe da db)) := dt_cmp (fun _ => q_ge) op_ge (s2_I fun _ _ _ => rfl) ha hb (nomark _)
theorem dt_isN (ha : DE X a ta da) (hb : DE X b tb db) : DT X (.Compare a [.Is] [b] pos) (fun K => tTest (tOp rIsN' (ta K) (tb K))) (dTest (dOp dIsN da db)) := dt_cmp (fun _ => rIsN') op_isN' s2_isN ha hb (nomark _)
theorem dt_notN (ha : DE X a ta da) (hb : DE X b tb db) : DT X (.Compare a [.IsNot] [b] pos) (fun K => tTest (tOp rNotN' (ta K) (tb K))) (dTest (dOp dNotN da db)) := dt_cmp (fun _ => rNotN') op_notN' s2_notN ha hb (nomark _)
theorem dt_in (ha : DE X a ta da) (hb : DE X b tb db) (hm : behindInMarks .In b = false := by rfl) : DT X (.Compare a [.In] [b] pos) (fun K => tTest (tOp (rIn K false) (ta K) (tb K))) (dTest (dOp (dIn false) da db)) := dt_cmp (fun K => rIn K false) op_in_seq s2_in ha hb hm
theorem dt_notin (ha : DE X a ta da) (hb : DE X b tb db) (hm : behindInMarks .NotIn b = false := by rfl) : DT X (.Compare a [.NotIn] [b] pos) (fun K => tTest (tOp (rIn K true) (ta K) (tb K))) (dTest (dOp (dIn true) da db)) := dt_cmp (fun K => rIn K true) op_notIn_seq s2_in ha hb hm
theorem de_in (ha : DE X a ta da) (hb : DE X b tb db) (hm : behindInMarks .In b = false := by rfl) : DE X (.Compare a [.In] [b] pos) (fun K => tOp (rIn K false) (ta K) (tb K)) (dOp (dIn false) da db) := de_cmp (fun K => rIn K false) op_in_seq s2_in ha hb hm
/-! methods of texts and lists -/
def dStrM (k : Str → Str → Mu → (D → Mu → Prop) → Prop) (to ta : TED) : TED := fun g m Q => to g m fun x m1 => match x with
  | .str a => ta g m1 fun y m2 => match y with
    | .str b => k a b m2 Q
    | _ => False
  | _ => False
theorem sn_strM {K : PySem.W.Frag} {r : V → List V → Hp → VK → Prop} {kd : Str → Str → Mu → (D → Mu → Prop) → Prop} {to te : TE} {dO dd : TED} (ho : Snd K to dO) (he : Snd K te dd)
    (hr : ∀ (F H : Hp) (m : Mu) (a b : Str) (Q : D → Mu → Prop) (R : VK), Rep K F H m → kd a b m Q → KtD K F Q R → r (.str a) [.str b] H R) : Snd K (tM1 r to te) (dStrM kd dO dd) := fun F H m σ g Q R re s q k => by
  refine ho F H m σ g _ _ re s q fun d m1 v F1 H1 h1 e1 r1 i1 => ?_
  split at h1
  · rename_i z
    have ev : v = .str z := i1
    subst ev
    refine ⟨⟨z, rfl⟩, ?_⟩
    refine he F1 H1 m1 σ g _ _ r1 (s.mono e1) h1 fun y m2 v2 F2 H2 h2 e2 r2 i2 => ?_
    split at h2
    · rename_i z2
      have ev : v2 = .str z2 := i2
      subst ev
      exact hr F2 H2 m2 z z2 Q R r2 h2 fun d' m' v' F' H' q e => k d' m' v' F' H' q ((e1.trans e2).trans e)
    · exact h2.elim
  · exact h1.elim
abbrev rEnds : V → List V → Hp → VK → Prop := fun x xs H Q => ∃ a b, x = V.str a ∧ xs = [V.str b] ∧ Q (.bl (Txt.endswith a b)) H
abbrev dEnds : TED → TED → TED := dStrM fun a b m Q => Q (.bl (Txt.endswith a b)) m
theorem de_ends {o : Expr} {to : PySem.W.Frag → TE} {dO : TED} {apos cpos : Pos} (ho : DE X o to dO) (ha : DE X e te dd) (hs : starEach [e] X.env = [(false, eval e X.env)] := by rfl) (hbase : attributeBase o "endswith" X.env (eval o X.env) = eval o X.env := by rfl) (hline : (apos.endLine == cpos.line) = true := by rfl) :
    DE X (.Call (.Attribute o "endswith" apos) [e] [] cpos) (fun K => tM1 rEnds (to K) (te K)) (dEnds dO dd) :=
  ⟨pe_m1 PySem.F.slot_str_endswith PySem.F.type_str_endswith mt_endswith ho.pe ha.pe hs hbase hline, sn_strM ho.sn ha.sn fun F H m a b Q R r q k => ⟨a, b, rfl, rfl, k _ _ _ _ _ q (Same.refl F) r rfl⟩⟩
abbrev rSplit : V → List V → Hp → VK → Prop := fun x xs H Q => ∃ a b, x = V.str a ∧ xs = [V.str b] ∧ (b.length == 0) = false ∧ a.length + 2 ≤ sizeLine ∧ rNewStrs (Txt.split a b) H Q
abbrev dSplitS : TED → TED → TED := dStrM fun a b m Q => (b.length == 0) = false ∧ a.length + 2 ≤ sizeLine ∧ Q (.lst ((Txt.split a b).map D.str)) m
theorem de_split {o : Expr} {to : PySem.W.Frag → TE} {dO : TED} {apos cpos : Pos} (ho : DE X o to dO) (ha : DE X e te dd) (hs : starEach [e] X.env = [(false, eval e X.env)] := by rfl) (hbase : attributeBase o "split" X.env (eval o X.env) = eval o X.env := by rfl) (hline : (apos.endLine == cpos.line) = true := by rfl) :
    DE X (.Call (.Attribute o "split" apos) [e] [] cpos) (fun K => tM1 rSplit (to K) (te K)) (dSplitS dO dd) :=
  ⟨pe_split ho.pe ha.pe hs hbase hline, sn_strM ho.sn ha.sn fun F H m a b Q R r q k => ⟨a, b, rfl, rfl, q.1, q.2.1, fun p hp => k _ _ _ _ _ q.2.2 (same_new (r.fr hp)) (r.newF hp) ⟨p, _, rfl, upd_same, strs_isDs _⟩⟩⟩
/-- xs.index(z): texts -/
def dIndex' (to ta : TED) : TED := fun g m Q => to g m fun x m1 => match x with
  | .lst ds => ta g m1 fun y m2 => match y with
    | .str z => ∃ (ss : List Str) (j : Nat), ds = ss.map D.str ∧ ss[j]? = some z ∧ (∀ n : Nat, n < j → ss[n]? ≠ some z) ∧ Q (.int (j : Nat)) m2
    | _ => False
  | _ => False
theorem de_index {o : Expr} {to : PySem.W.Frag → TE} {dO : TED} {apos cpos : Pos} (ho : DE X o to dO) (ha : DE X e te dd)
    (hbase : attributeBase o "index" X.env (eval o X.env) = eval o X.env := by rfl)
    (hfew : ((backTo cpos (starEach [e] X.env)).all (fun x => !x.1) && (backToKw cpos (keywordEach [] X.env)).all (fun x => x.1.isSome)
      && decide ([e].length + ([] : List Keyword).length + (if ([] : List Keyword).isEmpty then 0 else 1) < 30)) = true := by rfl)
    (hline : (apos.endLine == cpos.line) = true := by rfl) (hs : starEach [e] X.env = (false, eval e X.env) :: starEach [] X.env := by rfl) (hplain : (backTo cpos (starEach [] X.env)).any (·.1) = false := by rfl) :
    DE X (.Call (.Attribute o "index" apos) [e] [] cpos) (fun K => tBM K "list" (rIndex K) (to K) (tCons (te K) tNil)) (dIndex' dO dd) :=
  ⟨pe_bm PySem.F.plainAttrs_list PySem.F.slot_list_index PySem.F.type_list_index mt_index ho.pe (pa_cons ha.pe pa_nil hs) hbase hfew hline hs hplain, fun F H m σ g Q R r s q k => by
  refine ho.sn F H m σ g _ _ r s q fun d m1 v F1 H1 h1 e1 r1 i1 => ?_
  split at h1
  · rename_i ds
    obtain ⟨p, xs, rfl, k1, k2⟩ := i1
    refine ⟨.inl ⟨rfl, xs, .of (r1.sub _ _ k1)⟩, ?_⟩
    refine ha.sn F1 H1 m1 σ g _ _ r1 (s.mono e1) h1 fun y m2 v2 F2 H2 h2 e2 r2 i2 => ?_
    split at h2
    · rename_i z
      have ev : v2 = .str z := i2
      subst ev
      obtain ⟨ss, j, rfl, k3, k4, k5⟩ := h2
      have ex := isDs_strs k2
      subst ex
      refine ⟨p, _, .str z, j, .str z, rfl, rfl, .of (r2.sub _ _ (e2 _ _ k1)), rfl, flat_strs ss, by rw [List.getElem?_map, k3] <;> rfl, ?_, fun n z' hn hz => ?_, k _ _ _ _ _ k5 (e1.trans e2) r2 rfl⟩
      · show (z == z) = true
        exact beq_self_eq_true z
      · rw [List.getElem?_map] at hz
        cases q2 : ss[n]? with
        | none =>
          rw [q2] at hz
          cases hz
        | some y =>
          rw [q2] at hz
          have ez : V.str y = z' := Option.some.inj hz
          subst ez
          show (y == z) = false
          refine beq_eq_false_iff_ne.mpr fun e => k4 n hn ?_
          rw [q2, e]
    · exact h2.elim
  · exact h1.elim⟩
/-! two lists of ints compared -/
def dEqL : RD2 := fun x y m Q => ∃ ns ms : List Int, LAt m x (ns.map D.int) ∧ LAt m y (ms.map D.int) ∧ Q (.bl (decide (ns = ms))) m
theorem dp_ints {K : PySem.W.Frag} {H : Hp} : ∀ ns : List Int, DpAll K H (ns.map V.int) (ns.map PyData.int)
  | [] => .nil
  | n :: ns => .cons (.int n) (dp_ints ns)
theorem canLay_ints : ∀ ns : List Int, PyData.canLayAll0 (ns.map PyData.int) = true
  | [] => by simp only [List.map_nil, PyData.canLayAll0]
  | n :: ns => by
    rw [List.map_cons]
    simp only [PyData.canLayAll0, PyData.canLay0, canLay_ints ns, Bool.and_self]
theorem depth_ints : ∀ ns : List Int, PyData.depthAll (ns.map PyData.int) = 0
  | [] => by simp only [List.map_nil, PyData.depthAll]
  | n :: ns => by
    rw [List.map_cons]
    simp only [PyData.depthAll, PyData.depth, depth_ints ns, Nat.max_self]
theorem shaped_ints (ns : List Int) : SeqAt.shaped (.list (ns.map PyData.int)) = true := by
  unfold SeqAt.shaped
  simp only [PyData.canLay0, canLay_ints, PyData.depth, depth_ints]
  rfl
theorem eqvAll_ints : ∀ ns ms : List Int, PyData.eqvAll (ns.map PyData.int) (ms.map PyData.int) = decide (ns = ms)
  | [], [] => by simp [PyData.eqvAll]
  | [], m :: ms => by simp [PyData.eqvAll]
  | n :: ns, [] => by simp [PyData.eqvAll]
  | n :: ns, m :: ms => by
    have ih := eqvAll_ints ns ms
    rw [List.map_cons, List.map_cons]
    simp only [PyData.eqvAll, PyData.eqv, ih]
    by_cases h1 : n = m
    · subst h1
      by_cases h2 : ns = ms
      · subst h2
        simp
      · simp [h2]
    · simp [h1]
theorem s2_eqL {K : PySem.W.Frag} : Snd2 K (rEqD K) dEqL := fun F H m x y v w Q R r ix iy q k => by
  obtain ⟨ns, ms, h1, h2, q⟩ := q
  obtain ⟨p, xs, rfl, k1, k2⟩ := lAt_h r ix h1
  obtain ⟨p2, ys, rfl, k3, k4⟩ := lAt_h r iy h2
  have e1 := isDs_ints k2
  have e2 := isDs_ints k4
  subst e1 e2
  refine ⟨_, _, .lst (.of k1) (dp_ints ns), .lst (.of k3) (dp_ints ms), shaped_ints ns, shaped_ints ms, k _ _ _ _ _ q (Same.refl F) r ?_⟩
  show V.bl _ = V.bl _
  congr 1
  simp only [PyData.eqv]
  exact eqvAll_ints ns ms
theorem de_eqL (hu : X.A.units + 64 < cLine) (ha : DE X a ta da) (hb : DE X b tb db) : DE X (.Compare a [.Eq] [b] pos) (fun K => tOp (rEqD K) (ta K) (tb K)) (dOp dEqL da db) := de_cmp rEqD (op_eqD hu) s2_eqL ha hb (nomark _)
/-! isinstance -/
def dIsi (T : String) : RDC := fun ds m Q => match ds with
  | [.int _] => (T = "int" ∧ Q (.bl true) m) ∨ (T = "bool" ∧ Q (.bl false) m)
  | [.adr p] => T = "list" ∧ (∃ es, m p = some es) ∧ Q (.bl true) m
  | _ => False
def rIsi1 (K : PySem.W.Frag) (T : String) : List V → Hp → VK → Prop := fun xs H Q => rIsi K (xs ++ [.ty T]) H Q
theorem sc_isi {K : PySem.W.Frag} {T : String} : SndC K (rIsi1 K T) (dIsi T) := fun F H m ds xs Q R r i q k => by
  unfold dIsi at q
  split at q
  · rename_i j
    obtain ⟨x, rfl, ix⟩ := isDs1 i
    have ex : x = .int j := ix
    subst ex
    rcases q with ⟨rfl, q⟩ | ⟨rfl, q⟩
    · exact ⟨.int j, .ty "int", .type "int", .type "int", true, rfl, .ty _, .base (.int j), kit_ty (by decide +kernel), k _ _ _ _ _ q (Same.refl F) r rfl⟩
    · exact ⟨.int j, .ty "bool", .type "int", .type "bool", false, rfl, .ty _, .base (.int j), kit_ty (by decide +kernel), k _ _ _ _ _ q (Same.refl F) r rfl⟩
  · rename_i p
    obtain ⟨x, rfl, ix⟩ := isDs1 i
    have ex : x = .ref p := ix
    subst ex
    obtain ⟨rfl, ⟨es, h1⟩, q⟩ := q
    obtain ⟨_, ys, h2, h3⟩ := r.mem _ _ h1
    exact ⟨.ref p, .ty "list", .type "list", .type "list", true, rfl, .ty _, .base (.lst h2), kit_ty (by decide +kernel), k _ _ _ _ _ q (Same.refl F) r rfl⟩
  · exact q.elim
theorem sa_nil {K : PySem.W.Frag} : SndA K tNil dNil := fun F H m σ g Q R r s q k => k [] m [] F H q (Same.refl F) r rfl
theorem sa_cons {K : PySem.W.Frag} {te : TE} {t : TA} {dt : TAD} (h : Snd K te dd) (h' : SndA K t dt) : SndA K (tCons te t) (dCons dd dt) := fun F H m σ g Q R r s q k => by
  refine h F H m σ g _ _ r s q fun x m1 v F1 H1 h1 e1 r1 i1 => ?_
  refine h' F1 H1 m1 σ g _ _ r1 (s.mono e1) h1 fun xs m2 vs F2 H2 h2 e2 r2 i2 => ?_
  exact k _ _ _ _ _ h2 (e1.trans e2) r2 (isDs_cons (isD_mono e2 i1) i2)
/-- isinstance(x, T), T a built-in class's name -/
theorem de_isi {T : Str} {n : String} {p q : Pos} (hg : Gl X "isinstance") (hm : X.mg "isinstance" = none) (hv : bootBuiltins "isinstance" = some (.builtin "isinstance")) (ha : DE X e te dd) (hg2 : Gl X T) (hm2 : X.mg T = none) (hv2 : bootBuiltins T = some (.type n)) (hn2 : T ≠ "__name__" := by decide) (hd2 : (T == ("__debug__" : Str)) = false := by decide)
    (he : starEach [e, .Name T q] X.env = (false, eval e X.env) :: starEach [.Name T q] X.env := by rfl) (he2 : starEach [.Name T q] X.env = (false, eval (.Name T q) X.env) :: starEach [] X.env := by rfl) (hpl : (backTo pos (starEach [.Name T q] X.env)).any (·.1) = false := by rfl) :
    DE X (.Call (.Name "isinstance" p) [e, .Name T q] [] pos) (fun K => tCB (rIsi1 K n) (tCons (te K) tNil)) (dCB (dIsi n) (dCons dd dNil)) :=
  ⟨⟨fun pins s σ H Q I h => (pe_callB call_isi hg hm hv (pa_cons ha.pe (pa_cons (pe_bltn (v := .ty n) hg2 hm2 hv2 rfl hn2 hd2) pa_nil he2) he) (by decide) (by decide) he hpl).run pins s σ H Q I h⟩, sn_cb sc_isi (sa_cons ha.sn sa_nil)⟩
end
end BB

namespace BB
open PySem PySem.Spec PyProof.Rows L2

/-! ## zip of a list and a tuple -/
def ItzM (K : PySem.W.Frag) (a b : Addr) : It where
  go := fun i H => ∃ (xs ys : List V) (x y : V), SqL K H a xs ∧ SqT K H b ys ∧ xs[i]? = some x ∧ ys[i]? = some y
  yld := fun i H v H' => ∃ (T : Addr) (x y : V), v = .ref T ∧ H T = none ∧ H' = upd H T (.tup [x, y]) ∧ (∀ xs, SqL K H a xs → xs[i]? = some x) ∧ ∀ ys, SqT K H b ys → ys[i]? = some y
  stop := fun i H => ∃ xs ys : List V, SqL K H a xs ∧ SqT K H b ys ∧ i ≤ xs.length ∧ i ≤ ys.length ∧ (i = xs.length ∨ i = ys.length)
theorem zsep {z TI TO i1 i2 a b : Addr} (A : ZipApart z TI TO i1 i2 a b) : ZipSep2 z TI TO i1 i2 [i1, a] [i2, b] where
  TIz := A.TIz
  TOz := A.TOz
  TITO := A.TITO
  TIi1 := A.TIi1
  mem1 := List.mem_cons_self
  zf1 := by simp only [List.mem_cons, List.not_mem_nil, or_false, not_or]; exact ⟨A.i1z.symm, A.l1z.symm⟩
  Tf1 := by simp only [List.mem_cons, List.not_mem_nil, or_false, not_or]; exact ⟨A.TOi1, A.l1TO.symm⟩
  TIi2 := A.TIi2
  mem2 := List.mem_cons_self
  zf2 := by simp only [List.mem_cons, List.not_mem_nil, or_false, not_or]; exact ⟨A.i2z.symm, A.l2z.symm⟩
  Tf2 := by simp only [List.mem_cons, List.not_mem_nil, or_false, not_or]; exact ⟨A.TOi2, A.l2TO.symm⟩
  sep1_2 := by simp only [List.mem_cons, List.not_mem_nil, or_false, not_or]; exact ⟨A.i12, A.l2i1.symm⟩
  sep2_1 := by simp only [List.mem_cons, List.not_mem_nil, or_false, not_or]; exact ⟨A.i12.symm, A.l1i2.symm⟩
theorem notin5 {c z TI TO i1 i2 : Addr} (h : c ∉ [z, TI, TO, i1, i2]) : c ≠ z ∧ c ≠ TI ∧ c ≠ TO ∧ c ≠ i1 ∧ c ≠ i2 := by
  simpa only [List.mem_cons, List.not_mem_nil, or_false, not_or] using h
theorem in5 {c z TI TO i1 i2 : Addr} (h : c ∈ [z, TI, TO, i1, i2]) : c = z ∨ c = TI ∨ c = TO ∨ c = i1 ∨ c = i2 := by
  simpa only [List.mem_cons, List.not_mem_nil, or_false] using h
theorem turnM {P : Program} {w : World} {K : PySem.W.Frag} {elts : List Expr} {kk : Nat} {tpos : Pos} {a b z TI TO i1 i2 : Addr} (A0 : ZipApart z TI TO i1 i2 a b) :
    Turn P w K (.Tuple elts kk tpos) (ItzM K a b) [z, TI, TO, i1, i2] z (fun i h => IsZip h z TI TO .none ∧ IsPair h TI (.ref i1) (.ref i2) ∧ (∃ x y, IsPair h TO x y) ∧ h.IsListIter i1 a i ∧ h.IsTupleIter i2 b i) where
  mem := List.mem_cons_self
  obj := fun i h st c hc => by
    obtain ⟨hz, hTI, ⟨x, y, hTO⟩, ⟨o1, e1, _, d1⟩, ⟨o2, e2, _, d2⟩⟩ := st
    rcases in5 hc with q | q | q | q | q
    · exact q ▸ ⟨_, hz, fun v q => nomatch q⟩
    · exact q ▸ ⟨_, hTI, fun v q => nomatch q⟩
    · exact q ▸ ⟨_, hTO, fun v q => nomatch q⟩
    · exact q ▸ ⟨o1, e1, fun v q => by rw [d1] at q; cases q⟩
    · exact q ▸ ⟨o2, e2, fun v q => by rw [d2] at q; cases q⟩
  keep := fun i h h' st k => by
    obtain ⟨hz, hTI, ⟨x, y, hTO⟩, h1, h2⟩ := st
    have m : ∀ c, c = z ∨ c = TI ∨ c = TO ∨ c = i1 ∨ c = i2 → ∀ o, h.get? c = some o → h'.get? c = some o := fun c hc => k c (by simpa only [List.mem_cons, List.not_mem_nil, or_false] using hc)
    exact ⟨m _ (.inl rfl) _ hz, m _ (.inr (.inl rfl)) _ hTI, ⟨x, y, m _ (.inr (.inr (.inl rfl))) _ hTO⟩, h1.at fun o q => m _ (.inr (.inr (.inr (.inl rfl)))) o q, h2.at fun o q => m _ (.inr (.inr (.inr (.inr rfl)))) o q⟩
  item := by
    intro X hP hw hK hc i pins s σ H E I hf st hg
    subst hP hw hK
    obtain ⟨hz, hTI, ⟨x0, y0, hTO⟩, h1, h2⟩ := st
    obtain ⟨xs, ys, x, y, hqx, hqy, hx, hy⟩ := hg
    obtain ⟨its, rv, p, _⟩ := I.list hqx
    obtain ⟨its2, rv2, p2, _⟩ := I.tuple hqy
    obtain ⟨u, hu, ru⟩ := rv.get hx
    obtain ⟨u2, hu2, ru2⟩ := rv2.get hy
    have hh : X.A.in1.handled = none := I.ok.hd hc
    have l1 : i < its.toArray.size := by
      rw [List.size_toArray]
      exact (List.getElem?_eq_some_iff.mp hu).1
    have l2 : i < its2.toArray.size := by
      rw [List.size_toArray]
      exact (List.getElem?_eq_some_iff.mp hu2).1
    have hzl : z < s.heap.objs.size := Heap.lt_size hz
    refine wpAny_pyNext_zipD2_item (zsep A0) (Draws.list hh i1 a A0.l1i1 its.toArray) (Draws.tuple hh i2 b A0.l2i2 its2.toArray) hz hTI hTO ⟨h1, p.isList⟩ ⟨h2, p2⟩ l1 l2 fun x1 x2 h' tk e1 e2 z' TO' s1 s2 hT hsz hk => ?_
    have ex1 : x1 = u := by
      have e1' : its.toArray[i]? = some x1 := e1
      rw [← Array.getElem?_toList, hu] at e1'
      exact (Option.some.inj e1').symm
    have ex2 : x2 = u2 := by
      have e2' : its2.toArray[i]? = some x2 := e2
      rw [← Array.getElem?_toList, hu2] at e2'
      exact (Option.some.inj e2').symm
    subst ex1 ex2
    refine ⟨_, rfl, wpAny_letOwnedTupleGo_zip (s := { s with heap := h', toks := tk }) z' fun h2' z2 sb => ?_⟩
    have hT2 : h2'.get? s.heap.objs.size = some { cls := .type "tuple", data := .seq #[x1, x2] } := (sb.2 _ (Nat.ne_of_gt hzl)).trans hT
    have nw : ObjOk X.prog X.w (upd H s.heap.objs.size (.tup [x, y])) h2' s.heap.objs.size (.tup [x, y]) := ⟨by show 2 ≤ sizeLine; decide, [x1, x2], .cons ru (.cons ru2 .nil), ⟨_, hT2, rfl, _, rfl⟩⟩
    have I1 := I.turnedNew (t' := tk) (ch := [z, TI, TO, i1, i2]) (fun c o hb q => by
      obtain ⟨n1, n2, n3, n4, n5⟩ := notin5 hb
      exact (sb.2 c n1).trans (hk c o n1 n3 n4 n5 q)) hf (Nat.le_refl _) nw
    refine ⟨.ref s.heap.objs.size, _, I1, rfl, ⟨_, x, y, rfl, I.hok.fresh (Nat.le_refl _), rfl, fun l hl => by rw [I.list_inj hl hqx]; exact hx, fun l hl => by rw [I.tuple_inj hl hqy]; exact hy⟩, ⟨z2, ?_, ⟨x1, x2, ?_⟩, ?_, ?_⟩, fun c hcm => ?_⟩
    · exact (sb.2 _ A0.TIz).trans (hk _ _ A0.TIz A0.TITO A0.TIi1 A0.TIi2 hTI)
    · exact (sb.2 _ A0.TOz).trans TO'
    · exact s1.1.at fun o q => (sb.2 _ A0.i1z).trans q
    · exact s2.1.at fun o q => (sb.2 _ A0.i2z).trans q
    · have hlt : c < s.heap.objs.size := by
        rcases in5 hcm with q | q | q | q | q
        · exact q ▸ hzl
        · exact q ▸ Heap.lt_size hTI
        · exact q ▸ Heap.lt_size hTO
        · obtain ⟨_, e1, _⟩ := h1
          exact q ▸ Heap.lt_size e1
        · obtain ⟨_, e2, _⟩ := h2
          exact q ▸ Heap.lt_size e2
      rw [upd_ne (Nat.ne_of_lt hlt)]
      exact (hf c hcm).1
  done := by
    intro X hP hw hK hc i pins s σ H E I hf st hg
    subst hP hw hK
    obtain ⟨hz, hTI, ⟨x0, y0, hTO⟩, h1, h2⟩ := st
    obtain ⟨xs, ys, hqx, hqy, le1, le2, he⟩ := hg
    obtain ⟨its, rv, p, _⟩ := I.list hqx
    obtain ⟨its2, rv2, p2, _⟩ := I.tuple hqy
    have l1 := rv.length
    have l2 := rv2.length
    have hh : X.A.in1.handled = none := I.ok.hd hc
    refine wpAny_pyNext_zipD2_end (zsep A0) (Draws.list hh i1 a A0.l1i1 its.toArray) (Draws.tuple hh i2 b A0.l2i2 its2.toArray) hz hTI hTO ⟨h1, p.isList⟩ ⟨h2, p2⟩ (by rw [List.size_toArray]; omega) (by rw [List.size_toArray]; omega) (by rw [List.size_toArray, List.size_toArray]; omega) fun h' tk hk => ⟨rfl, ?_⟩
    exact I.turnedL (t' := tk) (ch := [z, TI, TO, i1, i2]) (fun c o hb q => by
      obtain ⟨n1, n2, n3, n4, n5⟩ := notin5 hb
      exact hk c o n1 n3 n4 n5 q) hf
  self := fun A i s Q E st h => wpAny_pyIter_zip st.1 h
def iZipM (K : PySem.W.Frag) (ta : TA) : TI := fun σ H R => ta σ H fun vs H1 => ∃ a b xs ys, vs = [.ref a, .ref b] ∧ SqL K H1 a xs ∧ SqT K H1 b ys ∧ R (ItzM K a b) H1
theorem pi_zipM {X : Cx} {e e2 : Expr} {ta : TA} {p pos tpos : Pos} {elts : List Expr} {kk : Nat} (hg : Gl X "zip") (hm : X.mg "zip" = none) (ha : PA X [e, e2] ta)
    (hs : starEach [e, e2] X.env = (false, eval e X.env) :: starEach [e2] X.env := by rfl) (hpl : (backTo pos (starEach [e2] X.env)).any (·.1) = false := by rfl) :
    PI X (.Tuple elts kk tpos) (.Call (.Name "zip" p) [e, e2] [] pos) (iZipM X.K ta) := by
  refine ⟨fun pins s σ H R I h => Call_ (ld_blt I hg hm PyProof.Rows.boot_zip (PyProof.Rows.callWith_type1 (thn (ha.run pos pins s σ H _ I h) fun us s1 ⟨vs, H1, I1, r1, q1⟩ => ?_) hs hpl))⟩
  obtain ⟨a, b, xs, ys, ex, hqx, hqy, q⟩ := q1
  subst ex
  obtain ⟨u1, u2, rfl, r2, r3⟩ := vals2 r1
  cases r2
  cases r3
  obtain ⟨its, rv, p1, _⟩ := I1.list hqx
  obtain ⟨its2, rv2, p2, _⟩ := I1.tuple hqy
  have lt1 := p1.lt
  have lt2 := p2.lt
  refine zip_begins2 (begins_list a its.toArray) (begins_tuple b its2.toArray) p1.isList p2 fun h' hz hTI hTO g1 g2 hsz hk => wpAny_pyIter_zip hz ?_
  have I2 : Inv X pins σ H1 { s1 with heap := h' } := I1.kept (t' := s1.toks) hk
  refine ⟨s1.heap.objs.size + 4, [s1.heap.objs.size + 4, s1.heap.objs.size + 2, s1.heap.objs.size + 3, s1.heap.objs.size, s1.heap.objs.size + 1], _, _, H1, rfl, I2, turnM (PySem.W.ktu_apart s1.heap.objs.size a b lt1 lt2), ⟨hz, hTI, ⟨_, _, hTO⟩, ⟨_, g1, rfl, rfl⟩, ⟨_, g2, rfl, rfl⟩⟩, fun c hcm => ?_, q⟩
  have hle : s1.heap.objs.size ≤ c := by
    rcases in5 hcm with q | q | q | q | q <;> (rw [q]; omega)
  exact I1.fpOk hle (I1.hok.fresh hle)
def zipD (as bs : List D) : List D := List.zipWith (fun a b => .tup [a, b]) as bs
def diZip (t : TAD) : TID := fun g m Q => t g m fun ds m1 => match ds with
  | [.lst as, .tup bs] => Q (zipD as bs) (fun _ => True) m1
  | _ => False
theorem zipD_get {as bs : List D} {i : Nat} {a b : D} (h1 : as[i]? = some a) (h2 : bs[i]? = some b) : (zipD as bs)[i]? = some (.tup [a, b]) := by
  unfold zipD
  rw [List.getElem?_zipWith, h1, h2]
theorem di_zip {X : Cx} {e e2 : Expr} {ta : PySem.W.Frag → TA} {dt : TAD} {p pos tpos : Pos} {elts : List Expr} {kk : Nat} (hg : Gl X "zip") (hm : X.mg "zip" = none) (ha : DA X [e, e2] ta dt)
    (hs : starEach [e, e2] X.env = (false, eval e X.env) :: starEach [e2] X.env := by rfl) (hpl : (backTo pos (starEach [e2] X.env)).any (·.1) = false := by rfl) :
    DI X (.Tuple elts kk tpos) (.Call (.Name "zip" p) [e, e2] [] pos) (fun K => iZipM K (ta K)) (diZip dt) := ⟨pi_zipM hg hm ha.pe hs hpl, fun F H m σ g Q R r s q k => by
  refine ha.sn F H m σ g _ _ r s q fun ds m1 xs F1 H1 h1 e1 r1 i1 => ?_
  split at h1
  · rename_i as bs
    obtain ⟨v1, v2, rfl, ⟨a, xs, rfl, k1, k2⟩, ⟨b, ys, rfl, k3, k4⟩⟩ := isDs2 i1
    refine ⟨a, b, xs, ys, rfl, .of (r1.sub _ _ k1), rep_t r1 k3, k _ _ _ _ _ _ h1 e1 r1 fun i F' H' m' e r' _ => ?_⟩
    have sl : SqL X.K H' a xs := .of (r'.sub _ _ (e _ _ k1))
    have st : SqT X.K H' b ys := rep_t r' (same_t e k3)
    have ln : (zipD as bs).length = min xs.length ys.length := by
      unfold zipD
      rw [List.length_zipWith, isDs_len k2, isDs_len k4]
    have lx := isDs_len k2
    have ly := isDs_len k4
    refine ⟨fun hi => ?_, fun hi => ⟨xs, ys, sl, st, by omega, by omega, by omega⟩⟩
    have hx : i < xs.length := by omega
    have hy : i < ys.length := by omega
    refine ⟨⟨xs, ys, xs[i], ys[i], sl, st, List.getElem?_eq_getElem hx, List.getElem?_eq_getElem hy⟩, fun v H2 ⟨T, x, y, ev, hT, eH, y1, y2⟩ => ?_⟩
    obtain ⟨d1, k5, k6⟩ := isDs_get' k2 (y1 xs sl)
    obtain ⟨d2, k7, k8⟩ := isDs_get' k4 (y2 ys st)
    have sn := same_new (r'.fr hT) (o := .tup [x, y])
    rw [ev, eH]
    exact ⟨.tup [d1, d2], _, zipD_get k5 k7, sn, r'.newF hT, ⟨T, _, rfl, .inl (.inl upd_same), isDs_cons (isD_mono (e.trans sn) k6) (isDs_one (isD_mono (e.trans sn) k8))⟩, same_new hT⟩
  · exact h1.elim⟩
end BB

namespace BB
open PySem

/-! ## layouts -/
inductive Wd where
  | u8 | u16be | u16le | u32be | u32le
def Wd.name : Wd → Str
  | .u8 => "u8"
  | .u16be => "u16be"
  | .u16le => "u16le"
  | .u32be => "u32be"
  | .u32le => "u32le"
def Wd.size : Wd → Nat
  | .u8 => 1
  | .u16be => 2
  | .u16le => 2
  | .u32be => 4
  | .u32le => 4
def Wd.be : Wd → Bool
  | .u16be => true
  | .u32be => true
  | _ => false
def Wd.lows (w : Wd) : List Nat := if w.be then ((List.range w.size).map fun k => 8 * k).reverse else (List.range w.size).map fun k => 8 * k
structure Part where
  name : Option Str
  width : Nat
  signed : Bool
  rg : D
  df : D
def encN : Option Str → D
  | none => .non
  | some s => .str s
def Part.enc (p : Part) : D := .tup [encN p.name, .int p.width, .bl p.signed, p.rg, p.df]
inductive Cnt where
  | exactly (n : Nat)
  | counted (w : Wd) (lo hi : Nat)
  | marked (n : Nat)
def Cnt.enc : Cnt → D
  | .exactly n => .tup [.str "exactly", .int n]
  | .counted w lo hi => .tup [.str "counted", .str w.name, .int lo, .int hi]
  | .marked n => .tup [.str "marked", .int n]
inductive Item where
  | word (w : Wd) (ps : List Part)
  | lit (data : List Int)
  | res (n : Nat)
  | chk (x : Bool)
  | arr (name : Str) (w : Wd) (sg : Bool) (c : Cnt) (rg df : D)
  | list (name : Str) (c : Cnt) (its : List Item)
  | choice (name : Str) (w : Wd) (cs : List (Int × Str × List Item))
  | rcd (name : Str) (its : List Item)
def chkS : Bool → Str
  | true => "xor"
  | false => "sum"
/-- as Python's data; n: more than the nesting -/
def encI : Nat → Item → D
  | _, .word w ps => .tup [.str "word", .str w.name, .tup (ps.map Part.enc)]
  | _, .lit data => .tup [.str "literal", .tup (data.map D.int)]
  | _, .res n => .tup [.str "reserved", .int n]
  | _, .chk x => .tup [.str "check", .str (chkS x)]
  | _, .arr name w sg c rg df => .tup [.str "array", .str name, .str w.name, .bl sg, c.enc, rg, df]
  | n + 1, .list name c its => .tup [.str "list", .str name, c.enc, .tup (its.map (encI n))]
  | n + 1, .choice name w cs => .tup [.str "choice", .str name, .str w.name, .tup (cs.map fun c => .tup [.int c.1, .str c.2.1, .tup (c.2.2.map (encI n))])]
  | n + 1, .rcd name its => .tup [.str "record", .str name, .tup (its.map (encI n))]
  | 0, _ => .non
theorem encI_word {n : Nat} {w : Wd} {ps : List Part} : encI n (.word w ps) = .tup [.str "word", .str w.name, .tup (ps.map Part.enc)] := by cases n <;> rfl
theorem encI_lit {n : Nat} {data : List Int} : encI n (.lit data) = .tup [.str "literal", .tup (data.map D.int)] := by cases n <;> rfl
theorem encI_res {n k : Nat} : encI n (.res k) = .tup [.str "reserved", .int k] := by cases n <;> rfl
theorem encI_chk {n : Nat} {x : Bool} : encI n (.chk x) = .tup [.str "check", .str (chkS x)] := by cases n <;> rfl
theorem encI_arr {n : Nat} {name : Str} {w : Wd} {sg : Bool} {c : Cnt} {rg df : D} : encI n (.arr name w sg c rg df) = .tup [.str "array", .str name, .str w.name, .bl sg, c.enc, rg, df] := by cases n <;> rfl
def encC' (n : Nat) (c : Int × Str × List Item) : D := .tup [.int c.1, .str c.2.1, .tup (c.2.2.map (encI n))]
theorem encI_list {n : Nat} {name : Str} {c : Cnt} {its : List Item} : encI (n + 1) (.list name c its) = .tup [.str "list", .str name, c.enc, .tup (its.map (encI n))] := rfl
theorem encI_choice {n : Nat} {name : Str} {w : Wd} {cs : List (Int × Str × List Item)} : encI (n + 1) (.choice name w cs) = .tup [.str "choice", .str name, .str w.name, .tup (cs.map (encC' n))] := rfl
theorem encI_rcd {n : Nat} {name : Str} {its : List Item} : encI (n + 1) (.rcd name its) = .tup [.str "record", .str name, .tup (its.map (encI n))] := rfl
abbrev encL (n : Nat) (its : List Item) : D := .tup (its.map (encI n))
abbrev encC (n : Nat) (c : Int × Str × List Item) : D := encC' n c

/-! ## members -/
inductive Kind where
  | num (nm : Str) (p : Part)
  | comp (it : Item)
def Part.kind (p : Part) : Option Kind := p.name.map fun s => .num s p
def kindsI : Item → List Kind
  | .word _ ps => ps.filterMap Part.kind
  | .lit _ => []
  | .res _ => []
  | .chk _ => []
  | it => [.comp it]
def kinds (its : List Item) : List Kind := its.flatMap kindsI
def nm (it : Item) : Nat := (kindsI it).length
def Item.name : Item → Str
  | .arr n _ _ _ _ _ => n
  | .list n _ _ => n
  | .choice n _ _ => n
  | .rcd n _ => n
  | _ => ""
def Kind.name : Kind → Str
  | .num s _ => s
  | .comp it => it.name
/-- a member as the law's own tuple -/
def encK (n : Nat) : Kind → D
  | .num s p => .tup [.str "integer", .str s, .int p.width, .bl p.signed, p.rg, p.df]
  | .comp (.arr name w sg c rg df) => .tup [.str "array", .str name, c.enc, .int (8 * w.size : Nat), .bl sg, rg, df]
  | .comp (.choice name w cs) => match n with
    | n + 1 => .tup [.str "choice", .str name, .tup (cs.map (encC n))]
    | 0 => .non
  | .comp it => encI n it

/-! ## arrays and lists -/
def isSeq : Item → Prop
  | .arr _ _ _ _ _ _ => True
  | .list _ _ _ => True
  | _ => False
def cntOf : Item → Cnt
  | .arr _ _ _ c _ _ => c
  | .list _ c _ => c
  | _ => .exactly 0
def elemItems : Item → List Item
  | .arr _ w sg _ rg df => [.word w [⟨some "", 8 * w.size, sg, rg, df⟩]]
  | .list _ _ its => its
  | _ => []
def wrapD : Item → D → D
  | .arr _ _ _ _ _ _, d => .tup [d]
  | _, d => d
def tupD : D → List D
  | .tup ds => ds
  | _ => []
/-- an element as a row -/
def elR : Item → D → List D
  | .arr _ _ _ _ _ _, v => [v]
  | _, v => tupD v

/-! ## what is well formed; the values of a member -/
def inF (sg : Bool) (w : Nat) (i : Int) : Prop := if sg then -(2 ^ (w - 1)) ≤ i ∧ i < 2 ^ (w - 1) else 0 ≤ i ∧ i < 2 ^ w
def cMax : Cnt → Nat
  | .exactly n => n
  | .counted _ _ hi => hi
  | .marked n => n
def lenOk : Cnt → Nat → Prop
  | .exactly n, k => k = n
  | .counted w lo hi, k => lo ≤ k ∧ k ≤ hi ∧ hi < 256
  | .marked n, k => k ≤ n
def wfP (p : Part) : Prop := 1 ≤ p.width ∧ p.width ≤ 32
def wfI : Nat → Item → Prop
  | _, .word w ps => (ps.map Part.width).sum = 8 * w.size ∧ ∀ p ∈ ps, wfP p
  | _, .lit data => data.length ≤ 100 ∧ ∀ b ∈ data, 0 ≤ b ∧ b < 256
  | _, .res k => k ≤ 100
  | _, .chk _ => True
  | 0, _ => False
  | _ + 1, .arr _ _ _ c _ _ => cMax c ≤ 100
  | n + 1, .list _ c its => cMax c ≤ 100 ∧ its.length ≤ 100 ∧ ∀ i ∈ its, wfI n i
  | n + 1, .choice _ w cs => cs.length ≤ 100 ∧ (cs.map fun c => c.1).Nodup ∧ (cs.map fun c => c.2.1).Nodup ∧ ∀ c ∈ cs, (0 ≤ c.1 ∧ c.1 < 2 ^ (8 * w.size)) ∧ c.2.2.length ≤ 100 ∧ ∀ i ∈ c.2.2, wfI n i
  | n + 1, .rcd _ its => its.length ≤ 100 ∧ ∀ i ∈ its, wfI n i
def wfL (n : Nat) (its : List Item) : Prop := its.length ≤ 100 ∧ ∀ i ∈ its, wfI n i
/-- no message is longer -/
def mxI : Nat → Item → Nat
  | _, .word w _ => w.size
  | _, .lit data => data.length
  | _, .res k => k
  | _, .chk _ => 1
  | _, .arr _ w _ c _ _ => 5 + cMax c * (w.size + 1)
  | 0, _ => 0
  | n + 1, .list _ c its => 5 + cMax c * ((its.map (mxI n)).sum + 1)
  | n + 1, .choice _ w cs => w.size + (cs.map fun c => (c.2.2.map (mxI n)).sum).sum
  | n + 1, .rcd _ its => (its.map (mxI n)).sum
abbrev mxL (n : Nat) (its : List Item) : Nat := (its.map (mxI n)).sum
/-- a row: one value for each member -/
def rowIn (V : Kind → D → Prop) : List Kind → List D → Prop
  | [], _ => True
  | k :: ks, r => V k (r.headD .non) ∧ rowIn V ks r.tail
def rowOf (V : Kind → D → Prop) (ks : List Kind) (r : List D) : Prop := r.length = ks.length ∧ rowIn V ks r
def valOf : Nat → Kind → D → Prop
  | _, .num _ p, d => ∃ i, d = .int i ∧ inF p.signed p.width i
  | 0, .comp _, _ => False
  | n + 1, .comp (.arr a w sg c rg df), d => ∃ vs : List D, d = .tup vs ∧ lenOk c vs.length ∧ ∀ v ∈ vs, rowOf (valOf n) (kinds (elemItems (.arr a w sg c rg df))) (elR (.arr a w sg c rg df) v)
  | n + 1, .comp (.list a c its), d => ∃ vs : List D, d = .tup vs ∧ lenOk c vs.length ∧ ∀ v ∈ vs, (∃ r, v = .tup r) ∧ rowOf (valOf n) (kinds (elemItems (.list a c its))) (elR (.list a c its) v)
  | n + 1, .comp (.choice _ _ cs), d => (cs.map fun c => c.2.1).Nodup ∧ ∃ c ∈ cs, ∃ r, d = .tup [.str c.2.1, .tup r] ∧ rowOf (valOf n) (kinds c.2.2) r
  | n + 1, .comp (.rcd _ its), d => ∃ r, d = .tup r ∧ rowOf (valOf n) (kinds its) r
  | _ + 1, .comp _, _ => False
def rowIs (n : Nat) (its : List Item) (r : List D) : Prop := rowOf (valOf n) (kinds its) r
end BB

namespace BB
open PySem PySem.Spec PyProof.Rows L2
/-! ## loops by typed lists -/
theorem map_split {α : Type} {f : α → D} {xs : List α} {pre post : List D} {d : D} (h : xs.map f = pre ++ d :: post) : ∃ x, xs[pre.length]? = some x ∧ d = f x := by
  have h1 : (xs.map f)[pre.length]? = some d := by
    rw [h, List.getElem?_append_right (Nat.le_refl _), Nat.sub_self]
    rfl
  rw [List.getElem?_map] at h1
  cases e : xs[pre.length]? with
  | none =>
    rw [e] at h1
    cases h1
  | some x =>
    rw [e] at h1
    exact ⟨x, rfl, (Option.some.inj h1).symm⟩
theorem loop_map {α : Type} {f : α → D} {xs : List α} {Sb : Mu → Prop} {tg : TGD} {body : TSD} {E : EndsD} {g : Env'} {m : Mu} (Inv : List α → Env' → Mu → Prop) (h0 : Inv [] g m) (hs : ∀ pre g' m', Inv pre g' m' → Sb m')
    (step : ∀ pre x post g' m', xs = pre ++ x :: post → Inv pre g' m' → tg (f x) g' m' fun g2 m2 => body ⟨Inv (pre ++ [x]), E.rt⟩ g2 m2) (hd : ∀ g' m', Inv xs g' m' → E.nx g' m') : LoopD (xs.map f) Sb tg body E g m := by
  refine ⟨fun pre => Inv (xs.take pre.length), h0, fun pre g' m' h => hs _ _ _ h, fun pre d post g' m' e h => ?_, fun g' m' h => ?_⟩
  · obtain ⟨x, hx, rfl⟩ := map_split e
    obtain ⟨t1, t2⟩ := take_succ_get hx
    have q := step _ x _ g' m' t1 h
    rw [← t2] at q
    show tg (f x) g' m' fun g2 m2 => body ⟨Inv (xs.take (pre ++ [f x]).length), E.rt⟩ g2 m2
    rw [List.length_append]
    exact q
  · have h' : Inv (xs.take (xs.map f).length) g' m' := h
    rw [List.length_map, List.take_length] at h'
    exact hd g' m' h'
theorem loop_self {ds : List D} {Sb : Mu → Prop} {tg : TGD} {body : TSD} {E : EndsD} {g : Env'} {m : Mu} (Inv : List D → Env' → Mu → Prop) (h0 : Inv [] g m) (hs : ∀ pre g' m', Inv pre g' m' → Sb m')
    (step : ∀ pre d post g' m', ds = pre ++ d :: post → Inv pre g' m' → tg d g' m' fun g2 m2 => body ⟨Inv (pre ++ [d]), E.rt⟩ g2 m2) (hd : ∀ g' m', Inv ds g' m' → E.nx g' m') : LoopD ds Sb tg body E g m := ⟨Inv, h0, hs, step, hd⟩
/-- over 0, 1, .. -/
theorem loop_rg {n : Int} {Sb : Mu → Prop} {tg : TGD} {body : TSD} {E : EndsD} {g : Env'} {m : Mu} (Inv : Nat → Env' → Mu → Prop) (h0 : Inv 0 g m) (hs : ∀ i g' m', Inv i g' m' → Sb m')
    (step : ∀ (i : Nat) g' m', (i : Int) < n → Inv i g' m' → tg (.int (i : Nat)) g' m' fun g2 m2 => body ⟨Inv (i + 1), E.rt⟩ g2 m2) (hd : ∀ g' m', Inv n.toNat g' m' → E.nx g' m') : LoopD ((rgI 0 n).map D.int) Sb tg body E g m := by
  refine loop_map (fun pre => Inv pre.length) h0 (fun pre g' m' h => hs _ _ _ h) (fun pre x post g' m' e h => ?_) (fun g' m' h => ?_)
  · have hl : pre.length < (n - 0).toNat := by
      have := congrArg List.length e
      rw [rgI_len, List.length_append, List.length_cons] at this
      omega
    have hx : (rgI 0 n)[pre.length]? = some x := by
      rw [e, List.getElem?_append_right (Nat.le_refl _), Nat.sub_self]
      rfl
    rw [rgI_get hl] at hx
    have ex : x = (pre.length : Nat) := by
      have := Option.some.inj hx
      omega
    rw [ex]
    have z := step pre.length g' m' (by omega) h
    show tg (.int ((pre.length : Nat) : Int)) g' m' fun g2 m2 => body ⟨fun g3 m3 => Inv (pre ++ [((pre.length : Nat) : Int)]).length g3 m3, E.rt⟩ g2 m2
    rw [List.length_append]
    exact z
  · have h' : Inv (rgI 0 n).length g' m' := h
    rw [rgI_len, Int.sub_zero] at h'
    exact hd g' m' h'
/-! comprehensions -/
theorem lc_map {α : Type} {f : α → D} {xs : List α} {Sb : Mu → Prop} {tg : TGD} {tt : TTD} {te : TED} {g : Env'} {m : Mu} {Q : D → Mu → Prop} (h : ∀ a, m a = none → ∃ Inv : List α → List D → Mu → Prop, Inv [] [] m ∧ (∀ pre acc m', Inv pre acc m' → Sb (mset m' a acc) ∧ m' a = none) ∧
    (∀ pre x post acc m', xs = pre ++ x :: post → Inv pre acc m' → tg (f x) g (mset m' a acc) fun g2 m2 => tt g2 m2 fun b m3 =>
      if b = true then te g2 m3 fun y m4 => acc.length < sizeLine ∧ ∃ m5, m4 = mset m5 a acc ∧ Inv (pre ++ [x]) (acc ++ [y]) m5
      else ∃ m5, m3 = mset m5 a acc ∧ Inv (pre ++ [x]) acc m5) ∧ ∀ acc m', Inv xs acc m' → Q (.lst acc) m') : LcD (xs.map f) Sb tg tt te g m Q := by
  intro a ha
  obtain ⟨Inv, h0, hs, step, hd⟩ := h a ha
  refine ⟨fun pre => Inv (xs.take pre.length), h0, fun pre acc m' h => hs _ _ _ h, fun pre d post acc m' e h => ?_, fun acc m' h => ?_⟩
  · obtain ⟨x, hx, rfl⟩ := map_split e
    obtain ⟨t1, t2⟩ := take_succ_get hx
    have q := step _ x _ acc m' t1 h
    rw [← t2] at q
    show tg (f x) g (mset m' a acc) fun g2 m2 => tt g2 m2 fun b m3 => if b = true then te g2 m3 fun y m4 => acc.length < sizeLine ∧ ∃ m5, m4 = mset m5 a acc ∧ Inv (xs.take (pre ++ [f x]).length) (acc ++ [y]) m5
      else ∃ m5, m3 = mset m5 a acc ∧ Inv (xs.take (pre ++ [f x]).length) acc m5
    rw [List.length_append]
    exact q
  · have h' : Inv (xs.take (xs.map f).length) acc m' := h
    rw [List.length_map, List.take_length] at h'
    exact hd acc m' h'
/-- the block changes nothing: its value is e x -/
theorem lc_pure {α : Type} {f : α → D} {xs : List α} {tg : TGD} {te : TED} {g : Env'} {m : Mu} {Q : D → Mu → Prop} (e : α → D) (hl : xs.length ≤ 100000)
    (step : ∀ x ∈ xs, ∀ (m1 : Mu) (R : D → Mu → Prop), (∀ b es, m b = some es → m1 b = some es) → R (e x) m1 → tg (f x) g m1 fun g2 m2 => te g2 m2 R) (hd : Q (.lst (xs.map e)) m) : LcD (xs.map f) (fun _ => True) tg dYes te g m Q := by
  refine lc_map fun a ha => ⟨fun pre acc m' => m' = m ∧ acc = pre.map e, ⟨rfl, rfl⟩, fun pre acc m' h => ⟨trivial, by rw [h.1]; exact ha⟩, fun pre x post acc m' ex h => ?_, fun acc m' h => ?_⟩
  · obtain ⟨rfl, rfl⟩ := h
    have hm : x ∈ xs := by
      rw [ex]
      exact List.mem_append_right _ List.mem_cons_self
    have hlen : pre.length ≤ 100000 := by
      have := congrArg List.length ex
      rw [List.length_append, List.length_cons] at this
      omega
    refine step x hm (mset m' a (pre.map e)) (fun y m4 => (pre.map e).length < sizeLine ∧ ∃ m5, m4 = mset m5 a (pre.map e) ∧ m5 = m' ∧ pre.map e ++ [y] = (pre ++ [x]).map e) (fun b es hb => by rw [mset_ne (mne hb ha)]; exact hb) ?_
    refine ⟨?_, m', rfl, rfl, ?_⟩
    · rw [List.length_map]
      exact Nat.lt_of_le_of_lt hlen (by decide)
    · rw [List.map_append]
      rfl
  · obtain ⟨rfl, rfl⟩ := h
    exact hd
/-- .. with a test -/
theorem lc_filter {α : Type} {f : α → D} {xs : List α} {tg : TGD} {tt : TTD} {te : TED} {g : Env'} {m : Mu} {Q : D → Mu → Prop} (p : α → Bool) (e : α → D) (hl : xs.length ≤ 100000)
    (step : ∀ x ∈ xs, ∀ (m1 : Mu) (R : D → Mu → Prop) (R' : Mu → Prop), (∀ b es, m b = some es → m1 b = some es) → (p x = true → R (e x) m1) → (p x = false → R' m1) → tg (f x) g m1 fun g2 m2 => tt g2 m2 fun b m3 => if b = true then te g2 m3 R else R' m3) (hd : Q (.lst ((xs.filter p).map e)) m) : LcD (xs.map f) (fun _ => True) tg tt te g m Q := by
  refine lc_map fun a ha => ⟨fun pre acc m' => m' = m ∧ acc = (pre.filter p).map e, ⟨rfl, rfl⟩, fun pre acc m' h => ⟨trivial, by rw [h.1]; exact ha⟩, fun pre x post acc m' ex h => ?_, fun acc m' h => ?_⟩
  · obtain ⟨rfl, rfl⟩ := h
    have hm : x ∈ xs := by
      rw [ex]
      exact List.mem_append_right _ List.mem_cons_self
    have hlen : (pre.filter p).length ≤ 100000 := by
      have := congrArg List.length ex
      rw [List.length_append, List.length_cons] at this
      have := List.length_filter_le p pre
      omega
    have ef : ∀ b, p x = b → (pre ++ [x]).filter p = pre.filter p ++ (if b = true then [x] else []) := fun b hb => by
      rw [List.filter_append]
      cases b with
      | true => rw [List.filter_cons_of_pos hb, if_pos rfl] <;> rfl
      | false => rw [List.filter_cons_of_neg (by rw [hb]; exact Bool.false_ne_true), if_neg Bool.false_ne_true] <;> rfl
    refine step x hm (mset m' a ((pre.filter p).map e)) _ _ (fun b es hb => by rw [mset_ne (mne hb ha)]; exact hb) (fun hp => ?_) (fun hp => ?_)
    · refine ⟨?_, m', rfl, rfl, ?_⟩
      · rw [List.length_map]
        exact Nat.lt_of_le_of_lt hlen (by decide)
      · rw [ef true hp, if_pos rfl, List.map_append]
        rfl
    · refine ⟨m', rfl, rfl, ?_⟩
      rw [ef false hp, if_neg Bool.false_ne_true, List.append_nil]
  · obtain ⟨rfl, rfl⟩ := h
    exact hd
theorem iffB {c A B : Prop} {b : Bool} (h1 : b = true → A) (h2 : b = false → B) : if b = true then A else B := by
  cases b with
  | true => exact h1 rfl
  | false => exact h2 rfl
theorem ifT {b : Bool} {A B : Prop} (e : b = true) (h : A) : if b = true then A else B := by
  rw [if_pos e]
  exact h
theorem ifF {b : Bool} {A B : Prop} (e : b = false) (h : B) : if b = true then A else B := by
  rw [if_neg (by rw [e]; exact Bool.false_ne_true)]
  exact h
theorem ifD {p : Prop} [Decidable p] {A B : Prop} (h1 : p → A) (h2 : ¬ p → B) : if decide p = true then A else B := by
  by_cases h : p
  · rw [if_pos (decide_eq_true h)]
    exact h1 h
  · rw [if_neg (by rw [decide_eq_false h]; exact Bool.false_ne_true)]
    exact h2 h
theorem ifDn {p : Prop} [Decidable p] {A B : Prop} (h1 : ¬ p → A) (h2 : p → B) : if (!decide p) = true then A else B := by
  by_cases h : p
  · rw [decide_eq_true h]
    exact h2 h
  · rw [decide_eq_false h]
    exact h1 h
theorem atI_c {α : Type} (ds : List α) (k : Nat) : atI ds (k : Int) = ds[k]? := by
  cases e : ds[k]? with
  | some v => exact atI_nat e
  | none =>
    have hk := List.getElem?_eq_none_iff.mp e
    unfold atI ixN
    rw [if_pos (by omega), if_neg (by omega)]
    rfl
theorem atI_0 {α : Type} (ds : List α) : atI ds 0 = ds[0]? := atI_c ds 0
theorem atI_1 {α : Type} (ds : List α) : atI ds 1 = ds[1]? := atI_c ds 1
theorem atI_2 {α : Type} (ds : List α) : atI ds 2 = ds[2]? := atI_c ds 2
theorem atI_3 {α : Type} (ds : List α) : atI ds 3 = ds[3]? := atI_c ds 3
theorem atI_4 {α : Type} (ds : List α) : atI ds 4 = ds[4]? := atI_c ds 4
theorem atI_5 {α : Type} (ds : List α) : atI ds 5 = ds[5]? := atI_c ds 5
theorem atI_6 {α : Type} (ds : List α) : atI ds 6 = ds[6]? := atI_c ds 6
theorem onSome_some {α : Type} (x : α) (k : α → Prop) : onSome (some x) k = k x := rfl
theorem with1_1 (d : D) (k : D → Prop) : with1 [d] k = k d := rfl
theorem true_and' (p : Prop) : (True ∧ p) = p := by simp
theorem mapS_cons (d : D) (ds : List D) : List.map some (d :: ds) = some d :: List.map some ds := rfl
theorem mapS_nil : List.map some ([] : List D) = [] := rfl
end BB

namespace BB
open PySem

/-! ## messages -/
def byteAt (code low : Nat) : Int := ((code / 2 ^ low % 256 : Nat) : Int)
def wbytes (w : Wd) (code : Nat) : List Int := w.lows.map (byteAt code)
def intD : D → Int
  | .int i => i
  | _ => 0
def modW (i : Int) (w : Nat) : Nat := (i % 2 ^ w).toNat
/-- a word's code for a row; free bits are 0 -/
def wcode : List Part → Nat → List D → Nat
  | [], _, _ => 0
  | p :: ps, low, row => match p.name with
    | none => wcode ps (low - p.width) row
    | some _ => modW (intD (row.headD .non)) p.width * 2 ^ (low - p.width) + wcode ps (low - p.width) row.tail
def chkB (x : Bool) (o : List Int) : Int := if x then o.foldl Builtin.bitXor 0 else o.sum % 256
def cHead : Cnt → Nat → List Int
  | .counted w _ _, k => wbytes w k
  | _, _ => []
def cMark : Cnt → List Int
  | .marked _ => [1]
  | _ => []
def cTail : Cnt → List Int
  | .marked _ => [0]
  | _ => []
def putN (f : D → List Int → List Int) (c : Cnt) (vs : List D) (o : List Int) : List Int := vs.foldl (fun o v => f v (o ++ cMark c)) o
def putS (f : D → List Int → List Int) (c : Cnt) (vs : List D) (o : List Int) : List Int := putN f c vs (o ++ cHead c vs.length) ++ cTail c
def foldI (f : Item → List D → List Int → List Int) : List Item → List D → List Int → List Int
  | [], _, o => o
  | it :: its, row, o => foldI f its (row.drop (nm it)) (f it row o)
def caseOf (cs : List (Int × Str × List Item)) (z : Str) : Option (Int × Str × List Item) := cs.find? fun c => decide (c.2.1 = z)
def nameD : D → Str
  | .tup (.str z :: _) => z
  | _ => ""
def restD : D → List D
  | .tup [_, .tup r] => r
  | _ => []
/-- the bytes of an item for a row from its members on -/
def putI : Nat → Item → List D → List Int → List Int
  | _, .word w ps, row, o => o ++ wbytes w (wcode ps (8 * w.size) row)
  | _, .lit data, _, o => o ++ data
  | _, .res k, _, o => o ++ List.replicate k 0
  | _, .chk x, _, o => o ++ [chkB x o]
  | 0, _, _, o => o
  | n + 1, .arr a w sg c rg df, row, o => putS (fun v o => foldI (putI n) (elemItems (.arr a w sg c rg df)) (elR (.arr a w sg c rg df) v) o) c (tupD (row.headD .non)) o
  | n + 1, .list a c its, row, o => putS (fun v o => foldI (putI n) (elemItems (.list a c its)) (elR (.list a c its) v) o) c (tupD (row.headD .non)) o
  | n + 1, .choice _ w cs, row, o => match caseOf cs (nameD (row.headD .non)) with
    | some c => foldI (putI n) c.2.2 (restD (row.headD .non)) (o ++ wbytes w (modW c.1 (8 * w.size)))
    | none => o
  | n + 1, .rcd _ its, row, o => foldI (putI n) its (tupD (row.headD .non)) o
abbrev putL (n : Nat) : List Item → List D → List Int → List Int := foldI (putI n)

/-! ## integer sets -/
def andL : List Nat → Nat
  | [] => 0
  | c :: cs => (c :: cs).foldl (fun x y => x &&& y) c
def orL : List Nat → Nat
  | [] => 0
  | c :: cs => (c :: cs).foldl (fun x y => x ||| y) c
def agrK (w : Nat) (cs : List Nat) : Nat := (2 ^ w - 1) ^^^ andL cs ^^^ orL cs
structure BitsOf (w : Nat) (is : List Int) (Kn C : Nat) : Prop where
  lt : Kn < 2 ^ w
  all : ∀ b, b < w → Kn.testBit b = true → ∀ i ∈ is, (modW i w).testBit b = C.testBit b
  some : ∀ b, b < w → Kn.testBit b = false → ∃ i ∈ is, ∃ j ∈ is, (modW i w).testBit b ≠ (modW j w).testBit b
  zero : ∀ b, Kn.testBit b = false → C.testBit b = false
inductive SetIs (w : Nat) (is : List Int) (Kn C : Nat) : D → Prop where
  | bits : SetIs w is Kn C (.tup [.str "bits", .int Kn, .int C])
  | among (ns : List Int) (hm : ∀ n, n ∈ ns ↔ n ∈ is) (hf : ∀ n ∈ ns, -(2 ^ w) ≤ n ∧ n < 2 ^ w) (hK : Kn = agrK w (ns.map fun n => modW n w)) (hC : C = andL (ns.map fun n => modW n w)) (hl : ns.length ≤ 1000) : SetIs w is Kn C (.tup [.str "among", .tup (ns.map D.int)])
def IsSet (w : Nat) (is : List Int) (e : D) : Prop := is ≠ [] ∧ ∃ Kn C, BitsOf w is Kn C ∧ SetIs w is Kn C e
def HasS (w : Nat) (e : D) (i : Int) : Prop := (∃ Kn C : Nat, e = .tup [.str "bits", .int Kn, .int C] ∧ modW i w &&& Kn = C) ∨ ∃ ns : List Int, e = .tup [.str "among", .tup (ns.map D.int)] ∧ i ∈ ns

/-! ## patterns -/
/-- the numbers of elements that occur, ascending -/
def IsNums (ls : List Nat) (nums : List Nat) : Prop := (∀ k, k ∈ nums ↔ k ∈ ls) ∧ nums.Pairwise (· < ·)
def IsCounts {α : Type} (U : List α → D → Prop) (vss : List (List α)) (e : D) : Prop := ∃ (nums : List Nat) (es : List D), IsNums (vss.map List.length) nums ∧ nums.length ≤ 1000 ∧ e = .tup [.str "counts", .tup (nums.map fun k => D.int (k : Nat)), .tup es] ∧
  es.length ≤ 1000 ∧ (∀ vs ∈ vss, vs.length ≤ es.length) ∧ ∀ (i : Nat) (e' : D), es[i]? = some e' → U (vss.filterMap fun vs => vs[i]?) e'
/-- entries for kinds; rows: from these members on -/
def patIn (U : Kind → List D → D → Prop) : List Kind → List (List D) → List D → Prop
  | [], _, _ => True
  | k :: ks, rows, P => U k (rows.map fun r => r.headD .non) (P.headD .non) ∧ patIn U ks (rows.map List.tail) P.tail
def patOf (U : Kind → List D → D → Prop) (ks : List Kind) (rows : List (List D)) (P : List D) : Prop := P.length = ks.length ∧ patIn U ks rows P
def entOf : Nat → Kind → List D → D → Prop
  | _, .num _ p, col, e => IsSet p.width (col.map intD) e
  | 0, .comp _, _, _ => False
  | n + 1, .comp (.arr a w sg c rg df), col, e => IsCounts (fun vs e' => ∃ P, wrapD (.arr a w sg c rg df) e' = .tup P ∧ patOf (entOf n) (kinds (elemItems (.arr a w sg c rg df))) (vs.map (elR (.arr a w sg c rg df))) P) (col.map tupD) e
  | n + 1, .comp (.list a c its), col, e => IsCounts (fun vs e' => ∃ P, wrapD (.list a c its) e' = .tup P ∧ patOf (entOf n) (kinds (elemItems (.list a c its))) (vs.map (elR (.list a c its))) P) (col.map tupD) e
  | n + 1, .comp (.choice _ _ cs), col, e => ∃ L : List ((Int × Str × List Item) × List D), e = .tup [.str "cases", .tup (L.map fun q => .tup [.str q.1.2.1, .tup q.2])] ∧ L ≠ [] ∧ (∀ q ∈ L, q.1 ∈ cs ∧ ∃ rs, rs = (col.filter fun d => decide (nameD d = q.1.2.1)).map restD ∧ rs ≠ [] ∧ patOf (entOf n) (kinds q.1.2.2) rs q.2) ∧
      (L.map fun q => q.1.2.1).Nodup ∧ L.length ≤ 100 ∧ (cs.map fun c => c.2.1).Nodup ∧ ∀ d ∈ col, ∃ q ∈ L, q.1.2.1 = nameD d
  | n + 1, .comp (.rcd _ its), col, e => ∃ P, e = .tup P ∧ patOf (entOf n) (kinds its) (col.map tupD) P
  | _ + 1, .comp _, _, _ => False
def IsPat (n : Nat) (its : List Item) (rows : List (List D)) (P : List D) : Prop := patOf (entOf n) (kinds its) rows P

/-! ## belonging -/
def hasOf (U : Kind → D → D → Prop) : List Kind → List D → List D → Prop
  | [], _, _ => True
  | k :: ks, P, r => U k (P.headD .non) (r.headD .non) ∧ hasOf U ks P.tail r.tail
def HasC {α : Type} (U : D → α → Prop) (e : D) (vs : List α) : Prop := ∃ (nums : List Nat) (es : List D), e = .tup [.str "counts", .tup (nums.map fun k => D.int (k : Nat)), .tup es] ∧ vs.length ∈ nums ∧ ∀ (i : Nat) (v : α), vs[i]? = some v → ∃ e', es[i]? = some e' ∧ U e' v
def hasE : Nat → Kind → D → D → Prop
  | _, .num _ p, e, d => HasS p.width e (intD d)
  | 0, .comp _, _, _ => False
  | n + 1, .comp (.arr a w sg c rg df), e, d => HasC (fun e' v => hasOf (hasE n) (kinds (elemItems (.arr a w sg c rg df))) (tupD (wrapD (.arr a w sg c rg df) e')) (elR (.arr a w sg c rg df) v)) e (tupD d)
  | n + 1, .comp (.list a c its), e, d => HasC (fun e' v => hasOf (hasE n) (kinds (elemItems (.list a c its))) (tupD (wrapD (.list a c its) e')) (elR (.list a c its) v)) e (tupD d)
  | n + 1, .comp (.choice _ _ cs), e, d => ∃ L : List ((Int × Str × List Item) × List D), e = .tup [.str "cases", .tup (L.map fun q => .tup [.str q.1.2.1, .tup q.2])] ∧ ∃ q ∈ L, q.1 ∈ cs ∧ q.1.2.1 = nameD d ∧ hasOf (hasE n) (kinds q.1.2.2) q.2 (restD d)
  | n + 1, .comp (.rcd _ its), e, d => hasOf (hasE n) (kinds its) (tupD e) (tupD d)
  | _ + 1, .comp _, _, _ => False
def HasL (n : Nat) (its : List Item) (P r : List D) : Prop := hasOf (hasE n) (kinds its) P r

/-! ## what the determined bytes are: o' for o; b: these are all -/
def GoodP (V H : List D → Prop) (f : List D → List Int) (rows : List (List D)) (o' : List Int) (b : Bool) : Prop :=
  (∀ r : List D, V r → H r → (∃ t, f r = o' ++ t) ∧ (b = true → f r = o')) ∧
  (b = false → ∃ r1 ∈ rows, ∃ r2 ∈ rows, ∃ x y t1 t2, x ≠ y ∧ f r1 = o' ++ x :: t1 ∧ f r2 = o' ++ y :: t2)
def GoodI (n : Nat) (it : Item) (rows : List (List D)) (P : List D) (o o' : List Int) (b : Bool) : Prop :=
  GoodP (rowIn (valOf n) (kindsI it)) (hasOf (hasE n) (kindsI it) P) (fun r => putI n it r o) rows o' b
def GoodL (n : Nat) (its : List Item) (rows : List (List D)) (P : List D) (o o' : List Int) (b : Bool) : Prop :=
  GoodP (rowIn (valOf n) (kinds its)) (HasL n its P) (fun r => putL n its r o) rows o' b
/-- what an item's or a layout's rows and entries are when they are walked -/
theorem nd_eq {cs : List (Int × Str × List Item)} (h : (cs.map fun c => c.2.1).Nodup) {a b : Int × Str × List Item} (ha : a ∈ cs) (hb : b ∈ cs) (e : a.2.1 = b.2.1) : a = b := by
  induction cs with
  | nil => cases ha
  | cons c cs ih =>
    rw [List.map_cons, List.nodup_cons] at h
    rcases List.mem_cons.mp ha with r1 | r1
    · rcases List.mem_cons.mp hb with r2 | r2
      · rw [r1, r2]
      · exact absurd (by rw [← r1, e]; exact List.mem_map_of_mem (f := fun c : Int × Str × List Item => c.2.1) r2) h.1
    · rcases List.mem_cons.mp hb with r2 | r2
      · exact absurd (by rw [← r2, ← e]; exact List.mem_map_of_mem (f := fun c : Int × Str × List Item => c.2.1) r1) h.1
      · exact ih h.2 r1 r2
structure Ctx (n : Nat) (ks : List Kind) (rows : List (List D)) (P : List D) : Prop where
  ne : rows ≠ []
  len : ks.length ≤ P.length
  pat : patIn (entOf n) ks rows P
  row : ∀ r ∈ rows, rowIn (valOf n) ks r
end BB

namespace BB
open PySem

/-! ## parts of rows -/
theorem kinds_app (xs ys : List Item) : kinds (xs ++ ys) = kinds xs ++ kinds ys := List.flatMap_append
theorem kinds_cons (x : Item) (ys : List Item) : kinds (x :: ys) = kindsI x ++ kinds ys := rfl
theorem kinds_len : ∀ its : List Item, (kinds its).length = (its.map nm).sum
  | [] => rfl
  | x :: r => by
    rw [kinds_cons, List.length_append, kinds_len r]
    rfl
theorem rowIn_app {V : Kind → D → Prop} : ∀ (xs ys : List Kind) (r : List D), rowIn V (xs ++ ys) r ↔ rowIn V xs r ∧ rowIn V ys (r.drop xs.length)
  | [], ys, r => ⟨fun h => ⟨trivial, h⟩, fun h => h.2⟩
  | x :: xs, ys, r => by
    show (V x _ ∧ rowIn V (xs ++ ys) r.tail) ↔ (V x _ ∧ rowIn V xs r.tail) ∧ _
    rw [rowIn_app xs ys r.tail, and_assoc, List.drop_tail]
    rfl
theorem hasOf_app {U : Kind → D → D → Prop} : ∀ (xs ys : List Kind) (P r : List D), hasOf U (xs ++ ys) P r ↔ hasOf U xs P r ∧ hasOf U ys (P.drop xs.length) (r.drop xs.length)
  | [], ys, P, r => ⟨fun h => ⟨trivial, h⟩, fun h => h.2⟩
  | x :: xs, ys, P, r => by
    show (U x _ _ ∧ hasOf U (xs ++ ys) P.tail r.tail) ↔ (U x _ _ ∧ hasOf U xs P.tail r.tail) ∧ _
    rw [hasOf_app xs ys P.tail r.tail, and_assoc, List.drop_tail, List.drop_tail]
    rfl
theorem map_tail_drop (k : Nat) (rows : List (List D)) : (rows.map List.tail).map (List.drop k) = rows.map (List.drop (k + 1)) := by
  rw [List.map_map]
  refine List.map_congr_left fun r _ => ?_
  show (r.tail).drop k = _
  rw [List.drop_tail]
theorem patIn_app {U : Kind → List D → D → Prop} : ∀ (xs ys : List Kind) (rows : List (List D)) (P : List D), patIn U (xs ++ ys) rows P ↔ patIn U xs rows P ∧ patIn U ys (rows.map (List.drop xs.length)) (P.drop xs.length)
  | [], ys, rows, P => by
    have e : rows.map (List.drop 0) = rows := by
      rw [show (List.drop 0 : List D → List D) = id from funext fun _ => rfl]
      exact List.map_id rows
    show patIn U ys rows P ↔ True ∧ patIn U ys (rows.map (List.drop 0)) P
    rw [e, true_and]
  | x :: xs, ys, rows, P => by
    show (U x _ _ ∧ patIn U (xs ++ ys) (rows.map List.tail) P.tail) ↔ (U x _ _ ∧ patIn U xs (rows.map List.tail) P.tail) ∧ _
    rw [patIn_app xs ys, and_assoc, List.drop_tail, map_tail_drop]
    rfl
theorem Ctx.fst {n : Nat} {xs ys : List Kind} {rows : List (List D)} {P : List D} (c : Ctx n (xs ++ ys) rows P) : Ctx n xs rows P where
  ne := c.ne
  len := Nat.le_trans (by rw [List.length_append]; omega) c.len
  pat := ((patIn_app xs ys rows P).mp c.pat).1
  row := fun r hr => ((rowIn_app xs ys r).mp (c.row r hr)).1
theorem Ctx.snd {n : Nat} {xs ys : List Kind} {rows : List (List D)} {P : List D} (c : Ctx n (xs ++ ys) rows P) : Ctx n ys (rows.map (List.drop xs.length)) (P.drop xs.length) where
  ne := fun h => c.ne (List.map_eq_nil_iff.mp h)
  len := by
    have := c.len
    rw [List.length_append] at this
    rw [List.length_drop]
    omega
  pat := ((patIn_app xs ys rows P).mp c.pat).2
  row := fun r hr => by
    obtain ⟨r0, h0, rfl⟩ := List.mem_map.mp hr
    exact ((rowIn_app xs ys r0).mp (c.row r0 h0)).2

/-! ## every row that made the pattern is inside -/
theorem hasS_of {w : Nat} {is : List Int} {e : D} {i : Int} (h : IsSet w is e) (hi : i ∈ is) (hw : ∀ b, (modW i w).testBit b = true → b < w) : HasS w e i := by
  obtain ⟨_, Kn, C, hb, hs⟩ := h
  cases hs with
  | bits =>
    refine .inl ⟨Kn, C, rfl, Nat.eq_of_testBit_eq fun b => ?_⟩
    rw [Nat.testBit_and]
    cases hk : Kn.testBit b with
    | false => rw [Bool.and_false, hb.zero b hk]
    | true =>
      have hlt : b < w := by
        rcases Nat.lt_or_ge b w with z | z
        · exact z
        · have := Nat.testBit_lt_two_pow (Nat.lt_of_lt_of_le hb.lt (Nat.pow_le_pow_right (by decide) z))
          rw [hk] at this
          cases this
      rw [Bool.and_true, hb.all b hlt hk i hi]
  | among ns hm hf hK hC hl => exact .inr ⟨ns, rfl, (hm i).mpr hi⟩
theorem modW_lt (i : Int) (w : Nat) : modW i w < 2 ^ w := by
  unfold modW
  have h1 : (0 : Int) < 2 ^ w := Int.pow_pos (by decide)
  have h2 := Int.emod_lt_of_pos i h1
  have h3 := Int.emod_nonneg i (Int.ne_of_gt h1)
  have h4 : ((2 : Int) ^ w) = ((2 ^ w : Nat) : Int) := by
    rw [Int.natCast_pow]
    rfl
  omega
theorem bit_lt {a w b : Nat} (h : a < 2 ^ w) (hb : a.testBit b = true) : b < w := by
  rcases Nat.lt_or_ge b w with z | z
  · exact z
  · have := Nat.testBit_lt_two_pow (Nat.lt_of_lt_of_le h (Nat.pow_le_pow_right (by decide) z))
    rw [hb] at this
    cases this
theorem has_in {n : Nat} (ih : ∀ (k : Kind) (col : List D) (e d : D), entOf n k col e → d ∈ col → valOf n k d → hasE n k e d) :
    ∀ (ks : List Kind) (rows : List (List D)) (P r : List D), patIn (entOf n) ks rows P → r ∈ rows → rowIn (valOf n) ks r → hasOf (hasE n) ks P r
  | [], _, _, _, _, _, _ => trivial
  | k :: ks, rows, P, r, h, hr, hv => ⟨ih k _ _ _ h.1 (List.mem_map_of_mem hr) hv.1, has_in ih ks _ _ _ h.2 (List.mem_map_of_mem hr) hv.2⟩
theorem hasC_of {U : D → D → Prop} {T : List D → D → Prop} {V : D → Prop} {vss : List (List D)} {e : D} {vs : List D} (h : IsCounts T vss e) (hv : vs ∈ vss) (hV : ∀ v ∈ vs, V v) (st : ∀ (ws : List D) (e' v : D), T ws e' → v ∈ ws → V v → U e' v) : HasC U e vs := by
  obtain ⟨nums, es, hn, _, rfl, _, hle, hu⟩ := h
  refine ⟨nums, es, rfl, (hn.1 _).mpr (List.mem_map_of_mem hv), fun i v hi => ?_⟩
  have hlt : i < vs.length := (List.getElem?_eq_some_iff.mp hi).1
  have hes : i < es.length := Nat.lt_of_lt_of_le hlt (hle vs hv)
  refine ⟨es[i], List.getElem?_eq_getElem hes, st _ _ v (hu i _ (List.getElem?_eq_getElem hes)) (List.mem_filterMap.mpr ⟨vs, hv, hi⟩) (hV v (List.mem_of_getElem? hi))⟩
theorem has_ent : ∀ (n : Nat) (k : Kind) (col : List D) (e d : D), entOf n k col e → d ∈ col → valOf n k d → hasE n k e d := by
  intro n
  induction n with
  | zero =>
    intro k col e d h hd hv
    cases k with
    | num s p => exact hasS_of (w := p.width) h (List.mem_map_of_mem hd) fun b hb => bit_lt (modW_lt _ _) hb
    | comp it => exact h.elim
  | succ n ih =>
    intro k col e d h hd hv
    cases k with
    | num s p => exact hasS_of (w := p.width) h (List.mem_map_of_mem hd) fun b hb => bit_lt (modW_lt _ _) hb
    | comp it =>
      cases it with
      | arr a w sg c rg df =>
        obtain ⟨vs, rfl, _, hvs⟩ := hv
        refine hasC_of h (List.mem_map_of_mem hd) hvs fun ws e' v ⟨P, hP, hp⟩ hv hr => ?_
        rw [hP]
        exact has_in ih _ _ _ _ hp.2 (List.mem_map_of_mem hv) hr.2
      | list a c its =>
        obtain ⟨vs, rfl, _, hvs⟩ := hv
        refine hasC_of h (List.mem_map_of_mem hd) hvs fun ws e' v ⟨P, hP, hp⟩ hv hr => ?_
        rw [hP]
        exact has_in ih _ _ _ _ hp.2 (List.mem_map_of_mem hv) hr.2.2
      | choice a w cs =>
        obtain ⟨_, c, hc, r, rfl, hr⟩ := hv
        obtain ⟨L, rfl, _, hL, _, _, hnd, hm⟩ := h
        obtain ⟨q, hq, eq⟩ := hm _ hd
        obtain ⟨h1, rs, h2, _, h3⟩ := hL q hq
        refine ⟨L, rfl, q, hq, h1, eq, ?_⟩
        have eqc : q.1 = c := nd_eq hnd h1 hc eq
        have hm2 : (D.tup [.str c.2.1, .tup r]) ∈ col.filter fun d => decide (nameD d = q.1.2.1) := List.mem_filter.mpr ⟨hd, decide_eq_true eq.symm⟩
        have hr2 : r ∈ rs := by
          rw [h2]
          exact List.mem_map_of_mem (f := restD) hm2
        rw [← eqc] at hr
        exact has_in ih _ _ _ _ h3.2 hr2 hr.2
      | rcd a its =>
        obtain ⟨r, rfl, hr⟩ := hv
        obtain ⟨P, rfl, hP⟩ := h
        exact has_in ih _ _ _ _ hP.2 (List.mem_map_of_mem hd) hr.2
      | word _ _ => exact h.elim
      | lit _ => exact h.elim
      | res _ => exact h.elim
      | chk _ => exact h.elim
theorem Ctx.has {n : Nat} {ks : List Kind} {rows : List (List D)} {P : List D} (c : Ctx n ks rows P) : ∀ r ∈ rows, hasOf (hasE n) ks P r := fun r hr => has_in (has_ent n) ks rows P r c.pat hr (c.row r hr)

/-! ## messages only grow; how long -/
theorem foldI_pre {f : Item → List D → List Int → List Int} (h : ∀ it row o, ∃ t, f it row o = o ++ t) : ∀ (its : List Item) (row : List D) (o : List Int), ∃ t, foldI f its row o = o ++ t
  | [], _, o => ⟨[], (List.append_nil o).symm⟩
  | it :: its, row, o => by
    obtain ⟨t1, e1⟩ := h it row o
    obtain ⟨t2, e2⟩ := foldI_pre h its (row.drop (nm it)) (f it row o)
    exact ⟨t1 ++ t2, by rw [← List.append_assoc, ← e1, ← e2]; rfl⟩
theorem putN_pre {f : D → List Int → List Int} (h : ∀ v o, ∃ t, f v o = o ++ t) (c : Cnt) : ∀ (vs : List D) (o : List Int), ∃ t, putN f c vs o = o ++ t
  | [], o => ⟨[], (List.append_nil o).symm⟩
  | v :: vs, o => by
    obtain ⟨t1, e1⟩ := h v (o ++ cMark c)
    obtain ⟨t2, e2⟩ := putN_pre h c vs (f v (o ++ cMark c))
    exact ⟨cMark c ++ t1 ++ t2, by
      rw [← List.append_assoc, ← List.append_assoc, ← e1, ← e2]
      rfl⟩
theorem putS_pre {f : D → List Int → List Int} (h : ∀ v o, ∃ t, f v o = o ++ t) (c : Cnt) (vs : List D) (o : List Int) : ∃ t, putS f c vs o = o ++ t := by
  obtain ⟨t, e⟩ := putN_pre h c vs (o ++ cHead c vs.length)
  exact ⟨cHead c vs.length ++ t ++ cTail c, by rw [← List.append_assoc, ← List.append_assoc, ← e]; rfl⟩
theorem putI_pre : ∀ (n : Nat) (it : Item) (row : List D) (o : List Int), ∃ t, putI n it row o = o ++ t := by
  intro n
  induction n with
  | zero =>
    intro it row o
    cases it with
    | word w ps => exact ⟨_, rfl⟩
    | lit _ => exact ⟨_, rfl⟩
    | res _ => exact ⟨_, rfl⟩
    | chk _ => exact ⟨_, rfl⟩
    | arr _ _ _ _ _ _ => exact ⟨[], (List.append_nil o).symm⟩
    | list _ _ _ => exact ⟨[], (List.append_nil o).symm⟩
    | choice _ _ _ => exact ⟨[], (List.append_nil o).symm⟩
    | rcd _ _ => exact ⟨[], (List.append_nil o).symm⟩
  | succ n ih =>
    intro it row o
    cases it with
    | word w ps => exact ⟨_, rfl⟩
    | lit _ => exact ⟨_, rfl⟩
    | res _ => exact ⟨_, rfl⟩
    | chk _ => exact ⟨_, rfl⟩
    | arr _ _ _ _ _ _ => exact putS_pre (fun v o => foldI_pre ih _ _ o) _ _ o
    | list _ _ _ => exact putS_pre (fun v o => foldI_pre ih _ _ o) _ _ o
    | choice a w cs =>
      unfold putI
      cases caseOf cs (nameD (row.headD .non)) with
      | none => exact ⟨[], (List.append_nil o).symm⟩
      | some c =>
        obtain ⟨t, e⟩ := foldI_pre ih c.2.2 (restD (row.headD .non)) (o ++ wbytes w (modW c.1 (8 * w.size)))
        exact ⟨wbytes w (modW c.1 (8 * w.size)) ++ t, by rw [← List.append_assoc, ← e]⟩
    | rcd a its => exact foldI_pre ih _ _ o
theorem putL_pre (n : Nat) (its : List Item) (row : List D) (o : List Int) : ∃ t, putL n its row o = o ++ t := foldI_pre (putI_pre n) its row o
theorem wbytes_len (w : Wd) (c : Nat) : (wbytes w c).length = w.size := by
  unfold wbytes
  rw [List.length_map]
  cases w <;> rfl
theorem foldI_len {n : Nat} {V : Kind → D → Prop} {f : Item → List D → List Int → List Int} {mx : Item → Nat} (h : ∀ it row o, rowIn V (kindsI it) row → (f it row o).length ≤ o.length + mx it) :
    ∀ (its : List Item) (row : List D) (o : List Int), rowIn V (kinds its) row → (foldI f its row o).length ≤ o.length + (its.map mx).sum
  | [], _, o, _ => Nat.le_refl _
  | it :: its, row, o, hr => by
    obtain ⟨h1, h2⟩ := (rowIn_app (kindsI it) (kinds its) row).mp hr
    have e1 := h it row o h1
    have e2 := foldI_len (n := n) h its (row.drop (nm it)) (f it row o) h2
    show (foldI f its (row.drop (nm it)) (f it row o)).length ≤ _
    rw [List.map_cons, List.sum_cons]
    omega
theorem putN_len {f : D → List Int → List Int} {V : D → Prop} {k : Nat} (h : ∀ v o, V v → (f v o).length ≤ o.length + k) (c : Cnt) : ∀ (vs : List D) (o : List Int), (∀ v ∈ vs, V v) → (putN f c vs o).length ≤ o.length + vs.length * (k + 1)
  | [], o, _ => Nat.le_add_right _ _
  | v :: vs, o, hv => by
    have e1 := h v (o ++ cMark c) (hv v List.mem_cons_self)
    have e2 := putN_len h c vs (f v (o ++ cMark c)) fun x hx => hv x (List.mem_cons_of_mem _ hx)
    have e3 : (cMark c).length ≤ 1 := by cases c <;> simp [cMark]
    show (putN f c vs (f v (o ++ cMark c))).length ≤ _
    rw [List.length_append] at e1
    rw [List.length_cons, Nat.add_mul]
    omega
theorem putS_len {f : D → List Int → List Int} {V : D → Prop} {k : Nat} (h : ∀ v o, V v → (f v o).length ≤ o.length + k) (c : Cnt) (vs : List D) (o : List Int) (hv : ∀ v ∈ vs, V v) (hl : lenOk c vs.length) : (putS f c vs o).length ≤ o.length + (5 + cMax c * (k + 1)) := by
  have e1 := putN_len h c vs (o ++ cHead c vs.length) hv
  have e2 : (cHead c vs.length).length ≤ 4 := by
    cases c with
    | counted w _ _ =>
      show (wbytes w _).length ≤ 4
      rw [wbytes_len]
      cases w <;> decide
    | exactly _ => exact Nat.zero_le _
    | marked _ => exact Nat.zero_le _
  have e3 : (cTail c).length ≤ 1 := by cases c <;> simp [cTail]
  have e4 : vs.length ≤ cMax c := by
    cases c with
    | counted w _ _ => exact hl.2.1
    | exactly _ => exact Nat.le_of_eq hl
    | marked _ => exact hl
  have e5 := Nat.mul_le_mul_right (k + 1) e4
  show (putN f c vs (o ++ cHead c vs.length) ++ cTail c).length ≤ _
  rw [List.length_append] at e1 ⊢
  omega
theorem sum_mem_le {α : Type} {f : α → Nat} {x : α} : ∀ {l : List α}, x ∈ l → f x ≤ (l.map f).sum
  | [], h => nomatch h
  | y :: l, h => by
    rw [List.map_cons, List.sum_cons]
    rcases List.mem_cons.mp h with e | e
    · rw [e]
      exact Nat.le_add_right _ _
    · exact Nat.le_trans (sum_mem_le e) (Nat.le_add_left _ _)
theorem caseOf_mem {cs : List (Int × Str × List Item)} {z : Str} {c : Int × Str × List Item} (h : caseOf cs z = some c) : c ∈ cs ∧ c.2.1 = z := ⟨List.mem_of_find?_eq_some h, of_decide_eq_true (List.find?_some (p := fun c : Int × Str × List Item => decide (c.2.1 = z)) h)⟩
theorem chk_one (x : Bool) (o : List Int) : (o ++ [chkB x o]).length = o.length + 1 := by rw [List.length_append, List.length_singleton]
theorem putI_len : ∀ (n : Nat) (it : Item) (row : List D) (o : List Int), rowIn (valOf n) (kindsI it) row → (putI n it row o).length ≤ o.length + mxI n it := by
  intro n
  induction n with
  | zero =>
    intro it row o hr
    cases it with
    | word w ps =>
      show (o ++ wbytes w _).length ≤ o.length + w.size
      rw [List.length_append, wbytes_len]
      exact Nat.le_refl _
    | lit data => exact Nat.le_of_eq List.length_append
    | res k =>
      show (o ++ List.replicate k 0).length ≤ o.length + k
      rw [List.length_append, List.length_replicate]
      exact Nat.le_refl _
    | chk x => exact Nat.le_of_eq (chk_one x o)
    | arr _ _ _ _ _ _ => exact hr.1.elim
    | list _ _ _ => exact hr.1.elim
    | choice _ _ _ => exact hr.1.elim
    | rcd _ _ => exact hr.1.elim
  | succ n ih =>
    intro it row o hr
    cases it with
    | word w ps =>
      show (o ++ wbytes w _).length ≤ o.length + w.size
      rw [List.length_append, wbytes_len]
      exact Nat.le_refl _
    | lit data => exact Nat.le_of_eq List.length_append
    | res k =>
      show (o ++ List.replicate k 0).length ≤ o.length + k
      rw [List.length_append, List.length_replicate]
      exact Nat.le_refl _
    | chk x => exact Nat.le_of_eq (chk_one x o)
    | arr a w sg c rg df =>
      obtain ⟨vs, e, hl, hv⟩ := hr.1
      show (putS _ c (tupD (row.headD .non)) o).length ≤ _
      rw [e]
      refine putS_len (k := w.size) (V := fun v => rowOf (valOf n) (kinds (elemItems (.arr a w sg c rg df))) (elR (.arr a w sg c rg df) v)) (fun v o hv => ?_) c vs o hv hl
      have z := foldI_len (n := n) (mx := mxI n) ih _ _ o hv.2
      have ew : ((elemItems (.arr a w sg c rg df)).map (mxI n)).sum = w.size := by cases n <;> rfl
      rw [ew] at z
      exact z
    | list a c its =>
      obtain ⟨vs, e, hl, hv⟩ := hr.1
      show (putS _ c (tupD (row.headD .non)) o).length ≤ _
      rw [e]
      refine putS_len (k := mxL n its) (V := fun v => rowOf (valOf n) (kinds (elemItems (.list a c its))) (elR (.list a c its) v)) (fun v o hv => ?_) c vs o (fun v h => (hv v h).2) hl
      exact foldI_len (n := n) (mx := mxI n) ih _ _ o hv.2
    | choice a w cs =>
      obtain ⟨hnd, c, hc, r, e, hv⟩ := hr.1
      unfold putI
      cases h : caseOf cs (nameD (row.headD .non)) with
      | none => exact Nat.le_add_right _ _
      | some c' =>
        obtain ⟨h1, h2⟩ := caseOf_mem h
        rw [e] at h2
        have ec : c' = c := nd_eq hnd h1 hc h2
        subst ec
        rw [e]
        have z := foldI_len (n := n) (mx := mxI n) ih c'.2.2 r (o ++ wbytes w (modW c'.1 (8 * w.size))) hv.2
        have z2 := sum_mem_le (f := fun c : Int × Str × List Item => (c.2.2.map (mxI n)).sum) hc
        show (foldI (putI n) c'.2.2 r (o ++ wbytes w (modW c'.1 (8 * w.size)))).length ≤ o.length + (w.size + (cs.map fun c => (c.2.2.map (mxI n)).sum).sum)
        rw [List.length_append, wbytes_len] at z
        have z3 : (c'.2.2.map (mxI n)).sum ≤ (cs.map fun c => (c.2.2.map (mxI n)).sum).sum := z2
        omega
    | rcd a its =>
      obtain ⟨r, e, hv⟩ := hr.1
      show (foldI (putI n) its (tupD (row.headD .non)) o).length ≤ _
      rw [e]
      exact foldI_len (n := n) (mx := mxI n) ih its r o hv.2
theorem caseOf_of {cs : List (Int × Str × List Item)} {c : Int × Str × List Item} (hnd : (cs.map fun c => c.2.1).Nodup) (hc : c ∈ cs) : caseOf cs c.2.1 = some c := by
  cases h : caseOf cs c.2.1 with
  | none =>
    have := List.find?_eq_none.mp h c hc
    exact absurd (decide_eq_true rfl) this
  | some c' =>
    obtain ⟨h1, h2⟩ := caseOf_mem h
    rw [nd_eq hnd h1 hc h2]
/-! ## arrays and lists in one way -/
theorem putI_seq {n : Nat} {it : Item} (h : isSeq it) (r : List D) (o : List Int) : putI (n + 1) it r o = putS (fun v o => putL n (elemItems it) (elR it v) o) (cntOf it) (tupD (r.headD .non)) o := by
  cases it with
  | arr _ _ _ _ _ _ => rfl
  | list _ _ _ => rfl
  | _ => exact h.elim
theorem entOf_seq {n : Nat} {it : Item} (h : isSeq it) (col : List D) (e : D) : entOf (n + 1) (.comp it) col e = IsCounts (fun vs e' => ∃ P, wrapD it e' = .tup P ∧ patOf (entOf n) (kinds (elemItems it)) (vs.map (elR it)) P) (col.map tupD) e := by
  cases it with
  | arr _ _ _ _ _ _ => rfl
  | list _ _ _ => rfl
  | _ => exact h.elim
theorem hasE_seq {n : Nat} {it : Item} (h : isSeq it) (e d : D) : hasE (n + 1) (.comp it) e d = HasC (fun e' v => HasL n (elemItems it) (tupD (wrapD it e')) (elR it v)) e (tupD d) := by
  cases it with
  | arr _ _ _ _ _ _ => rfl
  | list _ _ _ => rfl
  | _ => exact h.elim
theorem valOf_seq {n : Nat} {it : Item} (h : isSeq it) {d : D} (hv : valOf (n + 1) (.comp it) d) : ∃ vs : List D, d = .tup vs ∧ lenOk (cntOf it) vs.length ∧ ∀ v ∈ vs, rowOf (valOf n) (kinds (elemItems it)) (elR it v) := by
  cases it with
  | arr _ _ _ _ _ _ => exact hv
  | list _ _ _ =>
    obtain ⟨vs, e, hl, hv⟩ := hv
    exact ⟨vs, e, hl, fun v h => (hv v h).2⟩
  | _ => exact h.elim
theorem kindsI_seq {it : Item} (h : isSeq it) : kindsI it = [.comp it] := by
  cases it with
  | arr _ _ _ _ _ _ => rfl
  | list _ _ _ => rfl
  | _ => exact h.elim
theorem wd_bits (w : Wd) : 8 ≤ 8 * w.size := by cases w <;> decide
theorem wfL_seq {n : Nat} {it : Item} (h : isSeq it) (hw : wfI (n + 1) it) : wfL n (elemItems it) ∧ cMax (cntOf it) ≤ 100 := by
  cases it with
  | arr a w sg c rg df =>
    have z : ([(⟨some "", 8 * w.size, sg, rg, df⟩ : Part)].map Part.width).sum = 8 * w.size ∧ ∀ p ∈ [(⟨some "", 8 * w.size, sg, rg, df⟩ : Part)], wfP p := ⟨Nat.add_zero _, fun p hp => by
      rw [List.mem_singleton.mp hp]
      have := wd_bits w
      exact ⟨by show 1 ≤ 8 * w.size; omega, by show 8 * w.size ≤ 32; cases w <;> decide⟩⟩
    refine ⟨⟨by show 1 ≤ 100; decide, fun i hi => ?_⟩, hw⟩
    rw [List.mem_singleton.mp hi]
    cases n <;> exact z
  | list _ _ _ => exact ⟨hw.2, hw.1⟩
  | _ => exact h.elim
end BB

namespace BB
open PySem

/-! ## bits and bytes -/
theorem byteN_bit (a l i : Nat) : (a / 2 ^ l % 256).testBit i = (decide (i < 8) && a.testBit (i + l)) := by
  rw [show (256 : Nat) = 2 ^ 8 from rfl, Nat.testBit_mod_two_pow, Nat.testBit_div_two_pow]
theorem byte255 {K l : Nat} : K / 2 ^ l % 256 = 255 ↔ ∀ i, i < 8 → K.testBit (i + l) = true := by
  constructor
  · intro h i hi
    have e := byteN_bit K l i
    rw [h, show (255 : Nat) = 2 ^ 8 - 1 from rfl, Nat.testBit_two_pow_sub_one, decide_eq_true hi, Bool.true_and] at e
    exact e.symm
  · intro h
    refine Nat.eq_of_testBit_eq fun i => ?_
    rw [byteN_bit, show (255 : Nat) = 2 ^ 8 - 1 from rfl, Nat.testBit_two_pow_sub_one]
    by_cases hi : i < 8
    · rw [decide_eq_true hi, h i hi] <;> rfl
    · rw [decide_eq_false hi] <;> rfl
theorem byte_eq {a b l : Nat} (h : ∀ i, i < 8 → a.testBit (i + l) = b.testBit (i + l)) : byteAt a l = byteAt b l := by
  unfold byteAt
  refine congrArg _ (Nat.eq_of_testBit_eq fun i => ?_)
  rw [byteN_bit, byteN_bit]
  by_cases hi : i < 8
  · rw [h i hi]
  · rw [decide_eq_false hi] <;> rfl
theorem byte_ne {a b l i : Nat} (hi : i < 8) (h : a.testBit (i + l) ≠ b.testBit (i + l)) : byteAt a l ≠ byteAt b l := by
  intro e
  have e' : a / 2 ^ l % 256 = b / 2 ^ l % 256 := Int.ofNat.inj e
  refine h ?_
  have h1 := byteN_bit a l i
  have h2 := byteN_bit b l i
  rw [decide_eq_true hi, Bool.true_and] at h1 h2
  rw [← h1, ← h2, e']
/-- the bytes of a word as far as they are known -/
def cb (K C : Nat) : List Nat → List Int × Bool
  | [] => ([], true)
  | l :: ls => if K / 2 ^ l % 256 = 255 then (byteAt C l :: (cb K C ls).1, (cb K C ls).2) else ([], false)
theorem cb_len (K C : Nat) : ∀ ls : List Nat, (cb K C ls).1.length ≤ ls.length
  | [] => Nat.le_refl _
  | l :: ls => by
    unfold cb
    by_cases h : K / 2 ^ l % 256 = 255
    · rw [if_pos h]
      exact Nat.succ_le_succ (cb_len K C ls)
    · rw [if_neg h]
      exact Nat.zero_le _
theorem cb_all {K C W c : Nat} (h : ∀ b, b < W → K.testBit b = true → c.testBit b = C.testBit b) : ∀ ls : List Nat, (∀ l ∈ ls, l + 8 ≤ W) → ∃ t, ls.map (byteAt c) = (cb K C ls).1 ++ t ∧ ((cb K C ls).2 = true → t = [])
  | [], _ => ⟨[], rfl, fun _ => rfl⟩
  | l :: ls, hl => by
    obtain ⟨t, e1, e2⟩ := cb_all h ls fun x hx => hl x (List.mem_cons_of_mem _ hx)
    have h8 := hl l List.mem_cons_self
    unfold cb
    by_cases hk : K / 2 ^ l % 256 = 255
    · rw [if_pos hk]
      refine ⟨t, ?_, e2⟩
      rw [List.map_cons, e1, byte_eq fun i hi => h (i + l) (by omega) (byte255.mp hk i hi)]
      rfl
    · rw [if_neg hk]
      exact ⟨_, rfl, fun q => nomatch q⟩
theorem cb_two {K C W : Nat} {S : List Nat} (h : ∀ b, b < W → K.testBit b = true → ∀ c ∈ S, c.testBit b = C.testBit b) (h2 : ∀ b, b < W → K.testBit b = false → ∃ c1 ∈ S, ∃ c2 ∈ S, c1.testBit b ≠ c2.testBit b) :
    ∀ ls : List Nat, (∀ l ∈ ls, l + 8 ≤ W) → (cb K C ls).2 = false → ∃ c1 ∈ S, ∃ c2 ∈ S, ∃ x y t1 t2, x ≠ y ∧ ls.map (byteAt c1) = (cb K C ls).1 ++ x :: t1 ∧ ls.map (byteAt c2) = (cb K C ls).1 ++ y :: t2
  | [], _, q => nomatch q
  | l :: ls, hl, q => by
    have h8 := hl l List.mem_cons_self
    unfold cb at q ⊢
    by_cases hk : K / 2 ^ l % 256 = 255
    · rw [if_pos hk] at q ⊢
      obtain ⟨c1, m1, c2, m2, x, y, t1, t2, ne, e1, e2⟩ := cb_two h h2 ls (fun x hx => hl x (List.mem_cons_of_mem _ hx)) q
      refine ⟨c1, m1, c2, m2, x, y, t1, t2, ne, ?_, ?_⟩
      · rw [List.map_cons, e1, byte_eq fun i hi => h (i + l) (by omega) (byte255.mp hk i hi) c1 m1]
        rfl
      · rw [List.map_cons, e2, byte_eq fun i hi => h (i + l) (by omega) (byte255.mp hk i hi) c2 m2]
        rfl
    · rw [if_neg hk]
      have : ∃ i, i < 8 ∧ K.testBit (i + l) = false := by
        refine Classical.byContradiction fun hn => hk (byte255.mpr fun i hi => ?_)
        cases e : K.testBit (i + l) with
        | true => rfl
        | false => exact absurd ⟨i, hi, e⟩ hn
      obtain ⟨i, hi, e⟩ := this
      obtain ⟨c1, m1, c2, m2, ne⟩ := h2 (i + l) (by omega) e
      exact ⟨c1, m1, c2, m2, byteAt c1 l, byteAt c2 l, ls.map (byteAt c1), ls.map (byteAt c2), byte_ne hi ne, rfl, rfl⟩
theorem lows_le (w : Wd) : ∀ l ∈ w.lows, l + 8 ≤ 8 * w.size := by cases w <;> decide

/-! ## what a set agrees on -/
theorem and_fold_bit (b : Nat) : ∀ (cs : List Nat) (c : Nat), (cs.foldl (fun x y => x &&& y) c).testBit b = true ↔ c.testBit b = true ∧ ∀ x ∈ cs, x.testBit b = true
  | [], c => ⟨fun h => ⟨h, fun _ q => nomatch q⟩, fun h => h.1⟩
  | x :: cs, c => by
    show (cs.foldl (fun x y => x &&& y) (c &&& x)).testBit b = true ↔ _
    rw [and_fold_bit b cs, Nat.testBit_and, Bool.and_eq_true, List.forall_mem_cons, and_assoc]
theorem or_fold_bit (b : Nat) : ∀ (cs : List Nat) (c : Nat), (cs.foldl (fun x y => x ||| y) c).testBit b = true ↔ c.testBit b = true ∨ ∃ x ∈ cs, x.testBit b = true
  | [], c => ⟨fun h => .inl h, fun h => h.elim id fun ⟨_, q, _⟩ => nomatch q⟩
  | x :: cs, c => by
    show (cs.foldl (fun x y => x ||| y) (c ||| x)).testBit b = true ↔ _
    rw [or_fold_bit b cs, Nat.testBit_or, Bool.or_eq_true, or_assoc]
    simp only [List.mem_cons, exists_eq_or_imp]
theorem andL_bit {b : Nat} {cs : List Nat} (h : cs ≠ []) : (andL cs).testBit b = true ↔ ∀ c ∈ cs, c.testBit b = true := by
  cases cs with
  | nil => exact absurd rfl h
  | cons c cs =>
    show ((c :: cs).foldl (fun x y => x &&& y) c).testBit b = true ↔ _
    rw [and_fold_bit]
    exact ⟨fun q => q.2, fun q => ⟨q c List.mem_cons_self, q⟩⟩
theorem orL_bit {b : Nat} {cs : List Nat} (h : cs ≠ []) : (orL cs).testBit b = true ↔ ∃ c ∈ cs, c.testBit b = true := by
  cases cs with
  | nil => exact absurd rfl h
  | cons c cs =>
    show ((c :: cs).foldl (fun x y => x ||| y) c).testBit b = true ↔ _
    rw [or_fold_bit]
    exact ⟨fun q => q.elim (fun z => ⟨c, List.mem_cons_self, z⟩) id, fun q => .inr q⟩
theorem bits_of_agree {w : Nat} {cs : List Nat} (hne : cs ≠ []) (hlt : ∀ c ∈ cs, c < 2 ^ w) :
    agrK w cs < 2 ^ w ∧ (∀ b, b < w → (agrK w cs).testBit b = true → ∀ c ∈ cs, c.testBit b = (andL cs).testBit b) ∧ (∀ b, b < w → (agrK w cs).testBit b = false → ∃ c1 ∈ cs, ∃ c2 ∈ cs, c1.testBit b ≠ c2.testBit b) ∧
      ∀ b, (agrK w cs).testBit b = false → (andL cs).testBit b = false := by
  have hb : ∀ b, (agrK w cs).testBit b = ((decide (b < w) ^^ (andL cs).testBit b) ^^ (orL cs).testBit b) := fun b => by
    unfold agrK
    rw [Nat.testBit_xor, Nat.testBit_xor, Nat.testBit_two_pow_sub_one]
  have hhi : ∀ b, w ≤ b → (andL cs).testBit b = false ∧ (orL cs).testBit b = false := fun b hwb => by
    have z : ∀ c ∈ cs, c.testBit b = false := fun c hc => Nat.testBit_lt_two_pow (Nat.lt_of_lt_of_le (hlt c hc) (Nat.pow_le_pow_right (by decide) hwb))
    constructor
    · cases e : (andL cs).testBit b with
      | false => rfl
      | true =>
        obtain ⟨c, hc⟩ := List.exists_mem_of_ne_nil cs hne
        have := (andL_bit hne).mp e c hc
        rw [z c hc] at this
        cases this
    · cases e : (orL cs).testBit b with
      | false => rfl
      | true =>
        obtain ⟨c, hc, q⟩ := (orL_bit hne).mp e
        rw [z c hc] at q
        cases q
  have h2 : ∀ b, b < w → (agrK w cs).testBit b = false → ∃ c1 ∈ cs, ∃ c2 ∈ cs, c1.testBit b = true ∧ c2.testBit b = false := fun b hlt' hk => by
    rw [hb, decide_eq_true hlt'] at hk
    have : (andL cs).testBit b = false ∧ (orL cs).testBit b = true := by
      cases ha : (andL cs).testBit b with
      | false =>
        cases ho : (orL cs).testBit b with
        | false => rw [ha, ho] at hk; cases hk
        | true => exact ⟨rfl, rfl⟩
      | true =>
        cases ho : (orL cs).testBit b with
        | true => rw [ha, ho] at hk; cases hk
        | false =>
          obtain ⟨c, hc⟩ := List.exists_mem_of_ne_nil cs hne
          have := (orL_bit hne).mpr ⟨c, hc, (andL_bit hne).mp ha c hc⟩
          rw [ho] at this
          cases this
    obtain ⟨c1, m1, e1⟩ := (orL_bit hne).mp this.2
    refine ⟨c1, m1, ?_⟩
    refine Classical.byContradiction fun hn => ?_
    have : (andL cs).testBit b = true := (andL_bit hne).mpr fun c hc => by
      cases e : c.testBit b with
      | true => rfl
      | false => exact absurd ⟨c, hc, e1, e⟩ hn
    rw [‹(andL cs).testBit b = false ∧ _›.1] at this
    cases this
  refine ⟨?_, fun b hbw hk c hc => ?_, fun b hbw hk => ?_, fun b hk => ?_⟩
  · refine Nat.lt_pow_two_of_testBit _ fun b hwb => ?_
    rw [hb, (hhi b hwb).1, (hhi b hwb).2, decide_eq_false (by omega)]
    rfl
  · rw [hb, decide_eq_true hbw] at hk
    cases ha : (andL cs).testBit b with
    | true => exact (andL_bit hne).mp ha c hc
    | false =>
      cases e : c.testBit b with
      | false => rfl
      | true =>
        rw [ha, (orL_bit hne).mpr ⟨c, hc, e⟩] at hk
        cases hk
  · obtain ⟨c1, m1, c2, m2, e1, e2⟩ := h2 b hbw hk
    exact ⟨c1, m1, c2, m2, by rw [e1, e2]; decide⟩
  · by_cases hbw : b < w
    · obtain ⟨c1, m1, c2, m2, e1, e2⟩ := h2 b hbw hk
      cases ha : (andL cs).testBit b with
      | false => rfl
      | true =>
        rw [(andL_bit hne).mp ha c2 m2] at e2
        cases e2
    · exact (hhi b (by omega)).1
/-- numbers' bytes: an array's or a list's count, a choice's number -/
theorem cb_num {w : Wd} {cs : List Nat} (hne : cs ≠ []) (hlt : ∀ c ∈ cs, c < 2 ^ (8 * w.size)) :
    (∀ c ∈ cs, ∃ t, wbytes w c = (cb (agrK (8 * w.size) cs) (andL cs) w.lows).1 ++ t ∧ ((cb (agrK (8 * w.size) cs) (andL cs) w.lows).2 = true → t = [])) ∧
    ((cb (agrK (8 * w.size) cs) (andL cs) w.lows).2 = false → ∃ c1 ∈ cs, ∃ c2 ∈ cs, ∃ x y t1 t2, x ≠ y ∧ wbytes w c1 = (cb (agrK (8 * w.size) cs) (andL cs) w.lows).1 ++ x :: t1 ∧ wbytes w c2 = (cb (agrK (8 * w.size) cs) (andL cs) w.lows).1 ++ y :: t2) := by
  obtain ⟨_, h1, h2, _⟩ := bits_of_agree hne hlt
  exact ⟨fun c hc => cb_all (fun b hb hk => h1 b hb hk c hc) _ (lows_le w), fun q => cb_two h1 h2 _ (lows_le w) q⟩
theorem bit_byte (w : Wd) (b : Nat) (h : b < 8 * w.size) : ∃ l ∈ w.lows, ∃ i, i < 8 ∧ b = i + l := by
  refine ⟨8 * (b / 8), ?_, b % 8, Nat.mod_lt _ (by decide), by omega⟩
  have h1 : b / 8 < w.size := by omega
  unfold Wd.lows
  have h2 : 8 * (b / 8) ∈ (List.range w.size).map fun k => 8 * k := List.mem_map.mpr ⟨b / 8, List.mem_range.mpr h1, rfl⟩
  cases w.be with
  | true => exact List.mem_reverse.mpr h2
  | false => exact h2
theorem wbytes_inj {w : Wd} {a b : Nat} (ha : a < 2 ^ (8 * w.size)) (hb : b < 2 ^ (8 * w.size)) (h : wbytes w a = wbytes w b) : a = b := by
  refine Nat.eq_of_testBit_eq fun i => ?_
  by_cases hi : i < 8 * w.size
  · obtain ⟨l, hl, j, hj, e⟩ := bit_byte w i hi
    have z : byteAt a l = byteAt b l := List.map_inj_left.mp h l hl
    rw [e]
    exact Classical.byContradiction fun hn => byte_ne hj hn z
  · rw [Nat.testBit_lt_two_pow (Nat.lt_of_lt_of_le ha (Nat.pow_le_pow_right (by decide) (by omega))), Nat.testBit_lt_two_pow (Nat.lt_of_lt_of_le hb (Nat.pow_le_pow_right (by decide) (by omega)))]
/-- all bytes known: one number only -/
theorem cb_one {w : Wd} {cs : List Nat} (hne : cs ≠ []) (hlt : ∀ c ∈ cs, c < 2 ^ (8 * w.size)) (h : (cb (agrK (8 * w.size) cs) (andL cs) w.lows).2 = true) : ∀ a ∈ cs, ∀ b ∈ cs, a = b := fun a ha b hb => by
  obtain ⟨h1, _⟩ := cb_num hne hlt
  obtain ⟨t1, e1, z1⟩ := h1 a ha
  obtain ⟨t2, e2, z2⟩ := h1 b hb
  rw [z1 h] at e1
  rw [z2 h] at e2
  exact wbytes_inj (hlt a ha) (hlt b hb) (e1.trans e2.symm)
end BB

namespace BB
open PySem

/-! ## a word's known bits -/
def kcE (w : Nat) : D → Nat × Nat
  | .tup [.str _, .int k, .int c] => (k.toNat, c.toNat)
  | .tup [.str _, .tup ns] => (agrK w (ns.map fun d => modW (intD d) w), andL (ns.map fun d => modW (intD d) w))
  | _ => (0, 0)
theorem kcE_is {w : Nat} {is : List Int} {Kn C : Nat} {e : D} (h : SetIs w is Kn C e) : kcE w e = (Kn, C) := by
  cases h with
  | bits => rfl
  | among ns hm hf hK hC hl =>
    show (agrK w ((ns.map D.int).map fun d => modW (intD d) w), andL ((ns.map D.int).map fun d => modW (intD d) w)) = (Kn, C)
    rw [List.map_map, hK, hC]
    rfl
theorem set_kc {w : Nat} {is : List Int} {e : D} (h : IsSet w is e) : BitsOf w is (kcE w e).1 (kcE w e).2 := by
  obtain ⟨_, Kn, C, hb, hs⟩ := h
  rw [kcE_is hs]
  exact hb
theorem map_int_id (ns : List Int) : (ns.map D.int).map intD = ns := by
  rw [List.map_map]
  exact List.map_id ns
theorem map_int_inj {as bs : List Int} (h : as.map D.int = bs.map D.int) : as = bs := by
  have := congrArg (List.map intD) h
  rw [map_int_id, map_int_id] at this
  exact this
theorem hasS_bits {w : Nat} {is : List Int} {e : D} {i : Int} (h : IsSet w is e) (hs : HasS w e i) (b : Nat) (hb : b < w) (hk : (kcE w e).1.testBit b = true) : (modW i w).testBit b = (kcE w e).2.testBit b := by
  have hB := set_kc h
  obtain ⟨_, Kn, C, _, hse⟩ := h
  rcases hs with ⟨K', C', rfl, e2⟩ | ⟨ns', rfl, hi⟩
  · have e1 : kcE w (.tup [.str "bits", .int K', .int C']) = (K', C') := rfl
    rw [e1] at hk ⊢
    show _ = C'.testBit b
    rw [← e2, Nat.testBit_and]
    show _ = ((modW i w).testBit b && K'.testBit b)
    rw [show K'.testBit b = true from hk, Bool.and_true]
  · generalize he : (D.tup [.str "among", .tup (ns'.map D.int)]) = e at hse
    cases hse with
    | bits =>
      have q : 2 = 3 := congrArg List.length (D.tup.inj he)
      exact absurd q (by decide)
    | among ns hm hf hK hC hl =>
      have e2 : ns' = ns := map_int_inj (D.tup.inj (List.cons.inj (List.cons.inj (D.tup.inj he)).2).1)
      subst e2
      exact hB.all b hb hk i ((hm i).mp hi)
theorem C_lt {w : Nat} {is : List Int} {K C : Nat} (h : BitsOf w is K C) : C < 2 ^ w := Nat.lt_pow_two_of_testBit _ fun b hb => h.zero b (Nat.testBit_lt_two_pow (Nat.lt_of_lt_of_le h.lt (Nat.pow_le_pow_right (by decide) hb)))
def kcF : List Part → Nat → List D → Nat × Nat → Nat × Nat
  | [], _, _, a => a
  | p :: ps, low, P, a => match p.name with
    | none => kcF ps (low - p.width) P a
    | some _ => kcF ps (low - p.width) P.tail (a.1 ^^^ (((2 ^ p.width - 1) ^^^ (kcE p.width (P.headD .non)).1) * 2 ^ (low - p.width)), a.2 ||| (kcE p.width (P.headD .non)).2 * 2 ^ (low - p.width))
abbrev pK (ps : List Part) : List Kind := ps.filterMap Part.kind
theorem pK_none {p : Part} {ps : List Part} (h : p.name = none) : pK (p :: ps) = pK ps := by
  show List.filterMap Part.kind (p :: ps) = _
  rw [List.filterMap_cons]
  unfold Part.kind
  rw [h]
  rfl
theorem pK_some {p : Part} {ps : List Part} {s : Str} (h : p.name = some s) : pK (p :: ps) = .num s p :: pK ps := by
  show List.filterMap Part.kind (p :: ps) = _
  rw [List.filterMap_cons]
  unfold Part.kind
  rw [h]
  rfl
theorem low_eq {p : Part} {ps : List Part} {low : Nat} (h : ((p :: ps).map Part.width).sum = low) : (ps.map Part.width).sum = low - p.width ∧ p.width ≤ low := by
  rw [List.map_cons, List.sum_cons] at h
  omega
theorem sh_bit (x k b : Nat) : (x * 2 ^ k).testBit b = (decide (k ≤ b) && x.testBit (b - k)) := Nat.testBit_mul_two_pow x b k
theorem wcode_lt : ∀ (ps : List Part) (low : Nat) (r : List D), (ps.map Part.width).sum = low → wcode ps low r < 2 ^ low
  | [], low, r, h => Nat.two_pow_pos low
  | p :: ps, low, r, h => by
    obtain ⟨h1, h2⟩ := low_eq h
    unfold wcode
    cases hn : p.name with
    | none => exact Nat.lt_of_lt_of_le (wcode_lt ps _ r h1) (Nat.pow_le_pow_right (by decide) (Nat.sub_le _ _))
    | some s =>
      have z := wcode_lt ps _ r.tail h1
      have z2 := modW_lt (intD (r.headD .non)) p.width
      have e : 2 ^ low = 2 ^ p.width * 2 ^ (low - p.width) := by rw [← Nat.pow_add, Nat.add_sub_cancel' h2]
      rw [e]
      have z3 : (modW (intD (r.headD .non)) p.width + 1) * 2 ^ (low - p.width) ≤ 2 ^ p.width * 2 ^ (low - p.width) := Nat.mul_le_mul_right _ z2
      rw [Nat.add_mul, Nat.one_mul] at z3
      show modW (intD (r.headD .non)) p.width * 2 ^ (low - p.width) + wcode ps (low - p.width) r.tail < _
      omega
/-- a named field's code ahead of the rest -/
theorem wcode_bit {p : Part} {ps : List Part} {low : Nat} {s : Str} (h : ((p :: ps).map Part.width).sum = low) (hn : p.name = some s) (r : List D) (b : Nat) :
    (wcode (p :: ps) low r).testBit b = if b < low - p.width then (wcode ps (low - p.width) r.tail).testBit b else (modW (intD (r.headD .non)) p.width).testBit (b - (low - p.width)) := by
  have e : wcode (p :: ps) low r = 2 ^ (low - p.width) * modW (intD (r.headD .non)) p.width + wcode ps (low - p.width) r.tail := by
    show (match p.name with | none => _ | some _ => _) = _
    rw [hn, Nat.mul_comm (2 ^ (low - p.width))]
  rw [e, Nat.testBit_two_pow_mul_add _ (wcode_lt ps _ r.tail (low_eq h).1)]
theorem kcF_none {p : Part} {ps : List Part} {low : Nat} {P : List D} {a : Nat × Nat} (hn : p.name = none) : kcF (p :: ps) low P a = kcF ps (low - p.width) P a := by
  show (match p.name with | none => _ | some _ => _) = _
  rw [hn]
theorem kcF_some {p : Part} {ps : List Part} {low : Nat} {P : List D} {a : Nat × Nat} {s : Str} (hn : p.name = some s) : kcF (p :: ps) low P a = kcF ps (low - p.width) P.tail (a.1 ^^^ (((2 ^ p.width - 1) ^^^ (kcE p.width (P.headD .non)).1) * 2 ^ (low - p.width)), a.2 ||| (kcE p.width (P.headD .non)).2 * 2 ^ (low - p.width)) := by
  show (match p.name with | none => _ | some _ => _) = _
  rw [hn]
theorem wcode_none {p : Part} {ps : List Part} {low : Nat} {r : List D} (hn : p.name = none) : wcode (p :: ps) low r = wcode ps (low - p.width) r := by
  show (match p.name with | none => _ | some _ => _) = _
  rw [hn]
/-- above the fields nothing changes -/
theorem kcF_hi {n : Nat} : ∀ (ps : List Part) (low : Nat) (rows : List (List D)) (P : List D) (a : Nat × Nat), (ps.map Part.width).sum = low → patIn (entOf n) (pK ps) rows P → ∀ b, low ≤ b → (kcF ps low P a).1.testBit b = a.1.testBit b ∧ (kcF ps low P a).2.testBit b = a.2.testBit b
  | [], _, _, _, _, _, _, _, _ => ⟨rfl, rfl⟩
  | p :: ps, low, rows, P, a, h, hp, b, hb => by
    obtain ⟨h1, h2⟩ := low_eq h
    cases hn : p.name with
    | none =>
      rw [pK_none hn] at hp
      rw [kcF_none hn]
      exact kcF_hi ps _ rows P a h1 hp b (by omega)
    | some s =>
      rw [pK_some hn] at hp
      rw [kcF_some hn]
      have hB : BitsOf p.width _ _ _ := set_kc (e := P.headD .non) (by cases n <;> exact hp.1)
      obtain ⟨z1, z2⟩ := kcF_hi ps _ _ P.tail (a.1 ^^^ (((2 ^ p.width - 1) ^^^ (kcE p.width (P.headD .non)).1) * 2 ^ (low - p.width)), a.2 ||| (kcE p.width (P.headD .non)).2 * 2 ^ (low - p.width)) h1 hp.2 b (by omega)
      have q : ∀ x, x < 2 ^ p.width → (x * 2 ^ (low - p.width)).testBit b = false := fun x hx => by
        rw [sh_bit, Nat.testBit_lt_two_pow (Nat.lt_of_lt_of_le hx (Nat.pow_le_pow_right (by decide) (by omega))), Bool.and_false]
      rw [z1, z2]
      show (a.1 ^^^ _).testBit b = _ ∧ (a.2 ||| _).testBit b = _
      rw [Nat.testBit_xor, Nat.testBit_or, q _ (Nat.xor_lt_two_pow (by have := Nat.two_pow_pos p.width; omega) hB.lt), q _ (C_lt hB), Bool.xor_false, Bool.or_false]
      exact ⟨rfl, rfl⟩
theorem kcF_lo {n : Nat} : ∀ (ps : List Part) (low : Nat) (rows : List (List D)) (P : List D) (a : Nat × Nat), (ps.map Part.width).sum = low → rows ≠ [] → patIn (entOf n) (pK ps) rows P → (∀ b, b < low → a.1.testBit b = true ∧ a.2.testBit b = false) → ∀ b, b < low →
    ((kcF ps low P a).1.testBit b = true → ∀ r, rowIn (valOf n) (pK ps) r → hasOf (hasE n) (pK ps) P r → (wcode ps low r).testBit b = (kcF ps low P a).2.testBit b) ∧
    ((kcF ps low P a).1.testBit b = false → ∃ r1 ∈ rows, ∃ r2 ∈ rows, (wcode ps low r1).testBit b ≠ (wcode ps low r2).testBit b)
  | [], low, _, _, _, h, _, _, _, b, hb => by
    have h' : 0 = low := h
    omega
  | p :: ps, low, rows, P, a, h, hne, hp, ha, b, hb => by
    obtain ⟨h1, h2⟩ := low_eq h
    cases hn : p.name with
    | none =>
      rw [pK_none hn] at hp ⊢
      rw [kcF_none hn]
      by_cases hbl : b < low - p.width
      · obtain ⟨z1, z2⟩ := kcF_lo ps _ rows P a h1 hne hp (fun b hb => ha b (by omega)) b hbl
        exact ⟨fun q r hr hh => by rw [wcode_none hn]; exact z1 q r hr hh, fun q => by
          obtain ⟨r1, m1, r2, m2, ne⟩ := z2 q
          exact ⟨r1, m1, r2, m2, by rw [wcode_none hn, wcode_none hn]; exact ne⟩⟩
      · obtain ⟨z1, z2⟩ := kcF_hi ps _ rows P a h1 hp b (by omega)
        rw [z1, z2, (ha b hb).1, (ha b hb).2]
        refine ⟨fun _ r _ _ => ?_, fun q => nomatch q⟩
        rw [wcode_none hn]
        exact Nat.testBit_lt_two_pow (Nat.lt_of_lt_of_le (wcode_lt ps _ r h1) (Nat.pow_le_pow_right (by decide) (by omega)))
    | some s =>
      rw [pK_some hn] at hp ⊢
      rw [kcF_some hn]
      have hS : IsSet p.width ((rows.map fun r => r.headD .non).map intD) (P.headD .non) := by cases n <;> exact hp.1
      have hB := set_kc hS
      generalize hk : kcE p.width (P.headD .non) = kc at hB
      have ha' : ∀ b, b < low - p.width → (a.1 ^^^ (((2 ^ p.width - 1) ^^^ kc.1) * 2 ^ (low - p.width))).testBit b = true ∧ (a.2 ||| kc.2 * 2 ^ (low - p.width)).testBit b = false := fun b hb => by
        rw [Nat.testBit_xor, Nat.testBit_or, sh_bit, sh_bit, decide_eq_false (by omega), (ha b (by omega)).1, (ha b (by omega)).2]
        exact ⟨rfl, rfl⟩
      by_cases hbl : b < low - p.width
      · obtain ⟨z1, z2⟩ := kcF_lo ps _ (rows.map List.tail) P.tail (a.1 ^^^ (((2 ^ p.width - 1) ^^^ kc.1) * 2 ^ (low - p.width)), a.2 ||| kc.2 * 2 ^ (low - p.width)) h1 (fun q => hne (List.map_eq_nil_iff.mp q)) hp.2 ha' b hbl
        refine ⟨fun q r hr hh => ?_, fun q => ?_⟩
        · rw [wcode_bit h hn, if_pos hbl]
          exact z1 q _ hr.2 hh.2
        · obtain ⟨r1, m1, r2, m2, ne⟩ := z2 q
          obtain ⟨s1, n1, rfl⟩ := List.mem_map.mp m1
          obtain ⟨s2, n2, rfl⟩ := List.mem_map.mp m2
          refine ⟨s1, n1, s2, n2, ?_⟩
          rw [wcode_bit h hn, wcode_bit h hn, if_pos hbl, if_pos hbl]
          exact ne
      · obtain ⟨z1, z2⟩ := kcF_hi ps _ (rows.map List.tail) P.tail (a.1 ^^^ (((2 ^ p.width - 1) ^^^ kc.1) * 2 ^ (low - p.width)), a.2 ||| kc.2 * 2 ^ (low - p.width)) h1 hp.2 b (by omega)
        have hbw : b - (low - p.width) < p.width := by omega
        have y1 : (a.1 ^^^ (((2 ^ p.width - 1) ^^^ kc.1) * 2 ^ (low - p.width))).testBit b = kc.1.testBit (b - (low - p.width)) := by
          rw [Nat.testBit_xor, sh_bit, decide_eq_true (by omega), (ha b hb).1, Nat.testBit_xor, Nat.testBit_two_pow_sub_one, decide_eq_true hbw]
          cases kc.1.testBit (b - (low - p.width)) <;> rfl
        have y2 : (a.2 ||| kc.2 * 2 ^ (low - p.width)).testBit b = kc.2.testBit (b - (low - p.width)) := by
          rw [Nat.testBit_or, sh_bit, decide_eq_true (by omega), (ha b hb).2]
          cases kc.2.testBit (b - (low - p.width)) <;> rfl
        rw [z1, z2]
        show ((a.1 ^^^ (((2 ^ p.width - 1) ^^^ kc.1) * 2 ^ (low - p.width))).testBit b = true → _) ∧ ((a.1 ^^^ (((2 ^ p.width - 1) ^^^ kc.1) * 2 ^ (low - p.width))).testBit b = false → _)
        rw [y1]
        refine ⟨fun q r hr hh => ?_, fun q => ?_⟩
        · rw [wcode_bit h hn, if_neg hbl]
          show _ = (a.2 ||| kc.2 * 2 ^ (low - p.width)).testBit b
          rw [y2]
          have hh1 : HasS p.width (P.headD .non) (intD (r.headD .non)) := by cases n <;> exact hh.1
          have z := hasS_bits hS hh1 (b - (low - p.width)) hbw
          rw [hk] at z
          exact z q
        · obtain ⟨i, mi, j, mj, ne⟩ := hB.some _ hbw q
          obtain ⟨d1, k1, rfl⟩ := List.mem_map.mp mi
          obtain ⟨r1, n1, rfl⟩ := List.mem_map.mp k1
          obtain ⟨d2, k2, rfl⟩ := List.mem_map.mp mj
          obtain ⟨r2, n2, rfl⟩ := List.mem_map.mp k2
          refine ⟨r1, n1, r2, n2, ?_⟩
          rw [wcode_bit h hn, wcode_bit h hn, if_neg hbl, if_neg hbl]
          exact ne
end BB

namespace BB
open PySem

/-! ## how determined bytes are put together -/
theorem GoodP.mono {V V' H H' : List D → Prop} {f f' : List D → List Int} {rows rows' : List (List D)} {o' : List Int} {b : Bool} (h : GoodP V H f rows o' b)
    (h1 : ∀ r, V' r → H' r → ∃ r0, V r0 ∧ H r0 ∧ f' r = f r0) (h2 : ∀ r ∈ rows, ∃ r' ∈ rows', f' r' = f r) : GoodP V' H' f' rows' o' b := by
  refine ⟨fun r hv hh => ?_, fun q => ?_⟩
  · obtain ⟨r0, a1, a2, a3⟩ := h1 r hv hh
    rw [a3]
    exact h.1 r0 a1 a2
  · obtain ⟨r1, m1, r2, m2, x, y, t1, t2, ne, e1, e2⟩ := h.2 q
    obtain ⟨s1, n1, g1⟩ := h2 r1 m1
    obtain ⟨s2, n2, g2⟩ := h2 r2 m2
    exact ⟨s1, n1, s2, n2, x, y, t1, t2, ne, by rw [g1, e1], by rw [g2, e2]⟩
/-- more is put behind: not all yet -/
theorem GoodP.stop {V V' H H' : List D → Prop} {f f' : List D → List Int} {rows rows' : List (List D)} {o' : List Int} (h : GoodP V H f rows o' false)
    (h1 : ∀ r, V' r → H' r → ∃ r0 t, V r0 ∧ H r0 ∧ f' r = f r0 ++ t) (h2 : ∀ r ∈ rows, ∃ r' ∈ rows', ∃ t, f' r' = f r ++ t) : GoodP V' H' f' rows' o' false := by
  refine ⟨fun r hv hh => ⟨?_, fun q => nomatch q⟩, fun _ => ?_⟩
  · obtain ⟨r0, t, a1, a2, a3⟩ := h1 r hv hh
    obtain ⟨t', e⟩ := (h.1 r0 a1 a2).1
    exact ⟨t' ++ t, by rw [a3, e, List.append_assoc]⟩
  · obtain ⟨r1, m1, r2, m2, x, y, t1, t2, ne, e1, e2⟩ := h.2 rfl
    obtain ⟨s1, n1, u1, g1⟩ := h2 r1 m1
    obtain ⟨s2, n2, u2, g2⟩ := h2 r2 m2
    exact ⟨s1, n1, s2, n2, x, y, t1 ++ u1, t2 ++ u2, ne, by rw [g1, e1, List.append_assoc]; rfl, by rw [g2, e2, List.append_assoc]; rfl⟩
theorem good_const {V H : List D → Prop} {f : List D → List Int} {rows : List (List D)} {o' : List Int} (h : ∀ r, f r = o') : GoodP V H f rows o' true :=
  ⟨fun r _ _ => ⟨⟨[], by rw [h, List.append_nil]⟩, fun _ => h r⟩, fun q => nomatch q⟩
theorem good_len {n : Nat} {it : Item} {rows : List (List D)} {P : List D} {o o' : List Int} {b : Bool} (c : Ctx n (kindsI it) rows P) (h : GoodI n it rows P o o' b) : o'.length ≤ o.length + mxI n it := by
  obtain ⟨r, hr⟩ := List.exists_mem_of_ne_nil rows c.ne
  obtain ⟨t, e⟩ := (h.1 r (c.row r hr) (c.has r hr)).1
  have z := putI_len n it r o (c.row r hr)
  have e' : putI n it r o = o' ++ t := e
  rw [e', List.length_append] at z
  omega
theorem good_lenL {n : Nat} {its : List Item} {rows : List (List D)} {P : List D} {o o' : List Int} {b : Bool} (c : Ctx n (kinds its) rows P) (h : GoodL n its rows P o o' b) : o'.length ≤ o.length + mxL n its := by
  obtain ⟨r, hr⟩ := List.exists_mem_of_ne_nil rows c.ne
  obtain ⟨t, e⟩ := (h.1 r (c.row r hr) (c.has r hr)).1
  have z : (foldI (putI n) its r o).length ≤ o.length + mxL n its := foldI_len (n := n) (mx := mxI n) (putI_len n) its r o (c.row r hr)
  have e' : foldI (putI n) its r o = o' ++ t := e
  rw [e', List.length_append] at z
  omega
theorem cb_word {n : Nat} {w : Wd} {ps : List Part} {rows : List (List D)} {P : List D} (hw : (ps.map Part.width).sum = 8 * w.size) (c : Ctx n (pK ps) rows P) (o : List Int) :
    GoodP (rowIn (valOf n) (pK ps)) (hasOf (hasE n) (pK ps) P) (fun r => o ++ wbytes w (wcode ps (8 * w.size) r)) rows (o ++ (cb (kcF ps (8 * w.size) P (2 ^ (8 * w.size) - 1, 0)).1 (kcF ps (8 * w.size) P (2 ^ (8 * w.size) - 1, 0)).2 w.lows).1)
      (cb (kcF ps (8 * w.size) P (2 ^ (8 * w.size) - 1, 0)).1 (kcF ps (8 * w.size) P (2 ^ (8 * w.size) - 1, 0)).2 w.lows).2 := by
  have hz : ∀ b, b < 8 * w.size → ((2 ^ (8 * w.size) - 1, 0) : Nat × Nat).1.testBit b = true ∧ ((2 ^ (8 * w.size) - 1, 0) : Nat × Nat).2.testBit b = false := fun b hb => by
    show (2 ^ (8 * w.size) - 1).testBit b = true ∧ Nat.testBit 0 b = false
    rw [Nat.testBit_two_pow_sub_one, Nat.zero_testBit]
    exact ⟨decide_eq_true hb, rfl⟩
  have hlo := kcF_lo (n := n) ps (8 * w.size) rows P (2 ^ (8 * w.size) - 1, 0) hw c.ne c.pat hz
  generalize kcF ps (8 * w.size) P (2 ^ (8 * w.size) - 1, 0) = kc at hlo
  refine ⟨fun r hv hh => ?_, fun q => ?_⟩
  · obtain ⟨t, e1, e2⟩ := cb_all (K := kc.1) (C := kc.2) (W := 8 * w.size) (c := wcode ps (8 * w.size) r) (fun b hb hk => (hlo b hb).1 hk r hv hh) w.lows (lows_le w)
    have e1' : wbytes w (wcode ps (8 * w.size) r) = _ := e1
    refine ⟨⟨t, ?_⟩, fun q => ?_⟩
    · show o ++ wbytes w (wcode ps (8 * w.size) r) = _
      rw [e1', List.append_assoc]
    · show o ++ wbytes w (wcode ps (8 * w.size) r) = _
      rw [e1', e2 q, List.append_nil]
  · obtain ⟨c1, m1, c2, m2, x, y, t1, t2, ne, e1, e2⟩ := cb_two (K := kc.1) (C := kc.2) (W := 8 * w.size) (S := rows.map (wcode ps (8 * w.size))) (fun b hb hk c' hc => by
      obtain ⟨r, hr, rfl⟩ := List.mem_map.mp hc
      exact (hlo b hb).1 hk r (c.row r hr) (c.has r hr)) (fun b hb hk => by
      obtain ⟨r1, m1, r2, m2, ne⟩ := (hlo b hb).2 hk
      exact ⟨_, List.mem_map_of_mem m1, _, List.mem_map_of_mem m2, ne⟩) w.lows (lows_le w) q
    obtain ⟨r1, n1, rfl⟩ := List.mem_map.mp m1
    obtain ⟨r2, n2, rfl⟩ := List.mem_map.mp m2
    refine ⟨r1, n1, r2, n2, x, y, t1, t2, ne, ?_, ?_⟩
    · show o ++ wbytes w (wcode ps (8 * w.size) r1) = _
      rw [List.append_assoc, ← e1]
      rfl
    · show o ++ wbytes w (wcode ps (8 * w.size) r2) = _
      rw [List.append_assoc, ← e2]
      rfl
theorem good_word {n : Nat} {w : Wd} {ps : List Part} {rows : List (List D)} {P : List D} (hw : (ps.map Part.width).sum = 8 * w.size) (c : Ctx n (pK ps) rows P) (o : List Int) :
    GoodI n (.word w ps) rows P o (o ++ (cb (kcF ps (8 * w.size) P (2 ^ (8 * w.size) - 1, 0)).1 (kcF ps (8 * w.size) P (2 ^ (8 * w.size) - 1, 0)).2 w.lows).1)
      (cb (kcF ps (8 * w.size) P (2 ^ (8 * w.size) - 1, 0)).1 (kcF ps (8 * w.size) P (2 ^ (8 * w.size) - 1, 0)).2 w.lows).2 := by
  have z := cb_word hw c o
  cases n <;> exact z
theorem good_lit {n : Nat} {data : List Int} {rows : List (List D)} {P : List D} {o : List Int} : GoodI n (.lit data) rows P o (o ++ data) true := good_const fun r => by cases n <;> rfl
theorem good_res {n k : Nat} {rows : List (List D)} {P : List D} {o : List Int} : GoodI n (.res k) rows P o (o ++ List.replicate k 0) true := good_const fun r => by cases n <;> rfl
theorem good_chk {n : Nat} {x : Bool} {rows : List (List D)} {P : List D} {o : List Int} : GoodI n (.chk x) rows P o (o ++ [chkB x o]) true := good_const fun r => by cases n <;> rfl
theorem good_rcd {n : Nat} {a : Str} {its : List Item} {rows : List (List D)} {P P' : List D} {o o' : List Int} {b : Bool} (he : P.headD .non = .tup P') (h : GoodL n its (rows.map fun r => tupD (r.headD .non)) P' o o' b) : GoodI (n + 1) (.rcd a its) rows P o o' b := by
  refine GoodP.mono h (fun r hv hh => ⟨tupD (r.headD .non), ?_, ?_, rfl⟩) (fun r hr => ?_)
  · obtain ⟨r', e, hr⟩ := hv.1
    rw [e]
    exact hr.2
  · have z : hasOf (hasE n) (kinds its) (tupD (P.headD .non)) (tupD (r.headD .non)) := hh.1
    rw [he] at z
    exact z
  · obtain ⟨r0, m0, rfl⟩ := List.mem_map.mp hr
    exact ⟨r0, m0, rfl⟩
theorem ctx_rcd {n : Nat} {a : Str} {its : List Item} {rows : List (List D)} {P : List D} (c : Ctx (n + 1) (kindsI (.rcd a its)) rows P) : ∃ P', P.headD .non = .tup P' ∧ Ctx n (kinds its) (rows.map fun r => tupD (r.headD .non)) P' := by
  obtain ⟨P', e, hp⟩ := c.pat.1
  refine ⟨P', e, fun q => c.ne (List.map_eq_nil_iff.mp q), Nat.le_of_eq hp.1.symm, ?_, fun r hr => ?_⟩
  · have := hp.2
    rw [List.map_map] at this
    exact this
  · obtain ⟨r0, m0, rfl⟩ := List.mem_map.mp hr
    obtain ⟨r', e', hr'⟩ := (c.row r0 m0).1
    show rowIn _ _ (tupD (r0.headD .non))
    rw [e']
    exact hr'.2
/-- a layout, item by item -/
def Done (n : Nat) (its pre : List Item) (P : List D) (o o' : List Int) : Prop := ∀ r : List D, rowIn (valOf n) (kinds its) r → HasL n its P r → putL n pre r o = o'
theorem foldI_app {f : Item → List D → List Int → List Int} : ∀ (xs ys : List Item) (row : List D) (o : List Int), foldI f (xs ++ ys) row o = foldI f ys (row.drop (kinds xs).length) (foldI f xs row o)
  | [], ys, row, o => rfl
  | x :: xs, ys, row, o => by
    show foldI f (xs ++ ys) (row.drop (nm x)) (f x row o) = _
    rw [foldI_app xs ys, List.drop_drop, kinds_cons, List.length_append]
    rfl
theorem done_nil {n : Nat} {its : List Item} {P : List D} {o : List Int} : Done n its [] P o o := fun _ _ _ => rfl
theorem done_all {n : Nat} {its : List Item} {rows : List (List D)} {P : List D} {o o' : List Int} (h : Done n its its P o o') : GoodL n its rows P o o' true :=
  ⟨fun r hv hh => ⟨⟨[], (h r hv hh).trans (List.append_nil _).symm⟩, fun _ => h r hv hh⟩, fun q => nomatch q⟩
theorem row_mid {n : Nat} {pre post : List Item} {it : Item} {r : List D} (hv : rowIn (valOf n) (kinds (pre ++ it :: post)) r) : rowIn (valOf n) (kindsI it) (r.drop (kinds pre).length) := by
  rw [kinds_app, kinds_cons] at hv
  exact ((rowIn_app _ _ _).mp ((rowIn_app _ _ _).mp hv).2).1
theorem has_mid {n : Nat} {pre post : List Item} {it : Item} {P r : List D} (hh : HasL n (pre ++ it :: post) P r) : hasOf (hasE n) (kindsI it) (P.drop (kinds pre).length) (r.drop (kinds pre).length) := by
  unfold HasL at hh
  rw [kinds_app, kinds_cons] at hh
  exact ((hasOf_app _ _ _ _).mp ((hasOf_app _ _ _ _).mp hh).2).1
theorem ctx_mid {n : Nat} {pre post : List Item} {it : Item} {rows : List (List D)} {P : List D} (c : Ctx n (kinds (pre ++ it :: post)) rows P) : Ctx n (kindsI it) (rows.map (List.drop (kinds pre).length)) (P.drop (kinds pre).length) := by
  rw [kinds_app, kinds_cons] at c
  exact c.snd.fst
theorem done_step {n : Nat} {pre post : List Item} {it : Item} {rows : List (List D)} {P : List D} {o o1 o' : List Int} (h : Done n (pre ++ it :: post) pre P o o1) (g : GoodI n it (rows.map (List.drop (kinds pre).length)) (P.drop (kinds pre).length) o1 o' true) : Done n (pre ++ it :: post) (pre ++ [it]) P o o' := fun r hv hh => by
  show foldI _ (pre ++ [it]) r o = _
  rw [foldI_app]
  show putI n it (r.drop (kinds pre).length) (putL n pre r o) = o'
  rw [h r hv hh]
  exact (g.1 _ (row_mid hv) (has_mid hh)).2 rfl
theorem done_stop {n : Nat} {pre post : List Item} {it : Item} {rows : List (List D)} {P : List D} {o o1 o' : List Int} (c : Ctx n (kinds (pre ++ it :: post)) rows P) (h : Done n (pre ++ it :: post) pre P o o1) (g : GoodI n it (rows.map (List.drop (kinds pre).length)) (P.drop (kinds pre).length) o1 o' false) : GoodL n (pre ++ it :: post) rows P o o' false := by
  have z : ∀ r, rowIn (valOf n) (kinds (pre ++ it :: post)) r → HasL n (pre ++ it :: post) P r → ∃ t, putL n (pre ++ it :: post) r o = putI n it (r.drop (kinds pre).length) o1 ++ t := fun r hv hh => by
    show ∃ t, foldI _ (pre ++ it :: post) r o = _
    rw [foldI_app]
    obtain ⟨t, e⟩ := foldI_pre (putI_pre n) post ((r.drop (kinds pre).length).drop (nm it)) (putI n it (r.drop (kinds pre).length) (putL n pre r o))
    refine ⟨t, ?_⟩
    rw [h r hv hh] at e
    show foldI (putI n) post ((r.drop (kinds pre).length).drop (nm it)) (putI n it (r.drop (kinds pre).length) (putL n pre r o)) = _
    rw [h r hv hh]
    exact e
  refine GoodP.stop g (fun r hv hh => ?_) (fun r hr => ?_)
  · obtain ⟨t, e⟩ := z r hv hh
    exact ⟨_, t, row_mid hv, has_mid hh, e⟩
  · obtain ⟨r0, m0, rfl⟩ := List.mem_map.mp hr
    obtain ⟨t, e⟩ := z r0 (c.row r0 m0) (c.has r0 m0)
    exact ⟨r0, m0, t, e⟩
end BB

namespace BB
open PySem

/-! ## a choice -/
abbrev Cs : Type := Int × Str × List Item
abbrev casesD (L : List (Cs × List D)) : D := .tup [.str "cases", .tup (L.map fun q => .tup [.str q.1.2.1, .tup q.2])]
theorem cases_inj {L L' : List (Cs × List D)} (h : casesD L = casesD L') : (L.map fun q => (q.1.2.1, q.2)) = L'.map fun q => (q.1.2.1, q.2) := by
  have h1 : (L.map fun q => D.tup [.str q.1.2.1, .tup q.2]) = L'.map fun q => D.tup [.str q.1.2.1, .tup q.2] := D.tup.inj (List.cons.inj (List.cons.inj (D.tup.inj h)).2).1
  have h2 := congrArg (List.map fun d => (nameD d, restD d)) h1
  rw [List.map_map, List.map_map] at h2
  exact h2
/-- what a choice's entry says of the rows inside -/
structure ChOk (n : Nat) (a : Str) (w : Wd) (cs : List Cs) (rows : List (List D)) (P : List D) (L : List (Cs × List D)) : Prop where
  e : P.headD .non = casesD L
  ne : L ≠ []
  mem : ∀ q ∈ L, q.1 ∈ cs ∧ Ctx n (kinds q.1.2.2) ((rows.filter fun r => decide (nameD (r.headD .non) = q.1.2.1)).map fun r => restD (r.headD .non)) q.2
  nd : (cs.map fun c => c.2.1).Nodup
  ndL : (L.map fun q => q.1.2.1).Nodup
  len : L.length ≤ 100
theorem ctx_choice {n : Nat} {a : Str} {w : Wd} {cs : List Cs} {rows : List (List D)} {P : List D} (c : Ctx (n + 1) (kindsI (.choice a w cs)) rows P) : ∃ L, ChOk n a w cs rows P L := by
  obtain ⟨L, e, hne, hL, hnd, hl, hcs, _⟩ := c.pat.1
  refine ⟨L, e, hne, fun q hq => ?_, hcs, hnd, hl⟩
  obtain ⟨h1, rs, h2, h3, h4⟩ := hL q hq
  have h5 : rs = (rows.filter fun r => decide (nameD (r.headD .non) = q.1.2.1)).map fun r => restD (r.headD .non) := by
    rw [h2, List.filter_map, List.map_map]
    rfl
  rw [h5] at h3 h4
  refine ⟨h1, h3, Nat.le_of_eq h4.1.symm, h4.2, fun r hr => ?_⟩
  obtain ⟨r0, m0, rfl⟩ := List.mem_map.mp hr
  obtain ⟨m1, m2⟩ := List.mem_filter.mp m0
  obtain ⟨_, c', hc', r', e', hr'⟩ := (c.row r0 m1).1
  have m2' := of_decide_eq_true m2
  rw [e'] at m2' ⊢
  have ec : c' = q.1 := nd_eq hcs hc' h1 m2'
  rw [ec] at hr'
  exact hr'.2
theorem ChOk.in {n : Nat} {a : Str} {w : Wd} {cs : List Cs} {rows : List (List D)} {P : List D} {L : List (Cs × List D)} (h : ChOk n a w cs rows P L) {r : List D} (hv : rowIn (valOf (n + 1)) (kindsI (.choice a w cs)) r) (hh : hasOf (hasE (n + 1)) (kindsI (.choice a w cs)) P r) (o : List Int) :
    ∃ q ∈ L, nameD (r.headD .non) = q.1.2.1 ∧ rowIn (valOf n) (kinds q.1.2.2) (restD (r.headD .non)) ∧ HasL n q.1.2.2 q.2 (restD (r.headD .non)) ∧ putI (n + 1) (.choice a w cs) r o = putL n q.1.2.2 (restD (r.headD .non)) (o ++ wbytes w (modW q.1.1 (8 * w.size))) := by
  obtain ⟨_, c', hc', r', e', hr'⟩ := hv.1
  obtain ⟨L', eL, q', hq', h1, h2, h3⟩ := hh.1
  have e2 := cases_inj (h.e.symm.trans eL)
  have m : (q'.1.2.1, q'.2) ∈ L.map fun q => (q.1.2.1, q.2) := by
    rw [e2]
    exact List.mem_map_of_mem (f := fun q : Cs × List D => (q.1.2.1, q.2)) hq'
  obtain ⟨q, hq, eq⟩ := List.mem_map.mp m
  have eq1 : q.1.2.1 = q'.1.2.1 := (Prod.mk.inj eq).1
  have eq2 : q.2 = q'.2 := (Prod.mk.inj eq).2
  have eq3 : q.1 = q'.1 := nd_eq h.nd (h.mem q hq).1 h1 eq1
  rw [e'] at h2 h3 ⊢
  have ec : c' = q.1 := nd_eq h.nd hc' (h.mem q hq).1 (h2.symm.trans eq1.symm)
  rw [ec] at hr'
  refine ⟨q, hq, ?_, hr'.2, ?_, ?_⟩
  · rw [ec] <;> rfl
  · rw [← eq3, ← eq2] at h3
    exact h3
  · unfold putI
    rw [e']
    show (match caseOf cs c'.2.1 with | some c => _ | none => _) = _
    rw [caseOf_of h.nd hc', ec] <;> rfl
abbrev numsC (w : Wd) (L : List (Cs × List D)) : List Nat := L.map fun q => modW q.1.1 (8 * w.size)
theorem nums_lt {w : Wd} {L : List (Cs × List D)} : ∀ c ∈ numsC w L, c < 2 ^ (8 * w.size) := fun c hc => by
  obtain ⟨q, _, rfl⟩ := List.mem_map.mp hc
  exact modW_lt _ _
theorem nums_ne {w : Wd} {L : List (Cs × List D)} (h : L ≠ []) : numsC w L ≠ [] := fun q => h (List.map_eq_nil_iff.mp q)
theorem ChOk.row {n : Nat} {a : Str} {w : Wd} {cs : List Cs} {rows : List (List D)} {P : List D} {L : List (Cs × List D)} (h : ChOk n a w cs rows P L) {q : Cs × List D} (hq : q ∈ L) : ∃ r ∈ rows, nameD (r.headD .non) = q.1.2.1 := by
  obtain ⟨r', hr'⟩ := List.exists_mem_of_ne_nil _ (h.mem q hq).2.ne
  obtain ⟨r0, m0, rfl⟩ := List.mem_map.mp hr'
  obtain ⟨m1, m2⟩ := List.mem_filter.mp m0
  exact ⟨r0, m1, of_decide_eq_true m2⟩
theorem putI_choice {n : Nat} {a : Str} {w : Wd} {cs : List Cs} {c : Cs} (hnd : (cs.map fun c => c.2.1).Nodup) (hc : c ∈ cs) {r : List D} (hr : nameD (r.headD .non) = c.2.1) (o : List Int) : putI (n + 1) (.choice a w cs) r o = putL n c.2.2 (restD (r.headD .non)) (o ++ wbytes w (modW c.1 (8 * w.size))) := by
  unfold putI
  rw [hr, caseOf_of hnd hc]
theorem good_choice_no {n : Nat} {a : Str} {w : Wd} {cs : List Cs} {rows : List (List D)} {P : List D} {L : List (Cs × List D)} (h : ChOk n a w cs rows P L) (o : List Int) (hb : (cb (agrK (8 * w.size) (numsC w L)) (andL (numsC w L)) w.lows).2 = false) :
    GoodI (n + 1) (.choice a w cs) rows P o (o ++ (cb (agrK (8 * w.size) (numsC w L)) (andL (numsC w L)) w.lows).1) false := by
  obtain ⟨z1, z2⟩ := cb_num (nums_ne h.ne) (nums_lt (w := w))
  refine ⟨fun r hv hh => ⟨?_, fun q => nomatch q⟩, fun _ => ?_⟩
  · obtain ⟨q, hq, _, _, _, ep⟩ := h.in hv hh o
    obtain ⟨t, e, _⟩ := z1 _ (List.mem_map_of_mem (f := fun q : Cs × List D => modW q.1.1 (8 * w.size)) hq)
    obtain ⟨t', e'⟩ := putL_pre n q.1.2.2 (restD (r.headD .non)) (o ++ wbytes w (modW q.1.1 (8 * w.size)))
    refine ⟨t ++ t', ?_⟩
    show putI (n + 1) (.choice a w cs) r o = _
    rw [ep, e', e, ← List.append_assoc, ← List.append_assoc]
  · obtain ⟨c1, m1, c2, m2, x, y, t1, t2, ne, e1, e2⟩ := z2 hb
    have z : ∀ c ∈ numsC w L, ∃ r ∈ rows, ∃ t, putI (n + 1) (.choice a w cs) r o = o ++ wbytes w c ++ t := fun c hc => by
      obtain ⟨q, hq, rfl⟩ := List.mem_map.mp hc
      obtain ⟨r, hr, er⟩ := h.row hq
      obtain ⟨t', e'⟩ := putL_pre n q.1.2.2 (restD (r.headD .non)) (o ++ wbytes w (modW q.1.1 (8 * w.size)))
      exact ⟨r, hr, t', (putI_choice h.nd (h.mem q hq).1 er o).trans e'⟩
    obtain ⟨r1, k1, u1, g1⟩ := z c1 m1
    obtain ⟨r2, k2, u2, g2⟩ := z c2 m2
    refine ⟨r1, k1, r2, k2, x, y, t1 ++ u1, t2 ++ u2, ne, ?_, ?_⟩
    · show putI (n + 1) (.choice a w cs) r1 o = _
      rw [g1, e1, ← List.append_assoc, List.append_assoc _ (x :: t1) u1]
      rfl
    · show putI (n + 1) (.choice a w cs) r2 o = _
      rw [g2, e2, ← List.append_assoc, List.append_assoc _ (y :: t2) u2]
      rfl
theorem good_choice {n : Nat} {a : Str} {w : Wd} {cs : List Cs} {rows : List (List D)} {P : List D} {q0 : Cs × List D} {L : List (Cs × List D)} (hcn : (cs.map fun c => c.1).Nodup) (hc0 : ∀ c ∈ cs, 0 ≤ c.1 ∧ c.1 < 2 ^ (8 * w.size)) (h : ChOk n a w cs rows P (q0 :: L)) (o : List Int)
    (hb : (cb (agrK (8 * w.size) (numsC w (q0 :: L))) (andL (numsC w (q0 :: L))) w.lows).2 = true) {o' : List Int} {b : Bool}
    (g : GoodL n q0.1.2.2 ((rows.filter fun r => decide (nameD (r.headD .non) = q0.1.2.1)).map fun r => restD (r.headD .non)) q0.2 (o ++ (cb (agrK (8 * w.size) (numsC w (q0 :: L))) (andL (numsC w (q0 :: L))) w.lows).1) o' b) : GoodI (n + 1) (.choice a w cs) rows P o o' b := by
  obtain ⟨z1, _⟩ := cb_num (nums_ne h.ne) (nums_lt (w := w))
  have one := cb_one (nums_ne h.ne) (nums_lt (w := w)) hb
  have m0 : modW q0.1.1 (8 * w.size) ∈ numsC w (q0 :: L) := List.mem_map_of_mem (f := fun q : Cs × List D => modW q.1.1 (8 * w.size)) List.mem_cons_self
  have e0 : wbytes w (modW q0.1.1 (8 * w.size)) = (cb (agrK (8 * w.size) (numsC w (q0 :: L))) (andL (numsC w (q0 :: L))) w.lows).1 := by
    obtain ⟨t, e, e2⟩ := z1 _ m0
    rw [e2 hb, List.append_nil] at e
    exact e
  have all : ∀ q ∈ q0 :: L, q = q0 := fun q hq => by
    have e1 := one _ (List.mem_map_of_mem (f := fun q : Cs × List D => modW q.1.1 (8 * w.size)) hq) _ m0
    have k1 := hc0 _ (h.mem q hq).1
    have k0 := hc0 _ (h.mem q0 List.mem_cons_self).1
    have e2 : q.1.1 = q0.1.1 := by
      have y1 : ((modW q.1.1 (8 * w.size) : Nat) : Int) = q.1.1 := by
        unfold modW
        rw [Int.emod_eq_of_lt k1.1 k1.2, Int.toNat_of_nonneg k1.1]
      have y0 : ((modW q0.1.1 (8 * w.size) : Nat) : Int) = q0.1.1 := by
        unfold modW
        rw [Int.emod_eq_of_lt k0.1 k0.2, Int.toNat_of_nonneg k0.1]
      rw [← y1, ← y0, e1]
    have e3 : q.1.2.1 = q0.1.2.1 := by
      have gg : ∀ {cs : List Cs}, (cs.map fun c => c.1).Nodup → ∀ {a b : Cs}, a ∈ cs → b ∈ cs → a.1 = b.1 → a = b := by
        intro cs hn a b ha hb e
        induction cs with
        | nil => cases ha
        | cons c cs ih =>
          rw [List.map_cons, List.nodup_cons] at hn
          rcases List.mem_cons.mp ha with r1 | r1
          · rcases List.mem_cons.mp hb with r2 | r2
            · rw [r1, r2]
            · exact absurd (by rw [← r1, e]; exact List.mem_map_of_mem (f := fun c : Cs => c.1) r2) hn.1
          · rcases List.mem_cons.mp hb with r2 | r2
            · exact absurd (by rw [← r2, ← e]; exact List.mem_map_of_mem (f := fun c : Cs => c.1) r1) hn.1
            · exact ih hn.2 r1 r2
      rw [gg hcn (h.mem q hq).1 (h.mem q0 List.mem_cons_self).1 e2]
    rcases List.mem_cons.mp hq with r1 | r1
    · exact r1
    · have := h.ndL
      rw [List.map_cons, List.nodup_cons] at this
      exact absurd (by rw [← e3]; exact List.mem_map_of_mem (f := fun q : Cs × List D => q.1.2.1) r1) this.1
  rw [← e0] at g
  refine GoodP.mono g (fun r hv hh => ?_) (fun r hr => ?_)
  · obtain ⟨q, hq, _, h1, h2, h3⟩ := h.in hv hh o
    rw [all q hq] at h1 h2 h3
    exact ⟨_, h1, h2, h3⟩
  · obtain ⟨r0, m1, rfl⟩ := List.mem_map.mp hr
    obtain ⟨m2, m3⟩ := List.mem_filter.mp m1
    exact ⟨r0, m2, putI_choice h.nd (h.mem q0 List.mem_cons_self).1 (of_decide_eq_true m3) o⟩
end BB

namespace BB
open PySem

/-! ## arrays and lists -/
abbrev vsR (r : List D) : List D := tupD (r.headD .non)
abbrev countsD (nums : List Nat) (es : List D) : D := .tup [.str "counts", .tup (nums.map fun k => D.int (k : Nat)), .tup es]
theorem natD_inj {as bs : List Nat} (h : (as.map fun k : Nat => D.int (k : Nat)) = bs.map fun k : Nat => D.int (k : Nat)) : as = bs := by
  have := congrArg (List.map fun d => (intD d).toNat) h
  rw [List.map_map, List.map_map] at this
  have e : ((fun d => (intD d).toNat) ∘ fun k : Nat => D.int (k : Nat)) = id := funext fun k => Int.toNat_natCast k
  rw [e, List.map_id, List.map_id] at this
  exact this
theorem counts_inj {nums nums' : List Nat} {es es' : List D} (h : countsD nums es = countsD nums' es') : nums = nums' ∧ es = es' := by
  have h1 := (List.cons.inj (D.tup.inj h)).2
  have h2 := D.tup.inj (List.cons.inj h1).1
  have h3 := D.tup.inj (List.cons.inj (List.cons.inj h1).2).1
  exact ⟨natD_inj h2, h3⟩
structure SqOk (n : Nat) (it : Item) (rows : List (List D)) (P : List D) (nums : List Nat) (es : List D) : Prop where
  sq : isSeq it
  e : P.headD .non = countsD nums es
  nms : IsNums (rows.map fun r => (vsR r).length) nums
  len : nums.length ≤ 1000
  u : ∀ (i : Nat) (e' : D), es[i]? = some e' → ∃ P', wrapD it e' = .tup P' ∧ patOf (entOf n) (kinds (elemItems it)) ((rows.filterMap fun r => (vsR r)[i]?).map (elR it)) P'
  les : ∀ r ∈ rows, (vsR r).length ≤ es.length
  c : Ctx (n + 1) (kindsI it) rows P
theorem ctx_seq {n : Nat} {it : Item} {rows : List (List D)} {P : List D} (h : isSeq it) (c : Ctx (n + 1) (kindsI it) rows P) : ∃ nums es, SqOk n it rows P nums es := by
  have z := c.pat
  rw [kindsI_seq h] at z
  have z1 : entOf (n + 1) (.comp it) _ _ := z.1
  rw [entOf_seq h] at z1
  obtain ⟨nums, es, h1, h2, h3, _, h4, h5⟩ := z1
  refine ⟨nums, es, h, h3, ?_, h2, fun i e' he => ?_, fun r hr => h4 _ ?_, c⟩
  · rw [List.map_map, List.map_map] at h1
    exact h1
  · have := h5 i e' he
    rw [List.filterMap_map, List.filterMap_map] at this
    exact this
  · rw [List.map_map]
    exact List.mem_map_of_mem (f := tupD ∘ fun r : List D => r.headD .non) hr
namespace SqOk
variable {n : Nat} {it : Item} {rows : List (List D)} {P : List D} {nums : List Nat} {es : List D}
theorem inn (h : SqOk n it rows P nums es) {r : List D} (hv : rowIn (valOf (n + 1)) (kindsI it) r) (hh : hasOf (hasE (n + 1)) (kindsI it) P r) :
    lenOk (cntOf it) (vsR r).length ∧ (vsR r).length ∈ nums ∧ ∀ (i : Nat) (v : D), (vsR r)[i]? = some v → ∃ e', es[i]? = some e' ∧ HasL n (elemItems it) (tupD (wrapD it e')) (elR it v) ∧ rowIn (valOf n) (kinds (elemItems it)) (elR it v) := by
  rw [kindsI_seq h.sq] at hv hh
  obtain ⟨vs, e, h1, h2⟩ := valOf_seq h.sq hv.1
  have hh1 := hh.1
  rw [hasE_seq h.sq] at hh1
  obtain ⟨nums', es', e', h3, h4⟩ := hh1
  obtain ⟨rfl, rfl⟩ := counts_inj (h.e.symm.trans e')
  have ev : vsR r = vs := by
    show tupD (r.headD .non) = vs
    rw [e]
    rfl
  refine ⟨by rw [ev]; exact h1, h3, fun i v hi => ?_⟩
  obtain ⟨e2, h5, h6⟩ := h4 i v hi
  refine ⟨e2, h5, h6, (h2 v ?_).2⟩
  rw [ev] at hi
  exact List.mem_of_getElem? hi
theorem row (h : SqOk n it rows P nums es) {r : List D} (hr : r ∈ rows) : rowIn (valOf (n + 1)) (kindsI it) r ∧ hasOf (hasE (n + 1)) (kindsI it) P r := ⟨h.c.row r hr, h.c.has r hr⟩
theorem numOf (h : SqOk n it rows P nums es) {k : Nat} (hk : k ∈ nums) : ∃ r ∈ rows, (vsR r).length = k := by
  obtain ⟨r, hr, e⟩ := List.mem_map.mp ((h.nms.1 k).mp hk)
  exact ⟨r, hr, e⟩
theorem ne (h : SqOk n it rows P nums es) : nums ≠ [] := fun q => by
  obtain ⟨r, hr⟩ := List.exists_mem_of_ne_nil _ h.c.ne
  have := (h.nms.1 _).mpr (List.mem_map_of_mem (f := fun r => (vsR r).length) hr)
  rw [q] at this
  cases this
theorem least (h : SqOk n it rows P nums es) {n0 : Nat} {rest : List Nat} (hn : nums = n0 :: rest) : ∀ k ∈ nums, n0 ≤ k := fun k hk => by
  have h2 := h.nms.2
  rw [hn] at h2 hk
  rcases List.mem_cons.mp hk with e | e
  · exact Nat.le_of_eq e.symm
  · exact Nat.le_of_lt ((List.pairwise_cons.mp h2).1 k e)
theorem lt (h : SqOk n it rows P nums es) {w : Wd} {lo hi : Nat} (hc : cntOf it = .counted w lo hi) : ∀ k ∈ nums, k < 2 ^ (8 * w.size) := fun k hk => by
  obtain ⟨r, hr, e⟩ := h.numOf hk
  have z := (h.inn (h.row hr).1 (h.row hr).2).1
  rw [hc] at z
  have z2 : lo ≤ (vsR r).length ∧ (vsR r).length ≤ hi ∧ hi < 256 := z
  have : 2 ^ 8 ≤ 2 ^ (8 * w.size) := Nat.pow_le_pow_right (by decide) (wd_bits w)
  omega
/-- the element's own context -/
theorem elem (h : SqOk n it rows P nums es) {n0 : Nat} {rest : List Nat} (hn : nums = n0 :: rest) {i : Nat} (hi : i < n0) : ∃ e' P', es[i]? = some e' ∧ wrapD it e' = .tup P' ∧ Ctx n (kinds (elemItems it)) ((rows.filterMap fun r => (vsR r)[i]?).map (elR it)) P' := by
  obtain ⟨r, hr⟩ := List.exists_mem_of_ne_nil _ h.c.ne
  have z := h.inn (h.row hr).1 (h.row hr).2
  have hl : i < (vsR r).length := Nat.lt_of_lt_of_le hi (h.least hn _ z.2.1)
  have he : i < es.length := Nat.lt_of_lt_of_le hl (h.les r hr)
  obtain ⟨P', e1, e2⟩ := h.u i es[i] (List.getElem?_eq_getElem he)
  refine ⟨es[i], P', List.getElem?_eq_getElem he, e1, fun q => ?_, Nat.le_of_eq e2.1.symm, e2.2, fun r' hr' => ?_⟩
  · have : (vsR r)[i] ∈ rows.filterMap fun r => (vsR r)[i]? := List.mem_filterMap.mpr ⟨r, hr, List.getElem?_eq_getElem hl⟩
    rw [List.map_eq_nil_iff.mp q] at this
    cases this
  · obtain ⟨v, hv, rfl⟩ := List.mem_map.mp hr'
    obtain ⟨r0, m0, e0⟩ := List.mem_filterMap.mp hv
    obtain ⟨_, _, _, z3⟩ := (h.inn (h.row m0).1 (h.row m0).2).2.2 i v e0
    exact z3
abbrev elF (n : Nat) (it : Item) : D → List Int → List Int := fun v o => putL n (elemItems it) (elR it v) o
theorem elF_pre (v : D) (o : List Int) : ∃ t, elF n it v o = o ++ t := putL_pre n _ _ o
def Inv (n : Nat) (it : Item) (P : List D) (o : List Int) (i : Nat) (o' : List Int) : Prop := ∀ r, rowIn (valOf (n + 1)) (kindsI it) r → hasOf (hasE (n + 1)) (kindsI it) P r → putN (elF n it) (cntOf it) ((vsR r).take i) (o ++ cHead (cntOf it) (vsR r).length) = o'
theorem inv0 {o : List Int} (hc : ∀ k, cHead (cntOf it) k = []) : Inv n it P o 0 o := fun r _ _ => by
  rw [hc, List.append_nil]
  rfl
theorem inv0c (h : SqOk n it rows P nums es) {w : Wd} {lo hi : Nat} (hc : cntOf it = .counted w lo hi) {o : List Int} (hb : (cb (agrK (8 * w.size) nums) (andL nums) w.lows).2 = true) : Inv n it P o 0 (o ++ (cb (agrK (8 * w.size) nums) (andL nums) w.lows).1) := fun r hv hh => by
  obtain ⟨z1, _⟩ := cb_num h.ne (h.lt hc)
  obtain ⟨t, e, e2⟩ := z1 _ (h.inn hv hh).2.1
  rw [e2 hb, List.append_nil] at e
  rw [hc, ← e]
  rfl
theorem putI_eq (h : SqOk n it rows P nums es) (r : List D) (o : List Int) : putI (n + 1) it r o = putN (elF n it) (cntOf it) (vsR r) (o ++ cHead (cntOf it) (vsR r).length) ++ cTail (cntOf it) := putI_seq h.sq r o
theorem stop0 (h : SqOk n it rows P nums es) {w : Wd} {lo hi : Nat} (hc : cntOf it = .counted w lo hi) {o : List Int} (hb : (cb (agrK (8 * w.size) nums) (andL nums) w.lows).2 = false) : GoodI (n + 1) it rows P o (o ++ (cb (agrK (8 * w.size) nums) (andL nums) w.lows).1) false := by
  obtain ⟨z1, z2⟩ := cb_num h.ne (h.lt hc)
  have z : ∀ r, ∃ t, putI (n + 1) it r o = o ++ wbytes w (vsR r).length ++ t := fun r => by
    obtain ⟨t, e⟩ := putN_pre (elF_pre (n := n) (it := it)) (cntOf it) (vsR r) (o ++ cHead (cntOf it) (vsR r).length)
    refine ⟨t ++ cTail (cntOf it), ?_⟩
    rw [h.putI_eq r o, e, List.append_assoc, hc]
    rfl
  refine ⟨fun r hv hh => ⟨?_, fun q => nomatch q⟩, fun _ => ?_⟩
  · obtain ⟨t, e, _⟩ := z1 _ (h.inn hv hh).2.1
    obtain ⟨t', e'⟩ := z r
    refine ⟨t ++ t', ?_⟩
    show putI (n + 1) it r o = _
    rw [e', e, ← List.append_assoc, ← List.append_assoc]
  · obtain ⟨c1, m1, c2, m2, x, y, t1, t2, ne, e1, e2⟩ := z2 hb
    obtain ⟨r1, k1, g1⟩ := h.numOf m1
    obtain ⟨r2, k2, g2⟩ := h.numOf m2
    obtain ⟨u1, f1⟩ := z r1
    obtain ⟨u2, f2⟩ := z r2
    refine ⟨r1, k1, r2, k2, x, y, t1 ++ u1, t2 ++ u2, ne, ?_, ?_⟩
    · show putI (n + 1) it r1 o = _
      rw [f1, g1, e1, ← List.append_assoc, List.append_assoc _ (x :: t1) u1]
      rfl
    · show putI (n + 1) it r2 o = _
      rw [f2, g2, e2, ← List.append_assoc, List.append_assoc _ (y :: t2) u2]
      rfl
theorem putN_app {f : D → List Int → List Int} {c : Cnt} (xs ys : List D) (o : List Int) : putN f c (xs ++ ys) o = putN f c ys (putN f c xs o) := List.foldl_append
theorem putN_at {f : D → List Int → List Int} {c : Cnt} {vs : List D} {i : Nat} {v : D} (hv : vs[i]? = some v) (o : List Int) : putN f c (vs.take (i + 1)) o = f v (putN f c (vs.take i) o ++ cMark c) := by
  have : vs.take (i + 1) = vs.take i ++ [v] := by rw [List.take_add_one, hv] <;> rfl
  rw [this, putN_app]
  rfl
theorem putN_rest {f : D → List Int → List Int} (hf : ∀ v o, ∃ t, f v o = o ++ t) {c : Cnt} (vs : List D) (i : Nat) (o : List Int) : ∃ t, putN f c vs o = putN f c (vs.take i) o ++ t := by
  have e : vs = vs.take i ++ vs.drop i := (List.take_append_drop i vs).symm
  obtain ⟨t, et⟩ := putN_pre hf c (vs.drop i) (putN f c (vs.take i) o)
  refine ⟨t, ?_⟩
  conv => lhs; rw [e]
  rw [putN_app, et]
theorem at_ (h : SqOk n it rows P nums es) {n0 : Nat} {rest : List Nat} (hn : nums = n0 :: rest) {i : Nat} (hi : i < n0) {e' : D} {P' : List D} (he : es[i]? = some e') (hw : wrapD it e' = .tup P') {r : List D} (hv : rowIn (valOf (n + 1)) (kindsI it) r) (hh : hasOf (hasE (n + 1)) (kindsI it) P r) :
    ∃ v, (vsR r)[i]? = some v ∧ HasL n (elemItems it) P' (elR it v) ∧ rowIn (valOf n) (kinds (elemItems it)) (elR it v) := by
  have z := h.inn hv hh
  have hl : i < (vsR r).length := Nat.lt_of_lt_of_le hi (h.least hn _ z.2.1)
  obtain ⟨e2, h1, h2, h3⟩ := z.2.2 i _ (List.getElem?_eq_getElem hl)
  rw [he] at h1
  obtain rfl := Option.some.inj h1
  rw [hw] at h2
  exact ⟨_, List.getElem?_eq_getElem hl, h2, h3⟩
theorem step (h : SqOk n it rows P nums es) {n0 : Nat} {rest : List Nat} (hn : nums = n0 :: rest) {i : Nat} (hi : i < n0) {e' : D} {P' : List D} (he : es[i]? = some e') (hw : wrapD it e' = .tup P') {o o' o3 : List Int} (hI : Inv n it P o i o')
    (g : GoodL n (elemItems it) ((rows.filterMap fun r => (vsR r)[i]?).map (elR it)) P' (o' ++ cMark (cntOf it)) o3 true) : Inv n it P o (i + 1) o3 := fun r hv hh => by
  obtain ⟨v, h1, h2, h3⟩ := h.at_ hn hi he hw hv hh
  rw [putN_at h1, hI r hv hh]
  exact (g.1 _ h3 h2).2 rfl
theorem stop (h : SqOk n it rows P nums es) {n0 : Nat} {rest : List Nat} (hn : nums = n0 :: rest) {i : Nat} (hi : i < n0) {e' : D} {P' : List D} (he : es[i]? = some e') (hw : wrapD it e' = .tup P') {o o' o3 : List Int} (hI : Inv n it P o i o')
    (g : GoodL n (elemItems it) ((rows.filterMap fun r => (vsR r)[i]?).map (elR it)) P' (o' ++ cMark (cntOf it)) o3 false) : GoodI (n + 1) it rows P o o3 false := by
  have z : ∀ r v, rowIn (valOf (n + 1)) (kindsI it) r → hasOf (hasE (n + 1)) (kindsI it) P r → (vsR r)[i]? = some v → ∃ t, putI (n + 1) it r o = putL n (elemItems it) (elR it v) (o' ++ cMark (cntOf it)) ++ t := fun r v hv hh h1 => by
    obtain ⟨t, e⟩ := putN_rest (elF_pre (n := n) (it := it)) (c := cntOf it) (vsR r) (i + 1) (o ++ cHead (cntOf it) (vsR r).length)
    rw [putN_at h1, hI r hv hh] at e
    refine ⟨t ++ cTail (cntOf it), ?_⟩
    rw [h.putI_eq r o, e, List.append_assoc]
  refine GoodP.stop g (fun r hv hh => ?_) (fun r hr => ?_)
  · obtain ⟨v, h1, h2, h3⟩ := h.at_ hn hi he hw hv hh
    obtain ⟨t, e⟩ := z r v hv hh h1
    exact ⟨_, t, h3, h2, e⟩
  · obtain ⟨v, hv, rfl⟩ := List.mem_map.mp hr
    obtain ⟨r0, m0, e0⟩ := List.mem_filterMap.mp hv
    obtain ⟨t, e⟩ := z r0 v (h.row m0).1 (h.row m0).2 e0
    exact ⟨r0, m0, t, e⟩
theorem done (h : SqOk n it rows P nums es) {n0 : Nat} {rest : List Nat} (hn : nums = n0 :: rest) {o o' : List Int} (hI : Inv n it P o n0 o') (h1 : ∀ r, rowIn (valOf (n + 1)) (kindsI it) r → hasOf (hasE (n + 1)) (kindsI it) P r → (vsR r).length = n0) : GoodI (n + 1) it rows P o (o' ++ cTail (cntOf it)) true := by
  have z : ∀ r, rowIn (valOf (n + 1)) (kindsI it) r → hasOf (hasE (n + 1)) (kindsI it) P r → putI (n + 1) it r o = o' ++ cTail (cntOf it) := fun r hv hh => by
    have e := hI r hv hh
    rw [List.take_of_length_le (Nat.le_of_eq (h1 r hv hh))] at e
    rw [h.putI_eq r o, e]
  exact ⟨fun r hv hh => ⟨⟨[], by rw [List.append_nil]; exact z r hv hh⟩, fun _ => z r hv hh⟩, fun q => nomatch q⟩
theorem len_exactly (h : SqOk n it rows P nums es) {n0 k : Nat} {rest : List Nat} (hn : nums = n0 :: rest) (hc : cntOf it = .exactly k) (r : List D) (hv : rowIn (valOf (n + 1)) (kindsI it) r) (hh : hasOf (hasE (n + 1)) (kindsI it) P r) : (vsR r).length = n0 := by
  have z := (h.inn hv hh).1
  rw [hc] at z
  obtain ⟨r0, m0, e0⟩ := h.numOf (k := n0) (by rw [hn]; exact List.mem_cons_self)
  have z0 := (h.inn (h.row m0).1 (h.row m0).2).1
  rw [hc] at z0
  have a : (vsR r).length = k := z
  have b : (vsR r0).length = k := z0
  omega
theorem len_counted (h : SqOk n it rows P nums es) {n0 : Nat} {rest : List Nat} (hn : nums = n0 :: rest) {w : Wd} {lo hi : Nat} (hc : cntOf it = .counted w lo hi) (hb : (cb (agrK (8 * w.size) nums) (andL nums) w.lows).2 = true) (r : List D) (hv : rowIn (valOf (n + 1)) (kindsI it) r) (hh : hasOf (hasE (n + 1)) (kindsI it) P r) : (vsR r).length = n0 :=
  cb_one h.ne (h.lt hc) hb _ (h.inn hv hh).2.1 _ (by rw [hn]; exact List.mem_cons_self)
theorem len_one (h : SqOk n it rows P nums es) {n0 : Nat} (hn : nums = [n0]) (r : List D) (hv : rowIn (valOf (n + 1)) (kindsI it) r) (hh : hasOf (hasE (n + 1)) (kindsI it) P r) : (vsR r).length = n0 := by
  have := (h.inn hv hh).2.1
  rw [hn] at this
  exact List.mem_singleton.mp this
theorem more (h : SqOk n it rows P nums es) {n0 n1 k : Nat} {rest : List Nat} (hn : nums = n0 :: n1 :: rest) (hc : cntOf it = .marked k) {o o' : List Int} (hI : Inv n it P o n0 o') : GoodI (n + 1) it rows P o o' false := by
  refine ⟨fun r hv hh => ⟨?_, fun q => nomatch q⟩, fun _ => ?_⟩
  · obtain ⟨t, e⟩ := putN_rest (elF_pre (n := n) (it := it)) (c := cntOf it) (vsR r) n0 (o ++ cHead (cntOf it) (vsR r).length)
    rw [hI r hv hh] at e
    refine ⟨t ++ cTail (cntOf it), ?_⟩
    show putI (n + 1) it r o = _
    rw [h.putI_eq r o, e, List.append_assoc]
  · obtain ⟨r1, m1, e1⟩ := h.numOf (k := n0) (by rw [hn]; exact List.mem_cons_self)
    obtain ⟨r2, m2, e2⟩ := h.numOf (k := n1) (by rw [hn]; exact List.mem_cons_of_mem _ List.mem_cons_self)
    have hlt : n0 < n1 := by
      have := h.nms.2
      rw [hn] at this
      exact (List.pairwise_cons.mp this).1 n1 List.mem_cons_self
    have f1 := hI r1 (h.row m1).1 (h.row m1).2
    have f2 := hI r2 (h.row m2).1 (h.row m2).2
    rw [List.take_of_length_le (Nat.le_of_eq e1)] at f1
    have hl2 : n0 < (vsR r2).length := by omega
    obtain ⟨t, e⟩ := putN_rest (elF_pre (n := n) (it := it)) (c := cntOf it) (vsR r2) (n0 + 1) (o ++ cHead (cntOf it) (vsR r2).length)
    rw [putN_at (List.getElem?_eq_getElem hl2), f2] at e
    obtain ⟨t2, e3⟩ := elF_pre (n := n) (it := it) (vsR r2)[n0] (o' ++ cMark (cntOf it))
    rw [e3] at e
    refine ⟨r1, m1, r2, m2, 0, 1, [], t2 ++ t ++ cTail (cntOf it), by decide, ?_, ?_⟩
    · show putI (n + 1) it r1 o = _
      rw [h.putI_eq r1 o, f1, hc]
      rfl
    · show putI (n + 1) it r2 o = _
      rw [h.putI_eq r2 o, e, hc]
      show o' ++ [1] ++ t2 ++ t ++ cTail (.marked k) = _
      rw [List.append_assoc, List.append_assoc, List.append_assoc, List.append_assoc]
      rfl
theorem mx_seq (h : isSeq it) : mxI (n + 1) it = 5 + cMax (cntOf it) * (mxL n (elemItems it) + 1) := by
  cases it with
  | arr a w sg c rg df =>
    have ew : ((elemItems (.arr a w sg c rg df)).map (mxI n)).sum = w.size := by cases n <;> rfl
    show 5 + cMax c * (w.size + 1) = 5 + cMax c * (((elemItems (.arr a w sg c rg df)).map (mxI n)).sum + 1)
    rw [ew]
  | list _ _ _ => rfl
  | _ => exact h.elim
theorem n0_le (h : SqOk n it rows P nums es) {n0 : Nat} {rest : List Nat} (hn : nums = n0 :: rest) : n0 ≤ cMax (cntOf it) := by
  obtain ⟨r1, m1, e1⟩ := h.numOf (k := n0) (by rw [hn]; exact List.mem_cons_self)
  have z := (h.inn (h.row m1).1 (h.row m1).2).1
  rw [e1] at z
  cases hc : cntOf it with
  | exactly k =>
    rw [hc] at z
    exact Nat.le_of_eq z
  | counted w lo hi =>
    rw [hc] at z
    exact z.2.1
  | marked k =>
    rw [hc] at z
    exact z
theorem inv_len (h : SqOk n it rows P nums es) {i : Nat} {o o' : List Int} (hI : Inv n it P o i o') : o'.length ≤ o.length + 4 + i * (mxL n (elemItems it) + 1) := by
  obtain ⟨r, hr⟩ := List.exists_mem_of_ne_nil _ h.c.ne
  have e := hI r (h.row hr).1 (h.row hr).2
  have hv := (h.row hr).1
  rw [kindsI_seq h.sq] at hv
  obtain ⟨vs, ev, _, h2⟩ := valOf_seq h.sq hv.1
  have ev2 : vsR r = vs := by
    show tupD (r.headD .non) = vs
    rw [ev]
    rfl
  have z := putN_len (f := elF n it) (V := fun v => rowIn (valOf n) (kinds (elemItems it)) (elR it v)) (k := mxL n (elemItems it)) (fun v o hv => foldI_len (n := n) (mx := mxI n) (putI_len n) _ _ o hv) (cntOf it) ((vsR r).take i) (o ++ cHead (cntOf it) (vsR r).length) (fun v hv => (h2 v (by rw [← ev2]; exact List.mem_of_mem_take hv)).2)
  rw [e, List.length_append] at z
  have e4 : (cHead (cntOf it) (vsR r).length).length ≤ 4 := by
    cases cntOf it with
    | counted w _ _ =>
      show (wbytes w _).length ≤ 4
      rw [wbytes_len]
      cases w <;> decide
    | exactly _ => exact Nat.zero_le _
    | marked _ => exact Nat.zero_le _
  have e5 : ((vsR r).take i).length ≤ i := by
    rw [List.length_take]
    exact Nat.min_le_left _ _
  have e6 := Nat.mul_le_mul_right (mxL n (elemItems it) + 1) e5
  omega
theorem room (h : SqOk n it rows P nums es) {n0 : Nat} {rest : List Nat} (hn : nums = n0 :: rest) {i : Nat} (hi : i < n0) {o o' : List Int} (hI : Inv n it P o i o') (hl : o.length + mxI (n + 1) it ≤ 1000) : o'.length + 1 + mxL n (elemItems it) ≤ 1000 := by
  have z1 := h.inv_len hI
  have z2 := h.n0_le hn
  rw [mx_seq h.sq] at hl
  have z3 : (i + 1) * (mxL n (elemItems it) + 1) ≤ cMax (cntOf it) * (mxL n (elemItems it) + 1) := Nat.mul_le_mul_right _ (by omega)
  rw [Nat.add_mul] at z3
  omega
theorem room_end (h : SqOk n it rows P nums es) {n0 : Nat} {rest : List Nat} (hn : nums = n0 :: rest) {o o' : List Int} (hI : Inv n it P o n0 o') (hl : o.length + mxI (n + 1) it ≤ 1000) : o'.length + 1 ≤ 1000 := by
  have z1 := h.inv_len hI
  have z2 := h.n0_le hn
  rw [mx_seq h.sq] at hl
  have z3 : n0 * (mxL n (elemItems it) + 1) ≤ cMax (cntOf it) * (mxL n (elemItems it) + 1) := Nat.mul_le_mul_right _ z2
  omega
end SqOk
end BB

namespace BB
open PySem PySem.Spec PyProof.Rows L2
theorem bt_len : bootBuiltins "len" = some (.builtin "len") := by decide +kernel
theorem bt_abs : bootBuiltins "abs" = some (.builtin "abs") := by decide +kernel
theorem bt_int : bootBuiltins "int" = some (.type "int") := by decide +kernel
theorem bt_max : bootBuiltins "max" = some (.builtin "max") := by decide +kernel
theorem bt_min : bootBuiltins "min" = some (.builtin "min") := by decide +kernel
theorem bt_list : bootBuiltins "list" = some (.type "list") := by decide +kernel
theorem bt_tuple : bootBuiltins "tuple" = some (.type "tuple") := by decide +kernel
theorem bt_sorted : bootBuiltins "sorted" = some (.builtin "sorted") := by decide +kernel
theorem bt_sum : bootBuiltins "sum" = some (.builtin "sum") := by decide +kernel
theorem bt_str : bootBuiltins "str" = some (.type "str") := by decide +kernel
theorem bt_isinstance : bootBuiltins "isinstance" = some (.builtin "isinstance") := by decide +kernel
theorem bt_bool : bootBuiltins "bool" = some (.type "bool") := by decide +kernel
theorem sz {n : Nat} (h : n ≤ 100000) : n ≤ sizeLine := Nat.le_trans h (by decide)
theorem szr {n : Nat} (h : Nat.ble n 100000 = true) : n ≤ sizeLine := sz (Nat.le_of_ble_eq_true h)
theorem szl {n : Nat} (h : n ≤ 100000) : n < sizeLine := Nat.lt_of_le_of_lt h (by decide)
/-- what the defs of the program lean on -/
structure Env1 (K : PySem.W.Frag) (w : World) (mg : Str → Option Value) : Prop where
  blt : Blt mg
  sizes : ∃ a, mg "WORD_SIZES" = some (.ref a) ∧ KDct K w a "u8" (.int 1) ∧ KDct K w a "u16be" (.int 2) ∧ KDct K w a "u16le" (.int 2) ∧ KDct K w a "u32be" (.int 4) ∧ KDct K w a "u32le" (.int 4)
  comps : ∃ a, mg "COMPOSITES" = some (.ref a) ∧ ∀ H : Hp, SqT K H a [.str "array", .str "list", .str "choice", .str "record"]
/-! ## numbers.py -/
def sp_word_size : SpD := fun ds m Q => ∃ w : Wd, ds = [.str w.name] ∧ Q (.int w.size) m
section
variable {P : Program} {w : World} {K : PySem.W.Frag} {mg : Str → Option Value} {base : Heap}
theorem sc_word_size : FnScope ["word"] ["word"] (defScope s_word_size) := ⟨rfl, rfl, rfl, by decide +kernel, rfl, by decide +kernel, by decide +kernel⟩
def dKd (a : Addr) : RD2 := fun x y m Q => (∃ z, x = .adr z ∧ z = a) ∧ ∃ wd : Wd, y = .str wd.name ∧ Q (.int wd.size) m
theorem s2_kd {a : Addr} (h1 : KDct K w a "u8" (.int 1)) (h2 : KDct K w a "u16be" (.int 2)) (h3 : KDct K w a "u16le" (.int 2)) (h4 : KDct K w a "u32be" (.int 4)) (h5 : KDct K w a "u32le" (.int 4)) : Snd2 K (rIxD K w) (dKd a) := fun F H m x y v w' Q R r ix iy q k => by
  obtain ⟨⟨z, rfl, rfl⟩, wd, rfl, q⟩ := q
  have ev : v = .ref z := ix
  have ew : w' = .str wd.name := iy
  subst ev ew
  refine ⟨z, wd.name, .int wd.size, rfl, rfl, ?_, k _ _ _ _ _ q (Same.refl F) r rfl⟩
  cases wd
  · exact h1
  · exact h2
  · exact h3
  · exact h4
  · exact h5
theorem de_kd {X : Cx} {a : Addr} {x : Str} {b : Expr} {tb : PySem.W.Frag → TE} {db : TED} {p pos : Pos} (hg : Gl X x) (hm : X.mg x = some (.ref a)) (hr : Snd2 X.K (rIxD X.K X.w) (dKd a)) (hb : DE X b tb db) (hs : PlainIx b) (hd : (x == ("__debug__" : Str)) = false := by decide) :
    DE X (.Subscript (.Name x p) b pos) (fun K => tOp (rIxD K X.w) (tC (.ref a)) (tb K)) (dOp (dKd a) (dC (.adr a)) db) := ⟨pe_ix ix_kdict (pe_glob (v := .ref a) hg hm rfl hd) hb.pe hs, sn_op hr (sn_c fun _ => rfl) hb.sn⟩
theorem cal_word_size (D0 : Def K mg "word_size" s_word_size) (E1 : Env1 K w mg) : Cal P w K mg base "word_size" 1 ["word"] (up K 1 sp_word_size) := by
  obtain ⟨a, ha, h1, h2, h3, h4, h5⟩ := E1.sizes
  refine D0.cal (N := ["word"]) (k := 0) sc_word_size [] rfl (fun _ _ _ _ _ _ us hl => match us, hl with | [_], _ => rfl) (fun f cdv A outer s H E hr => ⟨_, _,
    dss_one (ds_ret (de_kd (by rfl) ha (s2_kd h1 h2 h3 h4 h5) (dv 0) (fun _ _ => rfl))), fun ds m Q hl hs => ?_⟩)
  obtain ⟨wd, rfl, q⟩ := hs
  exact ⟨⟨a, rfl, rfl⟩, wd, rfl, q⟩
end
end BB

namespace BB
open PySem PySem.Spec PyProof.Rows L2
/-! ## layouts.py -/
def fld1 (low : Int) (p : Part) : List D := match p.name with
  | some _ => [.tup [.int low, p.enc]]
  | none => []
def fldD : Int → List Part → List D
  | _, [] => []
  | low, p :: ps => fld1 (low - p.width) p ++ fldD (low - p.width) ps
def lowA : Int → List Part → Int
  | low, [] => low
  | low, p :: ps => lowA (low - p.width) ps
theorem fldD_app : ∀ (ps qs : List Part) (low : Int), fldD low (ps ++ qs) = fldD low ps ++ fldD (lowA low ps) qs
  | [], qs, low => rfl
  | p :: ps, qs, low => by
    show fld1 (low - p.width) p ++ fldD (low - p.width) (ps ++ qs) = (fld1 (low - p.width) p ++ fldD (low - p.width) ps) ++ _
    rw [fldD_app ps qs, List.append_assoc]
    rfl
theorem lowA_app : ∀ (ps qs : List Part) (low : Int), lowA low (ps ++ qs) = lowA (lowA low ps) qs
  | [], _, _ => rfl
  | p :: ps, qs, low => lowA_app ps qs (low - p.width)
theorem fld1_len (low : Int) (p : Part) : (fld1 low p).length ≤ 1 := by
  unfold fld1
  cases p.name with
  | none => exact Nat.zero_le _
  | some _ => exact Nat.le_refl _
theorem fldD_len : ∀ (ps : List Part) (low : Int), (fldD low ps).length ≤ ps.length
  | [], _ => Nat.le_refl _
  | p :: ps, low => by
    have h1 := fldD_len ps (low - p.width)
    have h2 := fld1_len (low - p.width) p
    show (fld1 (low - p.width) p ++ fldD (low - p.width) ps).length ≤ ps.length + 1
    rw [List.length_append]
    omega
theorem fldD_nm : ∀ (ps : List Part) (low : Int), (fldD low ps).length = (ps.filterMap Part.kind).length
  | [], _ => rfl
  | p :: ps, low => by
    have h1 := fldD_nm ps (low - p.width)
    show (fld1 (low - p.width) p ++ fldD (low - p.width) ps).length = _
    rw [List.length_append, h1, List.filterMap_cons]
    unfold fld1 Part.kind
    cases p.name with
    | none => exact Nat.zero_add _
    | some s => exact Nat.add_comm 1 _
def sp_fields : SpD := fun ds m Q => ∃ (n : Nat) (wd : Wd) (ps : List Part), ds = [encI n (.word wd ps)] ∧ ps.length ≤ 1000 ∧ Q (.lst (fldD (8 * wd.size : Nat) ps)) m
section
variable {P : Program} {w : World} {K : PySem.W.Frag} {mg : Str → Option Value} {base : Heap}
theorem sc_fields : FnScope ["item", "found", "low", "part"] ["item"] (defScope s_fields) := ⟨rfl, rfl, rfl, by decide +kernel, rfl, by decide +kernel, by decide +kernel⟩
theorem cal_fields  (D0 : Def K mg "fields" s_fields) (B : Blt mg) (c_word_size : Cal P w K mg base "word_size" (1) ["word"] (up K 1 sp_word_size))  : Cal P w K mg base "fields" (2) ["item"] (up K 1 sp_fields) := by
  refine D0.cal (N := ["item", "found", "low", "part"]) (k := 1) sc_fields [none, none, none] rfl (fun _ _ _ _ _ _ us hl => match us, hl with | [_], _ => rfl) (fun f cdv A outer s H E hr => ⟨_, _,
(dss_cons (ds_set (i := 1) sc_fields.nd rfl (.inl rfl) (de_new da_nil))
(dss_cons (ds_set (i := 2) sc_fields.nd rfl (.inl rfl) (de_mul de_int (de_call c_word_size (hr.mono (by first | decide | omega)) (by rfl) (da_cons (de_ix (dv 0) de_int) da_nil))))
(dss_cons (ds_for PassesOwn.never rfl (di_seq (de_ix (dv 0) de_int)) (dg_name (i := 3) sc_fields.nd rfl (.inl rfl))
(dss_cons (ds_set (i := 2) sc_fields.nd rfl (.inl rfl) (de_sub (dv 2) (de_ix (dv 3) de_int)))
(dss_one (ds_if (dt_notN (de_ix (dv 3) de_int) de_non)
(dss_one (ds_expr (de_append (dv 1) (de_tup (da_cons (dv 2) (da_cons (dv 3) da_nil))))))
dss_nil))))
(dss_one (ds_retF (dv 1)))))),
    fun ds m Q hl hs => ?_⟩)
  -- slots: 0 item 1 found 2 low 3 part
  obtain ⟨n, wd, ps, rfl, hps, q⟩ := hs
  rw [encI_word]
  refine ⟨Nat.zero_le _, fun p hp => ?_⟩
  refine ⟨rfl, wd, rfl, .inl ⟨by decide, by decide⟩, ?_⟩
  refine loop_map (fun pp g' m' => ∃ y : Option D, g' = [some (.tup [.str "word", .str wd.name, .tup (ps.map Part.enc)]), some (.adr p), some (.int (lowA (8 * wd.size : Nat) pp)), y] ∧ m' = mset m p (fldD (8 * wd.size : Nat) pp) ∧ pp.length ≤ 1000)
    ⟨none, rfl, rfl, Nat.zero_le _⟩ (fun _ _ _ _ => trivial) (fun pre x post g' m' hd hI => ?_) (fun g' m' hI => ?_)
  · obtain ⟨y, rfl, rfl, hl1⟩ := hI
    have e1 : lowA (8 * wd.size : Nat) (pre ++ [x]) = lowA (8 * wd.size : Nat) pre - x.width := by rw [lowA_app] <;> rfl
    have e2 : fldD (8 * wd.size : Nat) (pre ++ [x]) = fldD (8 * wd.size : Nat) pre ++ fld1 (lowA (8 * wd.size : Nat) pre - x.width) x := by
      rw [fldD_app]
      show _ ++ (fld1 _ x ++ []) = _
      rw [List.append_nil]
    have hl2 : (pre ++ [x]).length ≤ 1000 := by
      have := congrArg List.length hd
      rw [List.length_append, List.length_cons] at this
      rw [List.length_append, List.length_singleton]
      omega
    rw [e1, e2]
    refine ⟨rfl, ?_⟩
    unfold fld1
    cases hx : x.name with
    | none =>
      refine ifF rfl ⟨_, rfl, ?_, hl2⟩
      rw [List.append_nil]
    | some nm =>
      refine ifT rfl ⟨⟨_, mset_same⟩, szr rfl, _, mset_same, szl ?_, ⟨_, rfl, mset_mset, hl2⟩⟩
      exact Nat.le_trans (fldD_len pre _) (by omega)
  · obtain ⟨y, rfl, rfl, _⟩ := hI
    refine ⟨_, mset_same, ?_⟩
    rw [mdel_mset hp]
    exact q
end
end BB

namespace BB
open PySem PySem.Spec PyProof.Rows L2
local macro_rules | `(tactic| walk_at "dl") => `(tactic| simp only [dIfS, dIfE, dTest, dOp, dVar, dC, dIx, dEq, dNe, dI, dIc, dIsN, dNotN, isNonD, dAndT, dOrT, dNotT, dAndV, dNeg, dAdd, dTup, dLst, dCons, dNil, dCB, dCall, dLc, true_and, dLen, dInt1, dInt2, withSeq, with1_1, onSome_some, atI_0, atI_1, atI_2, atI_3, atI_4, atI_5, atI_6, List.getElem?_cons_succ, List.getElem?_cons_zero, List.set_cons_zero, List.set_cons_succ, gdN, Part.enc, encN, Bool.not_true, Bool.not_false, mapS_cons, mapS_nil, List.length_cons, List.length_nil, List.cons_append, List.nil_append, gdTup, gdCons, gdNil, dAppend, dExtend, dListF, dTupOf, dMul, dSl, dNoP, dPart])
local macro_rules | `(tactic| walk_at "dr") => `(tactic| simp only [dSeq, dAsg, dRet, dRetW, dDrop, dNext, dFor, diSeq, dIfS, dIfE, dTest, dOp, dVar, dC, dIx, dEq, dNe, dI, dIc, dIsN, dNotN, isNonD, dAndT, dOrT, dNotT, dAndV, dNeg, dAdd, dTup, dLst, dCons, dNil, dCB, dCall, dLc, true_and, dLen, dInt1, dInt2, withSeq, with1_1, onSome_some, atI_0, atI_1, atI_2, atI_3, atI_4, atI_5, atI_6, List.getElem?_cons_succ, List.getElem?_cons_zero, List.set_cons_zero, List.set_cons_succ, gdN, Part.enc, encN, Bool.not_true, Bool.not_false, mapS_cons, mapS_nil, List.length_cons, List.length_nil, List.cons_append, List.nil_append, gdTup, gdCons, gdNil, dAppend, dExtend, dListF, dTupOf, dMul, dSl, dNoP, dPart])

def compsD : List D := [.str "array", .str "list", .str "choice", .str "record"]
theorem compsD_is {K : PySem.W.Frag} {a : Addr} (h : ∀ H : Hp, SqT K H a [.str "array", .str "list", .str "choice", .str "record"]) (F : Hp) : IsD K F (.tup compsD) (.ref a) := ⟨a, _, rfl, h F, strs_isDs ["array", "list", "choice", "record"]⟩
/-- two written texts -/
theorem ne_ {a b : Str} (h : decide (a = b) = false := by decide +kernel) : decide (a = b) = false := h
def plD (n : Nat) : List Item → Nat → List D
  | [], _ => []
  | it :: r, at_ => .tup [encI n it, .int at_] :: plD n r (at_ + nm it)
def nmL (its : List Item) : Nat := (its.map nm).sum
theorem plD_app (n : Nat) : ∀ (xs ys : List Item) (k : Nat), plD n (xs ++ ys) k = plD n xs k ++ plD n ys (k + nmL xs)
  | [], ys, k => rfl
  | x :: xs, ys, k => by
    show D.tup [encI n x, .int k] :: plD n (xs ++ ys) (k + nm x) = D.tup [encI n x, .int k] :: (plD n xs (k + nm x) ++ plD n ys (k + nmL (x :: xs)))
    rw [plD_app n xs ys, Nat.add_assoc]
    rfl
theorem plD_len (n : Nat) : ∀ (xs : List Item) (k : Nat), (plD n xs k).length = xs.length
  | [], _ => rfl
  | x :: xs, k => congrArg Nat.succ (plD_len n xs _)
theorem nmL_app (xs : List Item) (x : Item) : nmL (xs ++ [x]) = nmL xs + nm x := by
  unfold nmL
  rw [List.map_append, List.sum_append]
  rfl
theorem sum_ge : ∀ {ps : List Part}, (∀ p ∈ ps, 1 ≤ p.width) → ps.length ≤ (ps.map Part.width).sum
  | [], _ => Nat.le_refl _
  | p :: ps, h => by
    have h1 := h p List.mem_cons_self
    have h2 := sum_ge (ps := ps) fun q hq => h q (List.mem_cons_of_mem _ hq)
    rw [List.map_cons, List.sum_cons, List.length_cons]
    omega
theorem wd_le (w : Wd) : w.size ≤ 4 := by cases w <;> decide
theorem ps_le {n : Nat} {w : Wd} {ps : List Part} (h : wfI n (.word w ps)) : ps.length ≤ 32 := by
  have h' : (ps.map Part.width).sum = 8 * w.size ∧ ∀ p ∈ ps, wfP p := by cases n <;> exact h
  have h1 := sum_ge fun p hp => (h'.2 p hp).1
  have h2 := wd_le w
  omega
def sp_placed : SpD := fun ds m Q => ∃ (n : Nat) (its : List Item), ds = [encL n its] ∧ wfL n its ∧ Q (.lst (plD n its 0)) m
section
variable {P : Program} {w : World} {K : PySem.W.Frag} {mg : Str → Option Value} {base : Heap}
theorem sc_placed : FnScope ["layout", "found", "at", "item"] ["layout"] (defScope s_placed) := ⟨rfl, rfl, rfl, by decide +kernel, rfl, by decide +kernel, by decide +kernel⟩
theorem cal_placed  (D0 : Def K mg "placed" s_placed) (B : Blt mg) (gC : ∃ a, mg "COMPOSITES" = some (.ref a) ∧ ∀ H : Hp, SqT K H a [.str "array", .str "list", .str "choice", .str "record"]) (c_fields : Cal P w K mg base "fields" (2) ["item"] (up K 1 sp_fields))  : Cal P w K mg base "placed" (3) ["layout"] (up K 1 sp_placed) := by
  obtain ⟨aC, gC1, gC2⟩ := gC
  refine D0.cal (N := ["layout", "found", "at", "item"]) (k := 2) sc_placed [none, none, none] rfl (fun _ _ _ _ _ _ us hl => match us, hl with | [_], _ => rfl) (fun f cdv A outer s H E hr => ⟨_, _,
(dss_cons (ds_set (i := 1) sc_placed.nd rfl (.inl rfl) (de_new da_nil))
(dss_cons (ds_set (i := 2) sc_placed.nd rfl (.inl rfl) de_int)
(dss_cons (ds_for PassesOwn.never rfl (di_seq (dv 0)) (dg_name (i := 3) sc_placed.nd rfl (.inl rfl))
(dss_cons (ds_expr (de_append (dv 1) (de_tup (da_cons (dv 3) (da_cons (dv 2) da_nil)))))
(dss_one (ds_if (dt_eq (de_ix (dv 3) de_int) de_str)
(dss_one (ds_set (i := 2) sc_placed.nd rfl (.inl rfl) (de_add (dv 2) (de_cb rLen' call_len_seq sc_len (by rfl) B.len bt_len (da_cons (de_call c_fields (hr.mono (by first | decide | omega)) (by rfl) (da_cons (dv 3) da_nil)) da_nil)))))
(dss_one (ds_if (dt_in (de_ix (dv 3) de_int) (de_glob (v := .ref aC) (d := .tup compsD) (by rfl) gC1 rfl (compsD_is gC2)))
(dss_one (ds_set (i := 2) sc_placed.nd rfl (.inl rfl) (de_add (dv 2) de_int)))
dss_nil))))))
(dss_one (ds_retF (dv 1)))))),
    fun ds m Q hl hs => ?_⟩)
  -- slots: 0 layout 1 found 2 at 3 item
  obtain ⟨n, its, rfl, ⟨hl1, hw⟩, q⟩ := hs
  refine ⟨Nat.zero_le _, fun p hp => ?_⟩
  refine loop_map (fun pp g' m' => ∃ y : Option D, g' = [some (encL n its), some (.adr p), some (.int (nmL pp : Nat)), y] ∧ m' = mset m p (plD n pp 0)) ⟨none, rfl, rfl⟩ (fun _ _ _ _ => trivial) (fun pre x post g' m' hd hI => ?_) (fun g' m' hI => ?_)
  · obtain ⟨y, rfl, rfl⟩ := hI
    have hm : x ∈ its := by
      rw [hd]
      exact List.mem_append_right _ List.mem_cons_self
    have hx := hw x hm
    have e2 : plD n (pre ++ [x]) 0 = plD n pre 0 ++ [.tup [encI n x, .int (nmL pre : Nat)]] := by
      rw [plD_app]
      show _ ++ [D.tup [encI n x, .int ((0 + nmL pre : Nat) : Int)]] = _
      rw [Nat.zero_add]
    have hl2 : pre.length ≤ 1000 := by
      have := congrArg List.length hd
      rw [List.length_append, List.length_cons] at this
      omega
    rw [e2, nmL_app]
    refine ⟨⟨_, mset_same⟩, szr rfl, _, mset_same, szl (by rw [plD_len]; omega), ?_⟩
    rw [mset_mset]
    cases x with
    | word wd ps =>
      have hps := ps_le hx
      have z : ((((nmL pre : Nat) : Int) + ((fldD (8 * wd.size : Nat) ps).length : Nat)) : Int) = ((nmL pre + nm (.word wd ps) : Nat) : Int) := by
        rw [fldD_nm]
        rfl
      rw [encI_word]
      walk_at "dl"
      refine ifT (by first | rfl | decide +kernel) ?_
      refine ⟨rfl, n, wd, ps, by rw [encI_word], by omega, ?_⟩
      exact ⟨_, congrArg (fun i => [some (encL n its), some (.adr p), some (.int i), some _]) z, rfl⟩
    | lit data =>
      rw [encI_lit]
      walk_at "dl"
      refine ifF ne_ ⟨["array", "list", "choice", "record"], rfl, ifF (by decide +kernel) ⟨_, rfl, rfl⟩⟩
    | res k =>
      rw [encI_res]
      walk_at "dl"
      refine ifF ne_ ⟨["array", "list", "choice", "record"], rfl, ifF (by decide +kernel) ⟨_, rfl, rfl⟩⟩
    | chk b =>
      rw [encI_chk]
      walk_at "dl"
      refine ifF ne_ ⟨["array", "list", "choice", "record"], rfl, ifF (by decide +kernel) ⟨_, rfl, rfl⟩⟩
    | arr nm' wd sg c rg df =>
      rw [encI_arr]
      walk_at "dl"
      refine ifF ne_ ⟨["array", "list", "choice", "record"], rfl, ifT (by decide +kernel) ⟨_, rfl, rfl⟩⟩
    | list nm' c is =>
      cases n with
      | zero => exact hx.elim
      | succ n =>
        unfold encI
        walk_at "dl"
        exact ifF ne_ ⟨["array", "list", "choice", "record"], rfl, ifT (by decide +kernel) ⟨_, rfl, rfl⟩⟩
    | choice nm' wd cs =>
      cases n with
      | zero => exact hx.elim
      | succ n =>
        unfold encI
        walk_at "dl"
        exact ifF ne_ ⟨["array", "list", "choice", "record"], rfl, ifT (by decide +kernel) ⟨_, rfl, rfl⟩⟩
    | rcd nm' is =>
      cases n with
      | zero => exact hx.elim
      | succ n =>
        unfold encI
        walk_at "dl"
        exact ifF ne_ ⟨["array", "list", "choice", "record"], rfl, ifT (by decide +kernel) ⟨_, rfl, rfl⟩⟩
  · obtain ⟨y, rfl, rfl⟩ := hI
    refine ⟨_, mset_same, ?_⟩
    rw [mdel_mset hp]
    exact q
end
end BB

namespace BB
open PySem PySem.Spec PyProof.Rows L2
local macro_rules | `(tactic| walk_at "dl") => `(tactic| simp only [dIfS, dIfE, dTest, dOp, dVar, dC, dIx, dEq, dNe, dI, dIc, dIsN, dNotN, isNonD, dAndT, dOrT, dNotT, dAndV, dNeg, dAdd, dTup, dLst, dCons, dNil, dCB, dCall, dLc, true_and, dLen, dInt1, dInt2, withSeq, with1_1, onSome_some, atI_0, atI_1, atI_2, atI_3, atI_4, atI_5, atI_6, List.getElem?_cons_succ, List.getElem?_cons_zero, List.set_cons_zero, List.set_cons_succ, gdN, Part.enc, encN, Bool.not_true, Bool.not_false, mapS_cons, mapS_nil, List.length_cons, List.length_nil, List.cons_append, List.nil_append, gdTup, gdCons, gdNil, dAppend, dExtend, dListF, dTupOf, dMul, dSl, dNoP, dPart])
local macro_rules | `(tactic| walk_at "dr") => `(tactic| simp only [dSeq, dAsg, dRet, dRetW, dDrop, dNext, dFor, diSeq, dIfS, dIfE, dTest, dOp, dVar, dC, dIx, dEq, dNe, dI, dIc, dIsN, dNotN, isNonD, dAndT, dOrT, dNotT, dAndV, dNeg, dAdd, dTup, dLst, dCons, dNil, dCB, dCall, dLc, true_and, dLen, dInt1, dInt2, withSeq, with1_1, onSome_some, atI_0, atI_1, atI_2, atI_3, atI_4, atI_5, atI_6, List.getElem?_cons_succ, List.getElem?_cons_zero, List.set_cons_zero, List.set_cons_succ, gdN, Part.enc, encN, Bool.not_true, Bool.not_false, mapS_cons, mapS_nil, List.length_cons, List.length_nil, List.cons_append, List.nil_append, gdTup, gdCons, gdNil, dAppend, dExtend, dListF, dTupOf, dMul, dSl, dNoP, dPart])

def sp_count_of : SpD := fun ds m Q => ∃ (n : Nat) (it : Item), isSeq it ∧ ds = [encI (n + 1) it] ∧ Q (cntOf it).enc m
def sp_element_layout : SpD := fun ds m Q => ∃ (n : Nat) (it : Item), isSeq it ∧ ds = [encI (n + 1) it] ∧ Q (encL n (elemItems it)) m
def sp_wrap : SpD := fun ds m Q => ∃ (n : Nat) (it : Item) (d : D), isSeq it ∧ ds = [encI (n + 1) it, d] ∧ Q (wrapD it d) m
def sp_case_named : SpD := fun ds m Q => ∃ (n : Nat) (nm : Str) (wd : Wd) (cs : List (Int × Str × List Item)) (c : Int × Str × List Item), ds = [encI (n + 1) (.choice nm wd cs), .str c.2.1] ∧ c ∈ cs ∧ (cs.map fun c => c.2.1).Nodup ∧ Q (encC n c) m
def sp_ones : SpD := fun ds m Q => ∃ w : Nat, ds = [.int w] ∧ w ≤ 1000 ∧ Q (.int ((2 ^ w - 1 : Nat) : Int)) m
def sp_code_of : SpD := fun ds m Q => ∃ (i : Int) (w : Nat), ds = [.int i, .int w] ∧ w ≤ 1000 ∧ -(2 ^ w) ≤ i ∧ i < 2 ^ w ∧ Q (.int (modW i w : Nat)) m
def sp_first_bits : SpD := fun ds m Q => ∃ wd : Wd, ds = [.str wd.name] ∧ Q (.lst (wd.lows.map fun k => D.int (k : Nat))) m
def natsD (ns : List Nat) : List D := ns.map fun k => D.int (k : Nat)
def sp_agreement : SpD := fun ds m Q => ∃ (w : Nat) (cs : List Nat), ds = [.lst (natsD cs), .int w] ∧ w ≤ 1000 ∧ cs ≠ [] ∧ Q (.tup [.int (agrK w cs : Nat), .int (andL cs : Nat)]) m
def sp_common_bits : SpD := fun ds m Q => ∃ (w : Nat) (is : List Int) (Kn C : Nat) (e : D), ds = [e, .int w] ∧ w ≤ 1000 ∧ is ≠ [] ∧ SetIs w is Kn C e ∧ Q (.tup [.int Kn, .int C]) m
def sp_check_byte : SpD := fun ds m Q => ∃ (x : Bool) (p : Addr) (o : List Int), ds = [.str (chkS x), .adr p] ∧ m p = some (o.map D.int) ∧ Q (.int (chkB x o)) m
theorem two_pow_nat (w : Nat) : ((2 : Int) ^ w) = ((2 ^ w : Nat) : Int) := by
  rw [Int.natCast_pow]
  rfl
theorem modW_nn {i : Int} {w : Nat} (h0 : 0 ≤ i) (h1 : i < 2 ^ w) : ((modW i w : Nat) : Int) = i := by
  unfold modW
  rw [Int.emod_eq_of_lt h0 h1, Int.toNat_of_nonneg h0]
theorem modW_neg {i : Int} {w : Nat} (h0 : i < 0) (h1 : -(2 ^ w) ≤ i) : ((modW i w : Nat) : Int) = i + 2 ^ w := by
  unfold modW
  have e : i % 2 ^ w = i + 2 ^ w := by
    rw [← Int.add_emod_right, Int.emod_eq_of_lt (by omega) (by omega)]
  rw [e, Int.toNat_of_nonneg (by omega)]
theorem powlit (w : Nat) : (1 : Int) * 2 ^ ((w : Int)).toNat = 2 ^ w := by
  rw [Int.one_mul, Int.toNat_natCast]
theorem ones_cast (w : Nat) : (2 : Int) ^ w - 1 = ((2 ^ w - 1 : Nat) : Int) := by
  have h : 0 < 2 ^ w := Nat.two_pow_pos w
  rw [two_pow_nat]
  omega
theorem cpow1 {w : Nat} (h : w ≤ 1000) : CPow 1 (w : Int) := ⟨by omega, by omega, by decide⟩
section
variable {P : Program} {w : World} {K : PySem.W.Frag} {mg : Str → Option Value} {base : Heap}
theorem sc_count_of : FnScope ["item"] ["item"] (defScope s_count_of) := ⟨rfl, rfl, rfl, by decide +kernel, rfl, by decide +kernel, by decide +kernel⟩
theorem cal_count_of  (D0 : Def K mg "count_of" s_count_of) (B : Blt mg)   : Cal P w K mg base "count_of" (1) ["item"] (up K 1 sp_count_of) := by
  refine D0.cal (N := ["item"]) (k := 0) sc_count_of [] rfl (fun _ _ _ _ _ _ us hl => match us, hl with | [_], _ => rfl) (fun f cdv A outer s H E hr => ⟨_, _,
(dss_cons (ds_if (dt_eq (de_ix (dv 0) de_int) de_str)
(dss_one (ds_ret (de_ix (dv 0) de_int)))
dss_nil)
(dss_one (ds_ret (de_ix (dv 0) de_int)))),
    fun ds m Q hl hs => ?_⟩)
  -- slots: 0 item
  obtain ⟨n, it, hq, rfl, q⟩ := hs
  cases it with
  | arr nm' wd sg c rg df =>
    rw [encI_arr]
    walk_at "dr"
    exact q
  | list nm' c is =>
    rw [encI_list]
    walk_at "dr"
    exact ifF ne_ q
  | _ => exact hq.elim
theorem sc_element_layout : FnScope ["item", "part"] ["item"] (defScope s_element_layout) := ⟨rfl, rfl, rfl, by decide +kernel, rfl, by decide +kernel, by decide +kernel⟩
theorem cal_element_layout  (D0 : Def K mg "element_layout" s_element_layout) (B : Blt mg) (c_word_size : Cal P w K mg base "word_size" (1) ["word"] (up K 1 sp_word_size))  : Cal P w K mg base "element_layout" (2) ["item"] (up K 1 sp_element_layout) := by
  refine D0.cal (N := ["item", "part"]) (k := 1) sc_element_layout [none] rfl (fun _ _ _ _ _ _ us hl => match us, hl with | [_], _ => rfl) (fun f cdv A outer s H E hr => ⟨_, _,
(dss_cons (ds_if (dt_eq (de_ix (dv 0) de_int) de_str)
(dss_cons (ds_set (i := 1) sc_element_layout.nd rfl (.inl rfl) (de_tup (da_cons de_str (da_cons (de_mul de_int (de_call c_word_size (hr.mono (by first | decide | omega)) (by rfl) (da_cons (de_ix (dv 0) de_int) da_nil))) (da_cons (de_ix (dv 0) de_int) (da_cons (de_ix (dv 0) de_int) (da_cons (de_ix (dv 0) de_int) da_nil)))))))
(dss_one (ds_ret (de_tup (da_cons (de_tup (da_cons de_str (da_cons (de_ix (dv 0) de_int) (da_cons (de_tup (da_cons (dv 1) da_nil)) da_nil)))) da_nil)))))
dss_nil)
(dss_one (ds_ret (de_ix (dv 0) de_int)))),
    fun ds m Q hl hs => ?_⟩)
  -- slots: 0 item 1 part
  obtain ⟨n, it, hq, rfl, q⟩ := hs
  cases it with
  | arr nm' wd sg c rg df =>
    rw [encI_arr]
    walk_at "dr"
    refine ⟨wd, rfl, ?_⟩
    walk_at "dl"
    refine ⟨.inl ⟨by decide, by decide⟩, szr rfl, szr rfl, szr rfl, szr rfl, ?_⟩
    have q' : Q (.tup [encI n (.word wd [⟨some "", 8 * wd.size, sg, rg, df⟩])]) m := q
    rw [encI_word] at q'
    exact q'
  | list nm' c is =>
    rw [encI_list]
    walk_at "dr"
    exact ifF ne_ q
  | _ => exact hq.elim
theorem sc_wrap : FnScope ["item", "element"] ["item", "element"] (defScope s_wrap) := ⟨rfl, rfl, rfl, by decide +kernel, rfl, by decide +kernel, by decide +kernel⟩
theorem cal_wrap  (D0 : Def K mg "wrap" s_wrap) (B : Blt mg)   : Cal P w K mg base "wrap" (1) ["item", "element"] (up K 2 sp_wrap) := by
  refine D0.cal (N := ["item", "element"]) (k := 0) sc_wrap [] rfl (fun _ _ _ _ _ _ us hl => match us, hl with | [_, _], _ => rfl) (fun f cdv A outer s H E hr => ⟨_, _,
(dss_cons (ds_if (dt_eq (de_ix (dv 0) de_int) de_str)
(dss_one (ds_ret (de_tup (da_cons (dv 1) da_nil))))
dss_nil)
(dss_one (ds_ret (dv 1)))),
    fun ds m Q hl hs => ?_⟩)
  -- slots: 0 item 1 element
  obtain ⟨n, it, d, hq, rfl, q⟩ := hs
  cases it with
  | arr nm' wd sg c rg df =>
    rw [encI_arr]
    walk_at "dr"
    exact ⟨szr rfl, q⟩
  | list nm' c is =>
    rw [encI_list]
    walk_at "dr"
    exact ifF ne_ q
  | _ => exact hq.elim
theorem sc_case_named : FnScope ["item", "name", "case"] ["item", "name"] (defScope s_case_named) := ⟨rfl, rfl, rfl, by decide +kernel, rfl, by decide +kernel, by decide +kernel⟩
theorem cal_case_named  (D0 : Def K mg "case_named" s_case_named) (B : Blt mg)   : Cal P w K mg base "case_named" (1) ["item", "name"] (up K 2 sp_case_named) := by
  refine D0.cal (N := ["item", "name", "case"]) (k := 0) sc_case_named [none] rfl (fun _ _ _ _ _ _ us hl => match us, hl with | [_, _], _ => rfl) (fun f cdv A outer s H E hr => ⟨_, _,
(dss_cons (ds_for PassesOwn.never rfl (di_seq (de_ix (dv 0) de_int)) (dg_name (i := 2) sc_case_named.nd rfl (.inl rfl))
(dss_one (ds_if (dt_eq (de_ix (dv 2) de_int) (dv 1))
(dss_one (ds_ret (dv 2)))
dss_nil)))
(dss_one (ds_ret de_non))),
    fun ds m Q hl hs => ?_⟩)
  -- slots: 0 item 1 name 2 case
  obtain ⟨n, nm', wd, cs, c, rfl, hc, hn, q⟩ := hs
  rw [encI_choice]
  refine loop_map (f := encC' n) (fun pp g' m' => ∃ y : Option D, g' = [some (.tup [.str "choice", .str nm', .str wd.name, .tup (cs.map (encC' n))]), some (.str c.2.1), y] ∧ m' = m ∧ ∀ c' ∈ pp, c'.2.1 ≠ c.2.1) ⟨none, rfl, rfl, fun _ h => nomatch h⟩ (fun _ _ _ _ => trivial) (fun pre x post g' m' hd hI => ?_) (fun g' m' hI => ?_)
  · obtain ⟨y, rfl, rfl, hI⟩ := hI
    unfold encC'
    walk_at "dr"
    refine ifD (fun h => ?_) (fun h => ⟨_, rfl, fun c' hc' => ?_⟩)
    · have ex : x = c := by
        have hx : x ∈ cs := by
          rw [hd]
          exact List.mem_append_right _ List.mem_cons_self
        obtain ⟨i, hi, ei⟩ := List.mem_iff_getElem.mp hx
        obtain ⟨j, hj, ej⟩ := List.mem_iff_getElem.mp hc
        have hij : i = j := nd_ix hn (i := i) (j := j) (x := x.2.1) (by rw [List.getElem?_map, List.getElem?_eq_getElem hi, ei] <;> rfl) (by rw [List.getElem?_map, List.getElem?_eq_getElem hj, ej, h] <;> rfl)
        subst hij
        exact ei.symm.trans ej
      subst ex
      exact q
    · rcases List.mem_append.mp hc' with z | z
      · exact hI c' z
      · rw [List.mem_singleton.mp z]
        exact h
  · obtain ⟨y, rfl, rfl, hI⟩ := hI
    exact absurd rfl (hI c hc)
theorem sc_ones : FnScope ["width"] ["width"] (defScope s_ones) := ⟨rfl, rfl, rfl, by decide +kernel, rfl, by decide +kernel, by decide +kernel⟩
theorem cal_ones  (D0 : Def K mg "ones" s_ones) (B : Blt mg)   : Cal P w K mg base "ones" (1) ["width"] (up K 1 sp_ones) := by
  refine D0.cal (N := ["width"]) (k := 0) sc_ones [] rfl (fun _ _ _ _ _ _ us hl => match us, hl with | [_], _ => rfl) (fun f cdv A outer s H E hr => ⟨_, _,
(dss_one (ds_ret (de_sub (de_shl de_int (dv 0)) de_int))),
    fun ds m Q hl hs => ?_⟩)
  -- slots: 0 width
  obtain ⟨k, rfl, hk, q⟩ := hs
  refine ⟨cpow1 hk, ?_⟩
  rw [← ones_cast] at q
  have e := powlit k
  show Q (.int (1 * 2 ^ ((k : Int)).toNat - 1)) m
  rw [e]
  exact q
theorem sc_code_of : FnScope ["number", "width"] ["number", "width"] (defScope s_code_of) := ⟨rfl, rfl, rfl, by decide +kernel, rfl, by decide +kernel, by decide +kernel⟩
theorem cal_code_of  (D0 : Def K mg "code_of" s_code_of) (B : Blt mg)   : Cal P w K mg base "code_of" (1) ["number", "width"] (up K 2 sp_code_of) := by
  refine D0.cal (N := ["number", "width"]) (k := 0) sc_code_of [] rfl (fun _ _ _ _ _ _ us hl => match us, hl with | [_, _], _ => rfl) (fun f cdv A outer s H E hr => ⟨_, _,
(dss_cons (ds_if (dt_lt (dv 0) de_int)
(dss_one (ds_ret (de_add (dv 0) (de_shl de_int (dv 1)))))
dss_nil)
(dss_one (ds_ret (dv 0)))),
    fun ds m Q hl hs => ?_⟩)
  -- slots: 0 number 1 width
  obtain ⟨i, k, rfl, hk, h1, h2, q⟩ := hs
  walk_at "dr"
  refine ifD (fun h => ⟨cpow1 hk, ?_⟩) (fun h => ?_)
  · rw [modW_neg h h1] at q
    show Q (.int (i + 1 * 2 ^ ((k : Int)).toNat)) m
    rw [powlit]
    exact q
  · rw [modW_nn (by omega) h2] at q
    exact q
theorem sc_first_bits : FnScope ["word", "lows", "k"] ["word"] (defScope s_first_bits) := ⟨rfl, rfl, rfl, by decide +kernel, rfl, by decide +kernel, by decide +kernel⟩
theorem cal_first_bits  (D0 : Def K mg "first_bits" s_first_bits) (B : Blt mg) (c_word_size : Cal P w K mg base "word_size" (1) ["word"] (up K 1 sp_word_size))  : Cal P w K mg base "first_bits" (2) ["word"] (up K 1 sp_first_bits) := by
  refine D0.cal (N := ["word", "lows", "k"]) (k := 1) sc_first_bits [none, none] rfl (fun _ _ _ _ _ _ us hl => match us, hl with | [_], _ => rfl) (fun f cdv A outer s H E hr => ⟨_, _,
(dss_cons (ds_setLc (i := 1) (own := [("k", 2)]) rfl sc_first_bits.nd rfl rfl (sw_true rfl rfl rfl (by decide +kernel)) (di_rg1 (by rfl) B.range (de_call c_word_size (hr.mono (by first | decide | omega)) (by rfl) (da_cons (dv 0) da_nil))) (blkOk_by (N := ["word", "lows", "k"]) (sc := defScope s_first_bits) (own := [("k", 2)]) (by decide +kernel)) (fun _ _ _ _ _ => (dg_name (i := 2) sc_first_bits.nd rfl (.inl rfl))) (keepN 2) (fun _ _ _ _ _ => dts_nil) (fun _ _ _ _ _ => (de_mul de_int (dv 2))) (by intro _; rfl) s H)
(dss_cons (ds_if (dt_val (de_ends (dv 0) de_str))
(dss_one (ds_ret (de_revL (dv 1))))
dss_nil)
(dss_one (ds_ret (dv 1))))),
    fun ds m Q hl hs => ?_⟩)
  -- slots: 0 word 1 lows 2 k
  obtain ⟨wd, rfl, q⟩ := hs
  have e1 : ((rgI 0 (wd.size : Nat)).map fun i => 8 * i) = (List.range wd.size).map fun k => ((8 * k : Nat) : Int) := by
    unfold rgI
    rw [List.map_map, Int.sub_zero, Int.toNat_natCast]
    refine List.map_congr_left fun k _ => ?_
    show 8 * (0 + (k : Int)) = ((8 * k : Nat) : Int)
    omega
  refine ⟨rfl, wd, rfl, ?_⟩
  have hw := wd_le wd
  refine ⟨by omega, by omega, lc_pure (f := D.int) (fun i : Int => D.int (8 * i)) (by rw [rgI_len]; omega) (fun x hx m1 R hm hR => ⟨.inl ⟨by decide, by decide⟩, hR⟩) ?_⟩
  have e2 : (rgI 0 (wd.size : Nat)).map (fun i : Int => D.int (8 * i)) = (List.range wd.size).map fun k => D.int ((8 * k : Nat) : Int) := by
    have := congrArg (List.map D.int) e1
    rw [List.map_map, List.map_map] at this
    exact this
  have e3 : (wd.lows.map fun k => D.int (k : Nat)) = if wd.be then ((List.range wd.size).map fun k => D.int ((8 * k : Nat) : Int)).reverse else (List.range wd.size).map fun k => D.int ((8 * k : Nat) : Int) := by
    unfold Wd.lows
    cases wd.be with
    | true => rw [if_pos rfl, if_pos rfl, List.map_reverse, List.map_map] <;> rfl
    | false => rw [if_neg Bool.false_ne_true, if_neg Bool.false_ne_true, List.map_map] <;> rfl
  rw [e2]
  rw [e3] at q
  have e4 : Txt.endswith wd.name "be" = wd.be := by cases wd <;> decide +kernel
  show if (Txt.endswith wd.name "be") = true then Q (.lst (((List.range wd.size).map fun k => D.int ((8 * k : Nat) : Int)).reverse)) m else Q (.lst ((List.range wd.size).map fun k => D.int ((8 * k : Nat) : Int))) m
  rw [e4]
  cases hb : wd.be with
  | true =>
    rw [hb, if_pos rfl] at q
    rw [if_pos rfl]
    exact q
  | false =>
    rw [hb, if_neg Bool.false_ne_true] at q
    rw [if_neg Bool.false_ne_true]
    exact q
theorem sc_agreement : FnScope ["codes", "width", "in_all", "in_some", "code"] ["codes", "width"] (defScope s_agreement) := ⟨rfl, rfl, rfl, by decide +kernel, rfl, by decide +kernel, by decide +kernel⟩
theorem cal_agreement  (D0 : Def K mg "agreement" s_agreement) (B : Blt mg) (c_ones : Cal P w K mg base "ones" (1) ["width"] (up K 1 sp_ones))  : Cal P w K mg base "agreement" (2) ["codes", "width"] (up K 2 sp_agreement) := by
  refine D0.cal (N := ["codes", "width", "in_all", "in_some", "code"]) (k := 1) sc_agreement [none, none, none] rfl (fun _ _ _ _ _ _ us hl => match us, hl with | [_, _], _ => rfl) (fun f cdv A outer s H E hr => ⟨_, _,
(dss_cons (ds_set (i := 2) sc_agreement.nd rfl (.inl rfl) (de_ix (dv 0) de_int))
(dss_cons (ds_set (i := 3) sc_agreement.nd rfl (.inl rfl) (de_ix (dv 0) de_int))
(dss_cons (ds_for PassesOwn.never rfl (di_seq (dv 0)) (dg_name (i := 4) sc_agreement.nd rfl (.inl rfl))
(dss_cons (ds_set (i := 2) sc_agreement.nd rfl (.inl rfl) (de_and (dv 2) (dv 4)))
(dss_one (ds_set (i := 3) sc_agreement.nd rfl (.inl rfl) (de_or (dv 3) (dv 4))))))
(dss_one (ds_ret (de_tup (da_cons (de_xor (de_xor (de_call c_ones (hr.mono (by first | decide | omega)) (by rfl) (da_cons (dv 1) da_nil)) (dv 2)) (dv 3)) (da_cons (dv 2) da_nil)))))))),
    fun ds m Q hl hs => ?_⟩)
  -- slots: 0 codes 1 width 2 in_all 3 in_some 4 code
  obtain ⟨k, cs, rfl, hk, hne, q⟩ := hs
  obtain ⟨c0, r, rfl⟩ : ∃ c0 r, cs = c0 :: r := by
    cases cs with
    | nil => exact absurd rfl hne
    | cons c0 r => exact ⟨c0, r, rfl⟩
  unfold natsD
  walk_at "dr"
  refine loop_map (f := fun k : Nat => D.int (k : Nat)) (fun pp g' m' => ∃ y : Option D, g' = [some (.lst (natsD (c0 :: r))), some (.int k), some (.int (pp.foldl (fun x y => x &&& y) c0 : Nat)), some (.int (pp.foldl (fun x y => x ||| y) c0 : Nat)), y] ∧ m' = m) ⟨none, rfl, rfl⟩ (fun _ _ _ _ => trivial) (fun pre x post g' m' hd hI => ?_) (fun g' m' hI => ?_)
  · obtain ⟨y, rfl, rfl⟩ := hI
    have e1 : Builtin.bitAnd ((pre.foldl (fun x y => x &&& y) c0 : Nat) : Int) (x : Nat) = (((pre ++ [x]).foldl (fun x y => x &&& y) c0 : Nat) : Int) := by
      rw [PyProof.Rows.bitAnd_pp (Int.natCast_nonneg _) (Int.natCast_nonneg _), List.foldl_append] <;> rfl
    have e2 : Builtin.bitOr ((pre.foldl (fun x y => x ||| y) c0 : Nat) : Int) (x : Nat) = (((pre ++ [x]).foldl (fun x y => x ||| y) c0 : Nat) : Int) := by
      rw [Bits.bitOr_pp (Int.natCast_nonneg _) (Int.natCast_nonneg _), List.foldl_append] <;> rfl
    rw [← e1, ← e2]
    exact ⟨_, rfl, rfl⟩
  · obtain ⟨y, rfl, rfl⟩ := hI
    refine ⟨rfl, k, rfl, hk, szr rfl, ?_⟩
    have e1 : Builtin.bitXor (Builtin.bitXor ((2 ^ k - 1 : Nat) : Int) ((andL (c0 :: r) : Nat) : Int)) ((orL (c0 :: r) : Nat) : Int) = ((agrK k (c0 :: r) : Nat) : Int) := by
      rw [Bits.bitXor_pp (Int.natCast_nonneg _) (Int.natCast_nonneg _), Bits.bitXor_pp (Int.natCast_nonneg _) (Int.natCast_nonneg _)]
      rfl
    rw [← e1] at q
    exact q
theorem sc_common_bits : FnScope ["entry", "width", "number"] ["entry", "width"] (defScope s_common_bits) := ⟨rfl, rfl, rfl, by decide +kernel, rfl, by decide +kernel, by decide +kernel⟩
theorem cal_common_bits  (D0 : Def K mg "common_bits" s_common_bits) (B : Blt mg) (c_agreement : Cal P w K mg base "agreement" (2) ["codes", "width"] (up K 2 sp_agreement)) (c_code_of : Cal P w K mg base "code_of" (1) ["number", "width"] (up K 2 sp_code_of))  : Cal P w K mg base "common_bits" (3) ["entry", "width"] (up K 2 sp_common_bits) := by
  refine D0.cal (N := ["entry", "width", "number"]) (k := 2) sc_common_bits [none] rfl (fun _ _ _ _ _ _ us hl => match us, hl with | [_, _], _ => rfl) (fun f cdv A outer s H E hr => ⟨_, _,
(dss_cons (ds_if (dt_eq (de_ix (dv 0) de_int) de_str)
(dss_one (ds_ret (de_tup (da_cons (de_ix (dv 0) de_int) (da_cons (de_ix (dv 0) de_int) da_nil)))))
dss_nil)
(dss_one (ds_ret (de_call c_agreement (hr.mono (by first | decide | omega)) (by rfl) (da_cons (de_lc (own := [("number", 2)]) rfl sc_common_bits.nd (di_seq (de_ix (dv 0) de_int)) (blkOk_by (N := ["entry", "width", "number"]) (sc := defScope s_common_bits) (own := [("number", 2)]) (by decide +kernel)) (fun _ _ _ _ _ => (dg_name (i := 2) sc_common_bits.nd rfl (.inl rfl))) (keepN 2) (fun _ _ _ _ _ => dts_nil) (fun _ _ _ _ _ => (de_call c_code_of (hr.mono (by first | decide | omega)) (by rfl) (da_cons (dv 2) (da_cons (dv 1) da_nil)))) (by intro _; rfl) s H) (da_cons (dv 1) da_nil)))))),
    fun ds m Q hl hs => ?_⟩)
  -- slots: 0 entry 1 width 2 number
  obtain ⟨k, is, Kn, C, e, rfl, hk, hne, he, q⟩ := hs
  cases he with
  | bits =>
    walk_at "dr"
    exact ⟨szr rfl, q⟩
  | among ns hm hf hK hC hl =>
    walk_at "dr"
    refine ifF ne_ (lc_pure (f := D.int) (xs := ns) (fun i : Int => D.int (modW i k : Nat)) (by omega) (fun x hx m1 R _ hR => ⟨rfl, x, k, rfl, hk, (hf x hx).1, (hf x hx).2, hR⟩) ?_)
    have e1 : ns.map (fun i : Int => D.int (modW i k : Nat)) = natsD (ns.map fun n => modW n k) := by
      unfold natsD
      rw [List.map_map]
      rfl
    rw [e1]
    refine ⟨k, _, rfl, hk, fun z => ?_, ?_⟩
    · obtain ⟨i, hi⟩ := List.exists_mem_of_ne_nil is hne
      have := (hm i).mpr hi
      rw [List.map_eq_nil_iff.mp z] at this
      cases this
    · rw [← hK, ← hC]
      exact q
theorem sc_check_byte : FnScope ["method", "data", "found", "byte"] ["method", "data"] (defScope s_check_byte) := ⟨rfl, rfl, rfl, by decide +kernel, rfl, by decide +kernel, by decide +kernel⟩
theorem cal_check_byte  (D0 : Def K mg "check_byte" s_check_byte) (B : Blt mg)   : Cal P w K mg base "check_byte" (1) ["method", "data"] (up K 2 sp_check_byte) := by
  refine D0.cal (N := ["method", "data", "found", "byte"]) (k := 0) sc_check_byte [none, none] rfl (fun _ _ _ _ _ _ us hl => match us, hl with | [_, _], _ => rfl) (fun f cdv A outer s H E hr => ⟨_, _,
(dss_cons (ds_if (dt_eq (dv 0) de_str)
(dss_one (ds_ret (de_mod (de_cb rSum (cr_sum rfl) sc_sum (by rfl) B.sum bt_sum (da_cons (dv 1) da_nil)) de_int)))
dss_nil)
(dss_cons (ds_set (i := 2) sc_check_byte.nd rfl (.inl rfl) de_int)
(dss_cons (ds_for PassesOwn.never rfl (di_seq (dv 1)) (dg_name (i := 3) sc_check_byte.nd rfl (.inl rfl))
(dss_one (ds_set (i := 2) sc_check_byte.nd rfl (.inl rfl) (de_xor (dv 2) (dv 3)))))
(dss_one (ds_ret (dv 2)))))),
    fun ds m Q hl hs => ?_⟩)
  -- slots: 0 method 1 data 2 found 3 byte
  obtain ⟨x, p, o, rfl, hp, q⟩ := hs
  cases x with
  | false =>
    walk_at "dr"
    exact ⟨o, hp, (by decide : (0 : Int) < 256), q⟩
  | true =>
    walk_at "dr"
    refine ifF ne_ ⟨_, hp, loop_map (f := D.int) (fun pp g' m' => ∃ y : Option D, g' = [some (.str "xor"), some (.adr p), some (.int (pp.foldl Builtin.bitXor 0)), y] ∧ m' = m) ⟨none, rfl, rfl⟩ (fun _ _ _ h => by obtain ⟨_, _, rfl⟩ := h; exact hp) (fun pre x post g' m' hd hI => ?_) (fun g' m' hI => ?_)⟩
    · obtain ⟨y, rfl, rfl⟩ := hI
      refine ⟨some (.int x), ?_, rfl⟩
      rw [List.foldl_append] <;> rfl
    · obtain ⟨y, rfl, rfl⟩ := hI
      exact q
end
end BB

namespace BB
open PySem PySem.Spec PyProof.Rows L2
local macro_rules | `(tactic| walk_at "dl") => `(tactic| simp only [dIfS, dIfE, dTest, dOp, dVar, dC, dIx, dEq, dNe, dI, dIc, dIsN, dNotN, isNonD, dAndT, dOrT, dNotT, dAndV, dNeg, dAdd, dTup, dLst, dCons, dNil, dCB, dCall, dLc, true_and, dLen, dInt1, dInt2, withSeq, with1_1, onSome_some, atI_0, atI_1, atI_2, atI_3, atI_4, atI_5, atI_6, List.getElem?_cons_succ, List.getElem?_cons_zero, List.set_cons_zero, List.set_cons_succ, gdN, Part.enc, encN, Bool.not_true, Bool.not_false, mapS_cons, mapS_nil, List.length_cons, List.length_nil, List.cons_append, List.nil_append, gdTup, gdCons, gdNil, dAppend, dExtend, dListF, dTupOf, dMul, dSl, dNoP, dPart])
local macro_rules | `(tactic| walk_at "dr") => `(tactic| simp only [dSeq, dAsg, dRet, dRetW, dDrop, dNext, dFor, diSeq, dIfS, dIfE, dTest, dOp, dVar, dC, dIx, dEq, dNe, dI, dIc, dIsN, dNotN, isNonD, dAndT, dOrT, dNotT, dAndV, dNeg, dAdd, dTup, dLst, dCons, dNil, dCB, dCall, dLc, true_and, dLen, dInt1, dInt2, withSeq, with1_1, onSome_some, atI_0, atI_1, atI_2, atI_3, atI_4, atI_5, atI_6, List.getElem?_cons_succ, List.getElem?_cons_zero, List.set_cons_zero, List.set_cons_succ, gdN, Part.enc, encN, Bool.not_true, Bool.not_false, mapS_cons, mapS_nil, List.length_cons, List.length_nil, List.cons_append, List.nil_append, gdTup, gdCons, gdNil, dAppend, dExtend, dListF, dTupOf, dMul, dSl, dNoP, dPart])

/-! ## a word's fields beside its entries -/
def zq : List Part → Nat → List D → List (Nat × Part × D)
  | [], _, _ => []
  | p :: ps, low, P => match p.name with
    | none => zq ps (low - p.width) P
    | some _ => (low - p.width, p, P.headD .non) :: zq ps (low - p.width) P.tail
theorem zq_none {p : Part} {ps : List Part} {low : Nat} {P : List D} (hn : p.name = none) : zq (p :: ps) low P = zq ps (low - p.width) P := by
  show (match p.name with | none => _ | some _ => _) = _
  rw [hn]
theorem zq_some {p : Part} {ps : List Part} {low : Nat} {P : List D} {s : Str} (hn : p.name = some s) : zq (p :: ps) low P = (low - p.width, p, P.headD .non) :: zq ps (low - p.width) P.tail := by
  show (match p.name with | none => _ | some _ => _) = _
  rw [hn]
def zf (t : Nat × Part × D) : D := .tup [.tup [.int (t.1 : Nat), t.2.1.enc], t.2.2]
theorem zipD_zq : ∀ (ps : List Part) (low : Nat) (P : List D), (ps.map Part.width).sum = low → (pK ps).length ≤ P.length → zipD (fldD (low : Nat) ps) P = (zq ps low P).map zf
  | [], _, _, _, _ => rfl
  | p :: ps, low, P, h, hl => by
    obtain ⟨h1, h2⟩ := low_eq h
    have ec : ((low : Nat) : Int) - (p.width : Nat) = ((low - p.width : Nat) : Int) := by omega
    show zipD (fld1 ((low : Int) - p.width) p ++ fldD ((low : Int) - p.width) ps) P = _
    rw [ec]
    cases hn : p.name with
    | none =>
      rw [pK_none hn] at hl
      rw [zq_none hn]
      have e1 : fld1 ((low - p.width : Nat) : Int) p = [] := by
        unfold fld1
        rw [hn]
      rw [e1]
      exact zipD_zq ps _ P h1 hl
    | some s =>
      rw [pK_some hn] at hl
      rw [zq_some hn]
      have e1 : fld1 ((low - p.width : Nat) : Int) p = [.tup [.int (low - p.width : Nat), p.enc]] := by
        unfold fld1
        rw [hn]
      rw [e1]
      cases P with
      | nil => exact absurd hl (by simp)
      | cons e P =>
        have z := zipD_zq ps (low - p.width) P h1 (Nat.le_of_succ_le_succ hl)
        show D.tup [.tup [.int (low - p.width : Nat), p.enc], e] :: zipD (fldD ((low - p.width : Nat) : Int) ps) P = _
        rw [z]
        rfl
def zstp (a : Nat × Nat) (t : Nat × Part × D) : Nat × Nat := (a.1 ^^^ (((2 ^ t.2.1.width - 1) ^^^ (kcE t.2.1.width t.2.2).1) * 2 ^ t.1), a.2 ||| (kcE t.2.1.width t.2.2).2 * 2 ^ t.1)
theorem kcF_zq : ∀ (ps : List Part) (low : Nat) (P : List D) (a : Nat × Nat), kcF ps low P a = (zq ps low P).foldl zstp a
  | [], _, _, _ => rfl
  | p :: ps, low, P, a => by
    cases hn : p.name with
    | none =>
      rw [kcF_none hn, zq_none hn]
      exact kcF_zq ps _ P a
    | some s =>
      rw [kcF_some hn, zq_some hn]
      exact kcF_zq ps _ P.tail _
theorem zq_ok {n : Nat} : ∀ (ps : List Part) (low : Nat) (rows : List (List D)) (P : List D), patIn (entOf n) (pK ps) rows P → ∀ t ∈ zq ps low P, t.1 ≤ low ∧ t.2.1 ∈ ps ∧ ∃ is, IsSet t.2.1.width is t.2.2
  | [], _, _, _, _, _, ht => nomatch ht
  | p :: ps, low, rows, P, h, t, ht => by
    cases hn : p.name with
    | none =>
      rw [pK_none hn] at h
      rw [zq_none hn] at ht
      obtain ⟨z1, z2, z3⟩ := zq_ok ps _ rows P h t ht
      exact ⟨by omega, List.mem_cons_of_mem _ z2, z3⟩
    | some s =>
      rw [pK_some hn] at h
      rw [zq_some hn] at ht
      rcases List.mem_cons.mp ht with rfl | ht
      · exact ⟨Nat.sub_le _ _, List.mem_cons_self, (rows.map fun r => r.headD .non).map intD, by cases n <;> exact h.1⟩
      · obtain ⟨z1, z2, z3⟩ := zq_ok ps _ _ P.tail h.2 t ht
        exact ⟨by omega, List.mem_cons_of_mem _ z2, z3⟩
theorem wf_word {n : Nat} {w : Wd} {ps : List Part} (h : wfI n (.word w ps)) : (ps.map Part.width).sum = 8 * w.size ∧ ∀ p ∈ ps, wfP p := by cases n <;> exact h
def sp_known_word : SpD := fun ds m Q => ∃ (n : Nat) (wd : Wd) (ps : List Part) (rows : List (List D)) (P : List D), ds = [encI n (.word wd ps), .tup P] ∧ wfI n (.word wd ps) ∧ Ctx n (pK ps) rows P ∧
  Q (.tup [.int (kcF ps (8 * wd.size) P (2 ^ (8 * wd.size) - 1, 0)).1, .int (kcF ps (8 * wd.size) P (2 ^ (8 * wd.size) - 1, 0)).2]) m
def sp_append_code : SpD := fun ds m Q => ∃ (p : Addr) (wd : Wd) (K C : Nat) (o : List Int), ds = [.adr p, .str wd.name, .int K, .int C] ∧ m p = some (o.map D.int) ∧ o.length ≤ 10000 ∧ Q (.bl (cb K C wd.lows).2) (mset m p ((o ++ (cb K C wd.lows).1).map D.int))
def sp_append_number : SpD := fun ds m Q => ∃ (p : Addr) (wd : Wd) (cs : List Nat) (d : D) (o : List Int), ds = [.adr p, .str wd.name, d] ∧ (d = .tup (natsD cs) ∨ d = .lst (natsD cs)) ∧ cs ≠ [] ∧ m p = some (o.map D.int) ∧ o.length ≤ 10000 ∧
  Q (.bl (cb (agrK (8 * wd.size) cs) (andL cs) wd.lows).2) (mset m p ((o ++ (cb (agrK (8 * wd.size) cs) (andL cs) wd.lows).1).map D.int))
theorem cb_snoc {K C : Nat} : ∀ {pre : List Nat} {l : Nat} {post : List Nat}, (cb K C pre).2 = true →
    (K / 2 ^ l % 256 = 255 → cb K C (pre ++ [l]) = ((cb K C pre).1 ++ [byteAt C l], true)) ∧ (¬ K / 2 ^ l % 256 = 255 → cb K C (pre ++ l :: post) = ((cb K C pre).1, false))
  | [], l, post, _ => ⟨fun h => by
      show (if K / 2 ^ l % 256 = 255 then ([byteAt C l], true) else ([], false)) = _
      rw [if_pos h]
      rfl, fun h => by
      show (if K / 2 ^ l % 256 = 255 then _ else ([], false)) = _
      rw [if_neg h]
      rfl⟩
  | x :: pre, l, post, h => by
    have hx : K / 2 ^ x % 256 = 255 := Classical.byContradiction fun hn => by
      unfold cb at h
      rw [if_neg hn] at h
      cases h
    have e0 : ∀ r, cb K C (x :: r) = (byteAt C x :: (cb K C r).1, (cb K C r).2) := fun r => by
      show (if K / 2 ^ x % 256 = 255 then _ else _) = _
      rw [if_pos hx]
    rw [e0] at h
    obtain ⟨z1, z2⟩ := cb_snoc (pre := pre) (l := l) (post := post) h
    refine ⟨fun q => ?_, fun q => ?_⟩
    · rw [List.cons_append, e0, e0, z1 q]
      rfl
    · rw [List.cons_append, e0, e0, z2 q]
section
variable {P : Program} {w : World} {K : PySem.W.Frag} {mg : Str → Option Value} {base : Heap}
theorem sc_known_word : FnScope ["item", "entries", "known", "code", "entry", "low", "part", "bits", "common"] ["item", "entries"] (defScope s_known_word) := ⟨rfl, rfl, rfl, by decide +kernel, rfl, by decide +kernel, by decide +kernel⟩
theorem cal_known_word  (D0 : Def K mg "known_word" s_known_word) (B : Blt mg) (c_ones : Cal P w K mg base "ones" (1) ["width"] (up K 1 sp_ones)) (c_word_size : Cal P w K mg base "word_size" (1) ["word"] (up K 1 sp_word_size)) (c_fields : Cal P w K mg base "fields" (2) ["item"] (up K 1 sp_fields)) (c_common_bits : Cal P w K mg base "common_bits" (3) ["entry", "width"] (up K 2 sp_common_bits))  : Cal P w K mg base "known_word" (4) ["item", "entries"] (up K 2 sp_known_word) := by
  refine D0.cal (N := ["item", "entries", "known", "code", "entry", "low", "part", "bits", "common"]) (k := 3) sc_known_word [none, none, none, none, none, none, none] rfl (fun _ _ _ _ _ _ us hl => match us, hl with | [_, _], _ => rfl) (fun f cdv A outer s H E hr => ⟨_, _,
(dss_cons (ds_set (i := 2) sc_known_word.nd rfl (.inl rfl) (de_call c_ones (hr.mono (by first | decide | omega)) (by rfl) (da_cons (de_mul de_int (de_call c_word_size (hr.mono (by first | decide | omega)) (by rfl) (da_cons (de_ix (dv 0) de_int) da_nil))) da_nil)))
(dss_cons (ds_set (i := 3) sc_known_word.nd rfl (.inl rfl) de_int)
(dss_cons (ds_for PassesOwn.never rfl (di_zip (by rfl) B.zip (da_cons (de_call c_fields (hr.mono (by first | decide | omega)) (by rfl) (da_cons (dv 0) da_nil)) (da_cons (dv 1) da_nil))) (dg_tup rfl (dgs_cons (dg_tup rfl (dgs_cons (dg_name (i := 5) sc_known_word.nd rfl (.inl rfl)) (dgs_cons (dg_name (i := 6) sc_known_word.nd rfl (.inl rfl)) dgs_nil))) (dgs_cons (dg_name (i := 4) sc_known_word.nd rfl (.inl rfl)) dgs_nil)))
(dss_cons (ds_asg (de_call c_common_bits (hr.mono (by first | decide | omega)) (by rfl) (da_cons (dv 4) (da_cons (de_ix (dv 6) de_int) da_nil))) (dg_tup rfl (dgs_cons (dg_name (i := 7) sc_known_word.nd rfl (.inl rfl)) (dgs_cons (dg_name (i := 8) sc_known_word.nd rfl (.inl rfl)) dgs_nil))))
(dss_cons (ds_set (i := 2) sc_known_word.nd rfl (.inl rfl) (de_xor (dv 2) (de_shl (de_xor (de_call c_ones (hr.mono (by first | decide | omega)) (by rfl) (da_cons (de_ix (dv 6) de_int) da_nil)) (dv 7)) (dv 5))))
(dss_one (ds_set (i := 3) sc_known_word.nd rfl (.inl rfl) (de_or (dv 3) (de_shl (dv 8) (dv 5))))))))
(dss_one (ds_ret (de_tup (da_cons (dv 2) (da_cons (dv 3) da_nil)))))))),
    fun ds m Q hl hs => ?_⟩)
  -- slots: 0 item 1 entries 2 known 3 code 4 entry 5 low 6 part 7 bits 8 common
  obtain ⟨n, wd, ps, rows, es, rfl, hw, c, q⟩ := hs
  obtain ⟨hsum, hwf⟩ := wf_word hw
  have hps := ps_le hw
  have hz := wd_le wd
  rw [encI_word]
  have hbl : (2 : Nat) ^ (8 * wd.size) ≤ 2 ^ 32 := Nat.pow_le_pow_right (by decide) (by omega)
  refine ⟨rfl, wd, rfl, .inl ⟨by decide, by decide⟩, rfl, 8 * wd.size, by rw [Int.natCast_mul] <;> rfl, by omega, ?_⟩
  refine ⟨rfl, n, wd, ps, by rw [encI_word], by omega, ?_⟩
  walk_at "dr"
  rw [zipD_zq ps (8 * wd.size) es hsum c.len]
  refine loop_map (f := zf) (fun pp g' m' => ∃ y1 y2 y3 y4 y5 : Option D, g' = [some (.tup [.str "word", .str wd.name, .tup (ps.map Part.enc)]), some (.tup es), some (.int (pp.foldl zstp (2 ^ (8 * wd.size) - 1, 0)).1), some (.int (pp.foldl zstp (2 ^ (8 * wd.size) - 1, 0)).2), y1, y2, y3, y4, y5] ∧ m' = m) ⟨none, none, none, none, none, rfl, rfl⟩ (fun _ _ _ _ => trivial) (fun pre x post g' m' hd hI => ?_) (fun g' m' hI => ?_)
  · obtain ⟨y1, y2, y3, y4, y5, rfl, rfl⟩ := hI
    have hx : x ∈ zq ps (8 * wd.size) es := by
      rw [hd]
      exact List.mem_append_right _ List.mem_cons_self
    obtain ⟨hx1, hx2, is, hx3⟩ := zq_ok ps _ rows es c.pat x hx
    obtain ⟨lw, pt, e⟩ := x
    have hp2 : pt.width ≤ 32 := (hwf pt hx2).2
    have hB := set_kc hx3
    obtain ⟨hne, Kn, C, hb, hse⟩ := hx3
    rw [List.foldl_append]
    generalize pre.foldl zstp (2 ^ (8 * wd.size) - 1, 0) = a
    have hkc := kcE_is hse
    unfold zf
    walk_at "dr"
    refine ⟨rfl, rfl, pt.width, is, Kn, C, e, rfl, by omega, hne, hse, rfl, rfl, pt.width, rfl, by omega, ?_⟩
    have hlw : lw ≤ 32 := by
      have : lw ≤ 8 * wd.size := hx1
      omega
    have hKn : Kn < 2 ^ pt.width := hb.lt
    have hCn : C < 2 ^ pt.width := C_lt hb
    have hw32 : (2 : Nat) ^ pt.width ≤ 2 ^ 32 := Nat.pow_le_pow_right (by decide) hp2
    have h1w : 2 ^ pt.width - 1 < 2 ^ pt.width := by have := Nat.two_pow_pos pt.width; omega
    have hX := Nat.xor_lt_two_pow h1w hKn
    have eX : Builtin.bitXor ((2 ^ pt.width - 1 : Nat) : Int) (Kn : Nat) = (((2 ^ pt.width - 1) ^^^ Kn : Nat) : Int) := by
      rw [Bits.bitXor_pp (Int.natCast_nonneg _) (Int.natCast_nonneg _)]
      rfl
    have eS : ∀ x y : Nat, ((x : Nat) : Int) * 2 ^ ((y : Nat) : Int).toNat = ((x * 2 ^ y : Nat) : Int) := fun x y => by
      rw [Int.toNat_natCast, two_pow_nat, Int.natCast_mul]
    have cp : ∀ x : Nat, x < 2 ^ pt.width → CPow ((x : Nat) : Int) ((lw : Nat) : Int) := fun x hx => ⟨Int.natCast_nonneg _, by omega, by
      rw [Int.natAbs_natCast]
      exact Nat.lt_of_lt_of_le hx (Nat.le_trans hw32 (by decide))⟩
    have z : ∀ Z : Prop, (CPow ((((2 ^ pt.width - 1) ^^^ Kn : Nat) : Int)) ((lw : Nat) : Int) → CPow ((C : Nat) : Int) ((lw : Nat) : Int) → Z) → Z := fun Z f => f (cp _ hX) (cp _ hCn)
    have e1 : (List.foldl zstp a [(lw, pt, e)]) = (a.1 ^^^ (((2 ^ pt.width - 1) ^^^ Kn) * 2 ^ lw), a.2 ||| C * 2 ^ lw) := by
      show zstp a (lw, pt, e) = _
      unfold zstp
      rw [hkc]
    rw [e1]
    walk_at "dr"
    rw [eX]
    refine ⟨cp _ hX, cp _ hCn, ?_⟩
    rw [eS, eS, Bits.bitXor_pp (Int.natCast_nonneg _) (Int.natCast_nonneg _), Bits.bitOr_pp (Int.natCast_nonneg _) (Int.natCast_nonneg _)]
    exact ⟨_, _, _, _, _, rfl, trivial⟩
  · obtain ⟨y1, y2, y3, y4, y5, rfl, rfl⟩ := hI
    rw [kcF_zq] at q
    exact ⟨szr rfl, q⟩
theorem sc_append_code : FnScope ["out", "word", "known", "code", "low"] ["out", "word", "known", "code"] (defScope s_append_code) := ⟨rfl, rfl, rfl, by decide +kernel, rfl, by decide +kernel, by decide +kernel⟩
theorem cal_append_code  (D0 : Def K mg "append_code" s_append_code) (B : Blt mg) (c_first_bits : Cal P w K mg base "first_bits" (2) ["word"] (up K 1 sp_first_bits))  : Cal P w K mg base "append_code" (3) ["out", "word", "known", "code"] (up K 4 sp_append_code) := by
  refine D0.cal (N := ["out", "word", "known", "code", "low"]) (k := 2) sc_append_code [none] rfl (fun _ _ _ _ _ _ us hl => match us, hl with | [_, _, _, _], _ => rfl) (fun f cdv A outer s H E hr => ⟨_, _,
(dss_cons (ds_for PassesOwn.never rfl (di_seq (de_call c_first_bits (hr.mono (by first | decide | omega)) (by rfl) (da_cons (dv 1) da_nil))) (dg_name (i := 4) sc_append_code.nd rfl (.inl rfl))
(dss_cons (ds_if (dt_ne (de_and (de_shr (dv 2) (dv 4)) de_int) de_int)
(dss_one (ds_ret de_bl))
dss_nil)
(dss_one (ds_expr (de_append (dv 0) (de_and (de_shr (dv 3) (dv 4)) de_int))))))
(dss_one (ds_ret de_bl))),
    fun ds m Q hl hs => ?_⟩)
  -- slots: 0 out 1 word 2 known 3 code 4 low
  obtain ⟨p, wd, kn, cd, o, rfl, hp, hlo, q⟩ := hs
  refine ⟨rfl, wd, rfl, ?_⟩
  refine loop_map (f := fun k : Nat => D.int (k : Nat)) (fun pp g' m' => ∃ y : Option D, g' = [some (.adr p), some (.str wd.name), some (.int kn), some (.int cd), y] ∧ m' = mset m p ((o ++ (cb kn cd pp).1).map D.int) ∧ (cb kn cd pp).2 = true) ⟨none, rfl, ?_, rfl⟩ (fun _ _ _ _ => trivial) (fun pre x post g' m' hd hI => ?_) (fun g' m' hI => ?_)
  · have z : m p = some ((o ++ []).map D.int) := by rw [List.append_nil]; exact hp
    exact (mset_id z).symm
  · obtain ⟨y, rfl, rfl, hb⟩ := hI
    obtain ⟨z1, z2⟩ := cb_snoc (l := x) (post := post) hb
    have e1 : ∀ c : Nat, Builtin.bitAnd ((c : Int) / 2 ^ ((x : Nat) : Int).toNat) 255 = ((c / 2 ^ x % 256 : Nat) : Int) := fun c => by
      rw [Int.toNat_natCast, two_pow_nat, ← Int.natCast_ediv, PyProof.Rows.bitAnd_pp (Int.natCast_nonneg _) (by decide), Int.toNat_natCast]
      show (((c / 2 ^ x) &&& 255 : Nat) : Int) = _
      rw [show (255 : Nat) = 2 ^ 8 - 1 from rfl, Nat.and_two_pow_sub_one_eq_mod]
    walk_at "dr"
    refine ⟨Int.natCast_nonneg _, ?_⟩
    rw [e1, e1]
    refine ifDn (fun h => ?_) (fun h => ?_)
    · have h' : ¬ kn / 2 ^ x % 256 = 255 := fun e => h (congrArg Int.ofNat e)
      rw [hd, z2 h'] at q
      exact q
    · have h' : kn / 2 ^ x % 256 = 255 := Int.ofNat.inj h
      rw [z1 h']
      refine ⟨⟨_, mset_same⟩, Int.natCast_nonneg _, _, mset_same, szl ?_, ?_⟩
      · have h4 := cb_len kn cd pre
        have h5 : wd.lows.length = wd.size := by cases wd <;> rfl
        have h6 := congrArg List.length hd
        have h7 := wd_le wd
        rw [List.length_append, List.length_cons] at h6
        rw [List.length_map, List.length_append]
        omega
      · rw [mset_mset]
        refine ⟨_, rfl, ?_, rfl⟩
        show mset m p ((o ++ (cb kn cd pre).1).map D.int ++ [D.int (byteAt cd x)]) = mset m p ((o ++ ((cb kn cd pre).1 ++ [byteAt cd x])).map D.int)
        rw [← List.append_assoc, List.map_append (l₁ := o ++ _)]
        rfl
  · obtain ⟨y, rfl, rfl, hb⟩ := hI
    rw [hb] at q
    exact q
theorem sc_append_number : FnScope ["out", "word", "numbers", "known", "code"] ["out", "word", "numbers"] (defScope s_append_number) := ⟨rfl, rfl, rfl, by decide +kernel, rfl, by decide +kernel, by decide +kernel⟩
theorem cal_append_number  (D0 : Def K mg "append_number" s_append_number) (B : Blt mg) (c_agreement : Cal P w K mg base "agreement" (2) ["codes", "width"] (up K 2 sp_agreement)) (c_word_size : Cal P w K mg base "word_size" (1) ["word"] (up K 1 sp_word_size)) (c_append_code : Cal P w K mg base "append_code" (3) ["out", "word", "known", "code"] (up K 4 sp_append_code))  : Cal P w K mg base "append_number" (4) ["out", "word", "numbers"] (up K 3 sp_append_number) := by
  refine D0.cal (N := ["out", "word", "numbers", "known", "code"]) (k := 3) sc_append_number [none, none] rfl (fun _ _ _ _ _ _ us hl => match us, hl with | [_, _, _], _ => rfl) (fun f cdv A outer s H E hr => ⟨_, _,
(dss_cons (ds_asg (de_call c_agreement (hr.mono (by first | decide | omega)) (by rfl) (da_cons (de_ct rListOf call_list_of sc_list (by rfl) B.list bt_list (da_cons (dv 2) da_nil)) (da_cons (de_mul de_int (de_call c_word_size (hr.mono (by first | decide | omega)) (by rfl) (da_cons (dv 1) da_nil))) da_nil))) (dg_tup rfl (dgs_cons (dg_name (i := 3) sc_append_number.nd rfl (.inl rfl)) (dgs_cons (dg_name (i := 4) sc_append_number.nd rfl (.inl rfl)) dgs_nil))))
(dss_one (ds_ret (de_call c_append_code (hr.mono (by first | decide | omega)) (by rfl) (da_cons (dv 0) (da_cons (dv 1) (da_cons (dv 3) (da_cons (dv 4) da_nil)))))))),
    fun ds m Q hl hs => ?_⟩)
  -- slots: 0 out 1 word 2 numbers 3 known 4 code
  obtain ⟨p, wd, cs, d, o, rfl, hd, hne, hp, hlo, q⟩ := hs
  walk_at "dr"
  have hs : ∀ k : List D → Prop, k (natsD cs) → withSeq d m k := fun k hk => by
    rcases hd with rfl | rfl <;> exact hk
  refine hs _ ⟨wd, rfl, .inl ⟨by decide, by decide⟩, 8 * wd.size, cs, by rw [Int.natCast_mul] <;> rfl, by have := wd_le wd; omega, hne, ?_⟩
  walk_at "dr"
  exact ⟨rfl, p, wd, _, _, o, rfl, hp, hlo, q⟩
end
end BB

namespace BB
open PySem PySem.Spec PyProof.Rows L2
local macro_rules | `(tactic| walk_at "dl") => `(tactic| simp only [dIfS, dIfE, dTest, dOp, dVar, dC, dIx, dEq, dNe, dI, dIc, dIsN, dNotN, isNonD, dAndT, dOrT, dNotT, dAndV, dNeg, dAdd, dTup, dLst, dCons, dNil, dCB, dCall, dLc, true_and, dLen, dInt1, dInt2, withSeq, with1_1, onSome_some, atI_0, atI_1, atI_2, atI_3, atI_4, atI_5, atI_6, List.getElem?_cons_succ, List.getElem?_cons_zero, List.set_cons_zero, List.set_cons_succ, gdN, Part.enc, encN, Bool.not_true, Bool.not_false, mapS_cons, mapS_nil, List.length_cons, List.length_nil, List.cons_append, List.nil_append, gdTup, gdCons, gdNil, dAppend, dExtend, dListF, dTupOf, dMul, dSl, dNoP, dPart])
local macro_rules | `(tactic| walk_at "dr") => `(tactic| simp only [dSeq, dAsg, dRet, dRetW, dDrop, dNext, dFor, diSeq, dIfS, dIfE, dTest, dOp, dVar, dC, dIx, dEq, dNe, dI, dIc, dIsN, dNotN, isNonD, dAndT, dOrT, dNotT, dAndV, dNeg, dAdd, dTup, dLst, dCons, dNil, dCB, dCall, dLc, true_and, dLen, dInt1, dInt2, withSeq, with1_1, onSome_some, atI_0, atI_1, atI_2, atI_3, atI_4, atI_5, atI_6, List.getElem?_cons_succ, List.getElem?_cons_zero, List.set_cons_zero, List.set_cons_succ, gdN, Part.enc, encN, Bool.not_true, Bool.not_false, mapS_cons, mapS_nil, List.length_cons, List.length_nil, List.cons_append, List.nil_append, gdTup, gdCons, gdNil, dAppend, dExtend, dListF, dTupOf, dMul, dSl, dNoP, dPart])

def sp_patN (n : Nat) : SpD := fun ds m Q => ∃ (p : Addr) (its : List Item) (rows : List (List D)) (P : List D) (o : List Int), ds = [.adr p, encL n its, .tup P] ∧ wfL n its ∧ Ctx n (kinds its) rows P ∧ m p = some (o.map D.int) ∧ o.length + mxL n its ≤ 1000 ∧ ∀ o' b, GoodL n its rows P o o' b → Q (.bl b) (mset m p (o'.map D.int))
def sp_itemN (n : Nat) : SpD := fun ds m Q => ∃ (p : Addr) (it : Item) (rows : List (List D)) (P : List D) (o : List Int), ds = [.adr p, encI n it, .tup P] ∧ wfI n it ∧ Ctx n (kindsI it) rows P ∧ m p = some (o.map D.int) ∧ o.length + mxI n it ≤ 1000 ∧ ∀ o' b, GoodI n it rows P o o' b → Q (.bl b) (mset m p (o'.map D.int))
def sp_entN (n : Nat) : SpD := fun ds m Q => ∃ (p : Addr) (it : Item) (rows : List (List D)) (P : List D) (o : List Int), ds = [.adr p, encI (n + 1) it, P.headD .non] ∧ wfI (n + 1) it ∧ Ctx (n + 1) (kindsI it) rows P ∧ kindsI it = [.comp it] ∧ m p = some (o.map D.int) ∧ o.length + mxI (n + 1) it ≤ 1000 ∧ ∀ o' b, GoodI (n + 1) it rows P o o' b → Q (.bl b) (mset m p (o'.map D.int))
def sp_elemN (n : Nat) : SpD := fun ds m Q => ∃ (p : Addr) (it : Item) (rows : List (List D)) (P : List D) (o : List Int), ds = [.adr p, encI (n + 1) it, P.headD .non] ∧ wfI (n + 1) it ∧ Ctx (n + 1) (kindsI it) rows P ∧ isSeq it ∧ m p = some (o.map D.int) ∧ o.length + mxI (n + 1) it ≤ 1000 ∧ ∀ o' b, GoodI (n + 1) it rows P o o' b → Q (.bl b) (mset m p (o'.map D.int))
theorem done_len {n : Nat} {pre post : List Item} {it : Item} {rows : List (List D)} {P : List D} {o o' : List Int} (c : Ctx n (kinds (pre ++ it :: post)) rows P) (h : Done n (pre ++ it :: post) pre P o o') : o'.length + mxI n it ≤ o.length + mxL n (pre ++ it :: post) := by
  obtain ⟨r, hr⟩ := List.exists_mem_of_ne_nil _ c.ne
  have e := h r (c.row r hr) (c.has r hr)
  have hv := c.row r hr
  rw [kinds_app] at hv
  have z : (foldI (putI n) pre r o).length ≤ o.length + (pre.map (mxI n)).sum := foldI_len (n := n) (mx := mxI n) (putI_len n) pre r o ((rowIn_app _ _ _).mp hv).1
  have e' : foldI (putI n) pre r o = o' := e
  rw [e'] at z
  show _ ≤ o.length + ((pre ++ it :: post).map (mxI n)).sum
  rw [List.map_append, List.sum_append, List.map_cons, List.sum_cons]
  omega
theorem cut_drop {ds : List D} {k : Nat} (h : k ≤ ds.length) : cutD ds (some ((k : Nat) : Int)) none = ds.drop k := by
  have e1 : HT.sIx ds.length 0 (some ((k : Nat) : Int)) = k := by
    rw [HT.sIx_nat]
    exact Nat.min_eq_left h
  have e2 : HT.sIx ds.length ds.length none = ds.length := rfl
  unfold cutD
  rw [e1, e2]
  exact List.take_of_length_le (by rw [List.length_drop]; exact Nat.le_refl _)
def plL : List Item → Nat → List (Item × Nat)
  | [], _ => []
  | it :: r, a => (it, a) :: plL r (a + nm it)
theorem plD_plL (n : Nat) : ∀ (its : List Item) (a : Nat), plD n its a = (plL its a).map fun t => D.tup [encI n t.1, .int (t.2 : Nat)]
  | [], _ => rfl
  | it :: r, a => congrArg _ (plD_plL n r _)
theorem plL_fst : ∀ (its : List Item) (a : Nat), (plL its a).map Prod.fst = its
  | [], _ => rfl
  | it :: r, a => congrArg _ (plL_fst r _)
theorem plL_split : ∀ {its : List Item} {a : Nat} {pre : List (Item × Nat)} {x : Item × Nat} {post : List (Item × Nat)}, plL its a = pre ++ x :: post → its = pre.map Prod.fst ++ x.1 :: post.map Prod.fst ∧ x.2 = a + (kinds (pre.map Prod.fst)).length
  | [], a, pre, x, post, h => by
    have := congrArg List.length h
    rw [List.length_append, List.length_cons] at this
    have h0 : (plL [] a).length = 0 := rfl
    omega
  | it :: r, a, [], x, post, h => by
    obtain ⟨h1, h2⟩ := List.cons.inj (show (it, a) :: plL r (a + nm it) = x :: post from h)
    subst h1 h2
    refine ⟨?_, rfl⟩
    rw [plL_fst] <;> rfl
  | it :: r, a, y :: pre, x, post, h => by
    obtain ⟨h1, h2⟩ := List.cons.inj (show (it, a) :: plL r (a + nm it) = y :: (pre ++ x :: post) from h)
    subst h1
    obtain ⟨h3, h4⟩ := plL_split h2
    refine ⟨congrArg _ h3, ?_⟩
    rw [h4]
    show a + nm it + (kinds (pre.map Prod.fst)).length = a + (kindsI it ++ kinds (pre.map Prod.fst)).length
    rw [List.length_append]
    unfold nm
    omega
def at2 (f : Nat → SpD) : Nat → SpD
  | 0 => fun _ _ _ => False
  | n + 1 => f n
theorem Def.no {P : Program} {w : World} {K : PySem.W.Frag} {mg : Str → Option Value} {base : Heap} {x : Str} {st : Stmt} {N ps : List Str} {n : Nat} (D0 : Def K mg x st) (S : FnScope N ps (defScope st)) (hn : ps.length = n)
    (hb : ∀ (kV doc pm : Value) (an : Option Addr) (cdv ct : Value) (us : List Value), us.length = ps.length → bindArgs (PySem.W.fnOf x x (defArgs st) (defBody st) (defScope st) .none kV doc pm an cdv ct) ⟨us, []⟩ = pure (ps.zip us)) : Cal P w K mg base x 0 ps (up K n fun _ _ _ => False) := by
  obtain ⟨f, fd, F, hm⟩ := D0.ex
  exact ⟨f, fd, ⟨fun vs H Q E h => h.1.trans hn.symm, fun A outer s H args us vs Q E hr he hbd hv hs => by
    obtain ⟨_, _, _, _, _, _, _, q, _⟩ := hs
    exact q.elim⟩, hm, F.kp, F.bindsN hb⟩
abbrev elRest (n : Nat) : TSD := dSeq (dFor (diRg1 (dOp dIx (dVar 4) (dC (.int 0)))) (gdN 5) (dSeq (dIfS (dTest (dOp dEq (dOp dIx (dVar 3) (dC (.int 0))) (dC (.str "marked")))) (dDrop (dAppend (dVar 0) (dC (.int 1)))) dNext)
  (dIfS (dNotT (dTest (dCall 3 (at2 sp_patN (n + 1)) (dCons (dVar 0) (dCons (dCall 1 sp_element_layout (dCons (dVar 1) dNil)) (dCons (dCall 2 sp_wrap (dCons (dVar 1) (dCons (dOp dIx (dOp dIx (dVar 2) (dC (.int 2))) (dVar 5)) dNil))) dNil)))))) (dRet (dC (.bl false))) dNext)))
  (dSeq (dIfS (dTest (dOp dEq (dOp dIx (dVar 3) (dC (.int 0))) (dC (.str "marked")))) (dSeq (dIfS (dTest (dOp dGt (dCB dLen (dCons (dVar 4) dNil)) (dC (.int 1)))) (dRet (dC (.bl false))) dNext) (dDrop (dAppend (dVar 0) (dC (.int 0))))) dNext) (dRet (dC (.bl true))))
theorem el_call {n : Nat} {it : Item} {rows : List (List D)} {es : List D} {nums : List Nat} {ents : List D} (h : SqOk n it rows es nums ents) (hw : wfI (n + 1) it) {n0 : Nat} {rest : List Nat} (hn : nums = n0 :: rest) {i : Nat} (hi : i < n0) {o o' : List Int} (hI : SqOk.Inv n it es o i o') (hlo : o.length + mxI (n + 1) it ≤ 1000) {p : Addr} {m : Mu} {c : D} {Q : D → Mu → Prop}
    (hT : ∀ o3, SqOk.Inv n it es o (i + 1) o3 → Q (.bl true) (mset m p (o3.map D.int))) (hF : ∀ o3, GoodI (n + 1) it rows es o o3 false → Q (.bl false) (mset m p (o3.map D.int))) :
    sp_element_layout [encI (n + 1) it] (mset m p ((o' ++ cMark (cntOf it)).map D.int)) fun x m1 => onSome (atI ents (i : Nat)) fun e => sp_wrap [encI (n + 1) it, e] m1 fun y m1 => at2 sp_patN (n + 1) [.adr p, x, y] m1 Q := by
  obtain ⟨e', P', h1, h2, h3⟩ := h.elem hn hi
  have hr := h.room hn hi hI hlo
  have hm1 : (cMark (cntOf it)).length ≤ 1 := by cases cntOf it <;> simp [cMark]
  refine ⟨n, it, h.sq, rfl, ?_⟩
  rw [atI_c, h1]
  refine ⟨n, it, e', h.sq, rfl, ?_⟩
  rw [h2]
  refine ⟨p, elemItems it, _, P', o' ++ cMark (cntOf it), rfl, (wfL_seq h.sq hw).1, h3, mset_same, by rw [List.length_append]; omega, fun o3 b g => ?_⟩
  rw [mset_mset]
  cases b with
  | true => exact hT o3 (h.step hn hi h1 h2 hI g)
  | false => exact hF o3 (h.stop hn hi h1 h2 hI g)
theorem el_rest {n : Nat} {it : Item} {rows : List (List D)} {es : List D} {nums : List Nat} {ents : List D} (h : SqOk n it rows es nums ents) (hw : wfI (n + 1) it) {n0 : Nat} {rest : List Nat} (hn : nums = n0 :: rest) {o o1 : List Int} (hI : SqOk.Inv n it es o 0 o1) (hlo : o.length + mxI (n + 1) it ≤ 1000) {p : Addr} {m : Mu} {E : EndsD}
    (hcb : ∀ w lo hi, cntOf it = .counted w lo hi → (cb (agrK (8 * w.size) nums) (andL nums) w.lows).2 = true) (q : ∀ o' b, GoodI (n + 1) it rows es o o' b → E.rt (.bl b) (mset m p (o'.map D.int))) :
    elRest n E [some (.adr p), some (encI (n + 1) it), some (countsD nums ents), some (cntOf it).enc, some (.tup (natsD nums)), none] (mset m p (o1.map D.int)) := by
  have hn0 := h.n0_le hn
  have hmx := (wfL_seq h.sq hw).2
  have hnat : natsD nums = D.int (n0 : Nat) :: natsD rest := by rw [hn] <;> rfl
  have hat : atI (natsD nums) 0 = some (.int (n0 : Nat)) := by rw [hnat, atI_0] <;> rfl
  walk_at "dr"
  show onSome (atI (natsD nums) 0) _
  rw [hat]
  refine ⟨by omega, by omega, loop_rg (fun i g' m' => ∃ (y : Option D) (o' : List Int), g' = [some (.adr p), some (encI (n + 1) it), some (countsD nums ents), some (cntOf it).enc, some (.tup (natsD nums)), y] ∧ m' = mset m p (o'.map D.int) ∧ SqOk.Inv n it es o i o') ⟨none, o1, rfl, rfl, hI⟩ (fun _ _ _ _ => trivial) (fun i g' m' hi hI => ?_) (fun g' m' hI => ?_)⟩
  · obtain ⟨y, o', rfl, rfl, hI⟩ := hI
    have hi' : i < n0 := by omega
    have hr := h.room hn hi' hI hlo
    have key := fun c : D => el_call h hw hn hi' hI hlo (p := p) (m := m) (c := c) (Q := fun d m1 => match d with
      | .bl b => if (!b) = true then E.rt (.bl false) m1 else ∃ (y : Option D) (o' : List Int), [some (.adr p), some (encI (n + 1) it), some (countsD nums ents), some c, some (.tup (natsD nums)), some (.int (i : Nat))] = [some (.adr p), some (encI (n + 1) it), some (countsD nums ents), some c, some (.tup (natsD nums)), y] ∧ m1 = mset m p (o'.map D.int) ∧ SqOk.Inv n it es o (i + 1) o'
      | _ => False) (fun o3 hI3 => ⟨_, o3, rfl, rfl, hI3⟩) (fun o3 g => q o3 false g)
    cases hc : cntOf it with
    | exactly k =>
      rw [hc] at key
      have z := key (Cnt.exactly k).enc
      unfold Cnt.enc
      walk_at "dr"
      refine ifF ne_ ?_
      rw [show o' ++ cMark (.exactly k) = o' from List.append_nil _] at z
      exact z
    | counted wd lo hi =>
      rw [hc] at key
      have z := key (Cnt.counted wd lo hi).enc
      unfold Cnt.enc
      walk_at "dr"
      refine ifF ne_ ?_
      rw [show o' ++ cMark (.counted wd lo hi) = o' from List.append_nil _] at z
      exact z
    | marked k =>
      rw [hc] at key
      have z := key (Cnt.marked k).enc
      unfold Cnt.enc
      walk_at "dr"
      refine ⟨⟨_, mset_same⟩, _, mset_same, szl (by rw [List.length_map]; omega), ?_⟩
      rw [mset_mset]
      have e1 : o'.map D.int ++ [D.int 1] = (o' ++ cMark (.marked k)).map D.int := by rw [List.map_append] <;> rfl
      rw [e1]
      exact z
  · obtain ⟨y, o', rfl, rfl, hI⟩ := hI
    rw [Int.toNat_natCast] at hI
    have hre := h.room_end hn hI hlo
    cases hc : cntOf it with
    | exactly k =>
      unfold Cnt.enc
      walk_at "dr"
      refine ifF ne_ ?_
      have g := h.done hn hI (h.len_exactly hn hc)
      rw [hc, show o' ++ cTail (.exactly k) = o' from List.append_nil _] at g
      exact q _ _ g
    | counted wd lo hi =>
      unfold Cnt.enc
      walk_at "dr"
      refine ifF ne_ ?_
      have g := h.done hn hI (h.len_counted hn hc (hcb _ _ _ hc))
      rw [hc, show o' ++ cTail (.counted wd lo hi) = o' from List.append_nil _] at g
      exact q _ _ g
    | marked k =>
      unfold Cnt.enc
      walk_at "dr"
      have hl : ((natsD nums).length : Int) = (nums.length : Nat) := by
        unfold natsD
        rw [List.length_map]
      rw [hl]
      refine ifT rfl (ifD (fun hgt => ?_) (fun hle => ?_))
      · obtain ⟨n1, rest', e⟩ : ∃ n1 r, rest = n1 :: r := by
          cases rest with
          | nil =>
            subst hn
            have z : ((1 : Nat) : Int) < ((1 : Nat) : Int) := hgt
            omega
          | cons a b => exact ⟨a, b, rfl⟩
        rw [e] at hn
        exact q _ _ (h.more hn hc hI)
      · have e : rest = [] := by
          cases rest with
          | nil => rfl
          | cons a b =>
            subst hn
            rw [List.length_cons, List.length_cons] at hle
            omega
        rw [e] at hn
        have g := h.done hn hI (h.len_one hn)
        rw [hc] at g
        refine ⟨⟨_, mset_same⟩, _, mset_same, szl (by rw [List.length_map]; omega), ?_⟩
        rw [mset_mset]
        have e1 : o'.map D.int ++ [D.int 0] = (o' ++ cTail (.marked k)).map D.int := by rw [List.map_append] <;> rfl
        rw [e1]
        exact q _ _ g
section
variable {P : Program} {w : World} {K : PySem.W.Frag} {mg : Str → Option Value} {base : Heap}
theorem sc_append_elements : FnScope ["out", "item", "entry", "count", "numbers", "index"] ["out", "item", "entry"] (defScope s_append_elements) := ⟨rfl, rfl, rfl, by decide +kernel, rfl, by decide +kernel, by decide +kernel⟩
theorem cal_append_elements (k : Nat) (D0 : Def K mg "append_elements" s_append_elements) (B : Blt mg) (c_count_of : Cal P w K mg base "count_of" (1) ["item"] (up K 1 sp_count_of)) (c_append_number : Cal P w K mg base "append_number" (4) ["out", "word", "numbers"] (up K 3 sp_append_number)) (c_append_pattern : Cal P w K mg base "append_pattern" (10*k) ["out", "layout", "pattern"] (up K 3 (at2 sp_patN k))) (c_wrap : Cal P w K mg base "wrap" (1) ["item", "element"] (up K 2 sp_wrap)) (c_element_layout : Cal P w K mg base "element_layout" (2) ["item"] (up K 1 sp_element_layout))  : Cal P w K mg base "append_elements" (10*k+5 + 1) ["out", "item", "entry"] (up K 3 (at2 sp_elemN k)) := by
  refine D0.cal (N := ["out", "item", "entry", "count", "numbers", "index"]) (k := 10*k+5) sc_append_elements [none, none, none] rfl (fun _ _ _ _ _ _ us hl => match us, hl with | [_, _, _], _ => rfl) (fun f cdv A outer s H E hr => ⟨_, _,
(dss_cons (ds_set (i := 3) sc_append_elements.nd rfl (.inl rfl) (de_call c_count_of (hr.mono (by first | decide | omega)) (by rfl) (da_cons (dv 1) da_nil)))
(dss_cons (ds_set (i := 4) sc_append_elements.nd rfl (.inl rfl) (de_ix (dv 2) de_int))
(dss_cons (ds_if (DW.dt (dw_and (dt_eq (de_ix (dv 3) de_int) de_str) (dw_and1 (dt_not (dt_val (de_call c_append_number (hr.mono (by first | decide | omega)) (by rfl) (da_cons (dv 0) (da_cons (de_ix (dv 3) de_int) (da_cons (dv 4) da_nil)))))))))
(dss_one (ds_ret de_bl))
dss_nil)
(dss_cons (ds_for PassesOwn.never rfl (di_rg1 (by rfl) B.range (de_ix (dv 4) de_int)) (dg_name (i := 5) sc_append_elements.nd rfl (.inl rfl))
(dss_cons (ds_if (dt_eq (de_ix (dv 3) de_int) de_str)
(dss_one (ds_expr (de_append (dv 0) de_int)))
dss_nil)
(dss_one (ds_if (dt_not (dt_val (de_call c_append_pattern (hr.mono (by first | decide | omega)) (by rfl) (da_cons (dv 0) (da_cons (de_call c_element_layout (hr.mono (by first | decide | omega)) (by rfl) (da_cons (dv 1) da_nil)) (da_cons (de_call c_wrap (hr.mono (by first | decide | omega)) (by rfl) (da_cons (dv 1) (da_cons (de_ix (de_ix (dv 2) de_int) (dv 5)) da_nil))) da_nil))))))
(dss_one (ds_ret de_bl))
dss_nil))))
(dss_cons (ds_if (dt_eq (de_ix (dv 3) de_int) de_str)
(dss_cons (ds_if (dt_gt (de_cb rLen' call_len_seq sc_len (by rfl) B.len bt_len (da_cons (dv 4) da_nil)) de_int)
(dss_one (ds_ret de_bl))
dss_nil)
(dss_one (ds_expr (de_append (dv 0) de_int))))
dss_nil)
(dss_one (ds_ret de_bl))))))),
    fun ds m Q hl hs => ?_⟩)
  -- slots: 0 out 1 item 2 entry 3 count 4 numbers 5 index
  cases k with
  | zero => exact hs.elim
  | succ n =>
  obtain ⟨p, it, rows, es, o, rfl, hw, c, hq, hp, hlo, q⟩ := hs
  obtain ⟨nums, ents, h⟩ := ctx_seq hq c
  obtain ⟨n0, rest, hn⟩ : ∃ n0 rest, nums = n0 :: rest := by
    cases hz : nums with
    | nil => exact absurd hz h.ne
    | cons a b => exact ⟨a, b, rfl⟩
  rw [h.e]
  walk_at "dr"
  refine ⟨n, it, hq, rfl, ?_⟩
  have q2 : ∀ o' b, GoodI (n + 1) it rows es o o' b → Q (.bl b) (mset m p (o'.map D.int)) := q
  have key := fun (o1 : List Int) hI hcb => el_rest h hw hn (o := o) (o1 := o1) hI hlo (p := p) (m := m) (E := ⟨fun _ m' => Q .non m', Q⟩) hcb q2
  cases hc : cntOf it with
  | exactly k =>
    rw [hc] at key
    unfold Cnt.enc
    walk_at "dr"
    refine ifF ne_ ?_
    have z := key o (SqOk.inv0 fun k' => by rw [hc] <;> rfl) (fun _ _ _ e => nomatch e)
    rw [mset_id hp] at z
    exact z
  | counted wd lo hi =>
    unfold Cnt.enc
    walk_at "dr"
    refine ifT rfl ⟨p, wd, nums, _, o, rfl, .inl rfl, h.ne, hp, by omega, ?_⟩
    cases hb : (cb (agrK (8 * wd.size) nums) (andL nums) wd.lows).2 with
    | false => exact q _ _ (h.stop0 hc hb)
    | true =>
      rw [hc] at key
      exact key _ (h.inv0c hc hb) (fun w' lo' hi' e => by cases e; exact hb)
  | marked k =>
    rw [hc] at key
    unfold Cnt.enc
    walk_at "dr"
    refine ifF ne_ ?_
    have z := key o (SqOk.inv0 fun k' => by rw [hc] <;> rfl) (fun _ _ _ e => nomatch e)
    rw [mset_id hp] at z
    exact z
theorem sc_append_entry : FnScope ["out", "item", "entry", "name", "_", "pattern"] ["out", "item", "entry"] (defScope s_append_entry) := ⟨rfl, rfl, rfl, by decide +kernel, rfl, by decide +kernel, by decide +kernel⟩
theorem cal_append_entry (k : Nat) (D0 : Def K mg "append_entry" s_append_entry) (B : Blt mg) (c_append_pattern : Cal P w K mg base "append_pattern" (10*k) ["out", "layout", "pattern"] (up K 3 (at2 sp_patN k))) (c_append_number : Cal P w K mg base "append_number" (4) ["out", "word", "numbers"] (up K 3 sp_append_number)) (c_case_named : Cal P w K mg base "case_named" (1) ["item", "name"] (up K 2 sp_case_named)) (c_append_elements : Cal P w K mg base "append_elements" (10*k+5 + 1) ["out", "item", "entry"] (up K 3 (at2 sp_elemN k)))  : Cal P w K mg base "append_entry" (10*k+6 + 1) ["out", "item", "entry"] (up K 3 (at2 sp_entN k)) := by
  refine D0.cal (N := ["out", "item", "entry", "name", "_", "pattern"]) (k := 10*k+6) sc_append_entry [none, none, none] rfl (fun _ _ _ _ _ _ us hl => match us, hl with | [_, _, _], _ => rfl) (fun f cdv A outer s H E hr => ⟨_, _,
(dss_cons (ds_if (dt_eq (de_ix (dv 1) de_int) de_str)
(dss_one (ds_ret (de_call c_append_pattern (hr.mono (by first | decide | omega)) (by rfl) (da_cons (dv 0) (da_cons (de_ix (dv 1) de_int) (da_cons (dv 2) da_nil))))))
dss_nil)
(dss_cons (ds_if (dt_eq (de_ix (dv 1) de_int) de_str)
(dss_cons (ds_if (dt_not (dt_val (de_call c_append_number (hr.mono (by first | decide | omega)) (by rfl) (da_cons (dv 0) (da_cons (de_ix (dv 1) de_int) (da_cons (de_lc (own := [("name", 3), ("_", 4)]) rfl sc_append_entry.nd (di_seq (de_ix (dv 2) de_int)) (blkOk_by (N := ["out", "item", "entry", "name", "_", "pattern"]) (sc := defScope s_append_entry) (own := [("name", 3), ("_", 4)]) (by decide +kernel)) (fun _ _ _ _ _ => (dg_tup rfl (dgs_cons (dg_name (i := 3) sc_append_entry.nd rfl (.inl rfl)) (dgs_cons (dg_name (i := 4) sc_append_entry.nd rfl (.inl rfl)) dgs_nil)))) (keepT2 3 4) (fun _ _ _ _ _ => dts_nil) (fun _ _ _ _ _ => (de_ix (de_call c_case_named (hr.mono (by first | decide | omega)) (by rfl) (da_cons (dv 1) (da_cons (dv 3) da_nil))) de_int)) (by intro _; rfl) s H) da_nil))))))
(dss_one (ds_ret de_bl))
dss_nil)
(dss_cons (ds_asg (de_ix (de_ix (dv 2) de_int) de_int) (dg_tup rfl (dgs_cons (dg_name (i := 3) sc_append_entry.nd rfl (.inl rfl)) (dgs_cons (dg_name (i := 5) sc_append_entry.nd rfl (.inl rfl)) dgs_nil))))
(dss_one (ds_ret (de_call c_append_pattern (hr.mono (by first | decide | omega)) (by rfl) (da_cons (dv 0) (da_cons (de_ix (de_call c_case_named (hr.mono (by first | decide | omega)) (by rfl) (da_cons (dv 1) (da_cons (dv 3) da_nil))) de_int) (da_cons (dv 5) da_nil))))))))
dss_nil)
(dss_one (ds_ret (de_call c_append_elements (hr.mono (by first | decide | omega)) (by rfl) (da_cons (dv 0) (da_cons (dv 1) (da_cons (dv 2) da_nil)))))))),
    fun ds m Q hl hs => ?_⟩)
  -- slots: 0 out 1 item 2 entry 3 name 4 _ 5 pattern
  cases k with
  | zero => exact hs.elim
  | succ n =>
  obtain ⟨p, it, rows, es, o, rfl, hw, c, hq, hp, hlo, q⟩ := hs
  cases it with
  | word wd ps =>
    have : Kind.comp (.word wd ps) ∈ pK ps := by
      rw [show pK ps = [.comp (.word wd ps)] from hq]
      exact List.mem_singleton_self _
    obtain ⟨x, _, hx⟩ := List.mem_filterMap.mp this
    unfold Part.kind at hx
    cases hx2 : x.name with
    | none =>
      rw [hx2] at hx
      cases hx
    | some s =>
      rw [hx2] at hx
      cases hx
  | lit _ => cases hq
  | res _ => cases hq
  | chk _ => cases hq
  | arr a wd sg cn rg df =>
    rw [encI_arr]
    walk_at "dr"
    refine ifF ne_ (ifF ne_ ?_)
    exact ⟨p, .arr a wd sg cn rg df, rows, es, o, by rw [encI_arr], hw, c, trivial, hp, hlo, q⟩
  | list a cn its =>
    rw [encI_list]
    walk_at "dr"
    refine ifF ne_ (ifF ne_ ?_)
    exact ⟨p, .list a cn its, rows, es, o, by rw [encI_list], hw, c, trivial, hp, hlo, q⟩
  | rcd a its =>
    obtain ⟨P', e, c'⟩ := ctx_rcd c
    rw [encI_rcd]
    walk_at "dr"
    refine ifT rfl ?_
    rw [e]
    exact ⟨p, its, _, P', o, rfl, hw, c', hp, hlo, fun o' b g => q o' b (good_rcd e g)⟩
  | choice a wd cs =>
    obtain ⟨L, h⟩ := ctx_choice c
    obtain ⟨hw1, hw2, hw3, hw4⟩ : cs.length ≤ 100 ∧ (cs.map fun c : Cs => c.1).Nodup ∧ (cs.map fun c : Cs => c.2.1).Nodup ∧ ∀ c ∈ cs, (0 ≤ c.1 ∧ c.1 < 2 ^ (8 * wd.size)) ∧ wfL n c.2.2 := hw
    rw [h.e, encI_choice]
    cases L with
    | nil => exact absurd rfl h.ne
    | cons q0 L =>
    walk_at "dr"
    refine ifF ne_ (ifT rfl (lc_pure (f := fun q : Cs × List D => D.tup [.str q.1.2.1, .tup q.2]) (xs := q0 :: L) (fun q => D.int q.1.1) (by have := h.len; omega) (fun x hx m1 R hm hR => ?_) ?_))
    · exact ⟨rfl, rfl, rfl, n, a, wd, cs, x.1, rfl, (h.mem x hx).1, hw3, hR⟩
    · have ez : (q0 :: L).map (fun q => D.int q.1.1) = natsD (numsC wd (q0 :: L)) := by
        unfold natsD
        rw [List.map_map]
        refine List.map_congr_left fun x hx => ?_
        have hx2 := (hw4 _ (h.mem x hx).1).1
        show D.int x.1.1 = D.int ((modW x.1.1 (8 * wd.size) : Nat) : Int)
        rw [modW_nn hx2.1 hx2.2]
      rw [ez]
      refine ⟨p, wd, numsC wd (q0 :: L), _, o, rfl, .inr rfl, nums_ne h.ne, hp, by omega, ?_⟩
      cases hb : (cb (agrK (8 * wd.size) (numsC wd (q0 :: L))) (andL (numsC wd (q0 :: L))) wd.lows).2 with
      | false => exact q _ _ (good_choice_no h o hb)
      | true =>
        have m0 := h.mem q0 List.mem_cons_self
        have hcl := cb_len (agrK (8 * wd.size) (numsC wd (q0 :: L))) (andL (numsC wd (q0 :: L))) wd.lows
        have hls : wd.lows.length = wd.size := by cases wd <;> rfl
        have hmx : wd.size + (cs.map fun c => mxL n c.2.2).sum = mxI (n + 1) (.choice a wd cs) := rfl
        have hsm := sum_mem_le (f := fun c : Cs => mxL n c.2.2) m0.1
        refine ⟨rfl, rfl, n, a, wd, cs, q0.1, rfl, m0.1, hw3, ?_⟩
        refine ⟨p, q0.1.2.2, _, q0.2, _, rfl, (hw4 _ m0.1).2, m0.2, mset_same, ?_, fun o' b g => ?_⟩
        · rw [List.length_append]
          have hsm2 : mxL n q0.1.2.2 ≤ (cs.map fun c => mxL n c.2.2).sum := hsm
          omega
        · rw [mset_mset]
          exact q o' b (good_choice hw2 (fun c hc => (hw4 c hc).1) h o hb g)
theorem sc_append_item : FnScope ["out", "item", "entries", "known", "code"] ["out", "item", "entries"] (defScope s_append_item) := ⟨rfl, rfl, rfl, by decide +kernel, rfl, by decide +kernel, by decide +kernel⟩
theorem cal_append_item (k : Nat) (D0 : Def K mg "append_item" s_append_item) (B : Blt mg) (gC : ∃ a, mg "COMPOSITES" = some (.ref a) ∧ ∀ H : Hp, SqT K H a [.str "array", .str "list", .str "choice", .str "record"]) (c_known_word : Cal P w K mg base "known_word" (4) ["item", "entries"] (up K 2 sp_known_word)) (c_append_code : Cal P w K mg base "append_code" (3) ["out", "word", "known", "code"] (up K 4 sp_append_code)) (c_append_entry : Cal P w K mg base "append_entry" (10*k+6 + 1) ["out", "item", "entry"] (up K 3 (at2 sp_entN k))) (c_check_byte : Cal P w K mg base "check_byte" (1) ["method", "data"] (up K 2 sp_check_byte))  : Cal P w K mg base "append_item" (10*k+7 + 1) ["out", "item", "entries"] (up K 3 (sp_itemN k)) := by
  obtain ⟨aC, gC1, gC2⟩ := gC
  refine D0.cal (N := ["out", "item", "entries", "known", "code"]) (k := 10*k+7) sc_append_item [none, none] rfl (fun _ _ _ _ _ _ us hl => match us, hl with | [_, _, _], _ => rfl) (fun f cdv A outer s H E hr => ⟨_, _,
(dss_cons (ds_if (dt_eq (de_ix (dv 1) de_int) de_str)
(dss_cons (ds_asg (de_call c_known_word (hr.mono (by first | decide | omega)) (by rfl) (da_cons (dv 1) (da_cons (dv 2) da_nil))) (dg_tup rfl (dgs_cons (dg_name (i := 3) sc_append_item.nd rfl (.inl rfl)) (dgs_cons (dg_name (i := 4) sc_append_item.nd rfl (.inl rfl)) dgs_nil))))
(dss_one (ds_ret (de_call c_append_code (hr.mono (by first | decide | omega)) (by rfl) (da_cons (dv 0) (da_cons (de_ix (dv 1) de_int) (da_cons (dv 3) (da_cons (dv 4) da_nil))))))))
dss_nil)
(dss_cons (ds_if (dt_in (de_ix (dv 1) de_int) (de_glob (v := .ref aC) (d := .tup compsD) (by rfl) gC1 rfl (compsD_is gC2)))
(dss_one (ds_ret (de_call c_append_entry (hr.mono (by first | decide | omega)) (by rfl) (da_cons (dv 0) (da_cons (dv 1) (da_cons (de_ix (dv 2) de_int) da_nil))))))
dss_nil)
(dss_cons (ds_if (dt_eq (de_ix (dv 1) de_int) de_str)
(dss_one (ds_expr (de_extend (dv 0) (de_ct rListOf call_list_of sc_list (by rfl) B.list bt_list (da_cons (de_ix (dv 1) de_int) da_nil)))))
(dss_one (ds_if (dt_eq (de_ix (dv 1) de_int) de_str)
(dss_one (ds_expr (de_extend (dv 0) (de_mul (de_lst (da_cons de_int da_nil)) (de_ix (dv 1) de_int)))))
(dss_one (ds_expr (de_append (dv 0) (de_call c_check_byte (hr.mono (by first | decide | omega)) (by rfl) (da_cons (de_ix (dv 1) de_int) (da_cons (dv 0) da_nil)))))))))
(dss_one (ds_ret de_bl))))),
    fun ds m Q hl hs => ?_⟩)
  -- slots: 0 out 1 item 2 entries 3 known 4 code
  obtain ⟨p, it, rows, es, o, rfl, hw, c, hp, hlo, q⟩ := hs
  cases it with
  | word wd ps =>
    have hz := wd_le wd
    rw [encI_word]
    walk_at "dr"
    exact ifT rfl ⟨k, wd, ps, rows, es, by rw [encI_word], hw, c, rfl, rfl, p, wd, _, _, o, rfl, hp, by omega, q _ _ (good_word (wf_word hw).1 c o)⟩
  | lit data =>
    have hd : data.length ≤ 100 := by cases k <;> exact hw.1
    rw [encI_lit]
    walk_at "dr"
    refine ifF ne_ ⟨["array", "list", "choice", "record"], rfl, ifF (by decide +kernel) (ifT rfl ⟨⟨_, hp⟩, _, _, hp, rfl, sz ?_, ?_⟩)⟩
    · rw [List.length_map, List.length_map]
      omega
    · rw [← List.map_append]
      exact q _ _ good_lit
  | res j =>
    have hd : j ≤ 100 := by cases k <;> exact hw
    rw [encI_res]
    walk_at "dr"
    refine ifF ne_ ⟨["array", "list", "choice", "record"], rfl, ifF (by decide +kernel) (ifF ne_ (ifT rfl ?_))⟩
    have e1 : (List.replicate ((j : Nat) : Int).toNat [D.int 0]).flatten = (List.replicate j (0 : Int)).map D.int := by
      rw [Int.toNat_natCast, List.map_replicate]
      exact List.flatten_replicate_singleton
    rw [e1]
    refine ⟨⟨_, hp⟩, szr rfl, Int.natCast_nonneg _, by omega, sz (by omega), _, _, hp, rfl, sz ?_, ?_⟩
    · rw [List.length_map, List.length_map, List.length_replicate]
      omega
    · rw [← List.map_append]
      exact q _ _ good_res
  | chk x =>
    rw [encI_chk]
    walk_at "dr"
    refine ifF ne_ ⟨["array", "list", "choice", "record"], rfl, ifF (by decide +kernel) (ifF ne_ (ifF ne_ ⟨⟨_, hp⟩, x, p, o, rfl, hp, _, hp, szl ?_, ?_⟩))⟩
    · rw [List.length_map]
      omega
    · have e1 : o.map D.int ++ [D.int (chkB x o)] = (o ++ [chkB x o]).map D.int := by rw [List.map_append] <;> rfl
      rw [e1]
      exact q _ _ good_chk
  | arr a wd sg cn rg df =>
    cases k with
    | zero => exact (c.pat.1).elim
    | succ n =>
    have hes : es[0]? = some (es.headD .non) := by
      have := c.len
      cases es with
      | nil => exact absurd this (Nat.not_succ_le_zero 0)
      | cons a b => rfl
    rw [encI_arr]
    walk_at "dr"
    refine ifF ne_ ⟨["array", "list", "choice", "record"], rfl, ifT (by decide +kernel) ?_⟩
    rw [hes]
    exact ⟨p, .arr a wd sg cn rg df, rows, es, o, by rw [encI_arr], hw, c, rfl, hp, hlo, q⟩
  | list a cn its =>
    cases k with
    | zero => exact (c.pat.1).elim
    | succ n =>
    have hes : es[0]? = some (es.headD .non) := by
      have := c.len
      cases es with
      | nil => exact absurd this (Nat.not_succ_le_zero 0)
      | cons a b => rfl
    rw [encI_list]
    walk_at "dr"
    refine ifF ne_ ⟨["array", "list", "choice", "record"], rfl, ifT (by decide +kernel) ?_⟩
    rw [hes]
    exact ⟨p, .list a cn its, rows, es, o, by rw [encI_list], hw, c, rfl, hp, hlo, q⟩
  | rcd a its =>
    cases k with
    | zero => exact (c.pat.1).elim
    | succ n =>
    have hes : es[0]? = some (es.headD .non) := by
      have := c.len
      cases es with
      | nil => exact absurd this (Nat.not_succ_le_zero 0)
      | cons a b => rfl
    rw [encI_rcd]
    walk_at "dr"
    refine ifF ne_ ⟨["array", "list", "choice", "record"], rfl, ifT (by decide +kernel) ?_⟩
    rw [hes]
    exact ⟨p, .rcd a its, rows, es, o, by rw [encI_rcd], hw, c, rfl, hp, hlo, q⟩
  | choice a wd cs =>
    cases k with
    | zero => exact (c.pat.1).elim
    | succ n =>
    have hes : es[0]? = some (es.headD .non) := by
      have := c.len
      cases es with
      | nil => exact absurd this (Nat.not_succ_le_zero 0)
      | cons a b => rfl
    rw [encI_choice]
    walk_at "dr"
    refine ifF ne_ ⟨["array", "list", "choice", "record"], rfl, ifT (by decide +kernel) ?_⟩
    rw [hes]
    exact ⟨p, .choice a wd cs, rows, es, o, by rw [encI_choice], hw, c, rfl, hp, hlo, q⟩
theorem sc_append_pattern : FnScope ["out", "layout", "pattern", "item", "at"] ["out", "layout", "pattern"] (defScope s_append_pattern) := ⟨rfl, rfl, rfl, by decide +kernel, rfl, by decide +kernel, by decide +kernel⟩
theorem cal_append_pattern (k : Nat) (D0 : Def K mg "append_pattern" s_append_pattern) (B : Blt mg) (c_placed : Cal P w K mg base "placed" (3) ["layout"] (up K 1 sp_placed)) (c_append_item : Cal P w K mg base "append_item" (10*k+7 + 1) ["out", "item", "entries"] (up K 3 (sp_itemN k)))  : Cal P w K mg base "append_pattern" (10*k+8 + 1) ["out", "layout", "pattern"] (up K 3 (sp_patN k)) := by
  refine D0.cal (N := ["out", "layout", "pattern", "item", "at"]) (k := 10*k+8) sc_append_pattern [none, none] rfl (fun _ _ _ _ _ _ us hl => match us, hl with | [_, _, _], _ => rfl) (fun f cdv A outer s H E hr => ⟨_, _,
(dss_cons (ds_for PassesOwn.never rfl (di_seq (de_call c_placed (hr.mono (by first | decide | omega)) (by rfl) (da_cons (dv 1) da_nil))) (dg_tup rfl (dgs_cons (dg_name (i := 3) sc_append_pattern.nd rfl (.inl rfl)) (dgs_cons (dg_name (i := 4) sc_append_pattern.nd rfl (.inl rfl)) dgs_nil)))
(dss_one (ds_if (dt_not (dt_val (de_call c_append_item (hr.mono (by first | decide | omega)) (by rfl) (da_cons (dv 0) (da_cons (dv 3) (da_cons (de_sl (dv 2) (dp_some (dv 4)) dp_none) da_nil))))))
(dss_one (ds_ret de_bl))
dss_nil)))
(dss_one (ds_ret de_bl))),
    fun ds m Q hl hs => ?_⟩)
  -- slots: 0 out 1 layout 2 pattern 3 item 4 at
  obtain ⟨p, its, rows, es, o, rfl, hw, c, hp, hlo, q⟩ := hs
  walk_at "dr"
  refine ⟨k, its, rfl, hw, ?_⟩
  rw [plD_plL]
  refine loop_map (f := fun t : Item × Nat => D.tup [encI k t.1, .int (t.2 : Nat)]) (fun pp g' m' => ∃ (y1 y2 : Option D) (o' : List Int), g' = [some (.adr p), some (encL k its), some (.tup es), y1, y2] ∧ m' = mset m p (o'.map D.int) ∧ Done k its (pp.map Prod.fst) es o o') ⟨none, none, o, rfl, (mset_id hp).symm, done_nil⟩ (fun _ _ _ _ => trivial) (fun pre x post g' m' hd hI => ?_) (fun g' m' hI => ?_)
  · obtain ⟨y1, y2, o', rfl, rfl, hI⟩ := hI
    obtain ⟨e1, e2⟩ := plL_split hd
    rw [Nat.zero_add] at e2
    rw [e1] at hI c
    have hx : x.1 ∈ its := by
      rw [e1]
      exact List.mem_append_right _ List.mem_cons_self
    have hkl : x.2 ≤ es.length := by
      have := c.len
      rw [kinds_app, List.length_append] at this
      omega
    have hln := done_len c hI
    rw [← e1] at hln
    walk_at "dr"
    rw [cut_drop hkl]
    have cm := ctx_mid c
    rw [← e2] at cm
    refine ⟨rfl, p, x.1, _, _, o', rfl, hw.2 _ hx, cm, mset_same, by omega, fun o3 b g => ?_⟩
    rw [mset_mset]
    rw [e2] at g
    cases b with
    | true =>
      refine ⟨_, _, o3, rfl, rfl, ?_⟩
      rw [List.map_append, e1]
      exact done_step hI g
    | false =>
      have z := done_stop c hI g
      rw [← e1] at z
      exact q o3 false z
  · obtain ⟨y1, y2, o', rfl, rfl, hI⟩ := hI
    rw [plL_fst] at hI
    exact q o' true (done_all hI)
end
end BB

namespace BB
open PySem PySem.Spec PyProof.Rows L2
local macro_rules | `(tactic| walk_at "dl") => `(tactic| simp only [dIfS, dIfE, dTest, dOp, dVar, dC, dIx, dEq, dNe, dI, dIc, dIsN, dNotN, isNonD, dAndT, dOrT, dNotT, dAndV, dNeg, dAdd, dTup, dLst, dCons, dNil, dCB, dCall, dLc, true_and, dLen, dInt1, dInt2, withSeq, with1_1, onSome_some, atI_0, atI_1, atI_2, atI_3, atI_4, atI_5, atI_6, List.getElem?_cons_succ, List.getElem?_cons_zero, List.set_cons_zero, List.set_cons_succ, gdN, Part.enc, encN, Bool.not_true, Bool.not_false, mapS_cons, mapS_nil, List.length_cons, List.length_nil, List.cons_append, List.nil_append, gdTup, gdCons, gdNil, dAppend, dExtend, dListF, dTupOf, dMul, dSl, dNoP, dPart])
local macro_rules | `(tactic| walk_at "dr") => `(tactic| simp only [dSeq, dAsg, dRet, dRetW, dDrop, dNext, dFor, diSeq, dIfS, dIfE, dTest, dOp, dVar, dC, dIx, dEq, dNe, dI, dIc, dIsN, dNotN, isNonD, dAndT, dOrT, dNotT, dAndV, dNeg, dAdd, dTup, dLst, dCons, dNil, dCB, dCall, dLc, true_and, dLen, dInt1, dInt2, withSeq, with1_1, onSome_some, atI_0, atI_1, atI_2, atI_3, atI_4, atI_5, atI_6, List.getElem?_cons_succ, List.getElem?_cons_zero, List.set_cons_zero, List.set_cons_succ, gdN, Part.enc, encN, Bool.not_true, Bool.not_false, mapS_cons, mapS_nil, List.length_cons, List.length_nil, List.cons_append, List.nil_append, gdTup, gdCons, gdNil, dAppend, dExtend, dListF, dTupOf, dMul, dSl, dNoP, dPart])

def sp_determined (n : Nat) : SpD := fun ds m Q => ∃ (its : List Item) (rows : List (List D)) (P : List D), ds = [encL n its, .tup P] ∧ wfL n its ∧ Ctx n (kinds its) rows P ∧ mxL n its ≤ 1000 ∧ ∀ p o' b, m p = none → GoodL n its rows P [] o' b → Q (.adr p) (mset m p (o'.map D.int))
section
variable {P : Program} {w : World} {K : PySem.W.Frag} {mg : Str → Option Value} {base : Heap}
theorem sc_determined : FnScope ["layout", "pattern", "out"] ["layout", "pattern"] (defScope s_determined) := ⟨rfl, rfl, rfl, by decide +kernel, rfl, by decide +kernel, by decide +kernel⟩
theorem cal_determined (k : Nat) (D0 : Def K mg "determined" s_determined) (B : Blt mg) (c_append_pattern : Cal P w K mg base "append_pattern" (10*k+10) ["out", "layout", "pattern"] (up K 3 (sp_patN k)))  : Cal P w K mg base "determined" (10*k+10 + 1) ["layout", "pattern"] (up K 2 (sp_determined k)) := by
  refine D0.cal (N := ["layout", "pattern", "out"]) (k := 10*k+10) sc_determined [none] rfl (fun _ _ _ _ _ _ us hl => match us, hl with | [_, _], _ => rfl) (fun f cdv A outer s H E hr => ⟨_, _,
(dss_cons (ds_set (i := 2) sc_determined.nd rfl (.inl rfl) (de_new da_nil))
(dss_cons (ds_expr (de_call c_append_pattern (hr.mono (by first | decide | omega)) (by rfl) (da_cons (dv 2) (da_cons (dv 0) (da_cons (dv 1) da_nil)))))
(dss_one (ds_ret (dv 2))))),
    fun ds m Q hl hs => ?_⟩)
  -- slots: 0 layout 1 pattern 2 out
  obtain ⟨its, rows, es, rfl, hw, c, hlo, q⟩ := hs
  refine ⟨Nat.zero_le _, fun p hp => ?_⟩
  walk_at "dr"
  refine ⟨p, its, rows, es, [], rfl, hw, c, mset_same, ?_, fun o' b g => ?_⟩
  · show 0 + mxL k its ≤ 1000
    omega
  · rw [mset_mset]
    exact q p o' b hp g
end
end BB

namespace BB
open PySem PySem.Spec PyProof.Rows L2 HT

/-! ## t[::-1] of a tuple -/
theorem adjust_rev (n : Nat) : Builtin.Slice.sliceAdjust none none (-1) (n : Int) = ((n : Int) - 1, -1) := rfl
theorem places_rev (n : Nat) : Builtin.Slice.slicePlaces ((n : Int) - 1) (-1) (-1) = n := by
  unfold Builtin.Slice.slicePlaces
  rw [if_neg (by decide)]
  by_cases h : (n : Int) - 1 > -1
  · rw [if_pos h, show (- -1 : Int) = 1 from rfl, Int.ediv_one]
    omega
  · rw [if_neg h]
    omega
theorem fm_congr {α β : Type} {f g : α → Option β} : ∀ {l : List α}, (∀ x ∈ l, f x = g x) → l.filterMap f = l.filterMap g
  | [], _ => rfl
  | x :: l, h => by
    rw [List.filterMap_cons, List.filterMap_cons, h x List.mem_cons_self, fm_congr (l := l) fun y hy => h y (List.mem_cons_of_mem _ hy)]
theorem pick_rev (xs : Array Value) : ((List.range xs.size).filterMap fun (m : Nat) => xs[(((xs.size : Int) - 1) + (m : Int) * (-1)).toNat]?).toArray = xs.toList.reverse.toArray := by
  congr 1
  have e : (List.range xs.size).filterMap (fun (m : Nat) => xs[(((xs.size : Int) - 1) + (m : Int) * (-1)).toNat]?) = (List.range xs.toList.reverse.length).filterMap fun m => xs.toList.reverse[m]? := by
    have hl : xs.toList.reverse.length = xs.size := by rw [List.length_reverse, Array.length_toList]
    rw [hl]
    refine fm_congr fun m hm => ?_
    have hm2 := List.mem_range.mp hm
    have e1 : (((xs.size : Int) - 1) + (m : Int) * (-1)).toNat = xs.size - 1 - m := by omega
    rw [e1, List.getElem?_reverse (by rw [Array.length_toList]; exact hm2), Array.length_toList, Array.getElem?_toList]
  rw [e]
  generalize xs.toList.reverse = l
  induction l with
  | nil => rfl
  | cons a l ih =>
    rw [List.length_cons, List.range_succ_eq_map, List.filterMap_cons, List.filterMap_map]
    show a :: _ = _
    refine congrArg _ ?_
    exact ih
variable {prog : Program} {w : World} {A : Around} {E : Value → Shared → Prop} {s : Shared}
theorem sliceApplied_rev {sl : Addr} {vs : Value} {n : Nat} {Q : Int × Int × Nat → Shared → Prop} (hs : s.heap.IsSliceOf sl .none .none vs) (ps : IsPart vs (some (-1)))
    (h : Q ((n : Int) - 1, -1, n) s) : wpAny (model prog w) A (Builtin.Slice.sliceApplied (.ref sl) (pure (n : Int))) Q E s := by
  obtain ⟨os, hos, hcs, hds⟩ := id hs
  unfold Builtin.Slice.sliceApplied Builtin.Slice.sliceFields
  refine wpAny_bind (wpAny_bind (wpAny_field hos hds (x := .none) rfl (wpAny_bind (wpAny_field hos hds (x := .none) rfl (wpAny_bind (wpAny_field hos hds (x := vs) rfl (wpAny_pure ?_)))))))
  refine wpAny_bind (slicePart_ ps ?_)
  show wpAny _ _ (if ((-1 : Int) == 0) = true then _ else _) _ _ s
  rw [if_neg (by decide)]
  refine wpAny_bind (slicePart_none (wpAny_bind (slicePart_none (wpAny_bind (wpAny_pure ?_)))))
  show wpAny _ _ (match Builtin.Slice.sliceAdjust none none (-1) (n : Int) with | (lo, hi) => pure (lo, (-1 : Int), Builtin.Slice.slicePlaces lo hi (-1))) _ _ s
  rw [adjust_rev]
  show wpAny _ _ (pure ((n : Int) - 1, (-1 : Int), Builtin.Slice.slicePlaces ((n : Int) - 1) (-1) (-1))) _ _ s
  rw [places_rev]
  exact wpAny_pure h
theorem getItem_tuple_rev {t sl : Addr} {items : Array Value} {vs : Value} {Q : Value → Shared → Prop} (ht : IsTup s.heap t items) (hs : s.heap.IsSliceOf sl .none .none vs) (ps : IsPart vs (some (-1)))
    (h : Q (.ref s.heap.objs.size) { s with heap := s.heap.push { cls := .type "tuple", data := .seq items.toList.reverse.toArray } })
    (hsz : items.size ≤ sizeLine) : wpAny (model prog w) A (getItem (.ref t) (.ref sl)) Q E s := by
  have htake : sizeOk (.seq items.toList.reverse.toArray) := by
    show items.toList.reverse.toArray.size ≤ sizeLine
    rw [List.size_toArray, List.length_reverse, Array.length_toList]
    exact hsz
  obtain ⟨os, hos, hcs, hds⟩ := id hs
  have hTs : s.TypeIs (.ref sl) "slice" := ⟨os, hos, hcs⟩
  unfold getItem
  try with_reducible refine wpAny_holding ?_
  first | refine wpAny_bind (wpAny_pure ?_) | skip
  refine wpAny_bind (wpAny_sequenceKey ht.typeIs (by decide) ?_)
  refine wpAny_bind (wpAny_callSpecial?_slot (name := Str.ofString "__getitem__") ht.typeIs PyProof.Rows.slot_tuple_getitem (wpAny_call_entry PyProof.Rows.slot_tuple_getitem ht.typeIs entry_tuple_getitem ?_ (args_tuple_getitem _ _)))
  show wpAny _ _ (Builtin.Tuple.tupleItemsOf (.ref t) >>= _) _ _ s
  refine wpAny_bind (tupleItemsOf_ ht ?_)
  refine wpAny_bind (wpAny_typeOf hTs ?_)
  rw [if_pos (by decide)]
  refine wpAny_bind (sliceApplied_rev hs ps ?_)
  have hno : ¬ ((((items.size : Int) - 1) == 0 && (-1 : Int) == 1 && items.size == items.size) = true) := by simp
  show wpAny _ _ (if (((items.size : Int) - 1) == 0 && (-1 : Int) == 1 && items.size == items.size) = true then _ else _) _ _ s
  rw [if_neg hno, pick_rev]
  first
    | exact wpAny_bind (m := Builtin.Tuple.tupleExact _) (wpAny_newObj_type (wpAny_pure ⟨_, rfl, wpAny_pure h⟩) htake)
    | exact wpAny_bind (m := Builtin.Tuple.tupleExact _) (wpAny_newObj_type (wpAny_bind (wpAny_pure (wpAny_pure ⟨_, rfl, wpAny_pure h⟩))) htake)
    | exact wpAny_bind (wpAny_bind (m := Builtin.Tuple.tupleExact _) (wpAny_newObj_type (wpAny_pure (wpAny_pure ⟨_, rfl, wpAny_pure h⟩)) htake))
    | exact wpAny_bind (wpAny_bind (m := Builtin.Tuple.tupleExact _) (wpAny_newObj_type (wpAny_pure ⟨_, rfl, wpAny_pure h⟩) htake))
def tRevT (K : PySem.W.Frag) (te : TE) : TE := fun σ H Q => te σ H fun x H1 => ∃ a xs, x = .ref a ∧ SqT K H1 a xs ∧ ∀ p, H1 p = none → Q (.ref p) (upd H1 p (.tup xs.reverse))
theorem pe_revT {X : Cx} {e : Expr} {te : TE} {k : Nat} {p1 p2 p3 pos : Pos} (he : PE X e te) : PE X (.Subscript e (.Slice none none (some (.UnaryOp .USub (.Constant (.int 1) k p1) p2)) p3) pos) (tRevT X.K te) := by
  refine ⟨fun pins s σ H Q I h => ?_⟩
  refine Subscript_ (thn (he.run pins s σ H _ I h) fun v s1 ⟨x, H1, I1, r1, q1⟩ => ?_)
  obtain ⟨a, xs, ex, hx, q⟩ := q1
  subst ex
  cases r1
  have hst : PO X (some (.UnaryOp .USub (.Constant (.int 1) k p1) p2)) (tPart (tUn (rU fun i => .int (-i)) (tC (.int 1)))) := po_some (pe_un un_neg pe_int)
  refine wpAny_Slice (thn (po_none.run pins s1 σ H1 (fun o H2 => o = none ∧ H2 = H1) I1 ⟨rfl, rfl⟩) fun vl s2 ⟨l, H2, I2, pl, el, e2⟩ => ?_)
  subst el e2
  refine thn (po_none.run pins s2 σ H2 (fun o H3 => o = none ∧ H3 = H2) I2 ⟨rfl, rfl⟩) fun vu s3 ⟨u, H3, I3, pu, eu, e3⟩ => ?_
  subst eu e3
  refine thn (hst.run pins s3 σ H3 (fun o H4 => o = some (-1) ∧ H4 = H3) I3 ⟨1, rfl, -1, rfl, rfl, rfl⟩) fun vs s4 ⟨o, H4, I4, ps, eo, e4⟩ => ?_
  subst eo e4
  cases pl
  cases pu
  have I5 : Inv X pins σ H4 { s4 with heap := s4.heap.push { cls := .type "slice", data := .fields #[.none, .none, vs] } } := I4.kept (t' := s4.toks) fun b ob q => Heap.get?_push_of_some _ q
  obtain ⟨its, r, ht, hz⟩ := I5.tuple hx
  have hlen := r.length
  show wpAny (model X.prog X.w) X.A (subscriptTail e (.Slice none none (some (.UnaryOp .USub (.Constant (.int 1) k p1) p2)) p3) (.ref a) (.ref s4.heap.objs.size)) (EP X pins σ Q) X.xe { s4 with heap := s4.heap.push { cls := .type "slice", data := .fields #[.none, .none, vs] } }
  refine tail_any (ops := [.ref a, .ref s4.heap.objs.size]) ht.typeIs (PyProof.Rows.slot_tuple_getitem.lookup) ?_ (by with_unfolding_all rfl)
  refine getItem_tuple_rev ht (Heap.IsSliceOf.new _ .none .none vs) ps ?_ (by rw [List.size_toArray]; omega)
  refine ⟨.ref _, _, I5.laid (t' := s4.toks) (o := .tup xs.reverse) (fun b ob q => Heap.get?_push_of_some _ q) (Nat.le_refl _) ?_, rfl, q _ (I5.hok.fresh (Nat.le_refl _))⟩
  exact ⟨by rw [List.length_reverse]; exact hz, _, r.reverse, IsTup.new _ _⟩
def dRevT (td : TED) : TED := fun g m Q => td g m fun d m1 => match d with
  | .tup ds => Q (.tup ds.reverse) m1
  | _ => False
theorem de_revT {X : Cx} {e : Expr} {te : PySem.W.Frag → TE} {dd : TED} {k0 : Nat} {p1 p2 p3 pos : Pos} (he : DE X e te dd) : DE X (.Subscript e (.Slice none none (some (.UnaryOp .USub (.Constant (.int 1) k0 p1) p2)) p3) pos) (fun K => tRevT K (te K)) (dRevT dd) := ⟨pe_revT he.pe, fun F H m σ g Q R r s q k => by
  refine he.sn F H m σ g _ _ r s q fun d m1 v F1 H1 h1 e1 r1 i1 => ?_
  split at h1
  · rename_i ds
    obtain ⟨p, xs, rfl, k1, k2⟩ := i1
    refine ⟨p, xs, rfl, rep_t r1 k1, fun z hz => ?_⟩
    exact k _ _ _ _ _ h1 (e1.trans (same_new (r1.fr hz))) (r1.newF hz) ⟨z, _, rfl, .inl (.inl upd_same), isDs_mono (same_new (r1.fr hz)) (isDs_rev k2)⟩
  · exact h1.elim⟩
end BB

namespace BB
open PySem PySem.Spec PyProof.Rows L2

/-! ## a dict that is written out and read at once -/
theorem sqT_upd {K : PySem.W.Frag} {F : Hp} {p a : Addr} {kvs : List (Key × V)} {o : HO} {xs : List V} (hp : F p = some (.dK kvs)) (h : SqT K F a xs) : SqT K (upd F p o) a xs := by
  rcases h with (h | ⟨o', h⟩) | h
  · exact .inl (.inl (by rw [upd_ne (fun e => by rw [e, hp] at h; cases h)]; exact h))
  · exact .inl (.inr ⟨o', by rw [upd_ne (fun e => by rw [e, hp] at h; cases h)]; exact h⟩)
  · exact .inr h
theorem sqL_upd {K : PySem.W.Frag} {F : Hp} {p a : Addr} {kvs : List (Key × V)} {o : HO} {xs : List V} (hp : F p = some (.dK kvs)) (h : SqL K F a xs) : SqL K (upd F p o) a xs := by
  rcases h with (h | ⟨o', h⟩) | h
  · exact .inl (.inl (by rw [upd_ne (fun e => by rw [e, hp] at h; cases h)]; exact h))
  · exact .inl (.inr ⟨o', by rw [upd_ne (fun e => by rw [e, hp] at h; cases h)]; exact h⟩)
  · exact .inr h
mutual
theorem isD_upd {K : PySem.W.Frag} {F : Hp} {p : Addr} {kvs : List (Key × V)} {o : HO} (hp : F p = some (.dK kvs)) : ∀ {d : D} {v : V}, IsD K F d v → IsD K (upd F p o) d v
  | .non, _, h => h
  | .bl _, _, h => h
  | .int _, _, h => h
  | .str _, _, h => h
  | .tup _, _, ⟨a, xs, hv, hF, hs⟩ => ⟨a, xs, hv, sqT_upd hp hF, isDs_upd hp hs⟩
  | .lst _, _, ⟨a, xs, hv, hF, hs⟩ => ⟨a, xs, hv, by rw [upd_ne (fun e => by rw [e, hp] at hF; cases hF)]; exact hF, isDs_upd hp hs⟩
  | .adr _, _, h => h
  | .scr _, _, ⟨a, h1, h2⟩ => ⟨a, h1, sqL_upd hp h2⟩
theorem isDs_upd {K : PySem.W.Frag} {F : Hp} {p : Addr} {kvs : List (Key × V)} {o : HO} (hp : F p = some (.dK kvs)) : ∀ {ds : List D} {xs : List V}, IsDs K F ds xs → IsDs K (upd F p o) ds xs
  | [], _, h => h
  | _ :: _, _, ⟨x, r, h1, h2, h3⟩ => ⟨x, r, h1, isD_upd hp h2, isDs_upd hp h3⟩
end
theorem Rep.updK {K : PySem.W.Frag} {F H : Hp} {m : Mu} {p : Addr} {kvs : List (Key × V)} {o : HO} (r : Rep K F H m) (hp : F p = some (.dK kvs)) : Rep K (upd F p o) (upd H p o) m where
  sub := fun b u e => by
    by_cases hb : b = p
    · subst hb
      rw [upd_same] at e ⊢
      exact e
    · rw [upd_ne hb] at e ⊢
      exact r.sub _ _ e
  mem := fun b es e => by
    obtain ⟨h1, ys, h2, h3⟩ := r.mem _ _ e
    have hb : b ≠ p := fun q => by
      rw [q, hp] at h1
      cases h1
    exact ⟨by rw [upd_ne hb]; exact h1, ys, by rw [upd_ne hb]; exact h2, isDs_upd hp h3⟩
structure DPs (X : Cx) (pos : Pos) (keys : List (Option Expr)) (values : List Expr) (ks : List Key) (t : PySem.W.Frag → List (TE × TE)) (dt : TAD) : Prop where
  pe : PPs X pos keys values (t X.K)
  sn : ∀ (F H : Hp) (m : Mu) (σ : L2.St) (g : Env') (Q : List D → Mu → Prop) (R : List (V × V) → Hp → Prop), Rep X.K F H m → Slots X.K F σ g → dt g m Q →
    (∀ (ds : List D) (m' : Mu) (xs : List V) (F' H' : Hp), Q ds m' → Same F F' → Rep X.K F' H' m' → IsDs X.K F' ds xs → xs.length = ks.length → R ((ks.zip xs).map fun p => (kV p.1, p.2)) H') → tPairs (t X.K) σ H R
section
variable {X : Cx} {pos : Pos} {keys : List (Option Expr)} {values : List Expr} {ks : List Key} {t : PySem.W.Frag → List (TE × TE)} {dt : TAD} {v : Expr} {te : PySem.W.Frag → TE} {dd : TED}
theorem dps_nil : DPs X pos [] [] [] (fun _ => []) dNil := ⟨pps_nil, fun F H m σ g Q R r s q k => k [] m [] F H q (Same.refl F) r rfl rfl⟩
theorem dps_key {e : Expr} {ky : Key} (he : PE X e (tC (kV ky))) (hv : DE X v te dd) (h : DPs X pos keys values ks t dt) : DPs X pos (some e :: keys) (v :: values) (ky :: ks) (fun K => (tC (kV ky), te K) :: t K) (dCons dd dt) := ⟨pps_cons he hv.pe h.pe, fun F H m σ g Q R r s q k => by
  refine hv.sn F H m σ g _ _ r s q fun d m1 x F1 H1 q1 e1 r1 i1 => ?_
  refine h.sn F1 H1 m1 σ g _ _ r1 (s.mono e1) q1 fun ds m2 xs F2 H2 q2 e2 r2 i2 l2 => ?_
  exact k (d :: ds) m2 (x :: xs) F2 H2 q2 (e1.trans e2) r2 (isDs_cons (isD_mono e2 i1) i2) (by rw [List.length_cons, List.length_cons, l2])⟩
theorem dps_str {z : Str} {j p} (hv : DE X v te dd) (h : DPs X pos keys values ks t dt) : DPs X pos (some (.Constant (.str z) j p) :: keys) (v :: values) (.inr z :: ks) (fun K => (tC (.str z), te K) :: t K) (dCons dd dt) := dps_key (ky := .inr z) pe_str hv h
theorem dps_int {i : Int} {j p} (hv : DE X v te dd) (h : DPs X pos keys values ks t dt) : DPs X pos (some (.Constant (.int i) j p) :: keys) (v :: values) (.inl i :: ks) (fun K => (tC (.int i), te K) :: t K) (dCons dd dt) := dps_key (ky := .inl i) pe_int hv h
def keyD : D → Option Key
  | .int i => some (.inl i)
  | .str s => some (.inr s)
  | _ => none
def dTab (ks : List Key) (dt : TAD) (dk : TED) : TED := fun g m Q => dt g m fun ds m1 => dk g m1 fun kd m2 => ∃ (i : Nat) (ky : Key) (d : D), keyD kd = some ky ∧ ks[i]? = some ky ∧ ds[i]? = some d ∧ Q d m2
theorem merge_nd : ∀ (kvs acc : List (Key × V)), ((acc ++ kvs).map (·.1)).Nodup → mergeK acc kvs = acc ++ kvs
  | [], acc, _ => (List.append_nil acc).symm
  | p :: r, acc, h => by
    have hn : valV acc p.1 = none := by
      cases e : valV acc p.1 with
      | none => rfl
      | some x =>
        unfold valV at e
        cases hf : acc.find? (fun kv => decide (kv.1 = p.1)) with
        | none =>
          rw [hf] at e
          cases e
        | some q =>
          have m1 := List.mem_of_find?_eq_some hf
          have m2 := of_decide_eq_true (List.find?_some (p := fun kv : Key × V => decide (kv.1 = p.1)) hf)
          rw [List.map_append, List.nodup_append] at h
          exact absurd rfl (h.2.2 q.1 (List.mem_map_of_mem m1) p.1 (by rw [List.map_cons]; exact List.mem_cons_self) |> fun z => by rw [m2] at z; exact z)
    show mergeK (putK acc p.1 p.2) r = _
    rw [putK_new p.2 hn, merge_nd r (acc ++ [(p.1, p.2)]) (by rw [List.append_assoc]; exact h), List.append_assoc]
    rfl
theorem val_zip : ∀ {ks : List Key} {xs : List V} {i : Nat} {ky : Key} {x : V}, ks.Nodup → ks[i]? = some ky → xs[i]? = some x → valV (ks.zip xs) ky = some x
  | [], _, i, _, _, _, h, _ => by simp at h
  | k :: ks, [], i, _, _, _, _, h => by simp at h
  | k :: ks, y :: xs, 0, ky, x, hn, h1, h2 => by
    have e1 : k = ky := Option.some.inj h1
    have e2 : y = x := Option.some.inj h2
    rw [← e2]
    exact valV_pos (p := (k, y)) e1
  | k :: ks, y :: xs, i + 1, ky, x, hn, h1, h2 => by
    rw [List.nodup_cons] at hn
    have hne : ¬ k = ky := fun e => hn.1 (by rw [e]; exact List.mem_of_getElem? h1)
    show valV ((k, y) :: ks.zip xs) ky = some x
    rw [valV_neg (p := (k, y)) hne]
    exact val_zip hn.2 h1 h2
theorem de_tab {x : Str} {p1 p2 : Pos} {tk : PySem.W.Frag → TE} {dk : TED} (hu : X.A.units + 64 < cLine) (h : DPs X pos keys values ks t dt) (hk : DE X (.Name x p1) tk dk) (hnd : ks.Nodup) (hall : keys.all (·.isSome) = true) (hl : keys.length = values.length) (h0 : keys ≠ []) (h15 : keys.length ≤ 15) (hks : ks.length ≤ 15) :
    DE X (.Subscript (.Dict keys values pos) (.Name x p1) p2) (fun K => tDGet (tDisp (t K)) (tk K)) (dTab ks dt dk) := ⟨pe_dget (by omega) (pe_disp h.pe hall hl h0 h15) hk.pe (fun _ _ => rfl), fun F H m σ g Q R r s q k => by
  intro p hp
  have e0 : Same F (upd F p (.dK [])) := same_new (r.fr hp)
  refine h.sn (upd F p (.dK [])) (upd H p (.dK [])) m σ g _ _ (r.newF hp) (s.mono e0) q fun ds m1 xs F1 H1 q1 e1 r1 i1 l1 => ?_
  have hp1 : F1 p = some (.dK []) := e1 _ _ upd_same
  have hzl : (ks.zip xs).length ≤ 15 := by
    rw [List.length_zip]
    exact Nat.le_trans (Nat.min_le_left _ _) hks
  have hfst : (ks.zip xs).map (·.1) = ks := List.map_fst_zip (Nat.le_of_eq l1.symm)
  refine ⟨r1.sub _ _ hp1, ks.zip xs, rfl, hzl, ?_⟩
  have hm : mergeK [] (ks.zip xs) = ks.zip xs := merge_nd _ [] (by rw [List.nil_append, hfst]; exact hnd)
  rw [hm]
  have eF : Same F (upd F1 p (.dK (ks.zip xs))) := fun b u e => by
    have hb : b ≠ p := ne_of_none e (r.fr hp)
    rw [upd_ne hb]
    exact e1 _ _ (e0 _ _ e)
  refine hk.sn (upd F1 p (.dK (ks.zip xs))) (upd H1 p (.dK (ks.zip xs))) m1 σ g _ _ (r1.updK hp1) (s.mono eF) q1 fun kd m2 kv F2 H2 q2 e2 r2 i2 => ?_
  obtain ⟨i, ky, d, hky, hi, hd, q2⟩ := q2
  have hH : H2 p = some (.dK (ks.zip xs)) := r2.sub _ _ (e2 _ _ upd_same)
  have ekv : kv = kV ky := by
    cases kd with
    | int j =>
      have e1 : kv = .int j := i2
      rw [e1, ← Option.some.inj hky]
      rfl
    | str z =>
      have e1 : kv = .str z := i2
      rw [e1, ← Option.some.inj hky]
      rfl
    | _ => cases hky
  obtain ⟨y, hy, iy⟩ := isDs_get i1 hd
  refine ⟨p, y, rfl, ?_, k d m2 y F2 H2 q2 (eF.trans e2) r2 (isD_mono e2 (isD_upd hp1 iy))⟩
  rw [ekv]
  have z := DGet.k (a := p) (k := ky) hH
  rw [val_zip hnd hi hy] at z
  exact z⟩
end
/-! ## each number once -/
def onceL : List Int → List Int → List Int
  | acc, [] => acc
  | acc, n :: r => onceL (if n ∈ acc then acc else acc ++ [n]) r
theorem onceL_snoc : ∀ (ns acc : List Int) (n : Int), onceL acc (ns ++ [n]) = if n ∈ onceL acc ns then onceL acc ns else onceL acc ns ++ [n]
  | [], acc, n => rfl
  | x :: ns, acc, n => onceL_snoc ns _ n
theorem onceL_mem : ∀ (ns acc : List Int) (n : Int), n ∈ onceL acc ns ↔ n ∈ acc ∨ n ∈ ns
  | [], acc, n => ⟨.inl, fun h => h.elim id fun z => nomatch z⟩
  | x :: ns, acc, n => by
    show n ∈ onceL (if x ∈ acc then acc else acc ++ [x]) ns ↔ _
    rw [onceL_mem ns]
    by_cases hx : x ∈ acc
    · rw [if_pos hx]
      refine ⟨fun h => h.elim .inl fun z => .inr (List.mem_cons_of_mem _ z), fun h => h.elim .inl fun z => ?_⟩
      rcases List.mem_cons.mp z with e | e
      · exact .inl (e ▸ hx)
      · exact .inr e
    · rw [if_neg hx, List.mem_append, List.mem_singleton, List.mem_cons, or_assoc]
theorem onceL_nd : ∀ (ns acc : List Int), acc.Nodup → (onceL acc ns).Nodup
  | [], _, h => h
  | x :: ns, acc, h => by
    refine onceL_nd ns _ ?_
    by_cases hx : x ∈ acc
    · rw [if_pos hx]
      exact h
    · rw [if_neg hx]
      exact List.nodup_append.mpr ⟨h, List.nodup_cons.mpr ⟨fun z => (nomatch z), List.nodup_nil⟩, fun a ha b hb => by
        rw [List.mem_singleton.mp hb]
        exact fun e => hx (e ▸ ha)⟩
theorem onceL_len : ∀ (ns acc : List Int), (onceL acc ns).length ≤ acc.length + ns.length
  | [], _ => Nat.le_refl _
  | x :: ns, acc => by
    have z := onceL_len ns (if x ∈ acc then acc else acc ++ [x])
    have z2 : (if x ∈ acc then acc else acc ++ [x]).length ≤ acc.length + 1 := by
      split
      · exact Nat.le_succ _
      · rw [List.length_append] <;> exact Nat.le_refl _
    show (onceL (if x ∈ acc then acc else acc ++ [x]) ns).length ≤ _
    rw [List.length_cons]
    omega
abbrev eK (n : Int) : Key × V := (.inl n, .bl true)
theorem putK_once (acc : List Int) (n : Int) : putK (acc.map eK) (.inl n) (.bl true) = (if n ∈ acc then acc else acc ++ [n]).map eK := by
  have e : ((acc.map eK).any fun kv => decide (kv.1 = (.inl n : Key))) = decide (n ∈ acc) := by
    rw [List.any_map]
    rcases Decidable.em (n ∈ acc) with h | h
    · rw [decide_eq_true h]
      exact List.any_eq_true.mpr ⟨n, h, decide_eq_true rfl⟩
    · rw [decide_eq_false h]
      refine List.any_eq_false.mpr fun x hx => ?_
      intro z
      have z2 : (.inl x : Key) = .inl n := of_decide_eq_true z
      exact h (Sum.inl.inj z2 ▸ hx)
  unfold putK
  rw [e]
  by_cases h : n ∈ acc
  · rw [if_pos (decide_eq_true h), if_pos h, List.map_map]
    refine List.map_congr_left fun x _ => ?_
    show (if (.inl x : Key) = .inl n then ((.inl x : Key), V.bl true) else eK x) = eK x
    split <;> rfl
  · rw [if_neg (by rw [decide_eq_false h]; exact Bool.false_ne_true), if_neg h, List.map_append]
    rfl
def dOnce : TSD := fun E g m => ∃ ns : List Int, g = [some (.lst (ns.map D.int)), none, none] ∧ ns.length ≤ 100000 ∧ E.rt (.lst ((onceL [] ns).map D.int)) m
theorem sn_once {K : PySem.W.Frag} : SndS K (tSeq (tAsg tDNewK (gName 1)) (tSeq (tFor (iSeq K (tVar 0)) (gName 2) (sDPut (tVar 1) (tVar 2) (tC (.bl true)))) (tRet (tCB rListD (tCons (tVar 1) tNil))))) dOnce := fun F H m σ g E De r s q k1 k2 => by
  obtain ⟨ns, rfl, hl, q⟩ := q
  obtain ⟨v0, hσ, a, xs, rfl, hF, hx⟩ := s.2 0 _ rfl
  have hsl : σ.length = 3 := s.1
  have exs := isDs_ints hx
  subst exs
  intro p hp
  have hH := r.sub _ _ hF
  have hap : a ≠ p := ne_of_none hH hp
  have hlen : ∀ i, (onceL [] (ns.take i)).length ≤ 100000 := fun i => by
    have z := onceL_len (ns.take i) []
    rw [List.length_nil, List.length_take] at z
    omega
  refine ⟨.ref a, by rw [List.getElem?_set_ne (by decide)]; exact hσ, a, rfl, .inl ⟨⟨_, .of (by rw [upd_ne hap]; exact hH)⟩, ?_⟩⟩
  refine ⟨fun i n σ' H' => n = ns.length - i ∧ i ≤ ns.length ∧ H' = upd H p (.dK ((onceL [] (ns.take i)).map eK)) ∧ σ'[1]? = some (some (.ref p)) ∧ σ'.length = 3, ⟨_, rfl, Nat.zero_le _, rfl, by rw [List.getElem?_set_self (by omega)], by rw [List.length_set]; exact hsl⟩, fun i n σ' H' ⟨en, hi, eH, h1, h2⟩ => ?_⟩
  have sq : SqL K H' a (ns.map V.int) := .of (by rw [eH, upd_ne hap]; exact hH)
  have hml : (ns.map V.int).length = ns.length := List.length_map _
  by_cases hlt : i < ns.length
  · refine .inr ⟨⟨_, (ns.map V.int)[i]'(by omega), sq, List.getElem?_eq_getElem _⟩, fun σ2 H2 => H2 = upd H p (.dK ((onceL [] (ns.take (i + 1))).map eK)) ∧ σ2[1]? = some (some (.ref p)) ∧ σ2.length = 3, fun σ2 H2 ⟨z1, z2, z3⟩ => ⟨ns.length - (i + 1), by omega, rfl, hlt, z1, z2, z3⟩, fun x H2 ⟨e2, y⟩ => ?_⟩
    have ex := y _ sq
    rw [List.getElem?_map, List.getElem?_eq_getElem hlt] at ex
    have ex' : V.int ns[i] = x := Option.some.inj ex
    subst ex'
    rw [e2]
    refine ⟨.ref p, by rw [List.getElem?_set_ne (by decide)]; exact h1, .int ns[i], by rw [List.getElem?_set_self (by omega)], p, _, rfl, DPut.k (k := .inl ns[i]) (kvs := (onceL [] (ns.take i)).map eK) (by rw [eH]; exact upd_same) ?_, ?_, ?_, ?_⟩
    · rw [List.length_map]
      exact Nat.lt_of_le_of_lt (hlen i) (by decide)
    · rw [eH, upd_upd, putK_once]
      have et : ns.take (i + 1) = ns.take i ++ [ns[i]] := List.take_succ_eq_append_getElem hlt
      rw [et, onceL_snoc]
    · rw [List.getElem?_set_ne (by decide)]
      exact h1
    · rw [List.length_set]
      exact h2
  · have ei : i = ns.length := by omega
    refine .inl ⟨⟨_, sq, by omega⟩, .ref p, h1, p, _, rfl, by rw [eH]; exact upd_same, fun z hz => ?_⟩
    rw [ei, List.take_length] at eH
    have r1 : Rep K F H' m := by
      rw [eH]
      exact r.junk hp
    have hz' : (((onceL [] (ns.take i)).map eK).map fun kv => kV kv.1) = (onceL [] ns).map V.int := by
      rw [ei, List.take_length, List.map_map]
      rfl
    rw [hz']
    exact k2 _ _ _ _ _ q (same_new (r1.fr hz)) (r1.newF hz) ⟨z, _, rfl, upd_same, ints_isDs _⟩
/-! ## range of two -/
def diRg2 (ta tb : TED) : TID := fun g m Q => ta g m fun d m1 => tb g m1 fun d' m2 => match d, d' with
  | .int a, .int b => (-(2 ^ 62) ≤ a ∧ a < 2 ^ 62 ∧ -(2 ^ 62) ≤ b ∧ b < 2 ^ 62) ∧ Q ((rgI a b).map D.int) (fun _ => True) m2
  | _, _ => False
theorem di_rg2 {X : Cx} {tg a b : Expr} {ta tb : PySem.W.Frag → TE} {da db : TED} {p pos : Pos} (hg : Gl X "range") (hm : X.mg "range" = none) (ha : DE X a ta da) (hb : DE X b tb db) (hs : starEach [a, b] X.env = [(false, eval a X.env), (false, eval b X.env)] := by rfl) (hs2 : starEach [b] X.env = [(false, eval b X.env)] := by rfl) : DI X tg (.Call (.Name "range" p) [a, b] [] pos) (fun K => iRng2 (tCons (ta K) (tCons (tb K) tNil))) (diRg2 da db) := ⟨pi_range2 hg hm (pa_cons ha.pe (pa_cons hb.pe pa_nil hs2) (by rw [hs2]; exact hs)) hs hs2, fun F H m σ g Q R r s q k => by
  refine ha.sn F H m σ g _ _ r s q fun d m1 v F1 H1 h1 e1 r1 i1 => ?_
  refine hb.sn F1 H1 m1 σ g _ _ r1 (s.mono e1) h1 fun d' m2 v' F2 H2 h2 e2 r2 i2 => ?_
  split at h2
  · rename_i a b
    have ev : v = .int a := i1
    have ev' : v' = .int b := i2
    subst ev ev'
    exact ⟨a, b, rfl, h2.1, k _ _ _ _ _ _ h2.2 (e1.trans e2) r2 itOk_r⟩
  · exact h2.elim⟩
theorem mset_ext {m : Mu} {p : Addr} {ds : List D} (hp : m p = none) : ∀ b es, m b = some es → mset m p ds b = some es := fun b es hb => by
  rw [mset_ne (mne hb hp)]
  exact hb
end BB

namespace BB
open PySem PySem.Spec PyProof.Rows L2
local macro_rules | `(tactic| walk_at "dl") => `(tactic| simp only [dIfS, dIfE, dTest, dOp, dVar, dC, dIx, dEq, dNe, dI, dIc, dIsN, dNotN, isNonD, dAndT, dOrT, dNotT, dAndV, dNeg, dAdd, dTup, dLst, dCons, dNil, dCB, dCall, dLc, true_and, dLen, dInt1, dInt2, withSeq, with1_1, onSome_some, atI_0, atI_1, atI_2, atI_3, atI_4, atI_5, atI_6, List.getElem?_cons_succ, List.getElem?_cons_zero, List.set_cons_zero, List.set_cons_succ, gdN, Part.enc, encN, Bool.not_true, Bool.not_false, mapS_cons, mapS_nil, List.length_cons, List.length_nil, List.cons_append, List.nil_append, gdTup, gdCons, gdNil, dAppend, dExtend, dListF, dTupOf, dMul, dSl, dNoP, dPart])
local macro_rules | `(tactic| walk_at "dr") => `(tactic| simp only [dSeq, dAsg, dRet, dRetW, dDrop, dNext, dFor, diSeq, dIfS, dIfE, dTest, dOp, dVar, dC, dIx, dEq, dNe, dI, dIc, dIsN, dNotN, isNonD, dAndT, dOrT, dNotT, dAndV, dNeg, dAdd, dTup, dLst, dCons, dNil, dCB, dCall, dLc, true_and, dLen, dInt1, dInt2, withSeq, with1_1, onSome_some, atI_0, atI_1, atI_2, atI_3, atI_4, atI_5, atI_6, List.getElem?_cons_succ, List.getElem?_cons_zero, List.set_cons_zero, List.set_cons_succ, gdN, Part.enc, encN, Bool.not_true, Bool.not_false, mapS_cons, mapS_nil, List.length_cons, List.length_nil, List.cons_append, List.nil_append, gdTup, gdCons, gdNil, dAppend, dExtend, dListF, dTupOf, dMul, dSl, dNoP, dPart])

theorem and_mask (x : Int) (k : Nat) : Builtin.bitAnd x (2 ^ k - 1) = x % 2 ^ k := by
  have h2 : (2 : Int) ^ k = ((2 ^ k : Nat) : Int) := two_pow_nat k
  have hp : 0 < 2 ^ k := Nat.two_pow_pos k
  have hm : ((2 ^ k : Nat) : Int) - 1 = ((2 ^ k - 1 : Nat) : Int) := by omega
  rw [h2, hm]
  by_cases hx : 0 ≤ x
  · rw [PyProof.Rows.bitAnd_pp hx (Int.natCast_nonneg _), Int.toNat_natCast, Nat.and_two_pow_sub_one_eq_mod, Int.natCast_emod, Int.toNat_of_nonneg hx]
  · rw [PyProof.Rows.bitAnd_np hx (Int.natCast_nonneg _), Int.toNat_natCast, Nat.and_comm, Nat.and_two_pow_sub_one_eq_mod]
    have hb : Builtin.bitNot x = -x - 1 := by
      unfold Builtin.bitNot
      omega
    rw [hb]
    obtain ⟨n, hn⟩ : ∃ n : Nat, x = -(n : Int) - 1 := ⟨(-x - 1).toNat, by omega⟩
    have hn2 : (-x - 1).toNat = n := by omega
    rw [hn2, hn]
    have hlt := Nat.mod_lt n hp
    have hd := Nat.div_add_mod n (2 ^ k)
    have e : (-(n : Int) - 1) = (((2 ^ k - 1 : Nat) : Int) - ((n % 2 ^ k : Nat) : Int)) + ((2 ^ k : Nat) : Int) * (-((n / 2 ^ k : Nat) : Int) - 1) := by
      have hd' : ((2 ^ k : Nat) : Int) * ((n / 2 ^ k : Nat) : Int) + ((n % 2 ^ k : Nat) : Int) = (n : Nat) := by
        rw [← Int.natCast_mul, ← Int.natCast_add, hd]
      rw [Int.mul_sub, Int.mul_neg, Int.mul_one]
      omega
    rw [e, Int.add_mul_emod_self_left, Int.emod_eq_of_lt (by omega) (by omega)]
theorem and255 (x : Int) : Builtin.bitAnd x 255 = x % 256 := and_mask x 8
theorem shr_and (c : Int) {l W : Nat} (h : l + 8 ≤ W) : Builtin.bitAnd (c / 2 ^ ((l : Nat) : Int).toNat) 255 = byteAt (modW c W) l := by
  rw [and255, Int.toNat_natCast]
  unfold byteAt modW
  have hW : (0 : Int) < 2 ^ W := Int.pow_pos (by decide)
  have hl : (0 : Int) < 2 ^ l := Int.pow_pos (by decide)
  have hr := Int.emod_nonneg c (Int.ne_of_gt hW)
  have e1 : (((c % 2 ^ W).toNat / 2 ^ l % 256 : Nat) : Int) = (c % 2 ^ W) / 2 ^ l % 256 := by
    rw [Int.natCast_emod, Int.natCast_ediv, Int.toNat_of_nonneg hr, ← two_pow_nat]
    rfl
  rw [e1]
  have hs : (2 : Int) ^ W = 256 * 2 ^ (W - l - 8) * 2 ^ l := by
    rw [show (256 : Int) = 2 ^ 8 from rfl, ← Int.pow_add, ← Int.pow_add, show 8 + (W - l - 8) + l = W by omega]
  have hd : c = c % 2 ^ W + (256 * 2 ^ (W - l - 8) * (c / 2 ^ W)) * 2 ^ l := by
    have z := Int.emod_add_mul_ediv c (2 ^ W)
    have z2 : (256 * 2 ^ (W - l - 8) * (c / 2 ^ W)) * 2 ^ l = 2 ^ W * (c / 2 ^ W) := by
      rw [hs]
      ac_rfl
    rw [z2]
    exact z.symm
  conv => lhs; rw [hd]
  rw [Int.add_mul_ediv_right _ _ (Int.ne_of_gt hl), Int.mul_assoc, Int.add_mul_emod_self_left]
def sp_l_size : SpD := fun ds m Q => ∃ wd : Wd, ds = [.str wd.name] ∧ Q (.int wd.size) m
def sp_l_bytes : SpD := fun ds m Q => ∃ (wd : Wd) (c : Int), ds = [.str wd.name, .int c] ∧ Q (.lst ((wbytes wd (modW c (8 * wd.size))).map D.int)) m
def sp_l_read : SpD := fun ds m Q => ∃ (wd : Wd) (k : Nat), ds = [.str wd.name, .lst (List.replicate k (.int 0))] ∧ k ≤ 1000 ∧ Q (.int 0) m
def sp_l_check : SpD := fun ds m Q => ∃ (x : Bool) (p : Addr) (o : List Int), ds = [.str (chkS x), .adr p] ∧ m p = some (o.map D.int) ∧ Q (.int (chkB x o)) m
def sp_l_once : SpD := fun ds m Q => ∃ ns : List Int, ds = [.lst (ns.map D.int)] ∧ ns.length ≤ 100000 ∧ Q (.lst ((onceL [] ns).map D.int)) m
def sp_l_kinds : SpD := fun ds m Q => ∃ (n : Nat) (its : List Item), ds = [encL n its] ∧ wfL n its ∧ Q (.lst ((kinds its).map (encK n))) m
theorem kindsI_len {n : Nat} {it : Item} (h : wfI n it) : (kindsI it).length ≤ 100 := by
  cases it with
  | word w ps => exact Nat.le_trans (List.length_filterMap_le _ _) (Nat.le_trans (ps_le h) (by decide))
  | lit _ => exact Nat.zero_le _
  | res _ => exact Nat.zero_le _
  | chk _ => exact Nat.zero_le _
  | arr _ _ _ _ _ _ => exact (by decide : 1 ≤ 100)
  | list _ _ _ => exact (by decide : 1 ≤ 100)
  | choice _ _ _ => exact (by decide : 1 ≤ 100)
  | rcd _ _ => exact (by decide : 1 ≤ 100)
theorem ifTr {A B : Prop} (h : A) : if True then A else B := by
  rw [if_pos trivial]
  exact h
theorem encK_num {n : Nat} {s : Str} {p : Part} : encK n (.num s p) = .tup [.str "integer", .str s, .int p.width, .bl p.signed, p.rg, p.df] := rfl
theorem pK_snoc (pre : List Part) (x : Part) : pK (pre ++ [x]) = pK pre ++ pK [x] := List.filterMap_append
theorem sum_mod (o : List Int) : ∀ a : Int, o.foldl (fun b x => (b + x) % 256) (a % 256) = (a + o.sum) % 256 := by
  induction o with
  | nil => intro a; rw [List.sum_nil, Int.add_zero] <;> rfl
  | cons x o ih =>
    intro a
    show o.foldl _ ((a % 256 + x) % 256) = _
    rw [ih, List.sum_cons]
    omega
section
variable {P : Program} {w : World} {K : PySem.W.Frag} {mg : Str → Option Value} {base : Heap}
theorem sc_l_size : FnScope ["_law_word"] ["_law_word"] (defScope s_l_size) := ⟨rfl, rfl, rfl, by decide +kernel, rfl, by decide +kernel, by decide +kernel⟩
theorem cal_l_size  (D0 : Def K mg "_law_size" s_l_size) (B : Blt mg)   : Cal P w K mg base "_law_size" (1) ["_law_word"] (up K 1 sp_l_size) := by
  refine D0.cal (N := ["_law_word"]) (k := 0) sc_l_size [] rfl (fun _ _ _ _ _ _ us hl => match us, hl with | [_], _ => rfl) (fun f cdv A outer s H E hr => ⟨_, _,
(dss_one (ds_ret (de_tab hr.units (dps_str de_int (dps_str de_int (dps_str de_int (dps_str de_int (dps_str de_int dps_nil))))) (dv 0) (by decide +kernel) rfl rfl (fun q => nomatch q) (by decide) (by decide)))),
    fun ds m Q hl hs => ?_⟩)
  -- slots: 0 _law_word
  obtain ⟨wd, rfl, q⟩ := hs
  cases wd with
  | u8 => exact ⟨0, _, _, rfl, rfl, rfl, q⟩
  | u16be => exact ⟨1, _, _, rfl, rfl, rfl, q⟩
  | u16le => exact ⟨2, _, _, rfl, rfl, rfl, q⟩
  | u32be => exact ⟨3, _, _, rfl, rfl, rfl, q⟩
  | u32le => exact ⟨4, _, _, rfl, rfl, rfl, q⟩
theorem sc_l_bytes : FnScope ["_law_word", "_law_code", "_law_data", "_law_k"] ["_law_word", "_law_code"] (defScope s_l_bytes) := ⟨rfl, rfl, rfl, by decide +kernel, rfl, by decide +kernel, by decide +kernel⟩
theorem cal_l_bytes  (D0 : Def K mg "_law_bytes" s_l_bytes) (B : Blt mg) (c_l_size : Cal P w K mg base "_law_size" (1) ["_law_word"] (up K 1 sp_l_size))  : Cal P w K mg base "_law_bytes" (2) ["_law_word", "_law_code"] (up K 2 sp_l_bytes) := by
  refine D0.cal (N := ["_law_word", "_law_code", "_law_data", "_law_k"]) (k := 1) sc_l_bytes [none, none] rfl (fun _ _ _ _ _ _ us hl => match us, hl with | [_, _], _ => rfl) (fun f cdv A outer s H E hr => ⟨_, _,
(dss_cons (ds_setLc (i := 2) (own := [("_law_k", 3)]) rfl sc_l_bytes.nd rfl rfl (sw_true rfl rfl rfl (by decide +kernel)) (di_rg1 (by rfl) B.range (de_call c_l_size (hr.mono (by first | decide | omega)) (by rfl) (da_cons (dv 0) da_nil))) (blkOk_by (N := ["_law_word", "_law_code", "_law_data", "_law_k"]) (sc := defScope s_l_bytes) (own := [("_law_k", 3)]) (by decide +kernel)) (fun _ _ _ _ _ => (dg_name (i := 3) sc_l_bytes.nd rfl (.inl rfl))) (keepN 3) (fun _ _ _ _ _ => dts_nil) (fun _ _ _ _ _ => (de_and (de_shr (dv 1) (de_mul de_int (dv 3))) de_int)) (by intro _; rfl) s H)
(dss_one (ds_ret (de_if (dt_val (de_ends (dv 0) de_str)) (de_revL (dv 2)) (dv 2))))),
    fun ds m Q hl hs => ?_⟩)
  -- slots: 0 _law_word 1 _law_code 2 _law_data 3 _law_k
  obtain ⟨wd, c, rfl, q⟩ := hs
  have hw := wd_le wd
  refine ⟨rfl, wd, rfl, ?_⟩
  refine ⟨by omega, by omega, lc_pure (f := D.int) (fun i : Int => D.int (Builtin.bitAnd (c / 2 ^ (8 * i).toNat) 255)) (by rw [rgI_len]; omega) (fun x hx m1 R hm hR => ?_) ?_⟩
  · obtain ⟨j, hj, rfl⟩ := List.mem_map.mp hx
    exact ⟨.inl ⟨by decide, by decide⟩, by omega, hR⟩
  have e2 : (rgI 0 (wd.size : Nat)).map (fun i : Int => D.int (Builtin.bitAnd (c / 2 ^ (8 * i).toNat) 255)) = ((List.range wd.size).map fun k => 8 * k).map fun l => D.int (byteAt (modW c (8 * wd.size)) l) := by
    unfold rgI
    rw [List.map_map, List.map_map, Int.sub_zero, Int.toNat_natCast]
    refine List.map_congr_left fun k hk => ?_
    have hk2 := List.mem_range.mp hk
    show D.int (Builtin.bitAnd (c / 2 ^ (8 * (0 + (k : Int))).toNat) 255) = D.int (byteAt (modW c (8 * wd.size)) (8 * k))
    rw [← shr_and c (show 8 * k + 8 ≤ 8 * wd.size by omega), show (8 * (0 + (k : Int))) = ((8 * k : Nat) : Int) by omega]
  have e3 : (wbytes wd (modW c (8 * wd.size))).map D.int = if wd.be then (((List.range wd.size).map fun k => 8 * k).map fun l => D.int (byteAt (modW c (8 * wd.size)) l)).reverse else ((List.range wd.size).map fun k => 8 * k).map fun l => D.int (byteAt (modW c (8 * wd.size)) l) := by
    unfold wbytes Wd.lows
    cases wd.be with
    | true => rw [if_pos rfl, if_pos rfl, List.map_map, List.map_reverse] <;> rfl
    | false => rw [if_neg Bool.false_ne_true, if_neg Bool.false_ne_true, List.map_map] <;> rfl
  rw [e2]
  rw [e3] at q
  have e4 : Txt.endswith wd.name "be" = wd.be := by cases wd <;> decide +kernel
  show if (Txt.endswith wd.name "be") = true then Q (.lst (List.reverse _)) m else Q (.lst _) m
  rw [e4]
  cases hb : wd.be with
  | true =>
    rw [hb, if_pos rfl] at q
    rw [if_pos rfl]
    exact q
  | false =>
    rw [hb, if_neg Bool.false_ne_true] at q
    rw [if_neg Bool.false_ne_true]
    exact q
theorem sc_l_read : FnScope ["_law_word", "_law_data", "_law_code", "_law_byte"] ["_law_word", "_law_data"] (defScope s_l_read) := ⟨rfl, rfl, rfl, by decide +kernel, rfl, by decide +kernel, by decide +kernel⟩
theorem cal_l_read  (D0 : Def K mg "_law_read" s_l_read) (B : Blt mg)   : Cal P w K mg base "_law_read" (1) ["_law_word", "_law_data"] (up K 2 sp_l_read) := by
  refine D0.cal (N := ["_law_word", "_law_data", "_law_code", "_law_byte"]) (k := 0) sc_l_read [none, none] rfl (fun _ _ _ _ _ _ us hl => match us, hl with | [_, _], _ => rfl) (fun f cdv A outer s H E hr => ⟨_, _,
(dss_cons (ds_set (i := 2) sc_l_read.nd rfl (.inl rfl) de_int)
(dss_cons (ds_for PassesOwn.never rfl (di_seq (de_if (dt_val (de_ends (dv 0) de_str)) (de_revL (dv 1)) (dv 1))) (dg_name (i := 3) sc_l_read.nd rfl (.inl rfl))
(dss_one (ds_set (i := 2) sc_l_read.nd rfl (.inl rfl) (de_add (de_mul (dv 2) de_int) (dv 3)))))
(dss_one (ds_ret (dv 2))))),
    fun ds m Q hl hs => ?_⟩)
  -- slots: 0 _law_word 1 _law_data 2 _law_code 3 _law_byte
  obtain ⟨wd, k, rfl, hk, q⟩ := hs
  have hr : List.replicate k (D.int 0) = (List.replicate k (0 : Int)).map D.int := List.map_replicate.symm
  rw [hr]
  have key : LoopD ((List.replicate k (0 : Int)).map D.int) (fun x => True) (gdN 3) (dAsg (dOp dAdd (dOp dMul (dVar 2) (dC (D.int 256))) (dVar 3)) (gdN 2)) ⟨dRet (dVar 2) ⟨fun x m' => Q .non m', Q⟩, Q⟩ [some (.str wd.name), some (.lst ((List.replicate k (0 : Int)).map D.int)), some (.int 0), none] m := by
    refine loop_map (f := D.int) (fun pp g' m' => ∃ y : Option D, g' = [some (.str wd.name), some (.lst ((List.replicate k (0 : Int)).map D.int)), some (.int 0), y] ∧ m' = m) ⟨none, rfl, rfl⟩ (fun _ _ _ _ => trivial) (fun pre x post g' m' hd hI => ?_) (fun g' m' hI => ?_)
    · obtain ⟨y, rfl, rfl⟩ := hI
      have hx : x = 0 := List.eq_of_mem_replicate (by rw [hd]; exact List.mem_append_right _ List.mem_cons_self)
      rw [hx]
      exact ⟨.inl ⟨by decide, by decide⟩, _, rfl, rfl⟩
    · obtain ⟨y, rfl, rfl⟩ := hI
      exact q
  walk_at "dr"
  show if (Txt.endswith wd.name "le") = true then _ else _
  cases hb : Txt.endswith wd.name "le" with
  | true =>
    rw [if_pos rfl]
    show LoopD ((List.replicate k (0 : Int)).map D.int).reverse _ _ _ _ _ _
    rw [← List.map_reverse, List.reverse_replicate]
    exact key
  | false =>
    rw [if_neg Bool.false_ne_true]
    exact key
theorem sc_l_check : FnScope ["_law_method", "_law_out", "_law_byte", "_law_old"] ["_law_method", "_law_out"] (defScope s_l_check) := ⟨rfl, rfl, rfl, by decide +kernel, rfl, by decide +kernel, by decide +kernel⟩
theorem cal_l_check  (D0 : Def K mg "_law_check" s_l_check) (B : Blt mg)   : Cal P w K mg base "_law_check" (1) ["_law_method", "_law_out"] (up K 2 sp_l_check) := by
  refine D0.cal (N := ["_law_method", "_law_out", "_law_byte", "_law_old"]) (k := 0) sc_l_check [none, none] rfl (fun _ _ _ _ _ _ us hl => match us, hl with | [_, _], _ => rfl) (fun f cdv A outer s H E hr => ⟨_, _,
(dss_cons (ds_set (i := 2) sc_l_check.nd rfl (.inl rfl) de_int)
(dss_cons (ds_for PassesOwn.never rfl (di_seq (dv 1)) (dg_name (i := 3) sc_l_check.nd rfl (.inl rfl))
(dss_one (ds_set (i := 2) sc_l_check.nd rfl (.inl rfl) (de_if (dt_eq (dv 0) de_str) (de_xor (dv 2) (dv 3)) (de_and (de_add (dv 2) (dv 3)) de_int)))))
(dss_one (ds_ret (dv 2))))),
    fun ds m Q hl hs => ?_⟩)
  -- slots: 0 _law_method 1 _law_out 2 _law_byte 3 _law_old
  obtain ⟨x, p, o, rfl, hp, q⟩ := hs
  walk_at "dr"
  refine ⟨_, hp, loop_map (f := D.int) (fun pp g' m' => ∃ y : Option D, g' = [some (.str (chkS x)), some (.adr p), some (.int (chkB x pp)), y] ∧ m' = m) ⟨none, by cases x <;> rfl, rfl⟩ (fun _ _ _ h => by obtain ⟨_, _, rfl⟩ := h; exact hp) (fun pre x1 post g' m' hd hI => ?_) (fun g' m' hI => ?_)⟩
  · obtain ⟨y, rfl, rfl⟩ := hI
    cases x with
    | true =>
      unfold chkS
      walk_at "dr"
      have e : Builtin.bitXor (chkB true pre) x1 = chkB true (pre ++ [x1]) := by
        show _ = (pre ++ [x1]).foldl Builtin.bitXor 0
        rw [List.foldl_append]
        rfl
      exact ifT rfl ⟨_, congrArg (fun i => [some (D.str "xor"), some (D.adr p), some (D.int i), some (D.int x1)]) e, trivial⟩
    | false =>
      unfold chkS
      walk_at "dr"
      have e : Builtin.bitAnd (chkB false pre + x1) 255 = chkB false (pre ++ [x1]) := by
        show _ = (pre ++ [x1]).sum % 256
        rw [and255, List.sum_append, List.sum_singleton]
        show (pre.sum % 256 + x1) % 256 = _
        omega
      exact ifF ne_ ⟨_, congrArg (fun i => [some (D.str "sum"), some (D.adr p), some (D.int i), some (D.int x1)]) e, trivial⟩
  · obtain ⟨y, rfl, rfl⟩ := hI
    exact q
theorem sc_l_kinds : FnScope ["_law_items", "_law_kinds_here", "_law_item", "_law_part_here"] ["_law_items"] (defScope s_l_kinds) := ⟨rfl, rfl, rfl, by decide +kernel, rfl, by decide +kernel, by decide +kernel⟩
theorem cal_l_kinds  (D0 : Def K mg "_law_kinds" s_l_kinds) (B : Blt mg) (c_l_size : Cal P w K mg base "_law_size" (1) ["_law_word"] (up K 1 sp_l_size))  : Cal P w K mg base "_law_kinds" (2) ["_law_items"] (up K 1 sp_l_kinds) := by
  refine D0.cal (N := ["_law_items", "_law_kinds_here", "_law_item", "_law_part_here"]) (k := 1) sc_l_kinds [none, none, none] rfl (fun _ _ _ _ _ _ us hl => match us, hl with | [_], _ => rfl) (fun f cdv A outer s H E hr => ⟨_, _,
(dss_cons (ds_set (i := 1) sc_l_kinds.nd rfl (.inl rfl) (de_new da_nil))
(dss_cons (ds_for PassesOwn.never rfl (di_seq (dv 0)) (dg_name (i := 2) sc_l_kinds.nd rfl (.inl rfl))
(dss_one (ds_if (dt_eq (de_ix (dv 2) de_int) de_str)
(dss_one (ds_for PassesOwn.never rfl (di_seq (de_ix (dv 2) de_int)) (dg_name (i := 3) sc_l_kinds.nd rfl (.inl rfl))
(dss_one (ds_if (dt_notN (de_ix (dv 3) de_int) de_non)
(dss_one (ds_expr (de_append (dv 1) (de_add (de_tup (da_cons de_str da_nil)) (dv 3)))))
dss_nil))))
(dss_one (ds_if (dt_eq (de_ix (dv 2) de_int) de_str)
(dss_one (ds_expr (de_append (dv 1) (de_tup (da_cons de_str (da_cons (de_ix (dv 2) de_int) (da_cons (de_ix (dv 2) de_int) (da_cons (de_mul de_int (de_call c_l_size (hr.mono (by first | decide | omega)) (by rfl) (da_cons (de_ix (dv 2) de_int) da_nil))) (da_cons (de_ix (dv 2) de_int) (da_cons (de_ix (dv 2) de_int) (da_cons (de_ix (dv 2) de_int) da_nil)))))))))))
(dss_one (ds_if (dt_eq (de_ix (dv 2) de_int) de_str)
(dss_one (ds_expr (de_append (dv 1) (de_tup (da_cons de_str (da_cons (de_ix (dv 2) de_int) (da_cons (de_ix (dv 2) de_int) da_nil)))))))
(dss_one (ds_if (DW.dt (dw_or (dt_eq (de_ix (dv 2) de_int) de_str) (dw_or1 (dt_eq (de_ix (dv 2) de_int) de_str))))
(dss_one (ds_expr (de_append (dv 1) (dv 2))))
dss_nil)))))))))
(dss_one (ds_retF (dv 1))))),
    fun ds m Q hl hs => ?_⟩)
  -- slots: 0 _law_items 1 _law_kinds_here 2 _law_item 3 _law_part_here
  obtain ⟨n, its, rfl, ⟨hw1, hw2⟩, q⟩ := hs
  refine ⟨Nat.zero_le _, fun p hp => ?_⟩
  refine loop_map (f := encI n) (fun pp g' m' => ∃ y1 y2 : Option D, g' = [some (encL n its), some (.adr p), y1, y2] ∧ m' = mset m p ((kinds pp).map (encK n)) ∧ (kinds pp).length ≤ 100 * pp.length) ⟨none, none, rfl, rfl, Nat.le_refl _⟩ (fun _ _ _ _ => trivial) (fun pre x post g' m' hd hI => ?_) (fun g' m' hI => ?_)
  · obtain ⟨y1, y2, rfl, rfl, hl⟩ := hI
    have hm : x ∈ its := by
      rw [hd]
      exact List.mem_append_right _ List.mem_cons_self
    have hx := hw2 x hm
    have hl1 : pre.length ≤ 100 := by
      have := congrArg List.length hd
      rw [List.length_append, List.length_cons] at this
      omega
    have hk1 := kindsI_len hx
    have hl3 : (kinds (pre ++ [x])).length ≤ 100 * (pre ++ [x]).length := by
      rw [kinds_app, List.length_append, List.length_append, List.length_singleton]
      show _ + (kindsI x ++ []).length ≤ _
      rw [List.append_nil]
      omega
    have e2 : ((kinds (pre ++ [x])).map (encK n)) = (kinds pre).map (encK n) ++ (kindsI x).map (encK n) := by
      rw [kinds_app, List.map_append]
      show _ ++ List.map _ (kindsI x ++ []) = _
      rw [List.append_nil]
    have hap : ∀ (z1 z2 : Option D) (d : D), (kindsI x).map (encK n) = [d] → (∃ es, mset m p ((kinds pre).map (encK n)) p = some es) ∧ ∃ ds, mset m p ((kinds pre).map (encK n)) p = some ds ∧ ds.length < sizeLine ∧
        ∃ y1 y2 : Option D, [some (encL n its), some (.adr p), z1, z2] = [some (encL n its), some (.adr p), y1, y2] ∧ mset (mset m p ((kinds pre).map (encK n))) p (ds ++ [d]) = mset m p ((kinds (pre ++ [x])).map (encK n)) ∧ (kinds (pre ++ [x])).length ≤ 100 * (pre ++ [x]).length :=
      fun z1 z2 d e => ⟨⟨_, mset_same⟩, _, mset_same, szl (by rw [List.length_map]; omega), z1, z2, rfl, by rw [mset_mset, ← e, ← e2], hl3⟩
    cases x with
    | word wd ps =>
      have hps := ps_le hx
      rw [encI_word]
      walk_at "dr"
      refine ifT rfl (loop_map (f := Part.enc) (fun pp g' m' => ∃ y : Option D, g' = [some (encL n its), some (.adr p), some (.tup [.str "word", .str wd.name, .tup (ps.map Part.enc)]), y] ∧ m' = mset m p ((kinds pre).map (encK n) ++ (pK pp).map (encK n))) ⟨y2, rfl, ?_⟩ (fun _ _ _ _ => trivial) (fun pr z po g' m' hd2 hI => ?_) (fun g' m' hI => ?_))
      · exact congrArg _ (List.append_nil _).symm
      · obtain ⟨y, rfl, rfl⟩ := hI
        have hpl : (pK pr).length ≤ 32 := by
          have h1 : (pK pr).length ≤ pr.length := List.length_filterMap_le _ _
          have := congrArg List.length hd2
          rw [List.length_append, List.length_cons] at this
          omega
        cases hz : z.name with
        | none =>
          have ez : z.enc = .tup [.non, .int z.width, .bl z.signed, z.rg, z.df] := by
            unfold Part.enc
            rw [hz]
            rfl
          rw [ez]
          walk_at "dr"
          refine ifF rfl ⟨_, rfl, ?_⟩
          rw [pK_snoc, pK_none hz, show pK [] = [] from rfl, List.append_nil]
        | some s =>
          have ez : z.enc = .tup [.str s, .int z.width, .bl z.signed, z.rg, z.df] := by
            unfold Part.enc
            rw [hz]
            rfl
          rw [ez]
          walk_at "dr"
          refine ⟨⟨_, mset_same⟩, szr rfl, szr rfl, _, mset_same, szl ?_, _, rfl, ?_⟩
          · rw [List.length_append, List.length_map, List.length_map]
            omega
          · rw [mset_mset, pK_snoc, pK_some hz, List.map_append, List.append_assoc]
            rfl
      · obtain ⟨y, rfl, rfl⟩ := hI
        exact ⟨_, _, rfl, by rw [e2] <;> rfl, hl3⟩
    | lit data =>
      rw [encI_lit]
      walk_at "dr"
      refine ifF ne_ (ifF ne_ (ifF ne_ (ifF ne_ (ifF ne_ ⟨_, _, rfl, ?_, hl3⟩))))
      rw [e2]
      exact congrArg _ (List.append_nil _).symm
    | res k =>
      rw [encI_res]
      walk_at "dr"
      refine ifF ne_ (ifF ne_ (ifF ne_ (ifF ne_ (ifF ne_ ⟨_, _, rfl, ?_, hl3⟩))))
      rw [e2]
      exact congrArg _ (List.append_nil _).symm
    | chk b =>
      rw [encI_chk]
      walk_at "dr"
      refine ifF ne_ (ifF ne_ (ifF ne_ (ifF ne_ (ifF ne_ ⟨_, _, rfl, ?_, hl3⟩))))
      rw [e2]
      exact congrArg _ (List.append_nil _).symm
    | arr a wd sg c rg df =>
      rw [encI_arr]
      walk_at "dr"
      refine ifF ne_ (ifT rfl ⟨(hap none none _ rfl).1, wd, rfl, .inl ⟨by decide, by decide⟩, szr rfl, (hap _ _ _ rfl).2⟩)
    | list a c is =>
      cases n with
      | zero => exact hx.elim
      | succ n =>
        rw [encI_list]
        walk_at "dr"
        refine ifF ne_ (ifF ne_ (ifF ne_ (ifT rfl (ifTr ⟨(hap none none _ rfl).1, (hap _ _ _ rfl).2⟩))))
    | choice a wd cs =>
      cases n with
      | zero => exact hx.elim
      | succ n =>
        rw [encI_choice]
        walk_at "dr"
        refine ifF ne_ (ifF ne_ (ifT rfl ⟨(hap none none _ rfl).1, szr rfl, (hap _ _ _ rfl).2⟩))
    | rcd a is =>
      cases n with
      | zero => exact hx.elim
      | succ n =>
        rw [encI_rcd]
        walk_at "dr"
        refine ifF ne_ (ifF ne_ (ifF ne_ (ifF ne_ (ifT rfl ⟨(hap none none _ rfl).1, (hap _ _ _ rfl).2⟩))))
  · obtain ⟨y1, y2, rfl, rfl, _⟩ := hI
    refine ⟨_, mset_same, ?_⟩
    rw [mdel_mset hp]
    exact q
end
end BB

namespace BB
open PySem PySem.Spec PyProof.Rows L2
local macro_rules | `(tactic| walk_at "dl") => `(tactic| simp only [dIfS, dIfE, dTest, dOp, dVar, dC, dIx, dEq, dNe, dI, dIc, dIsN, dNotN, isNonD, dAndT, dOrT, dNotT, dAndV, dNeg, dAdd, dTup, dLst, dCons, dNil, dCB, dCall, dLc, true_and, dLen, dInt1, dInt2, withSeq, with1_1, onSome_some, atI_0, atI_1, atI_2, atI_3, atI_4, atI_5, atI_6, List.getElem?_cons_succ, List.getElem?_cons_zero, List.set_cons_zero, List.set_cons_succ, gdN, Part.enc, encN, Bool.not_true, Bool.not_false, mapS_cons, mapS_nil, List.length_cons, List.length_nil, List.cons_append, List.nil_append, gdTup, gdCons, gdNil, dAppend, dExtend, dListF, dTupOf, dMul, dSl, dNoP, dPart])
local macro_rules | `(tactic| walk_at "dr") => `(tactic| simp only [dSeq, dAsg, dRet, dRetW, dDrop, dNext, dFor, diSeq, dIfS, dIfE, dTest, dOp, dVar, dC, dIx, dEq, dNe, dI, dIc, dIsN, dNotN, isNonD, dAndT, dOrT, dNotT, dAndV, dNeg, dAdd, dTup, dLst, dCons, dNil, dCB, dCall, dLc, true_and, dLen, dInt1, dInt2, withSeq, with1_1, onSome_some, atI_0, atI_1, atI_2, atI_3, atI_4, atI_5, atI_6, List.getElem?_cons_succ, List.getElem?_cons_zero, List.set_cons_zero, List.set_cons_succ, gdN, Part.enc, encN, Bool.not_true, Bool.not_false, mapS_cons, mapS_nil, List.length_cons, List.length_nil, List.cons_append, List.nil_append, gdTup, gdCons, gdNil, dAppend, dExtend, dListF, dTupOf, dMul, dSl, dNoP, dPart])

/-! ## has -/
def sp_l_in_set : SpD := fun ds m Q => ∃ (w : Nat) (is : List Int) (e : D) (i : Int), ds = [e, .int i, .int w] ∧ w ≤ 1000 ∧ IsSet w is e ∧ ∀ b : Bool, (b = true ↔ HasS w e i) → Q (.bl b) m
/-- a kind that is a well formed item's -/
def wfK (n : Nat) : Kind → Prop
  | .num _ p => 1 ≤ p.width ∧ p.width ≤ 32
  | .comp it => wfI n it ∧ kindsI it = [.comp it]
def sp_hasinN (n : Nat) : SpD := fun ds m Q => ∃ (k : Kind) (col : List D) (e d : D), ds = [encK n k, e, d] ∧ wfK n k ∧ entOf n k col e ∧ (∀ c ∈ col, valOf n k c) ∧ valOf n k d ∧ ∀ b : Bool, (b = true ↔ hasE n k e d) → Q (.bl b) m
def sp_hasN (n : Nat) : SpD := fun ds m Q => ∃ (its : List Item) (rows : List (List D)) (P r : List D), ds = [encL n its, .tup P, .tup r] ∧ wfL n its ∧ patOf (entOf n) (kinds its) rows P ∧ (∀ r' ∈ rows, rowIn (valOf n) (kinds its) r') ∧ rowIs n its r ∧ ∀ b : Bool, (b = true ↔ HasL n its P r) → Q (.bl b) m
theorem iff_dec {p : Prop} [Decidable p] {q : Prop} (h : p ↔ q) : (decide p = true) ↔ q := ⟨fun e => h.mp (of_decide_eq_true e), fun e => decide_eq_true (h.mpr e)⟩
theorem int_mod_cast (i : Int) (w : Nat) : i % 2 ^ w = ((modW i w : Nat) : Int) := by
  unfold modW
  rw [Int.toNat_of_nonneg (Int.emod_nonneg i (Int.ne_of_gt (Int.pow_pos (by decide))))]
theorem wfK_of {n : Nat} {its : List Item} (h : wfL n its) : ∀ k ∈ kinds its, wfK n k := fun k hk => by
  obtain ⟨it, hi, hk⟩ := List.mem_flatMap.mp hk
  have hw := h.2 it hi
  cases it with
  | word w ps =>
    obtain ⟨p, hp, e⟩ := List.mem_filterMap.mp hk
    unfold Part.kind at e
    cases hn : p.name with
    | none => rw [hn] at e; cases e
    | some s =>
      rw [hn] at e
      cases e
      exact (wf_word hw).2 p hp
  | lit _ => cases hk
  | res _ => cases hk
  | chk _ => cases hk
  | arr _ _ _ _ _ _ => rw [List.mem_singleton.mp hk]; exact ⟨hw, rfl⟩
  | list _ _ _ => rw [List.mem_singleton.mp hk]; exact ⟨hw, rfl⟩
  | choice _ _ _ => rw [List.mem_singleton.mp hk]; exact ⟨hw, rfl⟩
  | rcd _ _ => rw [List.mem_singleton.mp hk]; exact ⟨hw, rfl⟩
theorem rowIn_get {V : Kind → D → Prop} : ∀ {ks : List Kind} {r : List D} {i : Nat} {k : Kind}, rowIn V ks r → ks[i]? = some k → V k (r[i]?.getD .non)
  | [], _, i, _, _, h => by simp at h
  | k' :: ks, r, 0, k, h, e => by
    have e' : k' = k := Option.some.inj e
    rw [← e']
    have := h.1
    cases r <;> exact this
  | k' :: ks, r, i + 1, k, h, e => by
    have z := rowIn_get (ks := ks) (r := r.tail) (i := i) h.2 e
    cases r with
    | nil => exact z
    | cons a b => exact z
theorem patIn_get {U : Kind → List D → D → Prop} : ∀ {ks : List Kind} {rows : List (List D)} {P : List D} {i : Nat} {k : Kind}, patIn U ks rows P → ks[i]? = some k → U k (rows.map fun r => r[i]?.getD .non) (P[i]?.getD .non)
  | [], _, _, i, _, _, h => by simp at h
  | k' :: ks, rows, P, 0, k, h, e => by
    have e' : k' = k := Option.some.inj e
    rw [← e']
    have := h.1
    have e1 : (rows.map fun r => r.headD .non) = rows.map fun r => r[0]?.getD .non := List.map_congr_left fun r _ => by cases r <;> rfl
    rw [e1] at this
    cases P <;> exact this
  | k' :: ks, rows, P, i + 1, k, h, e => by
    have z := patIn_get (ks := ks) (rows := rows.map List.tail) (P := P.tail) (i := i) h.2 e
    have e1 : ((rows.map List.tail).map fun r => r[i]?.getD .non) = rows.map fun r => r[i + 1]?.getD .non := by
      rw [List.map_map]
      exact List.map_congr_left fun r _ => by cases r <;> rfl
    rw [e1] at z
    cases P with
    | nil => exact z
    | cons a b => exact z
theorem hasOf_iff {U : Kind → D → D → Prop} : ∀ {ks : List Kind} {P r : List D}, hasOf U ks P r ↔ ∀ (i : Nat) (k : Kind), ks[i]? = some k → U k (P[i]?.getD .non) (r[i]?.getD .non)
  | [], _, _ => ⟨fun _ i k h => by simp at h, fun _ => trivial⟩
  | k' :: ks, P, r => by
    have hP0 : P.headD .non = P[0]?.getD .non := by cases P <;> rfl
    have hr0 : r.headD .non = r[0]?.getD .non := by cases r <;> rfl
    have hP : ∀ i : Nat, P.tail[i]?.getD .non = P[i + 1]?.getD .non := fun i => by cases P <;> rfl
    have hr : ∀ i : Nat, r.tail[i]?.getD .non = r[i + 1]?.getD .non := fun i => by cases r <;> rfl
    show (U k' (P.headD .non) (r.headD .non) ∧ hasOf U ks P.tail r.tail) ↔ _
    rw [hasOf_iff (ks := ks), hP0, hr0]
    refine ⟨fun ⟨h1, h2⟩ i k e => ?_, fun h => ⟨h 0 k' rfl, fun i k e => ?_⟩⟩
    · cases i with
      | zero =>
        have e' : k' = k := Option.some.inj e
        rw [← e']
        exact h1
      | succ i =>
        have := h2 i k e
        rw [hP, hr] at this
        exact this
    · have := h (i + 1) k e
      rw [hP, hr]
      exact this
theorem len_le {c : Cnt} {k : Nat} (h : lenOk c k) : k ≤ cMax c := by
  cases c with
  | exactly n => exact Nat.le_of_eq h
  | counted w lo hi => exact h.2.1
  | marked n => exact h
theorem hasC_iff {n : Nat} {it : Item} (h : isSeq it) {nums : List Nat} {es vs : List D} : hasE (n + 1) (.comp it) (countsD nums es) (.tup vs) ↔ vs.length ∈ nums ∧ ∀ (i : Nat) (v : D), vs[i]? = some v → ∃ e', es[i]? = some e' ∧ HasL n (elemItems it) (tupD (wrapD it e')) (elR it v) := by
  rw [hasE_seq h]
  refine ⟨fun ⟨nums', es', e, h1, h2⟩ => ?_, fun ⟨h1, h2⟩ => ⟨nums, es, rfl, h1, h2⟩⟩
  obtain ⟨rfl, rfl⟩ := counts_inj e
  exact ⟨h1, h2⟩
theorem mem_cast {k : Nat} {nums : List Nat} : ((k : Int) ∈ nums.map fun j : Nat => (j : Int)) ↔ k ∈ nums := ⟨fun h => by
  obtain ⟨j, hj, e⟩ := List.mem_map.mp h
  have e' : j = k := Int.ofNat.inj e
  exact e' ▸ hj, fun h => List.mem_map_of_mem (f := fun j : Nat => (j : Int)) h⟩
theorem arr_has {n : Nat} {a : Str} {wd : Wd} {sg : Bool} {c : Cnt} {rg df e' v : D} : HasL n (elemItems (.arr a wd sg c rg df)) (tupD (wrapD (.arr a wd sg c rg df) e')) (elR (.arr a wd sg c rg df) v) ↔ HasS (8 * wd.size) e' (intD v) := by
  have z : HasL n (elemItems (.arr a wd sg c rg df)) [e'] [v] = (HasS (8 * wd.size) e' (intD v) ∧ True) := by cases n <;> rfl
  show HasL n (elemItems (.arr a wd sg c rg df)) [e'] [v] ↔ _
  rw [z, and_true]
theorem arr_set {n : Nat} {a : Str} {wd : Wd} {sg : Bool} {c : Cnt} {rg df e' : D} {rs : List (List D)} {P' : List D} (hw : wrapD (.arr a wd sg c rg df) e' = .tup P') (h : patOf (entOf n) (kinds (elemItems (.arr a wd sg c rg df))) rs P') : IsSet (8 * wd.size) ((rs.map fun r => r.headD .non).map intD) e' := by
  obtain rfl : [e'] = P' := D.tup.inj hw
  cases n <;> exact h.2.1
theorem arr_val {n : Nat} {a : Str} {wd : Wd} {sg : Bool} {c : Cnt} {rg df v : D} (h : rowOf (valOf n) (kinds (elemItems (.arr a wd sg c rg df))) (elR (.arr a wd sg c rg df) v)) : ∃ i, v = .int i ∧ inF sg (8 * wd.size) i := by
  have z := h.2
  cases n <;> exact z.1
theorem kinds_le' {n : Nat} : ∀ {its : List Item}, (∀ i ∈ its, wfI n i) → (kinds its).length ≤ 100 * its.length
  | [], _ => Nat.le_refl _
  | x :: its, h => by
    have h1 := kindsI_len (h x List.mem_cons_self)
    have h2 := kinds_le' (its := its) fun i hi => h i (List.mem_cons_of_mem _ hi)
    rw [kinds_cons, List.length_append, List.length_cons]
    omega
theorem kinds_le {n : Nat} {its : List Item} (h : wfL n its) : (kinds its).length ≤ 10000 := by
  have h1 := kinds_le' h.2
  have h2 := h.1
  omega
theorem encK_rcd {n : Nat} {a : Str} {its : List Item} : encK (n + 1) (.comp (.rcd a its)) = .tup [.str "record", .str a, encL n its] := rfl
theorem encK_list {n : Nat} {a : Str} {c : Cnt} {its : List Item} : encK (n + 1) (.comp (.list a c its)) = .tup [.str "list", .str a, c.enc, encL n its] := rfl
theorem encK_choice {n : Nat} {a : Str} {wd : Wd} {cs : List Cs} : encK (n + 1) (.comp (.choice a wd cs)) = .tup [.str "choice", .str a, .tup (cs.map (encC n))] := rfl
theorem encK_arr {n : Nat} {a : Str} {wd : Wd} {sg : Bool} {c : Cnt} {rg df : D} : encK n (.comp (.arr a wd sg c rg df)) = .tup [.str "array", .str a, c.enc, .int (8 * wd.size : Nat), .bl sg, rg, df] := rfl
theorem filter_one {cs : List Cs} (h : (cs.map fun c => c.2.1).Nodup) {c : Cs} (hc : c ∈ cs) : (cs.filter fun c' : Cs => decide (c'.2.1 = c.2.1)) = [c] := by
  induction cs with
  | nil => cases hc
  | cons x cs ih =>
    rw [List.map_cons, List.nodup_cons] at h
    rcases List.mem_cons.mp hc with e | e
    · subst e
      rw [List.filter_cons_of_pos (p := fun c' : Cs => decide (c'.2.1 = c.2.1)) (decide_eq_true rfl)]
      have : cs.filter (fun c' : Cs => decide (c'.2.1 = c.2.1)) = [] := List.filter_eq_nil_iff.mpr fun y hy e => h.1 (by rw [← of_decide_eq_true e]; exact List.mem_map_of_mem (f := fun c : Cs => c.2.1) hy)
      rw [this]
    · have hne : ¬ x.2.1 = c.2.1 := fun q => h.1 (by rw [q]; exact List.mem_map_of_mem (f := fun c : Cs => c.2.1) e)
      rw [List.filter_cons_of_neg (by rw [decide_eq_false hne]; exact Bool.false_ne_true)]
      exact ih h.2 e
theorem ndL_eq {L : List (Cs × List D)} (h : (L.map fun q => q.1.2.1).Nodup) {a b : Cs × List D} (ha : a ∈ L) (hb : b ∈ L) (e : a.1.2.1 = b.1.2.1) : a = b := by
  induction L with
  | nil => cases ha
  | cons c L ih =>
    rw [List.map_cons, List.nodup_cons] at h
    rcases List.mem_cons.mp ha with r1 | r1
    · rcases List.mem_cons.mp hb with r2 | r2
      · rw [r1, r2]
      · exact absurd (by rw [← r1, e]; exact List.mem_map_of_mem (f := fun q : Cs × List D => q.1.2.1) r2) h.1
    · rcases List.mem_cons.mp hb with r2 | r2
      · exact absurd (by rw [← r2, ← e]; exact List.mem_map_of_mem (f := fun q : Cs × List D => q.1.2.1) r1) h.1
      · exact ih h.2 r1 r2
theorem seq_ent {n : Nat} {it : Item} {col : List D} {e : D} (h : isSeq it) (he : entOf (n + 1) (.comp it) col e) (hc : ∀ c ∈ col, valOf (n + 1) (.comp it) c) :
    ∃ (nums : List Nat) (es : List D), e = countsD nums es ∧ nums.length ≤ 1000 ∧ (∀ k ∈ nums, k ≤ es.length) ∧ ∀ (i k : Nat), k ∈ nums → i < k → ∃ e' P' rs, es[i]? = some e' ∧ wrapD it e' = .tup P' ∧ patOf (entOf n) (kinds (elemItems it)) rs P' ∧ ∀ r' ∈ rs, rowIn (valOf n) (kinds (elemItems it)) r' := by
  rw [entOf_seq h] at he
  obtain ⟨nums, es, h1, h2, rfl, _, h4, h5⟩ := he
  have hle : ∀ k ∈ nums, k ≤ es.length := fun k hk => by
    obtain ⟨vs, hvs, e⟩ := List.mem_map.mp ((h1.1 k).mp hk)
    rw [← e]
    exact h4 vs hvs
  refine ⟨nums, es, rfl, h2, hle, fun i k hk hi => ?_⟩
  have hlt : i < es.length := Nat.lt_of_lt_of_le hi (hle k hk)
  obtain ⟨P', e1, e2⟩ := h5 i es[i] (List.getElem?_eq_getElem hlt)
  refine ⟨es[i], P', _, List.getElem?_eq_getElem hlt, e1, e2, fun r' hr' => ?_⟩
  obtain ⟨v, hv, rfl⟩ := List.mem_map.mp hr'
  obtain ⟨vs, hvs, e3⟩ := List.mem_filterMap.mp hv
  obtain ⟨d, hd, rfl⟩ := List.mem_map.mp hvs
  obtain ⟨vs', rfl, _, h6⟩ := valOf_seq h (hc d hd)
  exact (h6 v (List.mem_of_getElem? e3)).2
section
variable {P : Program} {w : World} {K : PySem.W.Frag} {mg : Str → Option Value} {base : Heap}
theorem sc_l_in_set : FnScope ["_law_entry", "_law_number", "_law_width"] ["_law_entry", "_law_number", "_law_width"] (defScope s_l_in_set) := ⟨rfl, rfl, rfl, by decide +kernel, rfl, by decide +kernel, by decide +kernel⟩
theorem cal_l_in_set  (D0 : Def K mg "_law_in_set" s_l_in_set) (B : Blt mg)   : Cal P w K mg base "_law_in_set" (1) ["_law_entry", "_law_number", "_law_width"] (up K 3 sp_l_in_set) := by
  refine D0.cal (N := ["_law_entry", "_law_number", "_law_width"]) (k := 0) sc_l_in_set [] rfl (fun _ _ _ _ _ _ us hl => match us, hl with | [_, _, _], _ => rfl) (fun f cdv A outer s H E hr => ⟨_, _,
(dss_cons (ds_if (dt_eq (de_ix (dv 0) de_int) de_str)
(dss_one (ds_ret (de_eq (de_and (de_mod (de_ct rInt' call_int1 sc_int (by rfl) B.int bt_int (da_cons (dv 1) da_nil)) (de_shl de_int (dv 2))) (de_ix (dv 0) de_int)) (de_ix (dv 0) de_int))))
dss_nil)
(dss_one (ds_ret (de_in (dv 1) (de_ix (dv 0) de_int))))),
    fun ds m Q hl hs => ?_⟩)
  -- slots: 0 _law_entry 1 _law_number 2 _law_width
  obtain ⟨wd, is, e, i, rfl, hw, ⟨_, Kn, C, hb, he⟩, q⟩ := hs
  cases he with
  | bits =>
    walk_at "dr"
    have e1 : (1 : Int) * 2 ^ ((wd : Int)).toNat = 2 ^ wd := powlit wd
    refine ifT rfl ⟨cpow1 hw, ?_⟩
    rw [e1]
    refine ⟨Int.pow_pos (by decide), ?_⟩
    rw [int_mod_cast, PyProof.Rows.bitAnd_pp (Int.natCast_nonneg _) (Int.natCast_nonneg _)]
    refine q _ ⟨fun e => .inl ⟨Kn, C, rfl, Int.ofNat.inj (of_decide_eq_true e)⟩, fun h => decide_eq_true ?_⟩
    rcases h with ⟨K', C', e2, e3⟩ | ⟨ns', e2, _⟩
    · have q1 := D.tup.inj e2
      have q2 := List.cons.inj (List.cons.inj q1).2
      have q3 : (Kn : Int) = K' := D.int.inj q2.1
      have q4 : (C : Int) = C' := D.int.inj (List.cons.inj q2.2).1
      have q5 : Kn = K' := Int.ofNat.inj q3
      rw [q4, q5, ← e3]
      rfl
    · have q1 : 3 = 2 := congrArg List.length (D.tup.inj e2)
      exact absurd q1 (by decide)
  | among ns hm hf hK hC hl =>
    walk_at "dr"
    refine ifF ne_ ⟨ns, rfl, q _ ⟨fun e => .inr ⟨ns, rfl, of_decide_eq_true e⟩, fun h => decide_eq_true ?_⟩⟩
    rcases h with ⟨K', C', e2, e3⟩ | ⟨ns', e2, h2⟩
    · have q1 : 2 = 3 := congrArg List.length (D.tup.inj e2)
      exact absurd q1 (by decide)
    · have q1 := D.tup.inj (List.cons.inj (List.cons.inj (D.tup.inj e2)).2).1
      rw [map_int_inj q1]
      exact h2
theorem sc_l_has_in : FnScope ["_law_kind", "_law_entry", "_law_thing", "_law_mate", "_law_case", "_law_i"] ["_law_kind", "_law_entry", "_law_thing"] (defScope s_l_has_in) := ⟨rfl, rfl, rfl, by decide +kernel, rfl, by decide +kernel, by decide +kernel⟩
theorem cal_l_has_in (k : Nat) (D0 : Def K mg "_law_has_in" s_l_has_in) (B : Blt mg) (c_l_in_set : Cal P w K mg base "_law_in_set" (1) ["_law_entry", "_law_number", "_law_width"] (up K 3 sp_l_in_set)) (c_l_has : Cal P w K mg base "_law_has" (10*k) ["_law_items", "_law_pattern_here", "_law_row"] (up K 3 (at2 sp_hasN k)))  : Cal P w K mg base "_law_has_in" (10*k+5 + 1) ["_law_kind", "_law_entry", "_law_thing"] (up K 3 (sp_hasinN k)) := by
  refine D0.cal (N := ["_law_kind", "_law_entry", "_law_thing", "_law_mate", "_law_case", "_law_i"]) (k := 10*k+5) sc_l_has_in [none, none, none] rfl (fun _ _ _ _ _ _ us hl => match us, hl with | [_, _, _], _ => rfl) (fun f cdv A outer s H E hr => ⟨_, _,
(dss_cons (ds_if (dt_eq (de_ix (dv 0) de_int) de_str)
(dss_one (ds_ret (de_call c_l_in_set (hr.mono (by first | decide | omega)) (by rfl) (da_cons (dv 1) (da_cons (dv 2) (da_cons (de_ix (dv 0) de_int) da_nil))))))
dss_nil)
(dss_cons (ds_if (dt_eq (de_ix (dv 0) de_int) de_str)
(dss_one (ds_ret (de_call c_l_has (hr.mono (by first | decide | omega)) (by rfl) (da_cons (de_ix (dv 0) de_int) (da_cons (dv 1) (da_cons (dv 2) da_nil))))))
dss_nil)
(dss_cons (ds_if (dt_eq (de_ix (dv 0) de_int) de_str)
(dss_cons (ds_for PassesOwn.never rfl (di_seq (de_ix (dv 1) de_int)) (dg_name (i := 3) sc_l_has_in.nd rfl (.inr rfl))
(dss_one (ds_if (dt_eq (de_ix (dv 3) de_int) (de_ix (dv 2) de_int))
(dss_one (ds_ret (de_call c_l_has (hr.mono (by first | decide | omega)) (by rfl) (da_cons (de_ix (de_lc (own := [("_law_case", 4)]) rfl sc_l_has_in.nd (di_seq (de_ix (dv 0) de_int)) (blkOk_by (N := ["_law_kind", "_law_entry", "_law_thing", "_law_mate", "_law_case", "_law_i"]) (sc := defScope s_l_has_in) (own := [("_law_case", 4)]) (by decide +kernel)) (fun _ _ _ _ _ => (dg_name (i := 4) sc_l_has_in.nd rfl (.inl rfl))) (keepN 4) (fun _ _ _ _ _ => (dts_one (dt_eq (de_ix (dv 4) de_int) (de_ix (dv 3) de_int)))) (fun _ _ _ _ _ => (de_ix (dv 4) de_int)) (by intro _; rfl) s H) de_int) (da_cons (de_ix (dv 3) de_int) (da_cons (de_ix (dv 2) de_int) da_nil))))))
dss_nil)))
(dss_one (ds_ret de_bl)))
dss_nil)
(dss_cons (ds_if (dt_notin (de_cb rLen' call_len_seq sc_len (by rfl) B.len bt_len (da_cons (dv 2) da_nil)) (de_ix (dv 1) de_int))
(dss_one (ds_ret de_bl))
dss_nil)
(dss_cons (ds_for PassesOwn.never rfl (di_rg1 (by rfl) B.range (de_cb rLen' call_len_seq sc_len (by rfl) B.len bt_len (da_cons (dv 2) da_nil))) (dg_name (i := 5) sc_l_has_in.nd rfl (.inl rfl))
(dss_cons (ds_if (DW.dt (dw_and (dt_eq (de_ix (dv 0) de_int) de_str) (dw_and1 (dt_not (dt_val (de_call c_l_has (hr.mono (by first | decide | omega)) (by rfl) (da_cons (de_ix (dv 0) de_int) (da_cons (de_ix (de_ix (dv 1) de_int) (dv 5)) (da_cons (de_ix (dv 2) (dv 5)) da_nil)))))))))
(dss_one (ds_ret de_bl))
dss_nil)
(dss_one (ds_if (DW.dt (dw_and (dt_eq (de_ix (dv 0) de_int) de_str) (dw_and1 (dt_not (dt_val (de_call c_l_in_set (hr.mono (by first | decide | omega)) (by rfl) (da_cons (de_ix (de_ix (dv 1) de_int) (dv 5)) (da_cons (de_ix (dv 2) (dv 5)) (da_cons (de_ix (dv 0) de_int) da_nil)))))))))
(dss_one (ds_ret de_bl))
dss_nil))))
(dss_one (ds_ret de_bl))))))),
    fun ds m Q hl hs => ?_⟩)
  -- slots: 0 _law_kind 1 _law_entry 2 _law_thing 3 _law_mate 4 _law_case 5 _law_i
  obtain ⟨kd, col, e, d, rfl, hw, he, hc, hv, q⟩ := hs
  cases kd with
  | num s p =>
    rw [encK_num]
    obtain ⟨i, rfl, _⟩ : ∃ i, d = .int i ∧ inF p.signed p.width i := by cases k <;> exact hv
    have he' : IsSet p.width (col.map intD) e := by cases k <;> exact he
    walk_at "dr"
    refine ifT rfl ⟨p.width, _, e, i, rfl, Nat.le_trans hw.2 (by decide), he', fun b hb => q b ?_⟩
    have : hasE k (.num s p) e (.int i) = HasS p.width e i := by cases k <;> rfl
    rw [this]
    exact hb
  | comp it =>
    cases k with
    | zero => exact he.elim
    | succ n =>
    cases it with
    | rcd a its =>
      obtain ⟨r, rfl, hr⟩ := hv
      obtain ⟨P', rfl, hP⟩ := he
      rw [encK_rcd]
      walk_at "dr"
      refine ifF ne_ (ifT rfl ⟨its, _, P', r, rfl, hw.1, hP, fun r' hr' => ?_, hr, q⟩)
      obtain ⟨d0, m0, rfl⟩ := List.mem_map.mp hr'
      obtain ⟨r0, rfl, h0⟩ := hc d0 m0
      exact h0.2
    | choice a wd cs =>
      obtain ⟨L, rfl, hL0, hL, hLn, hLl, hcs, hcov⟩ := he
      obtain ⟨_, c0, hc0, r, rfl, hr⟩ := hv
      obtain ⟨hw1, hw2, hw3, hw4⟩ : cs.length ≤ 100 ∧ (cs.map fun c : Cs => c.1).Nodup ∧ (cs.map fun c : Cs => c.2.1).Nodup ∧ ∀ c ∈ cs, (0 ≤ c.1 ∧ c.1 < 2 ^ (8 * wd.size)) ∧ wfL n c.2.2 := hw.1
      rw [encK_choice]
      walk_at "dr"
      refine ifF ne_ (ifF ne_ (ifT rfl (loop_map (f := fun q : Cs × List D => D.tup [.str q.1.2.1, .tup q.2]) (fun pp g' m' => ∃ y : Option D, g' = [some (.tup [.str "choice", .str a, .tup (cs.map (encC n))]), some (casesD L), some (.tup [.str c0.2.1, .tup r]), y, none, none] ∧ m' = m ∧ ∀ q' ∈ pp, q'.1.2.1 ≠ c0.2.1) ⟨none, rfl, rfl, fun _ h => nomatch h⟩ (fun _ _ _ _ => trivial) (fun pre x post g' m' hd hI => ?_) (fun g' m' hI => ?_))))
      · obtain ⟨y, rfl, rfl, hI⟩ := hI
        have hx : x ∈ L := by
          rw [hd]
          exact List.mem_append_right _ List.mem_cons_self
        obtain ⟨hx1, rs, hx2, hx3, hx4⟩ := hL x hx
        walk_at "dr"
        refine ifD (fun h => ?_) (fun h => ⟨_, rfl, fun q' hq' => ?_⟩)
        · have ec : x.1 = c0 := nd_eq hcs hx1 hc0 h
          refine lc_filter (f := encC n) (xs := cs) (fun c : Cs => decide (c.2.1 = x.1.2.1)) (fun c => encL n c.2.2) (by omega) (fun c hc' m1 R R' hm hT hF => ?_) ?_
          · unfold encC encC'
            walk_at "dr"
            exact ifD (fun h2 => hT (decide_eq_true h2)) (fun h2 => hF (decide_eq_false h2))
          · have e1 : ((cs.filter fun c : Cs => decide (c.2.1 = x.1.2.1)).map fun c => encL n c.2.2) = [encL n c0.2.2] := by
              rw [← ec, filter_one hcs hx1]
              rfl
            rw [e1]
            refine ⟨c0.2.2, rs, x.2, r, rfl, (hw4 c0 hc0).2, by rw [← ec]; exact hx4, fun r' hr' => ?_, hr, fun b hb => q b ?_⟩
            · rw [hx2] at hr'
              obtain ⟨d1, m1, rfl⟩ := List.mem_map.mp hr'
              obtain ⟨m2, m3⟩ := List.mem_filter.mp m1
              obtain ⟨_, c1, hc1, r1, rfl, hr1⟩ := hc d1 m2
              have e3 : c1 = c0 := nd_eq hcs hc1 hc0 ((of_decide_eq_true m3).trans h)
              rw [e3] at hr1
              exact hr1.2
            · rw [hb]
              refine ⟨fun hh => ⟨L, rfl, x, hx, hx1, h, by rw [ec]; exact hh⟩, fun ⟨L', eL, q', hq', h1, h2, h3⟩ => ?_⟩
              have e2 := cases_inj eL
              have mm : (q'.1.2.1, q'.2) ∈ L.map fun q => (q.1.2.1, q.2) := by
                rw [e2]
                exact List.mem_map_of_mem (f := fun q : Cs × List D => (q.1.2.1, q.2)) hq'
              obtain ⟨q2, hq2, eq⟩ := List.mem_map.mp mm
              have eq1 : q2.1.2.1 = q'.1.2.1 := (Prod.mk.inj eq).1
              have eq2 : q2.2 = q'.2 := (Prod.mk.inj eq).2
              have h2' : q'.1.2.1 = c0.2.1 := h2
              have eq3 : q2 = x := ndL_eq hLn hq2 hx (eq1.trans (h2'.trans h.symm))
              have eq4 : q'.1 = c0 := nd_eq hcs h1 hc0 h2'
              rw [← eq2, eq3, eq4] at h3
              exact h3
        · rcases List.mem_append.mp hq' with z | z
          · exact hI q' z
          · rw [List.mem_singleton.mp z]
            exact h
      · obtain ⟨y, rfl, rfl, hI⟩ := hI
        refine q false ⟨fun e => (nomatch e), fun ⟨L', eL, q', hq', h1, h2, h3⟩ => ?_⟩
        have e2 := cases_inj eL
        have mm : (q'.1.2.1, q'.2) ∈ L.map fun q => (q.1.2.1, q.2) := by
          rw [e2]
          exact List.mem_map_of_mem (f := fun q : Cs × List D => (q.1.2.1, q.2)) hq'
        obtain ⟨q2, hq2, eq⟩ := List.mem_map.mp mm
        exact absurd ((Prod.mk.inj eq).1.trans h2) (hI q2 hq2)
    | arr a wd sg c rg df =>
      obtain ⟨nums, es, rfl, h1, h2, h3⟩ := seq_ent (it := .arr a wd sg c rg df) trivial he hc
      obtain ⟨vs, rfl, hvl, hvs⟩ := hv
      rw [encK_arr]
      walk_at "dr"
      refine ifF ne_ (ifF ne_ (ifF ne_ ?_))
      have hcm : cMax c ≤ 100 := hw.1
      have hvb := len_le hvl
      refine ⟨nums.map fun j : Nat => (j : Int), by rw [List.map_map] <;> rfl, ?_⟩
      show if (!decide (((vs.length : Nat) : Int) ∈ nums.map fun j : Nat => (j : Int))) = true then _ else _
      have hiff := hasC_iff (n := n) (it := .arr a wd sg c rg df) trivial (nums := nums) (es := es) (vs := vs)
      refine ifDn (fun h => q false ⟨fun e => (nomatch e), fun z => absurd (mem_cast.mpr (hiff.mp z).1) h⟩) (fun h => ?_)
      have hmem := mem_cast.mp h
      refine ⟨by omega, by omega, loop_rg (fun i g' m' => ∃ y : Option D, g' = [some (.tup [.str "array", .str a, c.enc, .int (8 * wd.size : Nat), .bl sg, rg, df]), some (countsD nums es), some (.tup vs), none, none, y] ∧ m' = m ∧ ∀ (j : Nat) (v : D), j < i → vs[j]? = some v → ∃ e', es[j]? = some e' ∧ HasL n (elemItems (.arr a wd sg c rg df)) (tupD (wrapD (.arr a wd sg c rg df) e')) (elR (.arr a wd sg c rg df) v)) ⟨none, rfl, rfl, fun j v hj => absurd hj (Nat.not_lt_zero j)⟩ (fun _ _ _ _ => trivial) (fun i g' m' hi hI => ?_) (fun g' m' hI => ?_)⟩
      · obtain ⟨y, rfl, rfl, hI⟩ := hI
        have hi' : i < vs.length := by omega
        obtain ⟨e', P', rs, k1, k2, k3, k4⟩ := h3 i _ hmem hi'
        have hv := hvs vs[i] (List.getElem_mem hi')
        have hT : HasL n (elemItems (.arr a wd sg c rg df)) (tupD (wrapD (.arr a wd sg c rg df) e')) (elR (.arr a wd sg c rg df) vs[i]) → ∃ y : Option D, [some (.tup [.str "array", .str a, c.enc, .int (8 * wd.size : Nat), .bl sg, rg, df]), some (countsD nums es), some (.tup vs), none, none, some (.int (i : Nat))] = [some (.tup [.str "array", .str a, c.enc, .int (8 * wd.size : Nat), .bl sg, rg, df]), some (countsD nums es), some (.tup vs), none, none, y] ∧ m' = m' ∧ ∀ (j : Nat) (v : D), j < i + 1 → vs[j]? = some v → ∃ e', es[j]? = some e' ∧ HasL n (elemItems (.arr a wd sg c rg df)) (tupD (wrapD (.arr a wd sg c rg df) e')) (elR (.arr a wd sg c rg df) v) := fun hh => ⟨_, rfl, rfl, fun j v hj hjv => by
          rcases Nat.lt_or_ge j i with z | z
          · exact hI j v z hjv
          · have ej : j = i := by omega
            subst ej
            rw [List.getElem?_eq_getElem hi'] at hjv
            obtain rfl := Option.some.inj hjv
            exact ⟨e', k1, hh⟩⟩
        have hF : ¬ HasL n (elemItems (.arr a wd sg c rg df)) (tupD (wrapD (.arr a wd sg c rg df) e')) (elR (.arr a wd sg c rg df) vs[i]) → Q (.bl false) m' := fun hh => q false ⟨fun e => (nomatch e), fun z => by
          obtain ⟨e2, k5, k6⟩ := (hiff.mp z).2 i _ (List.getElem?_eq_getElem hi')
          rw [k1] at k5
          obtain rfl := Option.some.inj k5
          exact absurd k6 hh⟩
        walk_at "dr"
        refine ifF ne_ (ifF rfl (ifT rfl ?_))
        obtain ⟨iv, e5, _⟩ := arr_val hv
        have hks := arr_set k2 k3
        rw [atI_c, atI_c, k1, List.getElem?_eq_getElem hi', e5]
        rw [e5] at hT hF
        have h8 := wd_le wd
        refine ⟨8 * wd.size, _, e', iv, rfl, by omega, hks, fun b hb => ?_⟩
        cases b with
        | true => exact hT (arr_has.mpr (hb.mp rfl))
        | false => exact hF fun z => absurd (hb.mpr (arr_has.mp z)) Bool.false_ne_true
      · obtain ⟨y, rfl, rfl, hI⟩ := hI
        rw [Int.toNat_natCast] at hI
        exact q true ⟨fun _ => hiff.mpr ⟨hmem, fun i v hv => hI i v (List.getElem?_eq_some_iff.mp hv).1 hv⟩, fun _ => rfl⟩
    | list a c its =>
      obtain ⟨nums, es, rfl, h1, h2, h3⟩ := seq_ent (it := .list a c its) trivial he hc
      obtain ⟨vs, rfl, hvl, hvs⟩ := hv
      rw [encK_list]
      walk_at "dr"
      refine ifF ne_ (ifF ne_ (ifF ne_ ?_))
      have hcm : cMax c ≤ 100 := hw.1.1
      have hvb := len_le hvl
      refine ⟨nums.map fun j : Nat => (j : Int), by rw [List.map_map] <;> rfl, ?_⟩
      show if (!decide (((vs.length : Nat) : Int) ∈ nums.map fun j : Nat => (j : Int))) = true then _ else _
      have hiff := hasC_iff (n := n) (it := .list a c its) trivial (nums := nums) (es := es) (vs := vs)
      refine ifDn (fun h => q false ⟨fun e => (nomatch e), fun z => absurd (mem_cast.mpr (hiff.mp z).1) h⟩) (fun h => ?_)
      have hmem := mem_cast.mp h
      refine ⟨by omega, by omega, loop_rg (fun i g' m' => ∃ y : Option D, g' = [some (.tup [.str "list", .str a, c.enc, encL n its]), some (countsD nums es), some (.tup vs), none, none, y] ∧ m' = m ∧ ∀ (j : Nat) (v : D), j < i → vs[j]? = some v → ∃ e', es[j]? = some e' ∧ HasL n (elemItems (.list a c its)) (tupD (wrapD (.list a c its) e')) (elR (.list a c its) v)) ⟨none, rfl, rfl, fun j v hj => absurd hj (Nat.not_lt_zero j)⟩ (fun _ _ _ _ => trivial) (fun i g' m' hi hI => ?_) (fun g' m' hI => ?_)⟩
      · obtain ⟨y, rfl, rfl, hI⟩ := hI
        have hi' : i < vs.length := by omega
        obtain ⟨e', P', rs, k1, k2, k3, k4⟩ := h3 i _ hmem hi'
        have hv := hvs vs[i] (List.getElem_mem hi')
        have hT : HasL n (elemItems (.list a c its)) (tupD (wrapD (.list a c its) e')) (elR (.list a c its) vs[i]) → ∃ y : Option D, [some (.tup [.str "list", .str a, c.enc, encL n its]), some (countsD nums es), some (.tup vs), none, none, some (.int (i : Nat))] = [some (.tup [.str "list", .str a, c.enc, encL n its]), some (countsD nums es), some (.tup vs), none, none, y] ∧ m' = m' ∧ ∀ (j : Nat) (v : D), j < i + 1 → vs[j]? = some v → ∃ e', es[j]? = some e' ∧ HasL n (elemItems (.list a c its)) (tupD (wrapD (.list a c its) e')) (elR (.list a c its) v) := fun hh => ⟨_, rfl, rfl, fun j v hj hjv => by
          rcases Nat.lt_or_ge j i with z | z
          · exact hI j v z hjv
          · have ej : j = i := by omega
            subst ej
            rw [List.getElem?_eq_getElem hi'] at hjv
            obtain rfl := Option.some.inj hjv
            exact ⟨e', k1, hh⟩⟩
        have hF : ¬ HasL n (elemItems (.list a c its)) (tupD (wrapD (.list a c its) e')) (elR (.list a c its) vs[i]) → Q (.bl false) m' := fun hh => q false ⟨fun e => (nomatch e), fun z => by
          obtain ⟨e2, k5, k6⟩ := (hiff.mp z).2 i _ (List.getElem?_eq_getElem hi')
          rw [k1] at k5
          obtain rfl := Option.some.inj k5
          exact absurd k6 hh⟩
        walk_at "dr"
        refine ifT rfl ?_
        obtain ⟨⟨r, e5⟩, hv2⟩ := hv
        have k2' : e' = .tup P' := k2
        rw [atI_c, atI_c, k1, List.getElem?_eq_getElem hi', e5, k2']
        rw [e5] at hT hF hv2
        rw [k2'] at hT hF
        refine ⟨its, rs, P', r, rfl, hw.1.2, k3, k4, hv2, fun b hb => ?_⟩
        cases b with
        | true => exact ifF rfl (ifF ne_ (ifF rfl (hT (hb.mp rfl))))
        | false => exact hF fun z => absurd (hb.mpr z) Bool.false_ne_true
      · obtain ⟨y, rfl, rfl, hI⟩ := hI
        rw [Int.toNat_natCast] at hI
        exact q true ⟨fun _ => hiff.mpr ⟨hmem, fun i v hv => hI i v (List.getElem?_eq_some_iff.mp hv).1 hv⟩, fun _ => rfl⟩
    | word _ _ => exact he.elim
    | lit _ => exact he.elim
    | res _ => exact he.elim
    | chk _ => exact he.elim
theorem sc_l_has : FnScope ["_law_items", "_law_pattern_here", "_law_row", "_law_kinds_here", "_law_k"] ["_law_items", "_law_pattern_here", "_law_row"] (defScope s_l_has) := ⟨rfl, rfl, rfl, by decide +kernel, rfl, by decide +kernel, by decide +kernel⟩
theorem cal_l_has (k : Nat) (D0 : Def K mg "_law_has" s_l_has) (B : Blt mg) (c_l_kinds : Cal P w K mg base "_law_kinds" (2) ["_law_items"] (up K 1 sp_l_kinds)) (c_l_has_in : Cal P w K mg base "_law_has_in" (10*k+5 + 1) ["_law_kind", "_law_entry", "_law_thing"] (up K 3 (sp_hasinN k)))  : Cal P w K mg base "_law_has" (10*k+6 + 1) ["_law_items", "_law_pattern_here", "_law_row"] (up K 3 (sp_hasN k)) := by
  refine D0.cal (N := ["_law_items", "_law_pattern_here", "_law_row", "_law_kinds_here", "_law_k"]) (k := 10*k+6) sc_l_has [none, none] rfl (fun _ _ _ _ _ _ us hl => match us, hl with | [_, _, _], _ => rfl) (fun f cdv A outer s H E hr => ⟨_, _,
(dss_cons (ds_set (i := 3) sc_l_has.nd rfl (.inl rfl) (de_call c_l_kinds (hr.mono (by first | decide | omega)) (by rfl) (da_cons (dv 0) da_nil)))
(dss_cons (ds_for PassesOwn.never rfl (di_rg1 (by rfl) B.range (de_cb rLen' call_len_seq sc_len (by rfl) B.len bt_len (da_cons (dv 3) da_nil))) (dg_name (i := 4) sc_l_has.nd rfl (.inl rfl))
(dss_one (ds_if (dt_not (dt_val (de_call c_l_has_in (hr.mono (by first | decide | omega)) (by rfl) (da_cons (de_ix (dv 3) (dv 4)) (da_cons (de_ix (dv 1) (dv 4)) (da_cons (de_ix (dv 2) (dv 4)) da_nil))))))
(dss_one (ds_ret de_bl))
dss_nil)))
(dss_one (ds_ret de_bl)))),
    fun ds m Q hl hs => ?_⟩)
  -- slots: 0 _law_items 1 _law_pattern_here 2 _law_row 3 _law_kinds_here 4 _law_k
  obtain ⟨its, rows, es, r, rfl, hw, hP, hrs, hr, q⟩ := hs
  refine ⟨rfl, k, its, rfl, hw, ?_⟩
  walk_at "dr"
  have hkl := kinds_le hw
  have hml : ((kinds its).map (encK k)).length = (kinds its).length := List.length_map _
  refine ⟨by omega, by omega, loop_rg (fun i g' m' => ∃ y : Option D, g' = [some (encL k its), some (.tup es), some (.tup r), some (.lst ((kinds its).map (encK k))), y] ∧ m' = m ∧ ∀ (j : Nat) (kd : Kind), j < i → (kinds its)[j]? = some kd → hasE k kd (es[j]?.getD .non) (r[j]?.getD .non)) ⟨none, rfl, rfl, fun j v hj => absurd hj (Nat.not_lt_zero j)⟩ (fun _ _ _ _ => trivial) (fun i g' m' hi hI => ?_) (fun g' m' hI => ?_)⟩
  · obtain ⟨y, rfl, rfl, hI⟩ := hI
    have hi' : i < (kinds its).length := by omega
    have hk : (kinds its)[i]? = some (kinds its)[i] := List.getElem?_eq_getElem hi'
    have h1 : (((kinds its).map (encK k))[i]?) = some (encK k (kinds its)[i]) := by rw [List.getElem?_map, hk] <;> rfl
    have hie : i < es.length := by rw [hP.1]; exact hi'
    have hir : i < r.length := by rw [hr.1]; exact hi'
    have h2 : es[i]? = some (es[i]?.getD .non) := by rw [List.getElem?_eq_getElem hie] <;> rfl
    have h3 : r[i]? = some (r[i]?.getD .non) := by rw [List.getElem?_eq_getElem hir] <;> rfl
    walk_at "dr"
    rw [atI_c, atI_c, atI_c, h1, h2, h3]
    refine ⟨(kinds its)[i], rows.map fun r => r[i]?.getD .non, _, _, rfl, wfK_of hw _ (List.getElem_mem hi'), patIn_get hP.2 hk, fun c hc => ?_, rowIn_get hr.2 hk, fun b hb => ?_⟩
    · obtain ⟨r', hr', rfl⟩ := List.mem_map.mp hc
      exact rowIn_get (hrs r' hr') hk
    · cases b with
      | true => exact ifF rfl ⟨_, rfl, rfl, fun j kd hj hjk => by
          rcases Nat.lt_or_ge j i with z | z
          · exact hI j kd z hjk
          · have ej : j = i := by omega
            subst ej
            rw [hk] at hjk
            obtain rfl := Option.some.inj hjk
            exact hb.mp rfl⟩
      | false => exact q false ⟨fun e => (nomatch e), fun z => absurd (hb.mpr (hasOf_iff.mp z i _ hk)) Bool.false_ne_true⟩
  · obtain ⟨y, rfl, rfl, hI⟩ := hI
    rw [Int.toNat_natCast, hml] at hI
    exact q true ⟨fun _ => hasOf_iff.mpr fun i kd hk => hI i kd (List.getElem?_eq_some_iff.mp hk).1 hk, fun _ => rfl⟩
end
end BB

namespace BB
open PySem PySem.Spec PyProof.Rows L2
local macro_rules | `(tactic| walk_at "dl") => `(tactic| simp only [dIfS, dIfE, dTest, dOp, dVar, dC, dIx, dEq, dNe, dI, dIc, dIsN, dNotN, isNonD, dAndT, dOrT, dNotT, dAndV, dNeg, dAdd, dTup, dLst, dCons, dNil, dCB, dCall, dLc, true_and, dLen, dInt1, dInt2, withSeq, with1_1, onSome_some, atI_0, atI_1, atI_2, atI_3, atI_4, atI_5, atI_6, List.getElem?_cons_succ, List.getElem?_cons_zero, List.set_cons_zero, List.set_cons_succ, gdN, Part.enc, encN, Bool.not_true, Bool.not_false, mapS_cons, mapS_nil, List.length_cons, List.length_nil, List.cons_append, List.nil_append, gdTup, gdCons, gdNil, dAppend, dExtend, dListF, dTupOf, dMul, dSl, dNoP, dPart])
local macro_rules | `(tactic| walk_at "dr") => `(tactic| simp only [dSeq, dAsg, dRet, dRetW, dDrop, dNext, dFor, diSeq, dIfS, dIfE, dTest, dOp, dVar, dC, dIx, dEq, dNe, dI, dIc, dIsN, dNotN, isNonD, dAndT, dOrT, dNotT, dAndV, dNeg, dAdd, dTup, dLst, dCons, dNil, dCB, dCall, dLc, true_and, dLen, dInt1, dInt2, withSeq, with1_1, onSome_some, atI_0, atI_1, atI_2, atI_3, atI_4, atI_5, atI_6, List.getElem?_cons_succ, List.getElem?_cons_zero, List.set_cons_zero, List.set_cons_succ, gdN, Part.enc, encN, Bool.not_true, Bool.not_false, mapS_cons, mapS_nil, List.length_cons, List.length_nil, List.cons_append, List.nil_append, gdTup, gdCons, gdNil, dAppend, dExtend, dListF, dTupOf, dMul, dSl, dNoP, dPart])

/-! ## messages, by the law -/
abbrev likeD : D := .lst (List.replicate 400 (.int 0))
def sp_putN (n : Nat) : SpD := fun ds m Q => ∃ (p : Addr) (its : List Item) (r : List D) (o : List Int), ds = [encL n its, .tup r, .adr p, likeD] ∧ wfL n its ∧ rowIs n its r ∧ m p = some (o.map D.int) ∧ o.length + mxL n its ≤ 400 ∧ Q .non (mset m p ((putL n its r o).map D.int))
def sp_insN (n : Nat) : SpD := fun ds m Q => ∃ (p : Addr) (it : Item) (d : D) (o : List Int), ds = [encI (n + 1) it, d, .adr p, likeD] ∧ wfI (n + 1) it ∧ kindsI it = [.comp it] ∧ valOf (n + 1) (.comp it) d ∧ m p = some (o.map D.int) ∧ o.length + mxI (n + 1) it ≤ 400 ∧ ∀ row : List D, row.headD .non = d → Q .non (mset m p ((putI (n + 1) it row o).map D.int))
def sp_bytesofN (n : Nat) : SpD := fun ds m Q => ∃ (its : List Item) (r : List D), ds = [encL n its, .tup r, .lst []] ∧ wfL n its ∧ rowIs n its r ∧ mxL n its ≤ 400 ∧ Q (.lst ((putL n its r []).map D.int)) m
theorem cut_rep {a b : Nat} (h : a + b ≤ 400) : cutD (List.replicate 400 (D.int 0)) (some ((a : Nat) : Int)) (some (((a : Nat) : Int) + (b : Nat))) = List.replicate b (D.int 0) := by
  unfold cutD
  rw [List.length_replicate, HT.sIx_nat, ← Int.natCast_add, HT.sIx_nat, Nat.min_eq_left (by omega), Nat.min_eq_left (by omega), List.drop_replicate, List.take_replicate]
  congr 1
  omega
theorem modW_nat {c w : Nat} (h : c < 2 ^ w) : modW ((c : Nat) : Int) w = c := by
  have := modW_nn (i := (c : Nat)) (w := w) (Int.natCast_nonneg c) (by rw [two_pow_nat]; exact Int.ofNat_lt.mpr h)
  exact Int.ofNat.inj this
theorem putL_snoc (n : Nat) (pre : List Item) (x : Item) (r : List D) (o : List Int) : putL n (pre ++ [x]) r o = putI n x (r.drop (kinds pre).length) (putL n pre r o) := foldI_app pre [x] r o
theorem putL_len {n : Nat} {its : List Item} {r : List D} {o : List Int} (h : rowIn (valOf n) (kinds its) r) : (putL n its r o).length ≤ o.length + mxL n its := foldI_len (n := n) (mx := mxI n) (putI_len n) its r o h
theorem widths_app (xs ys : List Part) : ((xs ++ ys).map Part.width).sum = (xs.map Part.width).sum + (ys.map Part.width).sum := by rw [List.map_append, List.sum_append]
def isComp : Item → Prop
  | .word _ _ => False
  | .lit _ => False
  | .res _ => False
  | .chk _ => False
  | _ => True
theorem putI_head {n : Nat} {it : Item} (h : isComp it) {r r' : List D} (e : r.headD .non = r'.headD .non) {o : List Int} : putI n it r o = putI n it r' o := by
  cases n with
  | zero =>
    cases it with
    | word _ _ => exact h.elim
    | lit _ => rfl
    | res _ => rfl
    | chk _ => rfl
    | _ => rfl
  | succ n =>
    cases it with
    | word _ _ => exact h.elim
    | lit _ => rfl
    | res _ => rfl
    | chk _ => rfl
    | arr a w sg c rg df =>
      show putS _ c (tupD (r.headD .non)) o = putS _ c (tupD (r'.headD .non)) o
      rw [e]
    | list a c its =>
      show putS _ c (tupD (r.headD .non)) o = putS _ c (tupD (r'.headD .non)) o
      rw [e]
    | rcd a its =>
      show foldI (putI n) its (tupD (r.headD .non)) o = foldI (putI n) its (tupD (r'.headD .non)) o
      rw [e]
    | choice a w cs =>
      unfold putI
      rw [e]
theorem field_v (b : Int) (w low : Nat) : Builtin.bitAnd b (1 * 2 ^ ((w : Nat) : Int).toNat - 1) * 2 ^ ((low : Nat) : Int).toNat = ((modW b w * 2 ^ low : Nat) : Int) := by
  rw [powlit, and_mask, int_mod_cast, Int.toNat_natCast, two_pow_nat, Int.natCast_mul]
theorem cpow_f (b : Int) {w low : Nat} (hw : w ≤ 32) (hl : low ≤ 32) : CPow (Builtin.bitAnd b (1 * 2 ^ ((w : Nat) : Int).toNat - 1)) ((low : Nat) : Int) := by
  rw [powlit, and_mask, int_mod_cast]
  refine ⟨Int.natCast_nonneg _, by omega, ?_⟩
  rw [Int.natAbs_natCast]
  exact Nat.lt_of_lt_of_le (modW_lt b w) (Nat.pow_le_pow_right (by decide) (by omega))
theorem loop_id {ds : List D} {Sb : Mu → Prop} {tg : TGD} {body : TSD} {E : EndsD} {g : Env'} {m : Mu} (Inv : List D → Env' → Mu → Prop) (h0 : Inv [] g m) (hs : ∀ pre g' m', Inv pre g' m' → Sb m')
    (step : ∀ pre x post g' m', ds = pre ++ x :: post → Inv pre g' m' → tg x g' m' fun g2 m2 => body ⟨Inv (pre ++ [x]), E.rt⟩ g2 m2) (hd : ∀ g' m', Inv ds g' m' → E.nx g' m') : LoopD ds Sb tg body E g m := ⟨Inv, h0, hs, step, hd⟩
theorem arr_put {n : Nat} {a : Str} {wd : Wd} {sg : Bool} {c : Cnt} {rg df : D} {iv : Int} {o : List Int} : putL n (elemItems (.arr a wd sg c rg df)) (elR (.arr a wd sg c rg df) (.int iv)) o = o ++ wbytes wd (modW iv (8 * wd.size)) := by
  have z : putL n (elemItems (.arr a wd sg c rg df)) (elR (.arr a wd sg c rg df) (.int iv)) o = o ++ wbytes wd (modW iv (8 * wd.size) * 2 ^ (8 * wd.size - 8 * wd.size) + 0) := by cases n <;> rfl
  rw [z, Nat.sub_self, Nat.pow_zero, Nat.mul_one, Nat.add_zero]
abbrev elSt (n : Nat) : TSD := dIfS (dTest (dOp dEq (dOp dIx (dVar 0) (dC (.int 0))) (dC (.str "array")))) (dDrop (dExtend (dVar 2) (dCall 2 sp_l_bytes (dCons (dOp dIx (dVar 0) (dC (.int 2))) (dCons (dVar 7) dNil))))) (dDrop (dCall 4 (at2 sp_putN (n + 1)) (dCons (dOp dIx (dVar 0) (dC (.int 3))) (dCons (dVar 7) (dCons (dVar 2) (dCons (dVar 3) dNil))))))
abbrev insRest (n : Nat) : TSD := dSeq (dFor (diSeq (dVar 1)) (gdN 7) (dSeq (dIfS (dTest (dOp dEq (dOp dIx (dVar 6) (dC (.int 0))) (dC (.str "marked")))) (dDrop (dAppend (dVar 2) (dC (.int 1)))) dNext) (elSt n))) (dIfS (dTest (dOp dEq (dOp dIx (dVar 6) (dC (.int 0))) (dC (.str "marked")))) (dDrop (dAppend (dVar 2) (dC (.int 0)))) dNext)
theorem el_st {n : Nat} {it : Item} (h : isSeq it) (hw : wfI (n + 1) it) {v cd : D} {vs : List D} (hvs : valOf (n + 1) (.comp it) (.tup vs)) (hm : v ∈ vs) {p : Addr} {m : Mu} {o : List Int} {E : EndsD} (hl : o.length + mxL n (elemItems it) ≤ 400)
    (q : E.nx [some (encI (n + 1) it), some (.tup vs), some (.adr p), some likeD, none, none, some cd, some v] (mset m p ((putL n (elemItems it) (elR it v) o).map D.int))) :
    elSt n E [some (encI (n + 1) it), some (.tup vs), some (.adr p), some likeD, none, none, some cd, some v] (mset m p (o.map D.int)) := by
  cases it with
  | arr a wd sg c rg df =>
    obtain ⟨vs', e, _, hr⟩ := hvs
    obtain rfl := D.tup.inj e
    obtain ⟨iv, rfl, _⟩ := arr_val (hr v hm)
    have h4 := wd_le wd
    have hmx : mxL n (elemItems (.arr a wd sg c rg df)) = wd.size := by cases n <;> rfl
    rw [arr_put] at q
    rw [encI_arr] at q ⊢
    walk_at "dr"
    refine ifT rfl ⟨⟨_, mset_same⟩, wd, iv, rfl, _, _, mset_same, rfl, sz ?_, ?_⟩
    · rw [List.length_map, List.length_map, wbytes_len]
      omega
    · rw [mset_mset, ← List.map_append]
      exact q
  | list a c its =>
    obtain ⟨vs', e, _, hr⟩ := hvs
    obtain rfl := D.tup.inj e
    obtain ⟨⟨r, rfl⟩, hr2⟩ := hr v hm
    rw [encI_list] at q ⊢
    walk_at "dr"
    refine ifF ne_ ⟨p, its, r, o, rfl, hw.2, hr2, mset_same, hl, ?_⟩
    rw [mset_mset]
    exact q
  | _ => exact h.elim
theorem ins_rest {n : Nat} {it : Item} (h : isSeq it) (hw : wfI (n + 1) it) {vs : List D} (hvs : valOf (n + 1) (.comp it) (.tup vs)) {p : Addr} {m : Mu} {o : List Int} {E : EndsD} (hl : o.length + mxI (n + 1) it ≤ 400)
    (q : ∀ g, E.nx g (mset m p ((putI (n + 1) it [.tup vs] o).map D.int))) :
    insRest n E [some (encI (n + 1) it), some (.tup vs), some (.adr p), some likeD, none, none, some (cntOf it).enc, none] (mset m p ((o ++ cHead (cntOf it) vs.length).map D.int)) := by
  obtain ⟨vs', e, hvl, hr⟩ := valOf_seq h hvs
  obtain rfl := D.tup.inj e
  have hle := len_le hvl
  have hmx := SqOk.mx_seq (n := n) h
  have hc4 : (cHead (cntOf it) vs.length).length ≤ 4 := by
    cases cntOf it with
    | counted w _ _ =>
      show (wbytes w _).length ≤ 4
      rw [wbytes_len]
      cases w <;> decide
    | exactly _ => exact Nat.zero_le _
    | marked _ => exact Nat.zero_le _
  have hpl : ∀ pre : List D, (∀ v ∈ pre, v ∈ vs) → pre.length ≤ vs.length → (putN (SqOk.elF n it) (cntOf it) pre (o ++ cHead (cntOf it) vs.length)).length ≤ o.length + 4 + pre.length * (mxL n (elemItems it) + 1) := fun pre hp _ => by
    have z := putN_len (f := SqOk.elF n it) (V := fun v => rowIn (valOf n) (kinds (elemItems it)) (elR it v)) (k := mxL n (elemItems it)) (fun v o hv => foldI_len (n := n) (mx := mxI n) (putI_len n) _ _ o hv) (cntOf it) pre (o ++ cHead (cntOf it) vs.length) (fun v hv => (hr v (hp v hv)).2)
    rw [List.length_append] at z
    omega
  have hmk : (cMark (cntOf it)).length ≤ 1 := by cases cntOf it <;> simp [cMark]
  have q' : ∀ g, E.nx g (mset m p ((putN (SqOk.elF n it) (cntOf it) vs (o ++ cHead (cntOf it) vs.length) ++ cTail (cntOf it)).map D.int)) := fun g => by
    have z := q g
    rw [putI_seq h] at z
    exact z
  refine loop_id (fun pp g' m' => ∃ y : Option D, g' = [some (encI (n + 1) it), some (.tup vs), some (.adr p), some likeD, none, none, some (cntOf it).enc, y] ∧ m' = mset m p ((putN (SqOk.elF n it) (cntOf it) pp (o ++ cHead (cntOf it) vs.length)).map D.int)) ⟨none, rfl, rfl⟩ (fun _ _ _ _ => trivial) (fun pre x post g' m' hd hI => ?_) (fun g' m' hI => ?_)
  · obtain ⟨y, rfl, rfl⟩ := hI
    have hx : x ∈ vs := by
      rw [hd]
      exact List.mem_append_right _ List.mem_cons_self
    have hpv : ∀ v ∈ pre, v ∈ vs := fun v hv => by
      rw [hd]
      exact List.mem_append_left _ hv
    have hpl1 : pre.length + 1 ≤ vs.length := by
      have := congrArg List.length hd
      rw [List.length_append, List.length_cons] at this
      omega
    have z := hpl pre hpv (by omega)
    have z3 : (pre.length + 1) * (mxL n (elemItems it) + 1) ≤ cMax (cntOf it) * (mxL n (elemItems it) + 1) := Nat.mul_le_mul_right _ (by omega)
    rw [Nat.add_mul] at z3
    have hro : (putN (SqOk.elF n it) (cntOf it) pre (o ++ cHead (cntOf it) vs.length) ++ cMark (cntOf it)).length + mxL n (elemItems it) ≤ 400 := by
      rw [List.length_append]
      omega
    have key := el_st (m := m) (p := p) (cd := (cntOf it).enc) (E := ⟨fun g' m' => ∃ y : Option D, g' = [some (encI (n + 1) it), some (.tup vs), some (.adr p), some likeD, none, none, some (cntOf it).enc, y] ∧ m' = mset m p ((putN (SqOk.elF n it) (cntOf it) (pre ++ [x]) (o ++ cHead (cntOf it) vs.length)).map D.int), E.rt⟩) h hw (v := x) hvs hx hro ⟨_, rfl, by
        rw [SqOk.putN_app]
        rfl⟩
    generalize hoo : putN (SqOk.elF n it) (cntOf it) pre (o ++ cHead (cntOf it) vs.length) = oo at key hro
    cases hc : cntOf it with
    | exactly k =>
      rw [hc] at key
      unfold Cnt.enc at key ⊢
      rw [show oo ++ cMark (.exactly k) = oo from List.append_nil _] at key
      exact key
    | counted wd lo hi =>
      rw [hc] at key
      unfold Cnt.enc at key ⊢
      rw [show oo ++ cMark (.counted wd lo hi) = oo from List.append_nil _] at key
      exact key
    | marked k =>
      rw [hc] at key hro
      unfold Cnt.enc at key ⊢
      refine ⟨⟨_, mset_same⟩, _, mset_same, szl (by rw [List.length_map]; rw [List.length_append] at hro; omega), ?_⟩
      rw [mset_mset]
      have e1 : oo.map D.int ++ [D.int 1] = (oo ++ cMark (.marked k)).map D.int := by rw [List.map_append] <;> rfl
      rw [e1]
      exact key
  · obtain ⟨y, rfl, rfl⟩ := hI
    have z := hpl vs (fun v hv => hv) (Nat.le_refl _)
    have z3 : vs.length * (mxL n (elemItems it) + 1) ≤ cMax (cntOf it) * (mxL n (elemItems it) + 1) := Nat.mul_le_mul_right _ hle
    generalize hoo : putN (SqOk.elF n it) (cntOf it) vs (o ++ cHead (cntOf it) vs.length) = oo at q' z
    cases hc : cntOf it with
    | exactly k =>
      rw [hc, show oo ++ cTail (.exactly k) = oo from List.append_nil _] at q'
      unfold Cnt.enc
      exact q' _
    | counted wd lo hi =>
      rw [hc, show oo ++ cTail (.counted wd lo hi) = oo from List.append_nil _] at q'
      unfold Cnt.enc
      exact q' _
    | marked k =>
      rw [hc] at q'
      unfold Cnt.enc
      refine ⟨⟨_, mset_same⟩, _, mset_same, szl (by rw [List.length_map]; omega), ?_⟩
      rw [mset_mset]
      have e1 : oo.map D.int ++ [D.int 0] = (oo ++ cTail (.marked k)).map D.int := by rw [List.map_append] <;> rfl
      rw [e1]
      exact q' _
section
variable {P : Program} {w : World} {K : PySem.W.Frag} {mg : Str → Option Value} {base : Heap}
theorem sc_l_put_items : FnScope ["_law_items", "_law_row", "_law_out", "_law_like", "_law_at", "_law_item", "_law_low", "_law_spare", "_law_code", "_law_part_here", "_law_bits"] ["_law_items", "_law_row", "_law_out", "_law_like"] (defScope s_l_put_items) := ⟨rfl, rfl, rfl, by decide +kernel, rfl, by decide +kernel, by decide +kernel⟩
theorem cal_l_put_items (k : Nat) (D0 : Def K mg "_law_put_items" s_l_put_items) (B : Blt mg) (c_l_size : Cal P w K mg base "_law_size" (1) ["_law_word"] (up K 1 sp_l_size)) (c_l_read : Cal P w K mg base "_law_read" (1) ["_law_word", "_law_data"] (up K 2 sp_l_read)) (c_l_bytes : Cal P w K mg base "_law_bytes" (2) ["_law_word", "_law_code"] (up K 2 sp_l_bytes)) (c_l_check : Cal P w K mg base "_law_check" (1) ["_law_method", "_law_out"] (up K 2 sp_l_check)) (c_l_put_inside : Cal P w K mg base "_law_put_inside" (10*k+5 + 1) ["_law_item", "_law_thing", "_law_out", "_law_like"] (up K 4 (at2 sp_insN k)))  : Cal P w K mg base "_law_put_items" (10*k+6 + 1) ["_law_items", "_law_row", "_law_out", "_law_like"] (up K 4 (sp_putN k)) := by
  refine D0.cal (N := ["_law_items", "_law_row", "_law_out", "_law_like", "_law_at", "_law_item", "_law_low", "_law_spare", "_law_code", "_law_part_here", "_law_bits"]) (k := 10*k+6) sc_l_put_items [none, none, none, none, none, none, none] rfl (fun _ _ _ _ _ _ us hl => match us, hl with | [_, _, _, _], _ => rfl) (fun f cdv A outer s H E hr => ⟨_, _,
(dss_cons (ds_set (i := 4) sc_l_put_items.nd rfl (.inl rfl) de_int)
(dss_one (ds_for PassesOwn.never rfl (di_seq (dv 0)) (dg_name (i := 5) sc_l_put_items.nd rfl (.inl rfl))
(dss_one (ds_if (dt_eq (de_ix (dv 5) de_int) de_str)
(dss_cons (ds_set (i := 6) sc_l_put_items.nd rfl (.inl rfl) (de_mul de_int (de_call c_l_size (hr.mono (by first | decide | omega)) (by rfl) (da_cons (de_ix (dv 5) de_int) da_nil))))
(dss_cons (ds_set (i := 7) sc_l_put_items.nd rfl (.inl rfl) (de_call c_l_read (hr.mono (by first | decide | omega)) (by rfl) (da_cons (de_ix (dv 5) de_int) (da_cons (de_sl (dv 3) (dp_some (de_cb rLen' call_len_seq sc_len (by rfl) B.len bt_len (da_cons (dv 2) da_nil))) (dp_some (de_add (de_cb rLen' call_len_seq sc_len (by rfl) B.len bt_len (da_cons (dv 2) da_nil)) (de_call c_l_size (hr.mono (by first | decide | omega)) (by rfl) (da_cons (de_ix (dv 5) de_int) da_nil))))) da_nil))))
(dss_cons (ds_set (i := 8) sc_l_put_items.nd rfl (.inl rfl) de_int)
(dss_cons (ds_for PassesOwn.never rfl (di_seq (de_ix (dv 5) de_int)) (dg_name (i := 9) sc_l_put_items.nd rfl (.inl rfl))
(dss_cons (ds_set (i := 6) sc_l_put_items.nd rfl (.inl rfl) (de_sub (dv 6) (de_ix (dv 9) de_int)))
(dss_cons (ds_set (i := 10) sc_l_put_items.nd rfl (.inl rfl) (de_shr (dv 7) (dv 6)))
(dss_cons (ds_if (dt_notN (de_ix (dv 9) de_int) de_non)
(dss_cons (ds_set (i := 10) sc_l_put_items.nd rfl (.inl rfl) (de_ix (dv 1) (dv 4)))
(dss_one (ds_set (i := 4) sc_l_put_items.nd rfl (.inl rfl) (de_add (dv 4) de_int))))
dss_nil)
(dss_one (ds_set (i := 8) sc_l_put_items.nd rfl (.inl rfl) (de_add (dv 8) (de_shl (de_and (dv 10) (de_sub (de_shl de_int (de_ix (dv 9) de_int)) de_int)) (dv 6)))))))))
(dss_one (ds_expr (de_extend (dv 2) (de_call c_l_bytes (hr.mono (by first | decide | omega)) (by rfl) (da_cons (de_ix (dv 5) de_int) (da_cons (dv 8) da_nil))))))))))
(dss_one (ds_if (dt_eq (de_ix (dv 5) de_int) de_str)
(dss_one (ds_expr (de_extend (dv 2) (de_ct rListOf call_list_of sc_list (by rfl) B.list bt_list (da_cons (de_ix (dv 5) de_int) da_nil)))))
(dss_one (ds_if (dt_eq (de_ix (dv 5) de_int) de_str)
(dss_one (ds_expr (de_extend (dv 2) (de_sl (dv 3) (dp_some (de_cb rLen' call_len_seq sc_len (by rfl) B.len bt_len (da_cons (dv 2) da_nil))) (dp_some (de_add (de_cb rLen' call_len_seq sc_len (by rfl) B.len bt_len (da_cons (dv 2) da_nil)) (de_ix (dv 5) de_int)))))))
(dss_one (ds_if (dt_eq (de_ix (dv 5) de_int) de_str)
(dss_one (ds_expr (de_append (dv 2) (de_call c_l_check (hr.mono (by first | decide | omega)) (by rfl) (da_cons (de_ix (dv 5) de_int) (da_cons (dv 2) da_nil))))))
(dss_cons (ds_expr (de_call c_l_put_inside (hr.mono (by first | decide | omega)) (by rfl) (da_cons (dv 5) (da_cons (de_ix (dv 1) (dv 4)) (da_cons (dv 2) (da_cons (dv 3) da_nil))))))
(dss_one (ds_set (i := 4) sc_l_put_items.nd rfl (.inl rfl) (de_add (dv 4) de_int))))))))))))))),
    fun ds m Q hl hs => ?_⟩)
  -- slots: 0 _law_items 1 _law_row 2 _law_out 3 _law_like 4 _law_at 5 _law_item 6 _law_low 7 _law_spare 8 _law_code 9 _law_part_here 10 _law_bits
  obtain ⟨p, its, r, o, rfl, ⟨hw1, hw2⟩, hr, hp, hlo, q⟩ := hs
  refine loop_map (f := encI k) (fun pp g' m' => ∃ y1 y2 y3 y4 y5 y6 : Option D, g' = [some (encL k its), some (.tup r), some (.adr p), some likeD, some (.int ((kinds pp).length : Nat)), y1, y2, y3, y4, y5, y6] ∧ m' = mset m p ((putL k pp r o).map D.int)) ⟨none, none, none, none, none, none, rfl, (mset_id hp).symm⟩ (fun _ _ _ _ => trivial) (fun pre x post g' m' hd hI => ?_) (fun g' m' hI => ?_)
  · obtain ⟨y1, y2, y3, y4, y5, y6, rfl, rfl⟩ := hI
    have hm : x ∈ its := by
      rw [hd]
      exact List.mem_append_right _ List.mem_cons_self
    have hx := hw2 x hm
    have hrow : rowIn (valOf k) (kinds (pre ++ x :: post)) r := by
      rw [← hd]
      exact hr.2
    have hrx := row_mid hrow
    have hrp : rowIn (valOf k) (kinds pre) r := by
      rw [kinds_app] at hrow
      exact ((rowIn_app _ _ _).mp hrow).1
    have hpl := putL_len (o := o) hrp
    have hmx : mxL k its = mxL k pre + (mxI k x + mxL k post) := by
      rw [hd]
      show ((pre ++ x :: post).map (mxI k)).sum = _
      rw [List.map_append, List.sum_append, List.map_cons, List.sum_cons]
    have hkl : (kinds (pre ++ [x])).length = (kinds pre).length + (kindsI x).length := by
      rw [kinds_app, List.length_append]
      show _ + (kindsI x ++ []).length = _
      rw [List.append_nil]
    have hrl : (kinds pre).length + (kindsI x).length ≤ r.length := by
      rw [hr.1, hd, kinds_app, kinds_cons, List.length_append, List.length_append]
      omega
    have fin : ∀ z1 z2 z3 z4 z5 z6 : Option D, ∀ (a : Nat) (m4 : Mu), a = (kinds pre).length + (kindsI x).length → m4 = mset m p ((putI k x (r.drop (kinds pre).length) (putL k pre r o)).map D.int) → ∃ y1 y2 y3 y4 y5 y6 : Option D, [some (encL k its), some (.tup r), some (.adr p), some likeD, some (.int (a : Nat)), z1, z2, z3, z4, z5, z6] = [some (encL k its), some (.tup r), some (.adr p), some likeD, some (.int ((kinds (pre ++ [x])).length : Nat)), y1, y2, y3, y4, y5, y6] ∧ m4 = mset m p ((putL k (pre ++ [x]) r o).map D.int) := fun z1 z2 z3 z4 z5 z6 a m4 ha hm4 => ⟨z1, z2, z3, z4, z5, z6, by rw [ha, hkl], by rw [hm4, putL_snoc]⟩
    generalize ho' : putL k pre r o = o' at fin hpl
    cases x with
    | word wd ps =>
      have hz := wd_le wd
      obtain ⟨hsum, hwf⟩ := wf_word hx
      have hps := ps_le hx
      have hmw : mxI k (.word wd ps) = wd.size := by cases k <;> rfl
      have hct := cut_rep (a := (o'.map D.int).length) (b := wd.size) (by rw [List.length_map]; omega)
      rw [encI_word]
      walk_at "dr"
      refine ifT rfl ⟨wd, rfl, .inl ⟨by decide, by decide⟩, _, mset_same, _, mset_same, wd, rfl, wd, wd.size, congrArg (fun z => [D.str wd.name, D.lst z]) hct, by omega, ?_⟩
      have hrx' : rowIn (valOf k) (pK ps) (r.drop (kinds pre).length) := hrx
      have hkw : (kindsI (.word wd ps)).length = (pK ps).length := rfl
      refine loop_map (f := Part.enc) (fun pp g' m' => ∃ (y9 y10 : Option D) (cd : Nat), g' = [some (encL k its), some (.tup r), some (.adr p), some likeD, some (.int (((kinds pre).length + (pK pp).length : Nat) : Int)), some (.tup [.str "word", .str wd.name, .tup (ps.map Part.enc)]), some (.int ((8 * wd.size - (pp.map Part.width).sum : Nat) : Int)), some (.int 0), some (.int (cd : Nat)), y9, y10] ∧ m' = mset m p (o'.map D.int) ∧
        ∀ qq, ps = pp ++ qq → cd + wcode qq (8 * wd.size - (pp.map Part.width).sum) ((r.drop (kinds pre).length).drop (pK pp).length) = wcode ps (8 * wd.size) (r.drop (kinds pre).length)) ⟨y5, y6, 0, rfl, rfl, fun qq e => ?_⟩ (fun _ _ _ _ => trivial) (fun pr z po g' m' hd2 hI => ?_) (fun g' m' hI => ?_)
      · rw [← show ps = qq from e]
        exact Nat.zero_add _
      · obtain ⟨y9, y10, cd, rfl, rfl, hI⟩ := hI
        have hI' := hI (z :: po) hd2
        have hsp : (pr.map Part.width).sum + z.width + (po.map Part.width).sum = 8 * wd.size := by
          rw [← hsum, hd2, widths_app, List.map_cons, List.sum_cons]
          omega
        have hzm : z ∈ ps := by
          rw [hd2]
          exact List.mem_append_right _ List.mem_cons_self
        have hz32 := (hwf z hzm).2
        generalize hlw : 8 * wd.size - (pr.map Part.width).sum = low at hI'
        have hlow : z.width ≤ low ∧ low ≤ 32 := by omega
        have elow : ((low : Nat) : Int) - (z.width : Nat) = ((low - z.width : Nat) : Int) := by omega
        have hw2 : ((pr ++ [z]).map Part.width).sum = (pr.map Part.width).sum + z.width := by
          rw [widths_app]
          rfl
        have elow2 : 8 * wd.size - ((pr ++ [z]).map Part.width).sum = low - z.width := by
          rw [hw2]
          omega
        rw [elow2, pK_snoc, List.length_append]
        have eqq : ∀ qq, ps = pr ++ [z] ++ qq → qq = po := fun qq e => by
          rw [hd2, List.append_assoc] at e
          exact (List.cons.inj (List.append_cancel_left e)).2.symm
        cases hn : z.name with
        | none =>
          have ez : z.enc = .tup [.non, .int z.width, .bl z.signed, z.rg, z.df] := by
            unfold Part.enc
            rw [hn]
            rfl
          rw [ez]
          walk_at "dr"
          rw [elow]
          refine ⟨Int.natCast_nonneg _, ifF rfl ⟨cpow1 (by omega), cpow_f _ hz32 (by omega), ?_⟩⟩
          rw [field_v, Int.zero_ediv, show modW 0 z.width = 0 by unfold modW; rw [Int.zero_emod] <;> rfl, Nat.zero_mul]
          refine ⟨some (.tup [.non, .int z.width, .bl z.signed, z.rg, z.df]), some (.int 0), cd, ?_, fun qq e => ?_⟩
          · rw [pK_none hn]
            rfl
          · rw [eqq qq e, pK_none hn]
            rw [wcode_none hn] at hI'
            exact hI'
        | some s =>
          have ez : z.enc = .tup [.str s, .int z.width, .bl z.signed, z.rg, z.df] := by
            unfold Part.enc
            rw [hn]
            rfl
          have hk : (pK ps)[(pK pr).length]? = some (.num s z) := by
            rw [hd2, show pK (pr ++ z :: po) = pK pr ++ pK (z :: po) from List.filterMap_append, pK_some hn, List.getElem?_append_right (Nat.le_refl _), Nat.sub_self]
            rfl
          have hkl2 : (pK pr).length < (pK ps).length := (List.getElem?_eq_some_iff.mp hk).1
          obtain ⟨iv, hiv, _⟩ : ∃ i, ((r.drop (kinds pre).length)[(pK pr).length]?.getD .non) = .int i ∧ inF z.signed z.width i := by
            have := rowIn_get hrx' hk
            cases k <;> exact this
          have hlt : (pK pr).length < (r.drop (kinds pre).length).length := by
            rw [List.length_drop]
            omega
          rw [List.getElem?_eq_getElem hlt] at hiv
          have hiv' : (r.drop (kinds pre).length)[(pK pr).length] = .int iv := hiv
          have hat : atI r (((kinds pre).length + (pK pr).length : Nat) : Int) = some (.int iv) := by
            rw [atI_c, ← List.getElem?_drop, List.getElem?_eq_getElem hlt, hiv']
          have hdr : (r.drop (kinds pre).length).drop (pK pr).length = .int iv :: (r.drop (kinds pre).length).drop ((pK pr).length + 1) := by
            rw [List.drop_eq_getElem_cons hlt, hiv']
          rw [ez]
          walk_at "dr"
          rw [elow, hat]
          refine ⟨Int.natCast_nonneg _, cpow1 (by omega), cpow_f _ hz32 (by omega), ?_⟩
          dsimp only
          rw [field_v]
          refine ⟨some (.tup [.str s, .int z.width, .bl z.signed, z.rg, z.df]), some (.int iv), cd + modW iv z.width * 2 ^ (low - z.width), ?_, rfl, fun qq e => ?_⟩
          · rw [pK_some hn]
            rfl
          · rw [eqq qq e, pK_some hn]
            rw [hdr] at hI'
            have ew : wcode (z :: po) low (.int iv :: (r.drop (kinds pre).length).drop ((pK pr).length + 1)) = modW iv z.width * 2 ^ (low - z.width) + wcode po (low - z.width) ((r.drop (kinds pre).length).drop ((pK pr).length + 1)) := by
              show (match z.name with | none => _ | some _ => _) = _
              rw [hn]
              rfl
            rw [ew] at hI'
            show cd + modW iv z.width * 2 ^ (low - z.width) + wcode po (low - z.width) ((r.drop (kinds pre).length).drop ((pK pr).length + 1)) = _
            omega
      · obtain ⟨y9, y10, cd, rfl, rfl, hI⟩ := hI
        have hI' := hI [] (List.append_nil ps).symm
        have hcd : cd = wcode ps (8 * wd.size) (r.drop (kinds pre).length) := hI'
        have hclt := wcode_lt ps (8 * wd.size) (r.drop (kinds pre).length) hsum
        refine ⟨⟨_, mset_same⟩, rfl, wd, cd, rfl, _, _, mset_same, rfl, sz ?_, ?_⟩
        · rw [List.length_map, List.length_map, wbytes_len]
          omega
        · rw [mset_mset, ← List.map_append, hcd, modW_nat hclt]
          exact fin _ _ _ _ _ _ _ _ rfl (by cases k <;> rfl)
    | lit data =>
      have hdl : data.length ≤ 100 := by cases k <;> exact hx.1
      rw [encI_lit]
      walk_at "dr"
      refine ifF ne_ (ifT rfl ⟨⟨_, mset_same⟩, _, _, mset_same, rfl, sz ?_, ?_⟩)
      · rw [List.length_map, List.length_map]
        omega
      · rw [mset_mset, ← List.map_append]
        exact fin _ _ _ _ _ _ _ _ rfl (by cases k <;> rfl)
    | res j =>
      rw [encI_res]
      walk_at "dr"
      have hmj : mxI k (.res j) = j := by cases k <;> rfl
      refine ifF ne_ (ifF ne_ (ifT rfl ⟨⟨_, mset_same⟩, _, mset_same, _, mset_same, _, _, mset_same, rfl, ?_, ?_⟩))
      · rw [cut_rep (by rw [List.length_map]; omega), List.length_map, List.length_replicate]
        exact sz (by omega)
      · rw [cut_rep (by rw [List.length_map]; omega), mset_mset, ← List.map_replicate (f := D.int) (a := 0), ← List.map_append]
        exact fin _ _ _ _ _ _ _ _ rfl (by cases k <;> rfl)
    | chk b =>
      rw [encI_chk]
      walk_at "dr"
      refine ifF ne_ (ifF ne_ (ifF ne_ (ifT rfl ⟨⟨_, mset_same⟩, b, p, o', rfl, mset_same, _, mset_same, szl ?_, ?_⟩)))
      · rw [List.length_map]
        omega
      · rw [mset_mset]
        have e1 : o'.map D.int ++ [D.int (chkB b o')] = (o' ++ [chkB b o']).map D.int := by rw [List.map_append] <;> rfl
        rw [e1]
        exact fin _ _ _ _ _ _ _ _ rfl (by cases k <;> rfl)
    | arr a wd sg cn rg df =>
      cases k with
      | zero => exact (hrx.1).elim
      | succ n =>
      have hl1 : (kinds pre).length < r.length := Nat.lt_of_lt_of_le (Nat.lt_succ_self _) hrl
      have hat : atI r ((kinds pre).length : Nat) = some ((r.drop (kinds pre).length).headD .non) := by
        rw [atI_c, List.getElem?_eq_getElem hl1, List.drop_eq_getElem_cons hl1]
        rfl
      rw [encI_arr]
      walk_at "dr"
      refine ifF ne_ (ifF ne_ (ifF ne_ (ifF ne_ ?_)))
      rw [hat]
      refine ⟨p, .arr a wd sg cn rg df, _, o', by rw [encI_arr], hx, rfl, hrx.1, mset_same, by omega, fun row hrow => ?_⟩
      rw [mset_mset]
      refine fin _ _ _ _ _ _ ((kinds pre).length + 1) _ rfl ?_
      exact congrArg (fun z => mset m p (z.map D.int)) (putI_head (it := .arr a wd sg cn rg df) trivial hrow)
    | list a cn its2 =>
      cases k with
      | zero => exact (hrx.1).elim
      | succ n =>
      have hl1 : (kinds pre).length < r.length := Nat.lt_of_lt_of_le (Nat.lt_succ_self _) hrl
      have hat : atI r ((kinds pre).length : Nat) = some ((r.drop (kinds pre).length).headD .non) := by
        rw [atI_c, List.getElem?_eq_getElem hl1, List.drop_eq_getElem_cons hl1]
        rfl
      rw [encI_list]
      walk_at "dr"
      refine ifF ne_ (ifF ne_ (ifF ne_ (ifF ne_ ?_)))
      rw [hat]
      refine ⟨p, .list a cn its2, _, o', by rw [encI_list], hx, rfl, hrx.1, mset_same, by omega, fun row hrow => ?_⟩
      rw [mset_mset]
      refine fin _ _ _ _ _ _ ((kinds pre).length + 1) _ rfl ?_
      exact congrArg (fun z => mset m p (z.map D.int)) (putI_head (it := .list a cn its2) trivial hrow)
    | rcd a its2 =>
      cases k with
      | zero => exact (hrx.1).elim
      | succ n =>
      have hl1 : (kinds pre).length < r.length := Nat.lt_of_lt_of_le (Nat.lt_succ_self _) hrl
      have hat : atI r ((kinds pre).length : Nat) = some ((r.drop (kinds pre).length).headD .non) := by
        rw [atI_c, List.getElem?_eq_getElem hl1, List.drop_eq_getElem_cons hl1]
        rfl
      rw [encI_rcd]
      walk_at "dr"
      refine ifF ne_ (ifF ne_ (ifF ne_ (ifF ne_ ?_)))
      rw [hat]
      refine ⟨p, .rcd a its2, _, o', by rw [encI_rcd], hx, rfl, hrx.1, mset_same, by omega, fun row hrow => ?_⟩
      rw [mset_mset]
      refine fin _ _ _ _ _ _ ((kinds pre).length + 1) _ rfl ?_
      exact congrArg (fun z => mset m p (z.map D.int)) (putI_head (it := .rcd a its2) trivial hrow)
    | choice a wd cs =>
      cases k with
      | zero => exact (hrx.1).elim
      | succ n =>
      have hl1 : (kinds pre).length < r.length := Nat.lt_of_lt_of_le (Nat.lt_succ_self _) hrl
      have hat : atI r ((kinds pre).length : Nat) = some ((r.drop (kinds pre).length).headD .non) := by
        rw [atI_c, List.getElem?_eq_getElem hl1, List.drop_eq_getElem_cons hl1]
        rfl
      rw [encI_choice]
      walk_at "dr"
      refine ifF ne_ (ifF ne_ (ifF ne_ (ifF ne_ ?_)))
      rw [hat]
      refine ⟨p, .choice a wd cs, _, o', by rw [encI_choice], hx, rfl, hrx.1, mset_same, by omega, fun row hrow => ?_⟩
      rw [mset_mset]
      refine fin _ _ _ _ _ _ ((kinds pre).length + 1) _ rfl ?_
      exact congrArg (fun z => mset m p (z.map D.int)) (putI_head (it := .choice a wd cs) trivial hrow)
  · obtain ⟨y1, y2, y3, y4, y5, y6, rfl, rfl⟩ := hI
    exact q
theorem sc_l_put_inside : FnScope ["_law_item", "_law_thing", "_law_out", "_law_like", "_law_case", "_law_other", "_law_count", "_law_part_here"] ["_law_item", "_law_thing", "_law_out", "_law_like"] (defScope s_l_put_inside) := ⟨rfl, rfl, rfl, by decide +kernel, rfl, by decide +kernel, by decide +kernel⟩
theorem cal_l_put_inside (k : Nat) (D0 : Def K mg "_law_put_inside" s_l_put_inside) (B : Blt mg) (c_l_put_items : Cal P w K mg base "_law_put_items" (10*k) ["_law_items", "_law_row", "_law_out", "_law_like"] (up K 4 (at2 sp_putN k))) (c_l_bytes : Cal P w K mg base "_law_bytes" (2) ["_law_word", "_law_code"] (up K 2 sp_l_bytes))  : Cal P w K mg base "_law_put_inside" (10*k+5 + 1) ["_law_item", "_law_thing", "_law_out", "_law_like"] (up K 4 (at2 sp_insN k)) := by
  refine D0.cal (N := ["_law_item", "_law_thing", "_law_out", "_law_like", "_law_case", "_law_other", "_law_count", "_law_part_here"]) (k := 10*k+5) sc_l_put_inside [none, none, none, none] rfl (fun _ _ _ _ _ _ us hl => match us, hl with | [_, _, _, _], _ => rfl) (fun f cdv A outer s H E hr => ⟨_, _,
(dss_one (ds_if (dt_eq (de_ix (dv 0) de_int) de_str)
(dss_one (ds_expr (de_call c_l_put_items (hr.mono (by first | decide | omega)) (by rfl) (da_cons (de_ix (dv 0) de_int) (da_cons (dv 1) (da_cons (dv 2) (da_cons (dv 3) da_nil)))))))
(dss_one (ds_if (dt_eq (de_ix (dv 0) de_int) de_str)
(dss_cons (ds_set (i := 4) sc_l_put_inside.nd rfl (.inl rfl) (de_ix (de_lc (own := [("_law_other", 5)]) rfl sc_l_put_inside.nd (di_seq (de_ix (dv 0) de_int)) (blkOk_by (N := ["_law_item", "_law_thing", "_law_out", "_law_like", "_law_case", "_law_other", "_law_count", "_law_part_here"]) (sc := defScope s_l_put_inside) (own := [("_law_other", 5)]) (by decide +kernel)) (fun _ _ _ _ _ => (dg_name (i := 5) sc_l_put_inside.nd rfl (.inl rfl))) (keepN 5) (fun _ _ _ _ _ => (dts_one (dt_eq (de_ix (dv 5) de_int) (de_ix (dv 1) de_int)))) (fun _ _ _ _ _ => (dv 5)) (by intro _; rfl) s H) de_int))
(dss_cons (ds_expr (de_extend (dv 2) (de_call c_l_bytes (hr.mono (by first | decide | omega)) (by rfl) (da_cons (de_ix (dv 0) de_int) (da_cons (de_ix (dv 4) de_int) da_nil)))))
(dss_one (ds_expr (de_call c_l_put_items (hr.mono (by first | decide | omega)) (by rfl) (da_cons (de_ix (dv 4) de_int) (da_cons (de_ix (dv 1) de_int) (da_cons (dv 2) (da_cons (dv 3) da_nil)))))))))
(dss_cons (ds_set (i := 6) sc_l_put_inside.nd rfl (.inl rfl) (de_if (dt_eq (de_ix (dv 0) de_int) de_str) (de_ix (dv 0) de_int) (de_ix (dv 0) de_int)))
(dss_cons (ds_if (dt_eq (de_ix (dv 6) de_int) de_str)
(dss_one (ds_expr (de_extend (dv 2) (de_call c_l_bytes (hr.mono (by first | decide | omega)) (by rfl) (da_cons (de_ix (dv 6) de_int) (da_cons (de_cb rLen' call_len_seq sc_len (by rfl) B.len bt_len (da_cons (dv 1) da_nil)) da_nil))))))
dss_nil)
(dss_cons (ds_for PassesOwn.never rfl (di_seq (dv 1)) (dg_name (i := 7) sc_l_put_inside.nd rfl (.inl rfl))
(dss_cons (ds_if (dt_eq (de_ix (dv 6) de_int) de_str)
(dss_one (ds_expr (de_append (dv 2) de_int)))
dss_nil)
(dss_one (ds_if (dt_eq (de_ix (dv 0) de_int) de_str)
(dss_one (ds_expr (de_extend (dv 2) (de_call c_l_bytes (hr.mono (by first | decide | omega)) (by rfl) (da_cons (de_ix (dv 0) de_int) (da_cons (dv 7) da_nil))))))
(dss_one (ds_expr (de_call c_l_put_items (hr.mono (by first | decide | omega)) (by rfl) (da_cons (de_ix (dv 0) de_int) (da_cons (dv 7) (da_cons (dv 2) (da_cons (dv 3) da_nil)))))))))))
(dss_one (ds_if (dt_eq (de_ix (dv 6) de_int) de_str)
(dss_one (ds_expr (de_append (dv 2) de_int)))
dss_nil))))))))),
    fun ds m Q hl hs => ?_⟩)
  -- slots: 0 _law_item 1 _law_thing 2 _law_out 3 _law_like 4 _law_case 5 _law_other 6 _law_count 7 _law_part_here
  cases k with
  | zero => exact hs.elim
  | succ n =>
  obtain ⟨p, it, d, o, rfl, hw, hk, hv, hp, hlo, q⟩ := hs
  cases it with
  | word wd ps => exact hv.elim
  | lit _ => exact hv.elim
  | res _ => exact hv.elim
  | chk _ => exact hv.elim
  | rcd a its =>
    obtain ⟨r, rfl, hr⟩ := hv
    rw [encI_rcd]
    walk_at "dr"
    exact ifT rfl ⟨p, its, r, o, rfl, hw, hr, hp, hlo, q [.tup r] rfl⟩
  | choice a wd cs =>
    obtain ⟨hnd, c0, hc0, r, rfl, hr⟩ := hv
    obtain ⟨hw1, hw2, hw3, hw4⟩ : cs.length ≤ 100 ∧ (cs.map fun c : Cs => c.1).Nodup ∧ (cs.map fun c : Cs => c.2.1).Nodup ∧ ∀ c ∈ cs, (0 ≤ c.1 ∧ c.1 < 2 ^ (8 * wd.size)) ∧ wfL n c.2.2 := hw
    rw [encI_choice]
    walk_at "dr"
    refine ifF ne_ (ifT rfl (lc_filter (f := encC n) (xs := cs) (fun c : Cs => decide (c.2.1 = c0.2.1)) (encC n) (by omega) (fun c hc' m1 R R' hm hT hF => ?_) ?_))
    · unfold encC encC'
      walk_at "dr"
      exact ifD (fun h2 => hT (decide_eq_true h2)) (fun h2 => hF (decide_eq_false h2))
    · rw [filter_one hw3 hc0]
      have hmx : mxI (n + 1) (.choice a wd cs) = wd.size + (cs.map fun c => mxL n c.2.2).sum := rfl
      have hsm : mxL n c0.2.2 ≤ (cs.map fun c => mxL n c.2.2).sum := sum_mem_le (f := fun c : Cs => mxL n c.2.2) hc0
      refine ⟨⟨_, hp⟩, wd, c0.1, rfl, _, _, hp, rfl, sz ?_, ?_⟩
      · rw [List.length_map, List.length_map, wbytes_len]
        omega
      · rw [← List.map_append]
        refine ⟨p, c0.2.2, r, _, rfl, (hw4 c0 hc0).2, hr, mset_same, ?_, ?_⟩
        · rw [List.length_append, wbytes_len]
          omega
        · rw [mset_mset]
          have z := q [.tup [.str c0.2.1, .tup r]] rfl
          rw [putI_choice hw3 hc0 (r := [.tup [.str c0.2.1, .tup r]]) rfl] at z
          exact z
  | arr a wd sg cn rg df =>
    have hv0 := hv
    obtain ⟨vs, rfl, hvl, hvs⟩ := hv
    have hvl2 := len_le hvl
    have key := ins_rest (it := .arr a wd sg cn rg df) (p := p) (m := m) (o := o) (E := ⟨fun _ m' => Q .non m', Q⟩) trivial hw hv0 hlo (fun _ => q [.tup vs] rfl)
    rw [encI_arr] at key ⊢
    cases cn with
    | exactly kk =>
      have key' : insRest n _ _ (mset m p ((o ++ []).map D.int)) := key
      rw [List.append_nil, mset_id hp] at key'
      unfold cntOf Cnt.enc at key'
      unfold Cnt.enc
      walk_at "dr"
      refine ifF ne_ (ifF ne_ (ifT rfl (ifF ne_ ?_)))
      exact key'
    | counted wd2 lo hi =>
      have hv256 : vs.length < 2 ^ (8 * wd2.size) := by
        have h1 : vs.length ≤ hi ∧ hi < 256 := hvl.2
        have h2 : 2 ^ 8 ≤ 2 ^ (8 * wd2.size) := Nat.pow_le_pow_right (by decide) (wd_bits wd2)
        omega
      have key' : insRest n _ _ (mset m p ((o ++ wbytes wd2 vs.length).map D.int)) := key
      unfold cntOf Cnt.enc at key'
      unfold Cnt.enc
      walk_at "dr"
      have h4 := wd_le wd2
      refine ifF ne_ (ifF ne_ (ifT rfl (ifT rfl ⟨⟨_, hp⟩, wd2, _, rfl, _, _, hp, rfl, sz ?_, ?_⟩)))
      · rw [List.length_map, List.length_map, wbytes_len]
        omega
      · rw [← List.map_append, modW_nat hv256]
        exact key'
    | marked kk =>
      have key' : insRest n _ _ (mset m p ((o ++ []).map D.int)) := key
      rw [List.append_nil, mset_id hp] at key'
      unfold cntOf Cnt.enc at key'
      unfold Cnt.enc
      walk_at "dr"
      refine ifF ne_ (ifF ne_ (ifT rfl (ifF ne_ ?_)))
      exact key'
  | list a cn its =>
    have hv0 := hv
    obtain ⟨vs, rfl, hvl, hvs⟩ := hv
    have hvl2 := len_le hvl
    have key := ins_rest (it := .list a cn its) (p := p) (m := m) (o := o) (E := ⟨fun _ m' => Q .non m', Q⟩) trivial hw hv0 hlo (fun _ => q [.tup vs] rfl)
    rw [encI_list] at key ⊢
    cases cn with
    | exactly kk =>
      have key' : insRest n _ _ (mset m p ((o ++ []).map D.int)) := key
      rw [List.append_nil, mset_id hp] at key'
      unfold cntOf Cnt.enc at key'
      unfold Cnt.enc
      walk_at "dr"
      refine ifF ne_ (ifF ne_ (ifF ne_ (ifF ne_ ?_)))
      exact key'
    | counted wd2 lo hi =>
      have hv256 : vs.length < 2 ^ (8 * wd2.size) := by
        have h1 : vs.length ≤ hi ∧ hi < 256 := hvl.2
        have h2 : 2 ^ 8 ≤ 2 ^ (8 * wd2.size) := Nat.pow_le_pow_right (by decide) (wd_bits wd2)
        omega
      have key' : insRest n _ _ (mset m p ((o ++ wbytes wd2 vs.length).map D.int)) := key
      unfold cntOf Cnt.enc at key'
      unfold Cnt.enc
      walk_at "dr"
      have h4 := wd_le wd2
      refine ifF ne_ (ifF ne_ (ifF ne_ (ifT rfl ⟨⟨_, hp⟩, wd2, _, rfl, _, _, hp, rfl, sz ?_, ?_⟩)))
      · rw [List.length_map, List.length_map, wbytes_len]
        omega
      · rw [← List.map_append, modW_nat hv256]
        exact key'
    | marked kk =>
      have key' : insRest n _ _ (mset m p ((o ++ []).map D.int)) := key
      rw [List.append_nil, mset_id hp] at key'
      unfold cntOf Cnt.enc at key'
      unfold Cnt.enc
      walk_at "dr"
      refine ifF ne_ (ifF ne_ (ifF ne_ (ifF ne_ ?_)))
      exact key'
theorem sc_l_bytes_of : FnScope ["_law_items", "_law_row", "_law_like", "_law_out", "_law_k"] ["_law_items", "_law_row", "_law_like"] (defScope s_l_bytes_of) := ⟨rfl, rfl, rfl, by decide +kernel, rfl, by decide +kernel, by decide +kernel⟩
theorem cal_l_bytes_of (k : Nat) (D0 : Def K mg "_law_bytes_of" s_l_bytes_of) (B : Blt mg) (c_l_put_items : Cal P w K mg base "_law_put_items" (10*k+10) ["_law_items", "_law_row", "_law_out", "_law_like"] (up K 4 (sp_putN k)))  : Cal P w K mg base "_law_bytes_of" (10*k+10 + 1) ["_law_items", "_law_row", "_law_like"] (up K 3 (sp_bytesofN k)) := by
  refine D0.cal (N := ["_law_items", "_law_row", "_law_like", "_law_out", "_law_k"]) (k := 10*k+10) sc_l_bytes_of [none, none] rfl (fun _ _ _ _ _ _ us hl => match us, hl with | [_, _, _], _ => rfl) (fun f cdv A outer s H E hr => ⟨_, _,
(dss_cons (ds_set (i := 3) sc_l_bytes_of.nd rfl (.inl rfl) (de_new da_nil))
(dss_cons (ds_expr (de_call c_l_put_items (hr.mono (by first | decide | omega)) (by rfl) (da_cons (dv 0) (da_cons (dv 1) (da_cons (dv 3) (da_cons (de_add (dv 2) (de_lc (own := [("_law_k", 4)]) rfl sc_l_bytes_of.nd (di_rg1 (by rfl) B.range de_int) (blkOk_by (N := ["_law_items", "_law_row", "_law_like", "_law_out", "_law_k"]) (sc := defScope s_l_bytes_of) (own := [("_law_k", 4)]) (by decide +kernel)) (fun _ _ _ _ _ => (dg_name (i := 4) sc_l_bytes_of.nd rfl (.inl rfl))) (keepN 4) (fun _ _ _ _ _ => dts_nil) (fun _ _ _ _ _ => de_int) (by intro _; rfl) s H)) da_nil))))))
(dss_one (ds_retF (dv 3))))),
    fun ds m Q hl hs => ?_⟩)
  -- slots: 0 _law_items 1 _law_row 2 _law_like 3 _law_out 4 _law_k
  obtain ⟨its, r, rfl, hw, hr, hlo, q⟩ := hs
  refine ⟨Nat.zero_le _, fun p hp => ?_⟩
  walk_at "dr"
  refine ⟨by decide, by decide, lc_pure (f := D.int) (fun _ => D.int 0) (by rw [rgI_len]; decide) (fun x hx m1 R hm hR => hR) ?_⟩
  have e1 : (rgI 0 400).map (fun _ => D.int 0) = List.replicate 400 (D.int 0) := by
    rw [List.map_const', rgI_len]
    rfl
  rw [e1]
  refine ⟨szr rfl, p, its, r, [], rfl, hw, hr, mset_same, ?_, ?_⟩
  · show 0 + mxL k its ≤ 400
    omega
  · rw [mset_mset]
    refine ⟨_, mset_same, ?_⟩
    rw [mdel_mset hp]
    exact q
end
end BB

namespace BB
open PySem PySem.Spec PyProof.Rows L2
local macro_rules | `(tactic| walk_at "dl") => `(tactic| simp only [dIfS, dIfE, dTest, dOp, dVar, dC, dIx, dEq, dNe, dI, dIc, dIsN, dNotN, isNonD, dAndT, dOrT, dNotT, dAndV, dNeg, dAdd, dTup, dLst, dCons, dNil, dCB, dCall, dLc, true_and, dLen, dInt1, dInt2, withSeq, with1_1, onSome_some, atI_0, atI_1, atI_2, atI_3, atI_4, atI_5, atI_6, List.getElem?_cons_succ, List.getElem?_cons_zero, List.set_cons_zero, List.set_cons_succ, gdN, Part.enc, encN, Bool.not_true, Bool.not_false, mapS_cons, mapS_nil, List.length_cons, List.length_nil, List.cons_append, List.nil_append, gdTup, gdCons, gdNil, dAppend, dExtend, dListF, dTupOf, dMul, dSl, dNoP, dPart])
local macro_rules | `(tactic| walk_at "dr") => `(tactic| simp only [dSeq, dAsg, dRet, dRetW, dDrop, dNext, dFor, diSeq, dIfS, dIfE, dTest, dOp, dVar, dC, dIx, dEq, dNe, dI, dIc, dIsN, dNotN, isNonD, dAndT, dOrT, dNotT, dAndV, dNeg, dAdd, dTup, dLst, dCons, dNil, dCB, dCall, dLc, true_and, dLen, dInt1, dInt2, withSeq, with1_1, onSome_some, atI_0, atI_1, atI_2, atI_3, atI_4, atI_5, atI_6, List.getElem?_cons_succ, List.getElem?_cons_zero, List.set_cons_zero, List.set_cons_succ, gdN, Part.enc, encN, Bool.not_true, Bool.not_false, mapS_cons, mapS_nil, List.length_cons, List.length_nil, List.cons_append, List.nil_append, gdTup, gdCons, gdNil, dAppend, dExtend, dListF, dTupOf, dMul, dSl, dNoP, dPart])

theorem add_bits {a c w : Nat} (ha : a < 2 ^ w) (hc : c < 2 ^ w) (h : a &&& c = 0) : a + c = a ||| c := by
  have h2 : 2 ^ (w + 1) = 2 ^ w + 2 ^ w := by rw [Nat.pow_succ, Nat.mul_two]
  have e0 : BitVec.ofNat (w + 1) a &&& BitVec.ofNat (w + 1) c = 0#(w + 1) := BitVec.eq_of_toNat_eq (by
    rw [BitVec.toNat_and, BitVec.toNat_ofNat, BitVec.toNat_ofNat, Nat.mod_eq_of_lt (by omega), Nat.mod_eq_of_lt (by omega), h]
    rfl)
  have z := congrArg BitVec.toNat (BitVec.add_eq_or_of_and_eq_zero _ _ e0)
  rw [BitVec.toNat_add, BitVec.toNat_or, BitVec.toNat_ofNat, BitVec.toNat_ofNat, Nat.mod_eq_of_lt (by omega : a < 2 ^ (w + 1)), Nat.mod_eq_of_lt (by omega : c < 2 ^ (w + 1)), Nat.mod_eq_of_lt (by omega)] at z
  exact z
theorem sub_bits {a b w : Nat} (ha : a < 2 ^ w) (hb : b < 2 ^ w) (h : ∀ i, a.testBit i = true → b.testBit i = true) : ((b : Nat) : Int) - ((a : Nat) : Int) = ((b ^^^ a : Nat) : Int) := by
  have e1 : a &&& (b ^^^ a) = 0 := Nat.eq_of_testBit_eq fun i => by
    rw [Nat.testBit_and, Nat.testBit_xor, Nat.zero_testBit]
    cases ha' : a.testBit i with
    | false => rfl
    | true =>
      rw [h i ha']
      rfl
  have e2 : a ||| (b ^^^ a) = b := Nat.eq_of_testBit_eq fun i => by
    rw [Nat.testBit_or, Nat.testBit_xor]
    cases ha' : a.testBit i with
    | false => cases b.testBit i <;> rfl
    | true =>
      rw [h i ha']
      rfl
  have z := add_bits ha (Nat.xor_lt_two_pow hb ha) e1
  rw [e2] at z
  omega
/-- the law's own numbers for a set -/
def sp_l_set : SpD := fun ds m Q => ∃ (w : Nat) (ns : List Int), ds = [.lst (ns.map D.int), .int w] ∧ 1 ≤ w ∧ w ≤ 64 ∧ ns ≠ [] ∧ ns.length ≤ 1000 ∧ (∀ n ∈ ns, -(2 ^ w) ≤ n ∧ n < 2 ^ w) ∧ ∀ e, (∀ is : List Int, (∀ n, n ∈ ns ↔ n ∈ is) → IsSet w is e) → Q e m
theorem ne_of_mem {ns is : List Int} (hne : ns ≠ []) (hm : ∀ n, n ∈ ns ↔ n ∈ is) : is ≠ [] := fun e => by
  obtain ⟨i, hi⟩ := List.exists_mem_of_ne_nil _ hne
  rw [hm i, e] at hi
  cases hi
theorem set_bits {w : Nat} {ns is : List Int} (hne : ns ≠ []) (hm : ∀ n, n ∈ ns ↔ n ∈ is) : ((orL (ns.map fun n => modW n w) : Nat) : Int) - ((andL (ns.map fun n => modW n w) : Nat) : Int) = ((orL (ns.map fun n => modW n w) ^^^ andL (ns.map fun n => modW n w) : Nat) : Int) ∧
    (((2 ^ w - 1 : Nat) : Int) - ((orL (ns.map fun n => modW n w) ^^^ andL (ns.map fun n => modW n w) : Nat) : Int) = ((agrK w (ns.map fun n => modW n w) : Nat) : Int)) ∧ BitsOf w is (agrK w (ns.map fun n => modW n w)) (andL (ns.map fun n => modW n w)) := by
  have hcn : (ns.map fun n => modW n w) ≠ [] := fun q => hne (List.map_eq_nil_iff.mp q)
  have hlt : ∀ c ∈ ns.map (fun n => modW n w), c < 2 ^ w := fun c hc => by
    obtain ⟨n, _, rfl⟩ := List.mem_map.mp hc
    exact modW_lt n w
  obtain ⟨z1, z2, z3, z4⟩ := bits_of_agree hcn hlt
  have hsub : ∀ i, (andL (ns.map fun n => modW n w)).testBit i = true → (orL (ns.map fun n => modW n w)).testBit i = true := fun i hi => by
    obtain ⟨c, hc⟩ := List.exists_mem_of_ne_nil _ hcn
    exact (orL_bit hcn).mpr ⟨c, hc, (andL_bit hcn).mp hi c hc⟩
  have horlt : orL (ns.map fun n => modW n w) < 2 ^ w := Nat.lt_pow_two_of_testBit _ fun i hi => by
    cases e : (orL (ns.map fun n => modW n w)).testBit i with
    | false => rfl
    | true =>
      obtain ⟨c, hc, e2⟩ := (orL_bit hcn).mp e
      rw [Nat.testBit_lt_two_pow (Nat.lt_of_lt_of_le (hlt c hc) (Nat.pow_le_pow_right (by decide) hi))] at e2
      cases e2
  have handlt : andL (ns.map fun n => modW n w) < 2 ^ w := Nat.lt_pow_two_of_testBit _ fun i hi => by
    cases e : (andL (ns.map fun n => modW n w)).testBit i with
    | false => rfl
    | true =>
      have e2 := hsub i e
      rw [Nat.testBit_lt_two_pow (Nat.lt_of_lt_of_le horlt (Nat.pow_le_pow_right (by decide) hi))] at e2
      cases e2
  have hxl := Nat.xor_lt_two_pow horlt handlt
  have hpl : 2 ^ w - 1 < 2 ^ w := by have := Nat.two_pow_pos w; omega
  refine ⟨sub_bits handlt horlt hsub, ?_, z1, fun b hb hk i hi => ?_, fun b hb hk => ?_, z4⟩
  · rw [sub_bits hxl hpl fun i hi => by
      rw [Nat.testBit_two_pow_sub_one]
      exact decide_eq_true (bit_lt hxl hi)]
    unfold agrK
    rw [Nat.xor_assoc, Nat.xor_comm (andL _)]
  · exact z2 b hb hk _ (List.mem_map_of_mem ((hm i).mpr hi))
  · obtain ⟨c1, m1, c2, m2, ne⟩ := z3 b hb hk
    obtain ⟨n1, k1, rfl⟩ := List.mem_map.mp m1
    obtain ⟨n2, k2, rfl⟩ := List.mem_map.mp m2
    exact ⟨n1, (hm n1).mp k1, n2, (hm n2).mp k2, ne⟩
theorem and_full {w : Nat} {cs : List Nat} (hne : cs ≠ []) (hlt : ∀ c ∈ cs, c < 2 ^ w) : cs.foldl (fun x y => x &&& y) (2 ^ w - 1) = andL cs := by
  refine Nat.eq_of_testBit_eq fun b => ?_
  have h1 := and_fold_bit b cs (2 ^ w - 1)
  have h2 := andL_bit (b := b) hne
  have h3 : ((2 ^ w - 1).testBit b = true ∧ ∀ x ∈ cs, x.testBit b = true) ↔ ∀ x ∈ cs, x.testBit b = true := ⟨fun z => z.2, fun z => ⟨by
    obtain ⟨c, hc⟩ := List.exists_mem_of_ne_nil _ hne
    rw [Nat.testBit_two_pow_sub_one]
    exact decide_eq_true (bit_lt (hlt c hc) (z c hc)), z⟩⟩
  rw [h3, ← h2] at h1
  cases ea : (andL cs).testBit b with
  | true => exact h1.mpr ea
  | false =>
    cases eb : (cs.foldl (fun x y => x &&& y) (2 ^ w - 1)).testBit b with
    | false => rfl
    | true =>
      rw [h1.mp eb] at ea
      cases ea
theorem or_zero {cs : List Nat} (hne : cs ≠ []) : cs.foldl (fun x y => x ||| y) 0 = orL cs := by
  refine Nat.eq_of_testBit_eq fun b => ?_
  have h1 := or_fold_bit b cs 0
  have h2 := orL_bit (b := b) hne
  rw [Nat.zero_testBit] at h1
  have h3 : (false = true ∨ ∃ x ∈ cs, x.testBit b = true) ↔ ∃ x ∈ cs, x.testBit b = true := ⟨fun z => z.elim (fun q => nomatch q) id, .inr⟩
  rw [h3, ← h2] at h1
  cases ea : (orL cs).testBit b with
  | true => exact h1.mpr ea
  | false =>
    cases eb : (cs.foldl (fun x y => x ||| y) 0).testBit b with
    | false => rfl
    | true =>
      rw [h1.mp eb] at ea
      cases ea
/-- the longest common beginning -/
def cpre : List Int → List Int → Nat
  | a :: as, b :: bs => if a = b then cpre as bs + 1 else 0
  | _, _ => 0
theorem cpre_le : ∀ as bs : List Int, cpre as bs ≤ as.length
  | [], _ => Nat.zero_le _
  | a :: as, [] => Nat.zero_le _
  | a :: as, b :: bs => by
    unfold cpre
    split
    · exact Nat.succ_le_succ (cpre_le as bs)
    · exact Nat.zero_le _
theorem cpre_at : ∀ {as bs : List Int} {i : Nat} {x y : Int}, (∀ j, j < i → as[j]? = bs[j]?) → as[i]? = some x → bs[i]? = some y → x ≠ y → cpre as bs = i
  | [], _, i, _, _, _, h, _, _ => by simp at h
  | a :: as, [], i, _, _, _, _, h, _ => by simp at h
  | a :: as, b :: bs, 0, x, y, _, h1, h2, h3 => by
    have e1 : a = x := Option.some.inj h1
    have e2 : b = y := Option.some.inj h2
    unfold cpre
    rw [if_neg (by rw [e1, e2]; exact h3)]
  | a :: as, b :: bs, i + 1, x, y, h0, h1, h2, h3 => by
    have e0 : a = b := Option.some.inj (h0 0 (Nat.succ_pos i))
    unfold cpre
    rw [if_pos e0, cpre_at (fun j hj => h0 (j + 1) (Nat.succ_lt_succ hj)) h1 h2 h3]
theorem cpre_full : ∀ {as bs : List Int}, (∀ j, j < min as.length bs.length → as[j]? = bs[j]?) → cpre as bs = min as.length bs.length
  | [], bs, _ => by
    rw [List.length_nil, Nat.zero_min]
    rfl
  | a :: as, [], _ => by
    rw [List.length_nil, Nat.min_zero]
    rfl
  | a :: as, b :: bs, h => by
    have hm : min (a :: as).length (b :: bs).length = min as.length bs.length + 1 := by
      rw [List.length_cons, List.length_cons]
      omega
    have e0 : a = b := Option.some.inj (h 0 (by omega))
    unfold cpre
    rw [if_pos e0, hm, cpre_full fun j hj => h (j + 1) (by omega)]
theorem cut_take {ds : List D} {k : Nat} (h : k ≤ ds.length) : cutD ds none (some ((k : Nat) : Int)) = ds.take k := by
  unfold cutD
  rw [HT.sIx_nat, Nat.min_eq_left h]
  rfl
def sp_l_alike : SpD := fun ds m Q => ∃ as bs : List Int, ds = [.lst (as.map D.int), .lst (bs.map D.int)] ∧ as.length ≤ 1000 ∧ bs.length ≤ 1000 ∧ Q (.int (cpre as bs : Nat)) m
def comL (a : List Int) (ms : List (List Int)) : List Int := ms.foldl (fun c x => c.take (cpre c x)) a
def sp_l_common : SpD := fun ds m Q => ∃ (a : List Int) (ms : List (List Int)), ds = [.lst ((a :: ms).map fun x => .lst (x.map D.int))] ∧ a.length ≤ 1000 ∧ (∀ x ∈ ms, x.length ≤ 1000) ∧ Q (.lst ((comL a (a :: ms)).map D.int)) m
def sp_l_are_bytes : SpD := fun ds m Q => ∃ (p : Addr) (o : List Int) (k : Nat), ds = [.adr p, .int k] ∧ m p = some (o.map D.int) ∧ (∀ b ∈ o, 0 ≤ b ∧ b < 256) ∧ Q (.bl (decide (o.length = k))) m
def sp_l_same_bytes : SpD := fun ds m Q => ∃ (p : Addr) (o o2 : List Int), ds = [.adr p, .lst (o2.map D.int)] ∧ m p = some (o.map D.int) ∧ (∀ b ∈ o, 0 ≤ b ∧ b < 256) ∧ Q (.bl (decide (o = o2))) m
section
variable {P : Program} {w : World} {K : PySem.W.Frag} {mg : Str → Option Value} {base : Heap}
theorem sc_l_set : FnScope ["_law_numbers", "_law_width", "_law_power", "_law_both", "_law_some", "_law_number", "_law_code", "_law_free", "_law_many", "_law_k"] ["_law_numbers", "_law_width"] (defScope s_l_set) := ⟨rfl, rfl, rfl, by decide +kernel, rfl, by decide +kernel, by decide +kernel⟩
theorem cal_l_set  (D0 : Def K mg "_law_set" s_l_set) (B : Blt mg)   : Cal P w K mg base "_law_set" (1) ["_law_numbers", "_law_width"] (up K 2 sp_l_set) := by
  refine D0.cal (N := ["_law_numbers", "_law_width", "_law_power", "_law_both", "_law_some", "_law_number", "_law_code", "_law_free", "_law_many", "_law_k"]) (k := 0) sc_l_set [none, none, none, none, none, none, none, none] rfl (fun _ _ _ _ _ _ us hl => match us, hl with | [_, _], _ => rfl) (fun f cdv A outer s H E hr => ⟨_, _,
(dss_cons (ds_set (i := 2) sc_l_set.nd rfl (.inl rfl) (de_shl de_int (dv 1)))
(dss_cons (ds_set (i := 3) sc_l_set.nd rfl (.inl rfl) (de_sub (dv 2) de_int))
(dss_cons (ds_set (i := 4) sc_l_set.nd rfl (.inl rfl) de_int)
(dss_cons (ds_for PassesOwn.never rfl (di_seq (dv 0)) (dg_name (i := 5) sc_l_set.nd rfl (.inl rfl))
(dss_cons (ds_set (i := 6) sc_l_set.nd rfl (.inl rfl) (de_mod (de_ct rInt' call_int1 sc_int (by rfl) B.int bt_int (da_cons (dv 5) da_nil)) (dv 2)))
(dss_cons (ds_set (i := 3) sc_l_set.nd rfl (.inl rfl) (de_and (dv 3) (dv 6)))
(dss_one (ds_set (i := 4) sc_l_set.nd rfl (.inl rfl) (de_or (dv 4) (dv 6)))))))
(dss_cons (ds_set (i := 7) sc_l_set.nd rfl (.inl rfl) (de_sub (dv 4) (dv 3)))
(dss_cons (ds_set (i := 8) sc_l_set.nd rfl (.inl rfl) de_int)
(dss_cons (ds_for PassesOwn.never rfl (di_rg1 (by rfl) B.range (dv 1)) (dg_name (i := 9) sc_l_set.nd rfl (.inl rfl))
(dss_one (ds_if (dt_eq (de_and (de_shr (dv 7) (dv 9)) de_int) de_int)
(dss_one (ds_set (i := 8) sc_l_set.nd rfl (.inl rfl) (de_mul (dv 8) de_int)))
dss_nil)))
(dss_cons (ds_if (dt_eq (dv 8) (de_cb rLen' call_len_seq sc_len (by rfl) B.len bt_len (da_cons (dv 0) da_nil)))
(dss_one (ds_ret (de_tup (da_cons de_str (da_cons (de_sub (de_sub (dv 2) de_int) (dv 7)) (da_cons (dv 3) da_nil))))))
dss_nil)
(dss_one (ds_ret (de_tup (da_cons de_str (da_cons (de_ct rTupOf call_tuple_of sc_tup (by rfl) B.tuple bt_tuple (da_cons (de_cb rSortedI cr_sortedI sc_sorted (by rfl) B.sorted bt_sorted (da_cons (dv 0) da_nil)) da_nil)) da_nil))))))))))))),
    fun ds m Q hl hs => ?_⟩)
  -- slots: 0 _law_numbers 1 _law_width 2 _law_power 3 _law_both 4 _law_some 5 _law_number 6 _law_code 7 _law_free 8 _law_many 9 _law_k
  obtain ⟨wd, ns, rfl, hw1, hw, hne, hl, hr, q⟩ := hs
  have hcn : (ns.map fun n => modW n wd) ≠ [] := fun q => hne (List.map_eq_nil_iff.mp q)
  have hlt : ∀ c ∈ ns.map (fun n => modW n wd), c < 2 ^ wd := fun c hc => by
    obtain ⟨n, _, rfl⟩ := List.mem_map.mp hc
    exact modW_lt n wd
  refine ⟨cpow1 (by omega), ?_⟩
  walk_at "dr"
  rw [powlit, ones_cast]
  refine loop_map (f := D.int) (fun pp g' m' => ∃ y1 y2 y3 y4 y5 : Option D, g' = [some (.lst (ns.map D.int)), some (.int wd), some (.int (2 ^ wd)), some (.int (((pp.map fun n => modW n wd).foldl (fun x y => x &&& y) (2 ^ wd - 1) : Nat) : Int)), some (.int (((pp.map fun n => modW n wd).foldl (fun x y => x ||| y) 0 : Nat) : Int)), y1, y2, y3, y4, y5] ∧ m' = m) ⟨none, none, none, none, none, rfl, rfl⟩ (fun _ _ _ _ => trivial) (fun pre x post g' m' hd hI => ?_) (fun g' m' hI => ?_)
  · obtain ⟨y1, y2, y3, y4, y5, rfl, rfl⟩ := hI
    walk_at "dr"
    refine ⟨Int.pow_pos (by decide), ?_⟩
    rw [int_mod_cast, PyProof.Rows.bitAnd_pp (Int.natCast_nonneg _) (Int.natCast_nonneg _), Bits.bitOr_pp (Int.natCast_nonneg _) (Int.natCast_nonneg _), List.map_append, List.foldl_append, List.foldl_append]
    exact ⟨_, _, _, _, _, rfl, trivial⟩
  · obtain ⟨y1, y2, y3, y4, y5, rfl, rfl⟩ := hI
    have hB := set_bits (w := wd) hne (fun n => Iff.rfl)
    walk_at "dr"
    rw [and_full hcn hlt, or_zero hcn, hB.1]
    refine ⟨by omega, by omega, loop_rg (fun i g' m2 => ∃ (y : Option D) (mn : Int), g' = [some (.lst (ns.map D.int)), some (.int wd), some (.int (2 ^ wd)), some (.int ((andL (ns.map fun n => modW n wd) : Nat) : Int)), some (.int ((orL (ns.map fun n => modW n wd) : Nat) : Int)), y1, y2, some (.int ((orL (ns.map fun n => modW n wd) ^^^ andL (ns.map fun n => modW n wd) : Nat) : Int)), some (.int mn), y] ∧ m2 = m') ⟨y5, 1, rfl, rfl⟩ (fun _ _ _ _ => trivial) (fun i g' m2 hi hI => ?_) (fun g' m2 hI => ?_)⟩
    · obtain ⟨y, mn, rfl, rfl⟩ := hI
      walk_at "dr"
      refine ⟨Int.natCast_nonneg _, ifD (fun _ => ⟨.inr ⟨by decide, by decide⟩, _, _, rfl, trivial⟩) (fun _ => ⟨_, _, rfl, trivial⟩)⟩
    · obtain ⟨y, mn, rfl, rfl⟩ := hI
      walk_at "dr"
      refine ifD (fun _ => ?_) (fun _ => ?_)
      · rw [ones_cast, hB.2.1]
        exact ⟨szr rfl, q _ fun is hm => ⟨ne_of_mem hne hm, _, _, (set_bits hne hm).2.2, .bits⟩⟩
      · refine ⟨ns, rfl, fun ns' hp hs => ⟨szr rfl, q _ fun is hm => ?_⟩⟩
        have hne' : ns' ≠ [] := fun e => hne (List.perm_nil.mp (e ▸ hp).symm)
        have hm' : ∀ n, n ∈ ns' ↔ n ∈ is := fun n => hp.mem_iff.trans (hm n)
        exact ⟨ne_of_mem hne hm, _, _, (set_bits hne' hm').2.2, .among ns' hm' (fun n hn => hr n (hp.mem_iff.mp hn)) rfl rfl (by rw [hp.length_eq]; exact hl)⟩
theorem sc_l_alike : FnScope ["_law_left", "_law_right", "_law_k"] ["_law_left", "_law_right"] (defScope s_l_alike) := ⟨rfl, rfl, rfl, by decide +kernel, rfl, by decide +kernel, by decide +kernel⟩
theorem cal_l_alike  (D0 : Def K mg "_law_alike" s_l_alike) (B : Blt mg)   : Cal P w K mg base "_law_alike" (1) ["_law_left", "_law_right"] (up K 2 sp_l_alike) := by
  refine D0.cal (N := ["_law_left", "_law_right", "_law_k"]) (k := 0) sc_l_alike [none] rfl (fun _ _ _ _ _ _ us hl => match us, hl with | [_, _], _ => rfl) (fun f cdv A outer s H E hr => ⟨_, _,
(dss_cons (ds_for PassesOwn.never rfl (di_rg1 (by rfl) B.range (de_cb rMin' (call_min2 rfl) sc_min (by rfl) B.min bt_min (da_cons (de_cb rLen' call_len_seq sc_len (by rfl) B.len bt_len (da_cons (dv 0) da_nil)) (da_cons (de_cb rLen' call_len_seq sc_len (by rfl) B.len bt_len (da_cons (dv 1) da_nil)) da_nil)))) (dg_name (i := 2) sc_l_alike.nd rfl (.inl rfl))
(dss_one (ds_if (dt_ne (de_ix (dv 0) (dv 2)) (de_ix (dv 1) (dv 2)))
(dss_one (ds_ret (dv 2)))
dss_nil)))
(dss_one (ds_ret (de_cb rMin' (call_min2 rfl) sc_min (by rfl) B.min bt_min (da_cons (de_cb rLen' call_len_seq sc_len (by rfl) B.len bt_len (da_cons (dv 0) da_nil)) (da_cons (de_cb rLen' call_len_seq sc_len (by rfl) B.len bt_len (da_cons (dv 1) da_nil)) da_nil)))))),
    fun ds m Q hl hs => ?_⟩)
  -- slots: 0 _law_left 1 _law_right 2 _law_k
  obtain ⟨as, bs, rfl, h1, h2, q⟩ := hs
  have hmin : (if ((bs.length : Nat) : Int) < ((as.length : Nat) : Int) then ((bs.length : Nat) : Int) else ((as.length : Nat) : Int)) = ((min as.length bs.length : Nat) : Int) := by
    split
    · omega
    · omega
  have hl1 : (as.map D.int).length = as.length := List.length_map _
  have hl2 : (bs.map D.int).length = bs.length := List.length_map _
  walk_at "dr"
  simp only [diRg1]
  walk_at "dr"
  rw [hl1, hl2, hmin]
  refine ⟨by omega, by omega, loop_rg (fun i g' m' => ∃ y : Option D, g' = [some (.lst (as.map D.int)), some (.lst (bs.map D.int)), y] ∧ m' = m ∧ ∀ j, j < i → as[j]? = bs[j]?) ⟨none, rfl, rfl, fun j hj => absurd hj (Nat.not_lt_zero j)⟩ (fun _ _ _ _ => trivial) (fun i g' m' hi hI => ?_) (fun g' m' hI => ?_)⟩
  · obtain ⟨y, rfl, rfl, hI⟩ := hI
    have hia : i < as.length := by omega
    have hib : i < bs.length := by omega
    have ea : (as.map D.int)[i]? = some (.int as[i]) := by rw [List.getElem?_map, List.getElem?_eq_getElem hia] <;> rfl
    have eb : (bs.map D.int)[i]? = some (.int bs[i]) := by rw [List.getElem?_map, List.getElem?_eq_getElem hib] <;> rfl
    walk_at "dr"
    rw [atI_c, atI_c, ea, eb]
    refine ifDn (fun h => ?_) (fun h => ⟨_, rfl, fun j hj => ?_⟩)
    · rw [cpre_at hI (List.getElem?_eq_getElem hia) (List.getElem?_eq_getElem hib) h] at q
      exact q
    · rcases Nat.lt_or_ge j i with z | z
      · exact hI j z
      · have ej : j = i := by omega
        subst ej
        rw [List.getElem?_eq_getElem hia, List.getElem?_eq_getElem hib, h]
  · obtain ⟨y, rfl, rfl, hI⟩ := hI
    rw [Int.toNat_natCast] at hI
    rw [cpre_full hI] at q
    walk_at "dr"
    rw [hl1, hl2, hmin]
    exact q
theorem sc_l_common : FnScope ["_law_messages", "_law_common_here", "_law_data"] ["_law_messages"] (defScope s_l_common) := ⟨rfl, rfl, rfl, by decide +kernel, rfl, by decide +kernel, by decide +kernel⟩
theorem cal_l_common  (D0 : Def K mg "_law_common" s_l_common) (B : Blt mg) (c_l_alike : Cal P w K mg base "_law_alike" (1) ["_law_left", "_law_right"] (up K 2 sp_l_alike))  : Cal P w K mg base "_law_common" (2) ["_law_messages"] (up K 1 sp_l_common) := by
  refine D0.cal (N := ["_law_messages", "_law_common_here", "_law_data"]) (k := 1) sc_l_common [none, none] rfl (fun _ _ _ _ _ _ us hl => match us, hl with | [_], _ => rfl) (fun f cdv A outer s H E hr => ⟨_, _,
(dss_cons (ds_set (i := 1) sc_l_common.nd rfl (.inl rfl) (de_ix (dv 0) de_int))
(dss_cons (ds_for PassesOwn.never rfl (di_seq (dv 0)) (dg_name (i := 2) sc_l_common.nd rfl (.inl rfl))
(dss_one (ds_set (i := 1) sc_l_common.nd rfl (.inl rfl) (de_sl (dv 1) dp_none (dp_some (de_call c_l_alike (hr.mono (by first | decide | omega)) (by rfl) (da_cons (dv 1) (da_cons (dv 2) da_nil))))))))
(dss_one (ds_ret (dv 1))))),
    fun ds m Q hl hs => ?_⟩)
  -- slots: 0 _law_messages 1 _law_common_here 2 _law_data
  obtain ⟨a, ms, rfl, ha, hms, q⟩ := hs
  walk_at "dr"
  refine loop_map (f := fun x : List Int => D.lst (x.map D.int)) (xs := a :: ms) (fun pp g' m' => ∃ (y : Option D), g' = [some (.lst ((a :: ms).map fun x => .lst (x.map D.int))), some (.lst ((comL a pp).map D.int)), y] ∧ m' = m ∧ (comL a pp).length ≤ 1000) ⟨none, rfl, rfl, ha⟩ (fun _ _ _ _ => trivial) (fun pre x post g' m' hd hI => ?_) (fun g' m' hI => ?_)
  · obtain ⟨y, rfl, rfl, hl⟩ := hI
    have hx : x.length ≤ 1000 := by
      have hm : x ∈ a :: ms := by
        rw [hd]
        exact List.mem_append_right _ List.mem_cons_self
      rcases List.mem_cons.mp hm with e | e
      · rw [e]
        exact ha
      · exact hms x e
    have e1 : comL a (pre ++ [x]) = (comL a pre).take (cpre (comL a pre) x) := by
      unfold comL
      rw [List.foldl_append]
      rfl
    rw [e1]
    walk_at "dr"
    refine ⟨comL a pre, x, rfl, hl, hx, ?_⟩
    have hc : cpre (comL a pre) x ≤ ((comL a pre).map D.int).length := by
      rw [List.length_map]
      exact cpre_le _ _
    walk_at "dr"
    rw [cut_take hc, ← List.map_take]
    exact ⟨_, rfl, by rw [List.length_take]; omega⟩
  · obtain ⟨y, rfl, rfl, _⟩ := hI
    exact q
theorem sc_l_are_bytes : FnScope ["_law_told", "_law_size_here", "_law_byte"] ["_law_told", "_law_size_here"] (defScope s_l_are_bytes) := ⟨rfl, rfl, rfl, by decide +kernel, rfl, by decide +kernel, by decide +kernel⟩
theorem cal_l_are_bytes  (D0 : Def K mg "_law_are_bytes" s_l_are_bytes) (B : Blt mg)   : Cal P w K mg base "_law_are_bytes" (1) ["_law_told", "_law_size_here"] (up K 2 sp_l_are_bytes) := by
  refine D0.cal (N := ["_law_told", "_law_size_here", "_law_byte"]) (k := 0) sc_l_are_bytes [none] rfl (fun _ _ _ _ _ _ us hl => match us, hl with | [_, _], _ => rfl) (fun f cdv A outer s H E hr => ⟨_, _,
(dss_cons (ds_if (DW.dt (dw_or (dt_not (dt_val (de_isi (n := "list") (by rfl) B.isinstance boot_isinstance (dv 0) (by rfl) B.list boot_list))) (dw_or1 (dt_ne (de_cb rLen' call_len_seq sc_len (by rfl) B.len bt_len (da_cons (dv 0) da_nil)) (dv 1)))))
(dss_one (ds_ret de_bl))
dss_nil)
(dss_cons (ds_for PassesOwn.never rfl (di_seq (dv 0)) (dg_name (i := 2) sc_l_are_bytes.nd rfl (.inl rfl))
(dss_one (ds_if (DW.dt (dw_or (dt_not (dt_val (de_isi (n := "int") (by rfl) B.isinstance boot_isinstance (dv 2) (by rfl) B.int boot_int))) (dw_or (dt_val (de_isi (n := "bool") (by rfl) B.isinstance boot_isinstance (dv 2) (by rfl) B.bool boot_bool)) (dw_or (dt_lt (dv 2) de_int) (dw_or1 (dt_gt (dv 2) de_int))))))
(dss_one (ds_ret de_bl))
dss_nil)))
(dss_one (ds_ret de_bl)))),
    fun ds m Q hl hs => ?_⟩)
  -- slots: 0 _law_told 1 _law_size_here 2 _law_byte
  obtain ⟨p, o, k, rfl, hp, ho, q⟩ := hs
  walk_at "dr"
  simp only [dIsi]
  have hml : (o.map D.int).length = o.length := List.length_map _
  refine ⟨trivial, ⟨_, hp⟩, ifF rfl ⟨_, hp, ?_⟩⟩
  rw [hml]
  refine ifDn (fun h => ?_) (fun h => ⟨_, hp, loop_map (f := D.int) (fun pp g' m' => ∃ y : Option D, g' = [some (.adr p), some (.int k), y] ∧ m' = m) ⟨none, rfl, rfl⟩ (fun _ _ _ h => by obtain ⟨_, _, rfl⟩ := h; exact hp) (fun pre x post g' m' hd hI => ?_) (fun g' m' hI => ?_)⟩)
  · rw [decide_eq_false (fun e => h (congrArg Int.ofNat e))] at q
    exact q
  · obtain ⟨y, rfl, rfl⟩ := hI
    have hx := ho x (by rw [hd]; exact List.mem_append_right _ List.mem_cons_self)
    refine .inl ⟨rfl, ?_⟩
    refine .inr ⟨rfl, ?_⟩
    walk_at "dr"
    refine ifF rfl (ifD (fun h => absurd h (by omega)) (fun _ => ifD (fun h => absurd h (by omega)) (fun _ => ⟨_, rfl, trivial⟩)))
  · obtain ⟨y, rfl, rfl⟩ := hI
    rw [decide_eq_true (Int.ofNat.inj h)] at q
    exact q
theorem sc_l_same_bytes : FnScope ["_law_told", "_law_due"] ["_law_told", "_law_due"] (defScope s_l_same_bytes) := ⟨rfl, rfl, rfl, by decide +kernel, rfl, by decide +kernel, by decide +kernel⟩
theorem cal_l_same_bytes  (D0 : Def K mg "_law_same_bytes" s_l_same_bytes) (B : Blt mg) (c_l_are_bytes : Cal P w K mg base "_law_are_bytes" (1) ["_law_told", "_law_size_here"] (up K 2 sp_l_are_bytes))  : Cal P w K mg base "_law_same_bytes" (2) ["_law_told", "_law_due"] (up K 2 sp_l_same_bytes) := by
  refine D0.cal (N := ["_law_told", "_law_due"]) (k := 1) sc_l_same_bytes [] rfl (fun _ _ _ _ _ _ us hl => match us, hl with | [_, _], _ => rfl) (fun f cdv A outer s H E hr => ⟨_, _,
(dss_one (ds_ret (de_andV (de_call c_l_are_bytes (hr.mono (by first | decide | omega)) (by rfl) (da_cons (dv 0) (da_cons (de_cb rLen' call_len_seq sc_len (by rfl) B.len bt_len (da_cons (dv 1) da_nil)) da_nil))) (de_one (de_eqL hr.units (dv 0) (dv 1)))))),
    fun ds m Q hl hs => ?_⟩)
  -- slots: 0 _law_told 1 _law_due
  obtain ⟨p, o, o2, rfl, hp, ho, q⟩ := hs
  walk_at "dr"
  refine ⟨p, o, _, rfl, hp, ho, ?_⟩
  rw [List.length_map]
  refine ifD (fun h => ⟨o, o2, hp, rfl, q⟩) (fun h => ?_)
  rw [decide_eq_false (fun e => h (congrArg List.length e))] at q
  exact q
end
end BB

namespace BB
open PySem PySem.Spec PyProof.Rows L2
local macro_rules | `(tactic| walk_at "dl") => `(tactic| simp only [dIfS, dIfE, dTest, dOp, dVar, dC, dIx, dEq, dNe, dI, dIc, dIsN, dNotN, isNonD, dAndT, dOrT, dNotT, dAndV, dNeg, dAdd, dTup, dLst, dCons, dNil, dCB, dCall, dLc, true_and, dLen, dInt1, dInt2, withSeq, with1_1, onSome_some, atI_0, atI_1, atI_2, atI_3, atI_4, atI_5, atI_6, List.getElem?_cons_succ, List.getElem?_cons_zero, List.set_cons_zero, List.set_cons_succ, gdN, Part.enc, encN, Bool.not_true, Bool.not_false, mapS_cons, mapS_nil, List.length_cons, List.length_nil, List.cons_append, List.nil_append, gdTup, gdCons, gdNil, dAppend, dExtend, dListF, dTupOf, dMul, dSl, dNoP, dPart])
local macro_rules | `(tactic| walk_at "dr") => `(tactic| simp only [dSeq, dAsg, dRet, dRetW, dDrop, dNext, dFor, diSeq, dIfS, dIfE, dTest, dOp, dVar, dC, dIx, dEq, dNe, dI, dIc, dIsN, dNotN, isNonD, dAndT, dOrT, dNotT, dAndV, dNeg, dAdd, dTup, dLst, dCons, dNil, dCB, dCall, dLc, true_and, dLen, dInt1, dInt2, withSeq, with1_1, onSome_some, atI_0, atI_1, atI_2, atI_3, atI_4, atI_5, atI_6, List.getElem?_cons_succ, List.getElem?_cons_zero, List.set_cons_zero, List.set_cons_succ, gdN, Part.enc, encN, Bool.not_true, Bool.not_false, mapS_cons, mapS_nil, List.length_cons, List.length_nil, List.cons_append, List.nil_append, gdTup, gdCons, gdNil, dAppend, dExtend, dListF, dTupOf, dMul, dSl, dNoP, dPart])

/-! ## patterns, by the law -/
def sp_patternN (n : Nat) : SpD := fun ds m Q => ∃ (its : List Item) (rows : List (List D)), ds = [encL n its, .lst (rows.map D.tup)] ∧ wfL n its ∧ rows ≠ [] ∧ rows.length ≤ 1000 ∧ (∀ r ∈ rows, rowIs n its r) ∧ ∀ P, IsPat n its rows P → Q (.tup P) m
def sp_patofN (n : Nat) : SpD := fun ds m Q => ∃ (k : Kind) (col : List D), ds = [encK n k, .lst col] ∧ wfK n k ∧ col ≠ [] ∧ col.length ≤ 1000 ∧ (∀ c ∈ col, valOf n k c) ∧ ∀ e, entOf n k col e → Q e m
theorem inF_range {sg : Bool} {w : Nat} {i : Int} (h : inF sg w i) : -(2 ^ w) ≤ i ∧ i < 2 ^ w := by
  have h1 : (2 : Int) ^ (w - 1) ≤ 2 ^ w := by
    rw [two_pow_nat, two_pow_nat]
    exact Int.ofNat_le.mpr (Nat.pow_le_pow_right (by decide) (Nat.sub_le _ _))
  have h0 : (0 : Int) < 2 ^ w := Int.pow_pos (by decide)
  unfold inF at h
  split at h
  · omega
  · omega
theorem patIn_of {U : Kind → List D → D → Prop} : ∀ {ks : List Kind} {rows : List (List D)} {P : List D}, (∀ (i : Nat) (k : Kind), ks[i]? = some k → U k (rows.map fun r => r[i]?.getD .non) (P[i]?.getD .non)) → patIn U ks rows P
  | [], _, _, _ => trivial
  | k :: ks, rows, P, h => by
    refine ⟨?_, patIn_of fun i k' hk => ?_⟩
    · have z := h 0 k rfl
      have e1 : (rows.map fun r => r.headD .non) = rows.map fun r => r[0]?.getD .non := List.map_congr_left fun r _ => by cases r <;> rfl
      rw [e1]
      cases P <;> exact z
    · have z := h (i + 1) k' hk
      have e1 : ((rows.map List.tail).map fun r => r[i]?.getD .non) = rows.map fun r => r[i + 1]?.getD .non := by
        rw [List.map_map]
        exact List.map_congr_left fun r _ => by cases r <;> rfl
      rw [e1]
      cases P with
      | nil => exact z
      | cons a b => exact z
theorem sc_l_once : FnScope ["_law_things", "_law_found", "_law_thing"] ["_law_things"] (defScope s_l_once) := ⟨rfl, rfl, rfl, by decide +kernel, rfl, by decide +kernel, by decide +kernel⟩
theorem last_at {α : Type} (l : List α) (x : α) : atI (l ++ [x]) (-1) = some x := by
  have e : ixN (l ++ [x]).length (-1) = some l.length := by
    unfold ixN
    rw [List.length_append, List.length_singleton, if_neg (by omega), if_pos (by omega)]
    exact congrArg some (by omega)
  unfold atI
  rw [e]
  show (l ++ [x])[l.length]? = some x
  rw [List.getElem?_append_right (Nat.le_refl _), Nat.sub_self]
  rfl
theorem seq_nums {vss : List (List D)} {ns' : List Int} (hne : vss ≠ []) (hp : ns'.Perm (onceL [] (vss.map fun vs => ((vs.length : Nat) : Int)))) (hs : ns'.Pairwise (· ≤ ·)) :
    ∃ (nums : List Nat) (mx : Nat), ns' = nums.map (fun k : Nat => (k : Int)) ∧ IsNums (vss.map List.length) nums ∧ atI (ns'.map D.int) (-1) = some (.int (mx : Nat)) ∧ mx ∈ nums ∧ (∀ k ∈ nums, k ≤ mx) ∧ nums.length ≤ vss.length := by
  have hmem : ∀ n : Int, n ∈ ns' ↔ ∃ vs ∈ vss, ((vs.length : Nat) : Int) = n := fun n => by
    rw [hp.mem_iff, onceL_mem]
    refine ⟨fun h => ?_, fun ⟨vs, hv, e⟩ => .inr (e ▸ List.mem_map_of_mem (f := fun vs : List D => ((vs.length : Nat) : Int)) hv)⟩
    rcases h with h | h
    · cases h
    · obtain ⟨vs, hv, e⟩ := List.mem_map.mp h
      exact ⟨vs, hv, e⟩
  have hnn : ∀ n ∈ ns', 0 ≤ n := fun n hn => by
    obtain ⟨vs, _, e⟩ := (hmem n).mp hn
    omega
  have hnd : ns'.Nodup := hp.nodup_iff.mpr (onceL_nd _ _ List.nodup_nil)
  have hcast : ns' = (ns'.map Int.toNat).map (fun k : Nat => (k : Int)) := by
    rw [List.map_map]
    exact (List.map_id ns').symm.trans (List.map_congr_left fun n hn => (Int.toNat_of_nonneg (hnn n hn)).symm)
  have hne' : ns' ≠ [] := fun e => by
    obtain ⟨vs, hv⟩ := List.exists_mem_of_ne_nil _ hne
    have := (hmem _).mpr ⟨vs, hv, rfl⟩
    rw [e] at this
    cases this
  obtain ⟨ini, lst, el⟩ : ∃ ini lst, ns' = ini ++ [lst] := ⟨ns'.dropLast, ns'.getLast hne', (List.dropLast_concat_getLast hne').symm⟩
  have hlast : lst ∈ ns' := by
    rw [el]
    exact List.mem_append_right _ (List.mem_singleton_self _)
  have hl0 := hnn lst hlast
  have hmax : ∀ n ∈ ns', n ≤ lst := fun n hn => by
    rw [el] at hn hs
    rcases List.mem_append.mp hn with z | z
    · exact (List.pairwise_append.mp hs).2.2 n z lst (List.mem_singleton_self _)
    · rw [List.mem_singleton.mp z]
      exact Int.le_refl _
  refine ⟨ns'.map Int.toNat, lst.toNat, hcast, ⟨fun k => ⟨fun h => ?_, fun h => ?_⟩, ?_⟩, ?_, List.mem_map_of_mem hlast, fun k hk => ?_, ?_⟩
  · obtain ⟨n, hn, rfl⟩ := List.mem_map.mp h
    obtain ⟨vs, hv, e⟩ := (hmem n).mp hn
    rw [← e]
    exact List.mem_map.mpr ⟨vs, hv, (Int.toNat_natCast _).symm⟩
  · obtain ⟨vs, hv, rfl⟩ := List.mem_map.mp h
    exact List.mem_map.mpr ⟨((vs.length : Nat) : Int), (hmem _).mpr ⟨vs, hv, rfl⟩, Int.toNat_natCast _⟩
  · rw [List.pairwise_map]
    refine (List.Pairwise.and hs hnd).imp_of_mem fun {x y} hx hy hxy => ?_
    have h1 := hnn x hx
    have h2 := hnn y hy
    have h3 : x ≠ y := hxy.2
    omega
  · rw [el, List.map_append]
    show atI (ini.map D.int ++ [D.int lst]) (-1) = _
    rw [last_at, Int.toNat_of_nonneg hl0]
  · obtain ⟨n, hn, rfl⟩ := List.mem_map.mp hk
    have := hmax n hn
    have := hnn n hn
    omega
  · rw [List.length_map, hp.length_eq]
    have z := onceL_len (vss.map fun vs => ((vs.length : Nat) : Int)) []
    rw [List.length_map, List.length_nil] at z
    omega
theorem found_eq (i : Nat) : ∀ col : List D, (col.filter fun d => decide (i < (tupD d).length)).map (fun d => (tupD d)[i]?.getD .non) = (col.map tupD).filterMap fun vs => vs[i]?
  | [] => rfl
  | d :: col => by
    rw [List.map_cons, List.filterMap_cons]
    by_cases h : i < (tupD d).length
    · rw [List.filter_cons_of_pos (by exact decide_eq_true h), List.map_cons, found_eq i col, List.getElem?_eq_getElem h]
      rfl
    · rw [List.filter_cons_of_neg (by rw [decide_eq_false h]; exact Bool.false_ne_true), found_eq i col, List.getElem?_eq_none (by omega)]
theorem lc_filter_id {xs : List D} {tg : TGD} {tt : TTD} {te : TED} {g : Env'} {m : Mu} {Q : D → Mu → Prop} (p : D → Bool) (e : D → D) (hl : xs.length ≤ 100000)
    (step : ∀ x ∈ xs, ∀ (m1 : Mu) (R : D → Mu → Prop) (R' : Mu → Prop), (∀ b es, m b = some es → m1 b = some es) → (p x = true → R (e x) m1) → (p x = false → R' m1) → tg x g m1 fun g2 m2 => tt g2 m2 fun b m3 => if b = true then te g2 m3 R else R' m3) (hd : Q (.lst ((xs.filter p).map e)) m) : LcD xs (fun _ => True) tg tt te g m Q := by
  have z := lc_filter (f := fun d : D => d) (xs := xs) p e hl step hd
  rw [List.map_id'] at z
  exact z
theorem lc_pure_id {xs : List D} {tg : TGD} {te : TED} {g : Env'} {m : Mu} {Q : D → Mu → Prop} (e : D → D) (hl : xs.length ≤ 100000)
    (step : ∀ x ∈ xs, ∀ (m1 : Mu) (R : D → Mu → Prop), (∀ b es, m b = some es → m1 b = some es) → R (e x) m1 → tg x g m1 fun g2 m2 => te g2 m2 R) (hd : Q (.lst (xs.map e)) m) : LcD xs (fun _ => True) tg dYes te g m Q := by
  have z := lc_pure (f := fun d : D => d) (xs := xs) e hl step hd
  rw [List.map_id'] at z
  exact z
section
variable {P : Program} {w : World} {K : PySem.W.Frag} {mg : Str → Option Value} {base : Heap}
theorem cal_l_once (D0 : Def K mg "_law_once" s_l_once) (B : Blt mg) : Cal P w K mg base "_law_once" (1) ["_law_things"] (up K 1 sp_l_once) := by
  refine D0.cal (N := ["_law_things", "_law_found", "_law_thing"]) (k := 0) sc_l_once [none, none] rfl (fun _ _ _ _ _ _ us hl => match us, hl with | [_], _ => rfl) (fun f cdv A outer s H E hr => ⟨fun K => tSeq (tAsg tDNewK (gName 1)) (tSeq (tFor (iSeq K (tVar 0)) (gName 2) (sDPut (tVar 1) (tVar 2) (tC (.bl true)))) (tRet (tCB rListD (tCons (tVar 1) tNil)))), dOnce,
    ⟨pss_cons (ps_set sc_l_once.nd rfl (.inl rfl) pe_dnewK rfl (.inl rfl)) (pss_cons (ps_for PassesOwn.never rfl (pi_seq (dv 0).pe) (pg_name sc_l_once.nd rfl (.inl rfl) (.inl rfl)) (pss_one (ps_dput (Nat.lt_of_le_of_lt (Nat.add_le_add_left (by decide) _) hr.units) (dv 1).pe (dv 2).pe pe_bl rfl)) (by intro _; rfl)) (pss_one (ps_ret (pe_callTy (call_list_dK rfl) (by rfl) B.list bt_list (pa_cons (dv 1).pe pa_nil rfl) (by decide) (by decide) rfl rfl)))), sn_once⟩, fun ds m Q hl hs => ?_⟩)
  obtain ⟨ns, rfl, h1, q⟩ := hs
  exact ⟨ns, rfl, h1, q⟩
theorem sc_l_pattern_of : FnScope ["_law_kind", "_law_things", "_law_cases", "_law_case", "_law_inside", "_law_thing", "_law_numbers", "_law_entries", "_law_i", "_law_found"] ["_law_kind", "_law_things"] (defScope s_l_pattern_of) := ⟨rfl, rfl, rfl, by decide +kernel, rfl, by decide +kernel, by decide +kernel⟩
theorem cal_l_pattern_of (k : Nat) (D0 : Def K mg "_law_pattern_of" s_l_pattern_of) (B : Blt mg) (c_l_set : Cal P w K mg base "_law_set" (1) ["_law_numbers", "_law_width"] (up K 2 sp_l_set)) (c_l_once : Cal P w K mg base "_law_once" (1) ["_law_things"] (up K 1 sp_l_once)) (c_l_pattern : Cal P w K mg base "_law_pattern" (10*k) ["_law_items", "_law_rows"] (up K 2 (at2 sp_patternN k)))  : Cal P w K mg base "_law_pattern_of" (10*k+5 + 1) ["_law_kind", "_law_things"] (up K 2 (sp_patofN k)) := by
  refine D0.cal (N := ["_law_kind", "_law_things", "_law_cases", "_law_case", "_law_inside", "_law_thing", "_law_numbers", "_law_entries", "_law_i", "_law_found"]) (k := 10*k+5) sc_l_pattern_of [none, none, none, none, none, none, none, none] rfl (fun _ _ _ _ _ _ us hl => match us, hl with | [_, _], _ => rfl) (fun f cdv A outer s H E hr => ⟨_, _,
(dss_cons (ds_if (dt_eq (de_ix (dv 0) de_int) de_str)
(dss_one (ds_ret (de_call c_l_set (hr.mono (by first | decide | omega)) (by rfl) (da_cons (de_call c_l_once (hr.mono (by first | decide | omega)) (by rfl) (da_cons (dv 1) da_nil)) (da_cons (de_ix (dv 0) de_int) da_nil)))))
dss_nil)
(dss_cons (ds_if (dt_eq (de_ix (dv 0) de_int) de_str)
(dss_one (ds_ret (de_call c_l_pattern (hr.mono (by first | decide | omega)) (by rfl) (da_cons (de_ix (dv 0) de_int) (da_cons (dv 1) da_nil)))))
dss_nil)
(dss_cons (ds_if (dt_eq (de_ix (dv 0) de_int) de_str)
(dss_cons (ds_set (i := 2) sc_l_pattern_of.nd rfl (.inl rfl) (de_new da_nil))
(dss_cons (ds_for PassesOwn.never rfl (di_seq (de_ix (dv 0) de_int)) (dg_name (i := 3) sc_l_pattern_of.nd rfl (.inr rfl))
(dss_cons (ds_setLc (i := 4) (own := [("_law_thing", 5)]) rfl sc_l_pattern_of.nd rfl rfl (sw_true rfl rfl rfl (by decide +kernel)) (di_seq (dv 1)) (blkOk_by (N := ["_law_kind", "_law_things", "_law_cases", "_law_case", "_law_inside", "_law_thing", "_law_numbers", "_law_entries", "_law_i", "_law_found"]) (sc := defScope s_l_pattern_of) (own := [("_law_thing", 5)]) (by decide +kernel)) (fun _ _ _ _ _ => (dg_name (i := 5) sc_l_pattern_of.nd rfl (.inl rfl))) (keepN 5) (fun _ _ _ _ _ => (dts_one (dt_eq (de_ix (dv 5) de_int) (de_ix (dv 3) de_int)))) (fun _ _ _ _ _ => (de_ix (dv 5) de_int)) (by intro _; rfl) s H)
(dss_one (ds_if (dt_tru (dv 4))
(dss_one (ds_expr (de_append (dv 2) (de_tup (da_cons (de_ix (dv 3) de_int) (da_cons (de_call c_l_pattern (hr.mono (by first | decide | omega)) (by rfl) (da_cons (de_ix (dv 3) de_int) (da_cons (dv 4) da_nil))) da_nil))))))
dss_nil))))
(dss_one (ds_retW (de_tup (da_cons de_str (da_cons (de_ct rTupOf call_tuple_of sc_tup (by rfl) B.tuple bt_tuple (da_cons (dv 2) da_nil)) da_nil)))))))
dss_nil)
(dss_cons (ds_set (i := 6) sc_l_pattern_of.nd rfl (.inl rfl) (de_cb rSortedI cr_sortedI sc_sorted (by rfl) B.sorted bt_sorted (da_cons (de_call c_l_once (hr.mono (by first | decide | omega)) (by rfl) (da_cons (de_lc (own := [("_law_thing", 5)]) rfl sc_l_pattern_of.nd (di_seq (dv 1)) (blkOk_by (N := ["_law_kind", "_law_things", "_law_cases", "_law_case", "_law_inside", "_law_thing", "_law_numbers", "_law_entries", "_law_i", "_law_found"]) (sc := defScope s_l_pattern_of) (own := [("_law_thing", 5)]) (by decide +kernel)) (fun _ _ _ _ _ => (dg_name (i := 5) sc_l_pattern_of.nd rfl (.inl rfl))) (keepN 5) (fun _ _ _ _ _ => dts_nil) (fun _ _ _ _ _ => (de_cb rLen' call_len_seq sc_len (by rfl) B.len bt_len (da_cons (dv 5) da_nil))) (by intro _; rfl) s H) da_nil)) da_nil)))
(dss_cons (ds_set (i := 7) sc_l_pattern_of.nd rfl (.inl rfl) (de_new da_nil))
(dss_cons (ds_for PassesOwn.never rfl (di_rg1 (by rfl) B.range (de_ix (dv 6) (de_neg de_int))) (dg_name (i := 8) sc_l_pattern_of.nd rfl (.inr rfl))
(dss_cons (ds_setLc (i := 9) (own := [("_law_thing", 5)]) rfl sc_l_pattern_of.nd rfl rfl (sw_true rfl rfl rfl (by decide +kernel)) (di_seq (dv 1)) (blkOk_by (N := ["_law_kind", "_law_things", "_law_cases", "_law_case", "_law_inside", "_law_thing", "_law_numbers", "_law_entries", "_law_i", "_law_found"]) (sc := defScope s_l_pattern_of) (own := [("_law_thing", 5)]) (by decide +kernel)) (fun _ _ _ _ _ => (dg_name (i := 5) sc_l_pattern_of.nd rfl (.inl rfl))) (keepN 5) (fun _ _ _ _ _ => (dts_one (dt_gt (de_cb rLen' call_len_seq sc_len (by rfl) B.len bt_len (da_cons (dv 5) da_nil)) (dv 8)))) (fun _ _ _ _ _ => (de_ix (dv 5) (dv 8))) (by intro _; rfl) s H)
(dss_one (ds_expr (de_append (dv 7) (de_if (dt_eq (de_ix (dv 0) de_int) de_str) (de_call c_l_pattern (hr.mono (by first | decide | omega)) (by rfl) (da_cons (de_ix (dv 0) de_int) (da_cons (dv 9) da_nil))) (de_call c_l_set (hr.mono (by first | decide | omega)) (by rfl) (da_cons (de_call c_l_once (hr.mono (by first | decide | omega)) (by rfl) (da_cons (dv 9) da_nil)) (da_cons (de_ix (dv 0) de_int) da_nil)))))))))
(dss_one (ds_retW (de_tup (da_cons de_str (da_cons (de_ct rTupOf call_tuple_of sc_tup (by rfl) B.tuple bt_tuple (da_cons (dv 6) da_nil)) (da_cons (de_ct rTupOf call_tuple_of sc_tup (by rfl) B.tuple bt_tuple (da_cons (dv 7) da_nil)) da_nil)))))))))))),
    fun ds m Q hl hs => ?_⟩)
  -- slots: 0 _law_kind 1 _law_things 2 _law_cases 3 _law_case 4 _law_inside 5 _law_thing 6 _law_numbers 7 _law_entries 8 _law_i 9 _law_found
  obtain ⟨kd, col, rfl, hw, hne, hcl, hv, q⟩ := hs
  cases kd with
  | num s p =>
    have hcol : col = (col.map intD).map D.int := by
      rw [List.map_map]
      refine (List.map_id col).symm.trans (List.map_congr_left fun c hc => ?_)
      obtain ⟨i, rfl, _⟩ : ∃ i, c = .int i ∧ inF p.signed p.width i := by
        have := hv c hc
        cases k <;> exact this
      rfl
    have hrg : ∀ n ∈ onceL [] (col.map intD), -(2 ^ p.width) ≤ n ∧ n < 2 ^ p.width := fun n hn => by
      rcases (onceL_mem _ _ _).mp hn with z | z
      · cases z
      · obtain ⟨c, hc, rfl⟩ := List.mem_map.mp z
        obtain ⟨i, rfl, hi⟩ : ∃ i, c = .int i ∧ inF p.signed p.width i := by
          have := hv c hc
          cases k <;> exact this
        exact inF_range hi
    have hnm : ∀ n, n ∈ onceL [] (col.map intD) ↔ n ∈ col.map intD := fun n => by
      rw [onceL_mem]
      exact ⟨fun z => z.elim (fun q => nomatch q) id, .inr⟩
    have hon : onceL [] (col.map intD) ≠ [] := ne_of_mem (fun e => hne (List.map_eq_nil_iff.mp e)) fun n => (hnm n).symm
    have hlen := onceL_len (col.map intD) []
    rw [List.length_nil, List.length_map] at hlen
    rw [encK_num]
    walk_at "dr"
    refine ifT rfl ⟨col.map intD, by rw [← hcol], by rw [List.length_map]; omega, p.width, _, rfl, hw.1, Nat.le_trans hw.2 (by decide), hon, by omega, hrg, fun e he => q e ?_⟩
    have z := he (col.map intD) hnm
    cases k <;> exact z
  | comp it =>
    cases k with
    | zero =>
      obtain ⟨c, hc⟩ := List.exists_mem_of_ne_nil _ hne
      exact (hv c hc).elim
    | succ n =>
    cases it with
    | rcd a its =>
      have hcol : col = (col.map tupD).map D.tup := by
        rw [List.map_map]
        refine (List.map_id col).symm.trans (List.map_congr_left fun c hc => ?_)
        obtain ⟨r, rfl, _⟩ := hv c hc
        rfl
      rw [encK_rcd]
      walk_at "dr"
      refine ifF ne_ (ifT rfl ⟨its, col.map tupD, by rw [← hcol], hw.1, fun e => hne (List.map_eq_nil_iff.mp e), by rw [List.length_map]; exact hcl, fun r hr => ?_, fun P' hP' => q _ ⟨P', rfl, hP'⟩⟩)
      obtain ⟨c, hc, rfl⟩ := List.mem_map.mp hr
      obtain ⟨r, rfl, h0⟩ := hv c hc
      exact h0
    | choice a wd cs =>
      rw [encK_choice]
      walk_at "dr"
      obtain ⟨hw1, hw2, hw3, hw4⟩ : cs.length ≤ 100 ∧ (cs.map fun c : Cs => c.1).Nodup ∧ (cs.map fun c : Cs => c.2.1).Nodup ∧ ∀ c ∈ cs, (0 ≤ c.1 ∧ c.1 < 2 ^ (8 * wd.size)) ∧ wfL n c.2.2 := hw.1
      refine ifF ne_ (ifF ne_ (ifT rfl ⟨Nat.zero_le _, fun p hp => ?_⟩))
      refine loop_map (f := encC n) (xs := cs) (fun pp g' m' => ∃ (y3 y4 y5 : Option D) (L : List (Cs × List D)), g' = [some (.tup [.str "choice", .str a, .tup (cs.map (encC n))]), some (.lst col), some (.adr p), y3, y4, y5, none, none, none, none] ∧ m' = mset m p (L.map fun q => .tup [.str q.1.2.1, .tup q.2]) ∧ L.length ≤ pp.length ∧
        (∀ q ∈ L, q.1 ∈ pp ∧ ∃ rs, rs = (col.filter fun d => decide (nameD d = q.1.2.1)).map restD ∧ rs ≠ [] ∧ patOf (entOf n) (kinds q.1.2.2) rs q.2) ∧ (L.map fun q => q.1.2.1).Nodup ∧ ∀ c ∈ pp, ∀ d ∈ col, nameD d = c.2.1 → ∃ q ∈ L, q.1.2.1 = nameD d) ⟨none, none, none, [], rfl, rfl, Nat.le_refl _, fun _ h => (nomatch h), List.nodup_nil, fun _ h => (nomatch h)⟩ (fun _ _ _ _ => trivial) (fun pre x post g' m' hd hI => ?_) (fun g' m' hI => ?_)
      · obtain ⟨y3, y4, y5, L, rfl, rfl, hLl, hL, hLn, hcov⟩ := hI
        have hx : x ∈ cs := by
          rw [hd]
          exact List.mem_append_right _ List.mem_cons_self
        have hpl : pre.length ≤ 100 := by
          have := congrArg List.length hd
          rw [List.length_append, List.length_cons] at this
          omega
        have hxn : ∀ c ∈ pre, c.2.1 ≠ x.2.1 := fun c hc e => by
          rw [hd, List.map_append, List.map_cons, List.nodup_append] at hw3
          exact hw3.2.2 c.2.1 (List.mem_map_of_mem (f := fun c : Cs => c.2.1) hc) x.2.1 List.mem_cons_self e
        rw [show encC n x = .tup [.int x.1, .str x.2.1, encL n x.2.2] from rfl]
        walk_at "dr"
        refine lc_filter_id (xs := col) (fun d => decide (nameD d = x.2.1)) (fun d => .tup (restD d)) (by omega) (fun d hdm m1 R R' hm hT hF => ?_) ?_
        · obtain ⟨_, c1, hc1, r1, rfl, hr1⟩ := hv d hdm
          walk_at "dr"
          exact ifD (fun h => hT (decide_eq_true h)) (fun h => hF (decide_eq_false h))
        · have hin : (col.filter fun d => decide (nameD d = x.2.1)).map (fun d => D.tup (restD d)) = ((col.filter fun d => decide (nameD d = x.2.1)).map restD).map D.tup := by
            rw [List.map_map]
            rfl
          rw [hin]
          simp only [dTru]
          walk_at "dr"
          generalize hrs : (col.filter fun d => decide (nameD d = x.2.1)).map restD = rs
          have hcov0 : rs = [] → ∀ d ∈ col, nameD d ≠ x.2.1 := fun e d hdm hn => by
            rw [e] at hrs
            have : d ∈ col.filter fun d => decide (nameD d = x.2.1) := List.mem_filter.mpr ⟨hdm, decide_eq_true hn⟩
            rw [List.map_eq_nil_iff.mp hrs] at this
            cases this
          by_cases he : rs = []
          · subst he
            refine ifF rfl ⟨_, _, _, L, rfl, rfl, ?_, fun q hq => ?_, hLn, fun c hc d hdm hn => ?_⟩
            · rw [List.length_append]
              omega
            · obtain ⟨h1, h2⟩ := hL q hq
              exact ⟨List.mem_append_left _ h1, h2⟩
            · rcases List.mem_append.mp hc with z | z
              · exact hcov c z d hdm hn
              · rw [List.mem_singleton.mp z] at hn
                exact absurd hn (hcov0 rfl d hdm)
          · have hne2 : (rs.map D.tup).isEmpty = false := by
              cases rs with
              | nil => exact absurd rfl he
              | cons a b => rfl
            have hrl : rs.length ≤ 1000 := by
              rw [← hrs, List.length_map]
              exact Nat.le_trans (List.length_filter_le _ _) hcl
            rw [hne2]
            refine ifT rfl ⟨⟨_, mset_same⟩, x.2.2, rs, rfl, (hw4 x hx).2, he, hrl, fun r hr => ?_, fun P' hP' => ?_⟩
            · rw [← hrs] at hr
              obtain ⟨d, hdf, rfl⟩ := List.mem_map.mp hr
              obtain ⟨hdm, hdn⟩ := List.mem_filter.mp hdf
              obtain ⟨_, c1, hc1, r1, rfl, hr1⟩ := hv d hdm
              have ec : c1 = x := nd_eq hw3 hc1 hx (of_decide_eq_true hdn)
              rw [ec] at hr1
              exact hr1
            · refine ⟨szr rfl, _, mset_same, szl (by rw [List.length_map]; omega), _, _, _, L ++ [(x, P')], rfl, ?_, ?_, fun q hq => ?_, ?_, fun c hc d hdm hn => ?_⟩
              · rw [mset_mset, List.map_append]
                rfl
              · rw [List.length_append, List.length_append]
                exact Nat.add_le_add_right hLl 1
              · rcases List.mem_append.mp hq with z | z
                · obtain ⟨h1, h2⟩ := hL q z
                  exact ⟨List.mem_append_left _ h1, h2⟩
                · rw [List.mem_singleton.mp z]
                  exact ⟨List.mem_append_right _ (List.mem_singleton_self _), rs, hrs.symm, he, hP'⟩
              · rw [List.map_append, List.nodup_append]
                refine ⟨hLn, List.nodup_cons.mpr ⟨fun z => (nomatch z), List.nodup_nil⟩, fun s1 h1 s2 h2 e => ?_⟩
                obtain ⟨q, hq, rfl⟩ := List.mem_map.mp h1
                have h2' : s2 = x.2.1 := List.mem_singleton.mp h2
                exact hxn q.1 (hL q hq).1 (e.trans h2')
              · rcases List.mem_append.mp hc with z | z
                · obtain ⟨q, hq, e⟩ := hcov c z d hdm hn
                  exact ⟨q, List.mem_append_left _ hq, e⟩
                · rw [List.mem_singleton.mp z] at hn
                  exact ⟨(x, P'), List.mem_append_right _ (List.mem_singleton_self _), hn.symm⟩
      · obtain ⟨y3, y4, y5, L, rfl, rfl, hLl, hL, hLn, hcov⟩ := hI
        have hc2 : ∀ d ∈ col, ∃ q ∈ L, q.1.2.1 = nameD d := fun d hdm => by
          obtain ⟨_, c1, hc1, r1, rfl, hr1⟩ := hv d hdm
          exact hcov c1 hc1 _ hdm rfl
        walk_at "dr"
        refine ⟨_, mset_same, szr rfl, m, mset_ext hp, q _ ⟨L, rfl, fun e => ?_, hL, hLn, by omega, hw3, hc2⟩⟩
        obtain ⟨d, hdm⟩ := List.exists_mem_of_ne_nil _ hne
        obtain ⟨q, hq, _⟩ := hc2 d hdm
        rw [e] at hq
        cases hq
    | arr a wd sg c rg df =>
      rw [encK_arr]
      walk_at "dr"
      refine ifF ne_ (ifF ne_ (ifF ne_ ?_))
      have hcm : cMax c ≤ 100 := hw.1
      have htup : ∀ d ∈ col, ∃ vs, d = .tup vs ∧ lenOk c vs.length ∧ ∀ v ∈ vs, rowOf (valOf n) (kinds (elemItems (.arr a wd sg c rg df))) (elR (.arr a wd sg c rg df) v) := fun d hdm => valOf_seq (it := .arr a wd sg c rg df) trivial (hv d hdm)
      have hvne : col.map tupD ≠ [] := fun e => hne (List.map_eq_nil_iff.mp e)
      refine lc_pure_id (xs := col) (fun d => .int ((tupD d).length : Nat)) (by omega) (fun d hdm m1 R hm hR => ?_) ?_
      · obtain ⟨vs, rfl, _⟩ := htup d hdm
        exact hR
      · have hlens : col.map (fun d => D.int ((tupD d).length : Nat)) = ((col.map tupD).map fun vs => ((vs.length : Nat) : Int)).map D.int := by
          rw [List.map_map, List.map_map]
          rfl
        rw [hlens]
        refine ⟨_, rfl, by rw [List.length_map, List.length_map]; omega, _, rfl, fun ns' hpm hsd => ?_⟩
        obtain ⟨nums, mx, hcast, hnums, hlast, hmx, hmax, hnl⟩ := seq_nums hvne hpm hsd
        rw [List.length_map] at hnl
        obtain ⟨d0, hd0, hlen0⟩ : ∃ d ∈ col, (tupD d).length = mx := by
          obtain ⟨vs, hvs, e⟩ := List.mem_map.mp ((hnums.1 mx).mp hmx)
          obtain ⟨d, hdm, rfl⟩ := List.mem_map.mp hvs
          exact ⟨d, hdm, e⟩
        have hmx100 : mx ≤ 100 := by
          obtain ⟨vs, rfl, h1, _⟩ := htup d0 hd0
          have := len_le h1
          have h2 : vs.length = mx := hlen0
          omega
        refine ⟨Nat.zero_le _, fun p hp => ?_⟩
        show onSome (atI (ns'.map D.int) (-1)) _
        rw [hlast]
        refine ⟨by omega, by omega, loop_rg (fun i g' m' => ∃ (y5 y8 y9 : Option D) (E : List D), g' = [some (.tup [.str "array", .str a, c.enc, .int (8 * wd.size : Nat), .bl sg, rg, df]), some (.lst col), none, none, none, y5, some (.lst (ns'.map D.int)), some (.adr p), y8, y9] ∧ m' = mset m p E ∧ E.length = i ∧ ∀ (j : Nat) (e' : D), E[j]? = some e' → ∃ P, wrapD (.arr a wd sg c rg df) e' = .tup P ∧ patOf (entOf n) (kinds (elemItems (.arr a wd sg c rg df))) (((col.map tupD).filterMap fun vs => vs[j]?).map (elR (.arr a wd sg c rg df))) P) ⟨none, none, none, [], rfl, rfl, rfl, fun j e' h => by simp at h⟩ (fun _ _ _ _ => trivial) (fun i g' m' hi hI => ?_) (fun g' m' hI => ?_)⟩
        · obtain ⟨y5, y8, y9, E, rfl, rfl, hE, hI⟩ := hI
          have hi' : i < mx := by omega
          walk_at "dr"
          refine lc_filter_id (xs := col) (fun d => decide (i < (tupD d).length)) (fun d => (tupD d)[i]?.getD .non) (by omega) (fun d hdm m1 R R' hm hT hF => ?_) ?_
          · obtain ⟨vs, rfl, _⟩ := htup d hdm
            by_cases h : i < vs.length
            · have hr := hT (decide_eq_true h)
              have e1 : atI vs ((i : Nat) : Int) = some (vs[i]?.getD .non) := by
                rw [atI_c, List.getElem?_eq_getElem h]
                rfl
              refine (show (if decide (((i : Nat) : Int) < ((vs.length : Nat) : Int)) = true then onSome (atI vs ((i : Nat) : Int)) (fun e => R e m1) else R' m1) from ?_)
              rw [if_pos (decide_eq_true (by omega)), e1]
              exact hr
            · refine (show (if decide (((i : Nat) : Int) < ((vs.length : Nat) : Int)) = true then onSome (atI vs ((i : Nat) : Int)) (fun e => R e m1) else R' m1) from ?_)
              rw [if_neg (by rw [decide_eq_false (by omega)]; exact Bool.false_ne_true)]
              exact hF (decide_eq_false h)
          · rw [found_eq i col]
            have hvm : ∀ v ∈ (col.map tupD).filterMap (fun vs => vs[i]?), rowOf (valOf n) (kinds (elemItems (.arr a wd sg c rg df))) (elR (.arr a wd sg c rg df) v)  := fun v hvv => by
              obtain ⟨vs, hvs, e⟩ := List.mem_filterMap.mp hvv
              obtain ⟨d, hdm, rfl⟩ := List.mem_map.mp hvs
              obtain ⟨vs2, rfl, _, h2⟩ := htup d hdm
              exact h2 v (List.mem_of_getElem? e)
            have hvn : (col.map tupD).filterMap (fun vs => vs[i]?) ≠ [] := fun e => by
              have hlt : i < (tupD d0).length := by omega
              have : (tupD d0)[i] ∈ (col.map tupD).filterMap (fun vs => vs[i]?) := List.mem_filterMap.mpr ⟨tupD d0, List.mem_map_of_mem hd0, List.getElem?_eq_getElem hlt⟩
              rw [e] at this
              cases this
            have hvl : ((col.map tupD).filterMap (fun vs => vs[i]?)).length ≤ 1000 := by
              refine Nat.le_trans (List.length_filterMap_le _ _) ?_
              rw [List.length_map]
              exact hcl
            have fin : ∀ (z5 z8 z9 : Option D) (e' : D), (∃ P, wrapD (.arr a wd sg c rg df) e' = .tup P ∧ patOf (entOf n) (kinds (elemItems (.arr a wd sg c rg df))) (((col.map tupD).filterMap fun vs => vs[i]?).map (elR (.arr a wd sg c rg df))) P) → ∃ ds, mset m p E p = some ds ∧ ds.length < sizeLine ∧ ∃ (y5 y8 y9 : Option D) (E2 : List D), [some (.tup [.str "array", .str a, c.enc, .int (8 * wd.size : Nat), .bl sg, rg, df]), some (.lst col), none, none, none, z5, some (.lst (ns'.map D.int)), some (.adr p), z8, z9] = [some (.tup [.str "array", .str a, c.enc, .int (8 * wd.size : Nat), .bl sg, rg, df]), some (.lst col), none, none, none, y5, some (.lst (ns'.map D.int)), some (.adr p), y8, y9] ∧ mset (mset m p E) p (ds ++ [e']) = mset m p E2 ∧ E2.length = i + 1 ∧ ∀ (j : Nat) (e2 : D), E2[j]? = some e2 → ∃ P, wrapD (.arr a wd sg c rg df) e2 = .tup P ∧ patOf (entOf n) (kinds (elemItems (.arr a wd sg c rg df))) (((col.map tupD).filterMap fun vs => vs[j]?).map (elR (.arr a wd sg c rg df))) P := fun z5 z8 z9 e' he' => ⟨_, mset_same, szl (by omega), z5, z8, z9, E ++ [e'], rfl, mset_mset, by rw [List.length_append, hE] <;> rfl, fun j e2 hj => by
              rcases Nat.lt_or_ge j i with z | z
              · rw [List.getElem?_append_left (by omega)] at hj
                exact hI j e2 hj
              · have hj2 := (List.getElem?_eq_some_iff.mp hj).1
                rw [List.length_append, List.length_singleton] at hj2
                have ej : j = i := by omega
                subst ej
                rw [← hE, List.getElem?_append_right (Nat.le_refl _), Nat.sub_self] at hj
                obtain rfl := Option.some.inj hj
                exact he'⟩
            have hvi : (col.map tupD).filterMap (fun vs => vs[i]?) = (((col.map tupD).filterMap fun vs => vs[i]?).map intD).map D.int := by
              rw [List.map_map]
              refine (List.map_id _).symm.trans (List.map_congr_left fun v hvv => ?_)
              obtain ⟨iv, rfl, _⟩ := arr_val (hvm v hvv)
              rfl
            generalize hvs : (col.map tupD).filterMap (fun vs => vs[i]?) = vs at hvi hvm hvn hvl fin
            have hon := onceL_len (vs.map intD) []
            rw [List.length_nil, List.length_map] at hon
            have hnm : ∀ x, x ∈ onceL [] (vs.map intD) ↔ x ∈ vs.map intD := fun x => by
              rw [onceL_mem]
              exact ⟨fun z => z.elim (fun q => nomatch q) id, .inr⟩
            have h8 := wd_le wd
            have h81 := wd_bits wd
            refine ⟨⟨_, mset_same⟩, ifF ne_ ⟨vs.map intD, by rw [← hvi], by rw [List.length_map]; omega, 8 * wd.size, _, rfl, by omega, by omega, ne_of_mem (fun e => hvn (List.map_eq_nil_iff.mp e)) (fun x => (hnm x).symm), by omega, fun x hx => ?_, fun e' he' => fin _ _ _ e' ⟨[e'], rfl, ?_⟩⟩⟩
            · obtain ⟨v, hvv, rfl⟩ := List.mem_map.mp ((hnm x).mp hx)
              obtain ⟨iv, rfl, hr⟩ := arr_val (hvm v hvv)
              exact inF_range hr
            · have z := he' (vs.map intD) hnm
              have z2 : ((vs.map fun v => [v]).map fun r => r.headD .non) = vs := by
                rw [List.map_map]
                exact List.map_id vs
              have z3 : entOf n (.num "" ⟨some "", 8 * wd.size, sg, rg, df⟩) ((vs.map fun v => [v]).map fun r => r.headD .non) e' := by
                rw [z2]
                cases n <;> exact z
              exact ⟨rfl, z3, trivial⟩
        · obtain ⟨y5, y8, y9, E, rfl, rfl, hE, hI⟩ := hI
          rw [Int.toNat_natCast] at hE
          walk_at "dr"
          refine ⟨_, mset_same, szr rfl, m, mset_ext hp, ?_⟩
          have hce : ns'.map D.int = nums.map fun k => D.int (k : Nat) := by
            rw [hcast, List.map_map]
            rfl
          rw [hce]
          refine q _ ⟨nums, E, hnums, by omega, rfl, by omega, fun vs hvs => ?_, hI⟩
          rw [hE]
          exact hmax _ ((hnums.1 _).mpr (List.mem_map_of_mem hvs))
    | list a c its =>
      rw [encK_list]
      walk_at "dr"
      refine ifF ne_ (ifF ne_ (ifF ne_ ?_))
      have hcm : cMax c ≤ 100 := hw.1.1
      have htup : ∀ d ∈ col, ∃ vs, d = .tup vs ∧ lenOk c vs.length ∧ ∀ v ∈ vs, rowOf (valOf n) (kinds (elemItems (.list a c its))) (elR (.list a c its) v) := fun d hdm => valOf_seq (it := .list a c its) trivial (hv d hdm)
      have hvne : col.map tupD ≠ [] := fun e => hne (List.map_eq_nil_iff.mp e)
      refine lc_pure_id (xs := col) (fun d => .int ((tupD d).length : Nat)) (by omega) (fun d hdm m1 R hm hR => ?_) ?_
      · obtain ⟨vs, rfl, _⟩ := htup d hdm
        exact hR
      · have hlens : col.map (fun d => D.int ((tupD d).length : Nat)) = ((col.map tupD).map fun vs => ((vs.length : Nat) : Int)).map D.int := by
          rw [List.map_map, List.map_map]
          rfl
        rw [hlens]
        refine ⟨_, rfl, by rw [List.length_map, List.length_map]; omega, _, rfl, fun ns' hpm hsd => ?_⟩
        obtain ⟨nums, mx, hcast, hnums, hlast, hmx, hmax, hnl⟩ := seq_nums hvne hpm hsd
        rw [List.length_map] at hnl
        obtain ⟨d0, hd0, hlen0⟩ : ∃ d ∈ col, (tupD d).length = mx := by
          obtain ⟨vs, hvs, e⟩ := List.mem_map.mp ((hnums.1 mx).mp hmx)
          obtain ⟨d, hdm, rfl⟩ := List.mem_map.mp hvs
          exact ⟨d, hdm, e⟩
        have hmx100 : mx ≤ 100 := by
          obtain ⟨vs, rfl, h1, _⟩ := htup d0 hd0
          have := len_le h1
          have h2 : vs.length = mx := hlen0
          omega
        refine ⟨Nat.zero_le _, fun p hp => ?_⟩
        show onSome (atI (ns'.map D.int) (-1)) _
        rw [hlast]
        refine ⟨by omega, by omega, loop_rg (fun i g' m' => ∃ (y5 y8 y9 : Option D) (E : List D), g' = [some (.tup [.str "list", .str a, c.enc, encL n its]), some (.lst col), none, none, none, y5, some (.lst (ns'.map D.int)), some (.adr p), y8, y9] ∧ m' = mset m p E ∧ E.length = i ∧ ∀ (j : Nat) (e' : D), E[j]? = some e' → ∃ P, wrapD (.list a c its) e' = .tup P ∧ patOf (entOf n) (kinds (elemItems (.list a c its))) (((col.map tupD).filterMap fun vs => vs[j]?).map (elR (.list a c its))) P) ⟨none, none, none, [], rfl, rfl, rfl, fun j e' h => by simp at h⟩ (fun _ _ _ _ => trivial) (fun i g' m' hi hI => ?_) (fun g' m' hI => ?_)⟩
        · obtain ⟨y5, y8, y9, E, rfl, rfl, hE, hI⟩ := hI
          have hi' : i < mx := by omega
          walk_at "dr"
          refine lc_filter_id (xs := col) (fun d => decide (i < (tupD d).length)) (fun d => (tupD d)[i]?.getD .non) (by omega) (fun d hdm m1 R R' hm hT hF => ?_) ?_
          · obtain ⟨vs, rfl, _⟩ := htup d hdm
            by_cases h : i < vs.length
            · have hr := hT (decide_eq_true h)
              have e1 : atI vs ((i : Nat) : Int) = some (vs[i]?.getD .non) := by
                rw [atI_c, List.getElem?_eq_getElem h]
                rfl
              refine (show (if decide (((i : Nat) : Int) < ((vs.length : Nat) : Int)) = true then onSome (atI vs ((i : Nat) : Int)) (fun e => R e m1) else R' m1) from ?_)
              rw [if_pos (decide_eq_true (by omega)), e1]
              exact hr
            · refine (show (if decide (((i : Nat) : Int) < ((vs.length : Nat) : Int)) = true then onSome (atI vs ((i : Nat) : Int)) (fun e => R e m1) else R' m1) from ?_)
              rw [if_neg (by rw [decide_eq_false (by omega)]; exact Bool.false_ne_true)]
              exact hF (decide_eq_false h)
          · rw [found_eq i col]
            have hvm : ∀ v ∈ (col.map tupD).filterMap (fun vs => vs[i]?), rowOf (valOf n) (kinds (elemItems (.list a c its))) (elR (.list a c its) v) ∧ ∃ r, v = .tup r := fun v hvv => by
              obtain ⟨vs, hvs, e⟩ := List.mem_filterMap.mp hvv
              obtain ⟨d, hdm, rfl⟩ := List.mem_map.mp hvs
              obtain ⟨vs2, rfl, _, h2⟩ := hv d hdm
              obtain ⟨h3, h4⟩ := h2 v (List.mem_of_getElem? e)
              exact ⟨h4, h3⟩
            have hvn : (col.map tupD).filterMap (fun vs => vs[i]?) ≠ [] := fun e => by
              have hlt : i < (tupD d0).length := by omega
              have : (tupD d0)[i] ∈ (col.map tupD).filterMap (fun vs => vs[i]?) := List.mem_filterMap.mpr ⟨tupD d0, List.mem_map_of_mem hd0, List.getElem?_eq_getElem hlt⟩
              rw [e] at this
              cases this
            have hvl : ((col.map tupD).filterMap (fun vs => vs[i]?)).length ≤ 1000 := by
              refine Nat.le_trans (List.length_filterMap_le _ _) ?_
              rw [List.length_map]
              exact hcl
            have fin : ∀ (z5 z8 z9 : Option D) (e' : D), (∃ P, wrapD (.list a c its) e' = .tup P ∧ patOf (entOf n) (kinds (elemItems (.list a c its))) (((col.map tupD).filterMap fun vs => vs[i]?).map (elR (.list a c its))) P) → ∃ ds, mset m p E p = some ds ∧ ds.length < sizeLine ∧ ∃ (y5 y8 y9 : Option D) (E2 : List D), [some (.tup [.str "list", .str a, c.enc, encL n its]), some (.lst col), none, none, none, z5, some (.lst (ns'.map D.int)), some (.adr p), z8, z9] = [some (.tup [.str "list", .str a, c.enc, encL n its]), some (.lst col), none, none, none, y5, some (.lst (ns'.map D.int)), some (.adr p), y8, y9] ∧ mset (mset m p E) p (ds ++ [e']) = mset m p E2 ∧ E2.length = i + 1 ∧ ∀ (j : Nat) (e2 : D), E2[j]? = some e2 → ∃ P, wrapD (.list a c its) e2 = .tup P ∧ patOf (entOf n) (kinds (elemItems (.list a c its))) (((col.map tupD).filterMap fun vs => vs[j]?).map (elR (.list a c its))) P := fun z5 z8 z9 e' he' => ⟨_, mset_same, szl (by omega), z5, z8, z9, E ++ [e'], rfl, mset_mset, by rw [List.length_append, hE] <;> rfl, fun j e2 hj => by
              rcases Nat.lt_or_ge j i with z | z
              · rw [List.getElem?_append_left (by omega)] at hj
                exact hI j e2 hj
              · have hj2 := (List.getElem?_eq_some_iff.mp hj).1
                rw [List.length_append, List.length_singleton] at hj2
                have ej : j = i := by omega
                subst ej
                rw [← hE, List.getElem?_append_right (Nat.le_refl _), Nat.sub_self] at hj
                obtain rfl := Option.some.inj hj
                exact he'⟩
            have hvi : (col.map tupD).filterMap (fun vs => vs[i]?) = (((col.map tupD).filterMap fun vs => vs[i]?).map tupD).map D.tup := by
              rw [List.map_map]
              refine (List.map_id _).symm.trans (List.map_congr_left fun v hvv => ?_)
              obtain ⟨_, r, rfl⟩ := hvm v hvv
              rfl
            generalize hvs : (col.map tupD).filterMap (fun vs => vs[i]?) = vs at hvi hvm hvn hvl fin
            refine ⟨⟨_, mset_same⟩, ifT rfl ⟨its, vs.map tupD, by rw [← hvi], hw.1.2, fun e => hvn (List.map_eq_nil_iff.mp e), by rw [List.length_map]; exact hvl, fun r hr => ?_, fun P' hP' => fin _ _ _ (.tup P') ⟨P', rfl, hP'⟩⟩⟩
            obtain ⟨v, hvv, rfl⟩ := List.mem_map.mp hr
            exact (hvm v hvv).1
        · obtain ⟨y5, y8, y9, E, rfl, rfl, hE, hI⟩ := hI
          rw [Int.toNat_natCast] at hE
          walk_at "dr"
          refine ⟨_, mset_same, szr rfl, m, mset_ext hp, ?_⟩
          have hce : ns'.map D.int = nums.map fun k => D.int (k : Nat) := by
            rw [hcast, List.map_map]
            rfl
          rw [hce]
          refine q _ ⟨nums, E, hnums, by omega, rfl, by omega, fun vs hvs => ?_, hI⟩
          rw [hE]
          exact hmax _ ((hnums.1 _).mpr (List.mem_map_of_mem hvs))
    | word _ _ =>
      obtain ⟨c, hc⟩ := List.exists_mem_of_ne_nil _ hne
      exact (hv c hc).elim
    | lit _ =>
      obtain ⟨c, hc⟩ := List.exists_mem_of_ne_nil _ hne
      exact (hv c hc).elim
    | res _ =>
      obtain ⟨c, hc⟩ := List.exists_mem_of_ne_nil _ hne
      exact (hv c hc).elim
    | chk _ =>
      obtain ⟨c, hc⟩ := List.exists_mem_of_ne_nil _ hne
      exact (hv c hc).elim
theorem sc_l_pattern : FnScope ["_law_items", "_law_rows", "_law_entries", "_law_kind", "_law_at", "_law_row"] ["_law_items", "_law_rows"] (defScope s_l_pattern) := ⟨rfl, rfl, rfl, by decide +kernel, rfl, by decide +kernel, by decide +kernel⟩
theorem cal_l_pattern (k : Nat) (D0 : Def K mg "_law_pattern" s_l_pattern) (B : Blt mg) (c_l_kinds : Cal P w K mg base "_law_kinds" (2) ["_law_items"] (up K 1 sp_l_kinds)) (c_l_pattern_of : Cal P w K mg base "_law_pattern_of" (10*k+5 + 1) ["_law_kind", "_law_things"] (up K 2 (sp_patofN k)))  : Cal P w K mg base "_law_pattern" (10*k+6 + 1) ["_law_items", "_law_rows"] (up K 2 (sp_patternN k)) := by
  refine D0.cal (N := ["_law_items", "_law_rows", "_law_entries", "_law_kind", "_law_at", "_law_row"]) (k := 10*k+6) sc_l_pattern [none, none, none, none] rfl (fun _ _ _ _ _ _ us hl => match us, hl with | [_, _], _ => rfl) (fun f cdv A outer s H E hr => ⟨_, _,
(dss_cons (ds_set (i := 2) sc_l_pattern.nd rfl (.inl rfl) (de_new da_nil))
(dss_cons (ds_for PassesOwn.never rfl (di_seq (de_call c_l_kinds (hr.mono (by first | decide | omega)) (by rfl) (da_cons (dv 0) da_nil))) (dg_name (i := 3) sc_l_pattern.nd rfl (.inl rfl))
(dss_cons (ds_set (i := 4) sc_l_pattern.nd rfl (.inr rfl) (de_cb rLen' call_len_seq sc_len (by rfl) B.len bt_len (da_cons (dv 2) da_nil)))
(dss_one (ds_expr (de_append (dv 2) (de_call c_l_pattern_of (hr.mono (by first | decide | omega)) (by rfl) (da_cons (dv 3) (da_cons (de_lc (own := [("_law_row", 5)]) rfl sc_l_pattern.nd (di_seq (dv 1)) (blkOk_by (N := ["_law_items", "_law_rows", "_law_entries", "_law_kind", "_law_at", "_law_row"]) (sc := defScope s_l_pattern) (own := [("_law_row", 5)]) (by decide +kernel)) (fun _ _ _ _ _ => (dg_name (i := 5) sc_l_pattern.nd rfl (.inl rfl))) (keepN 5) (fun _ _ _ _ _ => dts_nil) (fun _ _ _ _ _ => (de_ix (dv 5) (dv 4))) (by intro _; rfl) s H) da_nil))))))))
(dss_one (ds_retW (de_ct rTupOf call_tuple_of sc_tup (by rfl) B.tuple bt_tuple (da_cons (dv 2) da_nil)))))),
    fun ds m Q hl hs => ?_⟩)
  -- slots: 0 _law_items 1 _law_rows 2 _law_entries 3 _law_kind 4 _law_at 5 _law_row
  obtain ⟨its, rows, rfl, hw, hne, hrl, hr, q⟩ := hs
  have hkl := kinds_le hw
  refine ⟨Nat.zero_le _, fun p hp => ⟨rfl, k, its, rfl, hw, ?_⟩⟩
  refine loop_map (f := encK k) (fun pp g' m' => ∃ (y1 y2 y3 : Option D) (E : List D), g' = [some (encL k its), some (.lst (rows.map D.tup)), some (.adr p), y1, y2, y3] ∧ m' = mset m p E ∧ E.length = pp.length ∧ ∀ (i : Nat) (kd : Kind), pp[i]? = some kd → entOf k kd (rows.map fun r => r[i]?.getD .non) (E[i]?.getD .non)) ⟨none, none, none, [], rfl, rfl, rfl, fun i kd h => by simp at h⟩ (fun _ _ _ _ => trivial) (fun pre x post g' m' hd hI => ?_) (fun g' m' hI => ?_)
  · obtain ⟨y1, y2, y3, E, rfl, rfl, hE, hI⟩ := hI
    have hx : (kinds its)[pre.length]? = some x := by
      rw [hd, List.getElem?_append_right (Nat.le_refl _), Nat.sub_self]
      rfl
    have hpl : pre.length < (kinds its).length := (List.getElem?_eq_some_iff.mp hx).1
    walk_at "dr"
    refine ⟨_, mset_same, ⟨_, mset_same⟩, lc_pure (f := D.tup) (fun r => r[pre.length]?.getD .non) (by omega) (fun r hrm m1 R hm hR => ?_) ?_⟩
    · have hrl2 : pre.length < r.length := by
        rw [(hr r hrm).1]
        exact hpl
      have e1 : atI r ((E.length : Nat) : Int) = some (r[pre.length]?.getD .non) := by
        rw [hE, atI_c, List.getElem?_eq_getElem hrl2]
        rfl
      exact (show onSome (atI r ((E.length : Nat) : Int)) (fun e => R e m1) from by
        rw [e1]
        exact hR)
    · refine ⟨x, _, rfl, wfK_of hw x (List.mem_of_getElem? hx), fun e => hne (List.map_eq_nil_iff.mp e), by rw [List.length_map]; exact hrl, fun c hc => ?_, fun e he => ?_⟩
      · obtain ⟨r, hrm, rfl⟩ := List.mem_map.mp hc
        exact rowIn_get (hr r hrm).2 hx
      · refine ⟨_, mset_same, szl (by omega), _, _, _, E ++ [e], rfl, mset_mset, by rw [List.length_append, List.length_append, hE] <;> rfl, fun i kd hi => ?_⟩
        rcases Nat.lt_or_ge i pre.length with z | z
        · rw [List.getElem?_append_left z] at hi
          rw [List.getElem?_append_left (by omega)]
          exact hI i kd hi
        · have hi2 : i < (pre ++ [x]).length := (List.getElem?_eq_some_iff.mp hi).1
          rw [List.length_append, List.length_singleton] at hi2
          have ei : i = pre.length := by omega
          subst ei
          rw [List.getElem?_append_right (Nat.le_refl _), Nat.sub_self] at hi
          rw [← hE, List.getElem?_append_right (Nat.le_refl _), Nat.sub_self, hE]
          obtain rfl := Option.some.inj hi
          exact he
  · obtain ⟨y1, y2, y3, E, rfl, rfl, hE, hI⟩ := hI
    walk_at "dr"
    exact ⟨_, mset_same, m, mset_ext hp, q E ⟨hE, patIn_of hI⟩⟩
end
end BB

namespace BB
open PySem PySem.Spec PyProof.Rows L2
local macro_rules | `(tactic| walk_at "dl") => `(tactic| simp only [dIfS, dIfE, dTest, dOp, dVar, dC, dIx, dEq, dNe, dI, dIc, dIsN, dNotN, isNonD, dAndT, dOrT, dNotT, dAndV, dNeg, dAdd, dTup, dLst, dCons, dNil, dCB, dCall, dLc, true_and, dLen, dInt1, dInt2, withSeq, with1_1, onSome_some, atI_0, atI_1, atI_2, atI_3, atI_4, atI_5, atI_6, List.getElem?_cons_succ, List.getElem?_cons_zero, List.set_cons_zero, List.set_cons_succ, gdN, Part.enc, encN, Bool.not_true, Bool.not_false, mapS_cons, mapS_nil, List.length_cons, List.length_nil, List.cons_append, List.nil_append, gdTup, gdCons, gdNil, dAppend, dExtend, dListF, dTupOf, dMul, dSl, dNoP, dPart])
local macro_rules | `(tactic| walk_at "dr") => `(tactic| simp only [dSeq, dAsg, dRet, dRetW, dDrop, dNext, dFor, diSeq, dIfS, dIfE, dTest, dOp, dVar, dC, dIx, dEq, dNe, dI, dIc, dIsN, dNotN, isNonD, dAndT, dOrT, dNotT, dAndV, dNeg, dAdd, dTup, dLst, dCons, dNil, dCB, dCall, dLc, true_and, dLen, dInt1, dInt2, withSeq, with1_1, onSome_some, atI_0, atI_1, atI_2, atI_3, atI_4, atI_5, atI_6, List.getElem?_cons_succ, List.getElem?_cons_zero, List.set_cons_zero, List.set_cons_succ, gdN, Part.enc, encN, Bool.not_true, Bool.not_false, mapS_cons, mapS_nil, List.length_cons, List.length_nil, List.cons_append, List.nil_append, gdTup, gdCons, gdNil, dAppend, dExtend, dListF, dTupOf, dMul, dSl, dNoP, dPart])

/-! ## the tape -/
def Tape (l : List D) : Prop := ∃ (ns : List Int) (pl nu to : Int), l = [.lst (ns.map D.int), .int pl, .int nu, .int to] ∧ 0 ≤ pl ∧ 0 ≤ nu ∧ 0 ≤ to
def sp_l_tape : SpD := fun ds m Q => ∃ ns : List Int, ds = [.scr ns] ∧ ∀ t l, m t = none → Tape l → Q (.adr t) (mset m t l)
def sp_l_draw : SpD := fun ds m Q => ∃ (t : Addr) (many : Int) (l : List D), ds = [.adr t, .int many] ∧ 1 ≤ many ∧ many < 2 ^ 30 ∧ m t = some l ∧ Tape l ∧ ∀ (r : Nat) (l' : List D), (r : Int) < many → Tape l' → Q (.int r) (mset m t l')
theorem abs_nn (i : Int) : 0 ≤ (if i < 0 then -i else i) := by
  split <;> omega
abbrev mxf : Int → Int → Int := fun i j => if j > i then j else i
abbrev drMod : TSD := dRet (dOp dMod (dCB (dInt1 fun i => i) (dCons (dVar 3) dNil)) (dCB (dInt2 mxf) (dCons (dVar 1) (dCons (dC (.int 1)) dNil))))
abbrev drEnd : TSD := dSeq (dAsg (dOp dIx (dVar 0) (dC (.int 2))) (gdN 3)) (dSeq (dAsg (dOp dFdv (dVar 3) (dCB (dInt2 mxf) (dCons (dVar 1) (dCons (dC (.int 2)) dNil)))) (gdSub (dVar 0) (dC (.int 2)))) drMod)
abbrev drMid : TSD := dSeq (dAsg (dOp dAdd (dVar 2) (dC (.int 1))) (gdSub (dVar 0) (dC (.int 1)))) (dSeq (dIfS (dTest (dOp dLt (dVar 3) (dOp dPow (dC (.int 10)) (dC (.int 18)))))
  (dSeq (dAsg (dOp dMod (dCB (dInt1 fun i => i) (dCons (dOp dAdd (dOp dAdd (dOp dMul (dVar 3) (dC (.int 48271))) (dOp dMul (dVar 2) (dC (.int 69621)))) (dC (.int 5))) dNil)) (dC (.int 2147483647))) (gdN 3))
  (dSeq (dAsg (dOp dMod (dCB (dInt1 fun i => i) (dCons (dOp dMul (dVar 3) (dC (.int 69621))) dNil)) (dC (.int 2147483629))) (gdN 3)) drMod)) dNext) (dAsg (dVar 3) (gdSub (dVar 0) (dC (.int 2)))))
theorem dr_mod {x many : Int} {m : Mu} {l : List D} {Q : D → Mu → Prop} {t : Addr} {y2 : Option D} {E : EndsD} (he : E.rt = Q) (h1 : 1 ≤ many) (hl : Tape l) (q : ∀ (r : Nat) (l' : List D), (r : Int) < many → Tape l' → Q (.int r) (mset m t l')) : drMod E [some (.adr t), some (.int many), y2, some (.int x)] (mset m t l) := by
  have hmx1 : mxf many 1 = many := if_neg (by omega)
  have z1 := Int.emod_nonneg x (show many ≠ 0 by omega)
  have z2 := Int.emod_lt_of_pos x (show 0 < many by omega)
  have z := q (x % many).toNat l (by rw [Int.toNat_of_nonneg z1]; exact z2) hl
  rw [Int.toNat_of_nonneg z1] at z
  refine (show 0 < mxf many 1 ∧ E.rt (.int (x % mxf many 1)) (mset m t l) from ?_)
  rw [hmx1, he]
  exact ⟨by omega, z⟩
theorem dr_end {pl nu to many : Int} {m : Mu} {ns : List Int} {Q : D → Mu → Prop} {t : Addr} {y2 y3 : Option D} {N : Env' → Mu → Prop} (ht : m t = some [.lst (ns.map D.int), .int pl, .int nu, .int to]) (hpl : 0 ≤ pl) (hnu : 0 ≤ nu) (hto : 0 ≤ to) (h1 : 1 ≤ many) (h2 : many < 2 ^ 30)
    (q : ∀ (r : Nat) (l' : List D), (r : Int) < many → Tape l' → Q (.int r) (mset m t l')) : drEnd ⟨N, Q⟩ [some (.adr t), some (.int many), y2, y3] m := by
  have h3 : 0 < mxf many 2 ∧ mxf many 2 < 1073741824 := by
    unfold mxf
    split <;> omega
  refine ⟨_, ht, h3, _, 2, ht, rfl, ?_⟩
  exact dr_mod (y2 := y2) (l := [.lst (ns.map D.int), .int pl, .int (nu / mxf many 2), .int to]) rfl h1 ⟨ns, pl, _, to, rfl, hpl, Int.ediv_nonneg hnu (by omega), hto⟩ q
theorem dr_mid {pl nb nu to many : Int} {m : Mu} {ns : List Int} {Q : D → Mu → Prop} {t : Addr} {N : Env' → Mu → Prop} (ht : m t = some [.lst (ns.map D.int), .int pl, .int nu, .int to]) (hpl : 0 ≤ pl) (hnb : 0 ≤ nb) (hnu : 0 ≤ nu) (hto : 0 ≤ to) (h1 : 1 ≤ many) (h2 : many < 2 ^ 30)
    (q : ∀ (r : Nat) (l' : List D), (r : Int) < many → Tape l' → Q (.int r) (mset m t l')) : drMid ⟨drEnd ⟨N, Q⟩, Q⟩ [some (.adr t), some (.int many), some (.int pl), some (.int nb)] m := by
  refine ⟨_, 1, ht, rfl, ⟨by decide, by decide, by decide⟩, ?_⟩
  show if decide (nb < (10 : Int) ^ ((18 : Int)).toNat) = true then _ else _
  refine ifD (fun h => ?_) (fun h => ?_)
  · refine ⟨.inr ⟨by decide, by decide⟩, .inr ⟨by decide, by decide⟩, (by decide : (0 : Int) < 2147483647), .inr ⟨by decide, by decide⟩, (by decide : (0 : Int) < 2147483629), ?_⟩
    exact dr_mod (y2 := some (.int pl)) (l := [.lst (ns.map D.int), .int (pl + 1), .int nu, .int to]) rfl h1 ⟨ns, _, _, _, rfl, by omega, hnu, hto⟩ q
  · refine ⟨_, 2, mset_same, rfl, ?_⟩
    refine dr_end (pl := pl + 1) (nu := nb) (to := to) (ns := ns) mset_same (by omega) hnb hto h1 h2 fun r l' hr hl' => ?_
    rw [mset_mset, mset_mset]
    exact q r l' hr hl'
section
variable {P : Program} {w : World} {K : PySem.W.Frag} {mg : Str → Option Value} {base : Heap}
theorem sc_l_tape : FnScope ["_law_script", "_law_total", "_law_cell"] ["_law_script"] (defScope s_l_tape) := ⟨rfl, rfl, rfl, by decide +kernel, rfl, by decide +kernel, by decide +kernel⟩
theorem cal_l_tape  (D0 : Def K mg "_law_tape" s_l_tape) (B : Blt mg)   : Cal P w K mg base "_law_tape" (1) ["_law_script"] (up K 1 sp_l_tape) := by
  refine D0.cal (N := ["_law_script", "_law_total", "_law_cell"]) (k := 0) sc_l_tape [none, none] rfl (fun _ _ _ _ _ _ us hl => match us, hl with | [_], _ => rfl) (fun f cdv A outer s H E hr => ⟨_, _,
(dss_cons (ds_set (i := 1) sc_l_tape.nd rfl (.inl rfl) de_int)
(dss_cons (ds_for PassesOwn.never rfl (di_seq (dv 0)) (dg_name (i := 2) sc_l_tape.nd rfl (.inl rfl))
(dss_one (ds_set (i := 1) sc_l_tape.nd rfl (.inl rfl) (de_mod (de_ct rInt' call_int1 sc_int (by rfl) B.int bt_int (da_cons (de_add (de_mul (dv 1) de_int) (de_cb rAbs' call_abs sc_abs (by rfl) B.abs bt_abs (da_cons (de_ct rInt' call_int1 sc_int (by rfl) B.int bt_int (da_cons (dv 2) da_nil)) da_nil))) da_nil)) de_int))))
(dss_one (ds_ret (de_new (da_cons (de_ct rListOf call_list_of sc_list (by rfl) B.list bt_list (da_cons (dv 0) da_nil)) (da_cons de_int (da_cons de_int (da_cons (dv 1) da_nil))))))))),
    fun ds m Q hl hs => ?_⟩)
  -- slots: 0 _law_script 1 _law_total 2 _law_cell
  obtain ⟨ns, rfl, q⟩ := hs
  refine loop_map (f := D.int) (fun pp g' m' => ∃ (y : Option D) (to : Int), g' = [some (.scr ns), some (.int to), y] ∧ m' = m ∧ 0 ≤ to) ⟨none, 7, rfl, rfl, by decide⟩ (fun _ _ _ _ => trivial) (fun pre x post g' m' hd hI => ?_) (fun g' m' hI => ?_)
  · obtain ⟨y, to, rfl, rfl, hto⟩ := hI
    walk_at "dr"
    exact ⟨.inr ⟨by decide, by decide⟩, by decide, _, _, rfl, Int.emod_nonneg _ (by decide)⟩
  · obtain ⟨y, to, rfl, rfl, hto⟩ := hI
    walk_at "dr"
    exact ⟨szr rfl, fun p hp => q p _ hp ⟨ns, 0, 0, to, rfl, by decide, by decide, hto⟩⟩
theorem sc_l_draw : FnScope ["_law_tape_here", "_law_many", "_law_place", "_law_number"] ["_law_tape_here", "_law_many"] (defScope s_l_draw) := ⟨rfl, rfl, rfl, by decide +kernel, rfl, by decide +kernel, by decide +kernel⟩
theorem cal_l_draw  (D0 : Def K mg "_law_draw" s_l_draw) (B : Blt mg)   : Cal P w K mg base "_law_draw" (1) ["_law_tape_here", "_law_many"] (up K 2 sp_l_draw) := by
  refine D0.cal (N := ["_law_tape_here", "_law_many", "_law_place", "_law_number"]) (k := 0) sc_l_draw [none, none] rfl (fun _ _ _ _ _ _ us hl => match us, hl with | [_, _], _ => rfl) (fun f cdv A outer s H E hr => ⟨_, _,
(dss_cons (ds_if (dt_eq (de_ix (dv 0) de_int) de_int)
(dss_cons (ds_set (i := 2) sc_l_draw.nd rfl (.inl rfl) (de_ix (dv 0) de_int))
(dss_cons (ds_set (i := 3) sc_l_draw.nd rfl (.inl rfl) de_int)
(dss_cons (ds_if (dt_lt (dv 2) (de_cb rLen' call_len_seq sc_len (by rfl) B.len bt_len (da_cons (de_ix (dv 0) de_int) da_nil)))
(dss_one (ds_set (i := 3) sc_l_draw.nd rfl (.inl rfl) (de_cb rAbs' call_abs sc_abs (by rfl) B.abs bt_abs (da_cons (de_ct rInt' call_int1 sc_int (by rfl) B.int bt_int (da_cons (de_ix (de_ix (dv 0) de_int) (dv 2)) da_nil)) da_nil))))
(dss_cons (ds_asg (de_mod (de_ct rInt' call_int1 sc_int (by rfl) B.int bt_int (da_cons (de_add (de_add (de_mul (de_ix (dv 0) de_int) de_int) (dv 2)) de_int) da_nil)) de_int) (dg_sub (dv 0) de_int))
(dss_one (ds_set (i := 3) sc_l_draw.nd rfl (.inl rfl) (de_ix (dv 0) de_int)))))
(dss_cons (ds_asg (de_add (dv 2) de_int) (dg_sub (dv 0) de_int))
(dss_cons (ds_if (dt_lt (dv 3) (de_pow de_int de_int))
(dss_cons (ds_set (i := 3) sc_l_draw.nd rfl (.inl rfl) (de_mod (de_ct rInt' call_int1 sc_int (by rfl) B.int bt_int (da_cons (de_add (de_add (de_mul (dv 3) de_int) (de_mul (dv 2) de_int)) de_int) da_nil)) de_int))
(dss_cons (ds_set (i := 3) sc_l_draw.nd rfl (.inl rfl) (de_mod (de_ct rInt' call_int1 sc_int (by rfl) B.int bt_int (da_cons (de_mul (dv 3) de_int) da_nil)) de_int))
(dss_one (ds_ret (de_mod (de_ct rInt' call_int1 sc_int (by rfl) B.int bt_int (da_cons (dv 3) da_nil)) (de_cb rMax' (call_max2 rfl) sc_max (by rfl) B.max bt_max (da_cons (dv 1) (da_cons de_int da_nil))))))))
dss_nil)
(dss_one (ds_asg (dv 3) (dg_sub (dv 0) de_int))))))))
dss_nil)
(dss_cons (ds_set (i := 3) sc_l_draw.nd rfl (.inl rfl) (de_ix (dv 0) de_int))
(dss_cons (ds_asg (de_fdv (dv 3) (de_cb rMax' (call_max2 rfl) sc_max (by rfl) B.max bt_max (da_cons (dv 1) (da_cons de_int da_nil)))) (dg_sub (dv 0) de_int))
(dss_one (ds_ret (de_mod (de_ct rInt' call_int1 sc_int (by rfl) B.int bt_int (da_cons (dv 3) da_nil)) (de_cb rMax' (call_max2 rfl) sc_max (by rfl) B.max bt_max (da_cons (dv 1) (da_cons de_int da_nil))))))))),
    fun ds m Q hl hs => ?_⟩)
  -- slots: 0 _law_tape_here 1 _law_many 2 _law_place 3 _law_number
  obtain ⟨t, many, l, rfl, h1, h2, ht, ⟨ns, pl, nu, to, rfl, hpl, hnu, hto⟩, q⟩ := hs
  have tp : ∀ pl nu to : Int, 0 ≤ pl → 0 ≤ nu → 0 ≤ to → Tape [.lst (ns.map D.int), .int pl, .int nu, .int to] := fun pl nu to a b c => ⟨ns, pl, nu, to, rfl, a, b, c⟩
  refine ⟨_, ht, ?_⟩
  show if decide (nu = 0) = true then _ else _
  refine ifD (fun h0 => ?_) (fun h0 => ?_)
  · refine ⟨_, ht, ⟨_, ht, ?_⟩⟩
    show if decide (pl < (((ns.map D.int).length : Nat) : Int)) = true then _ else _
    refine ifD (fun h3 => ?_) (fun h3 => ?_)
    · obtain ⟨k, rfl⟩ : ∃ k : Nat, pl = k := ⟨pl.toNat, (Int.toNat_of_nonneg hpl).symm⟩
      have hk : k < ns.length := by
        rw [List.length_map] at h3
        omega
      have hat : atI (ns.map D.int) ((k : Nat) : Int) = some (.int ns[k]) := by
        rw [atI_c, List.getElem?_map, List.getElem?_eq_getElem hk]
        rfl
      refine ⟨_, ht, ?_⟩
      show onSome (atI (ns.map D.int) ((k : Nat) : Int)) _
      rw [hat]
      exact dr_mid ht hpl (abs_nn _) hnu hto h1 h2 q
    · refine ⟨_, ht, .inr ⟨by decide, by decide⟩, (by decide : (0 : Int) < 2147483647), _, 3, ht, rfl, _, mset_same, ?_⟩
      refine dr_mid mset_same hpl (Int.emod_nonneg _ (by decide)) hnu (Int.emod_nonneg _ (by decide)) h1 h2 fun r l' hr hl' => ?_
      rw [mset_mset]
      exact q r l' hr hl'
  · exact dr_end ht hpl hnu hto h1 h2 q
end
end BB

namespace BB
open PySem PySem.Spec PyProof.Rows L2
local macro_rules | `(tactic| walk_at "dl") => `(tactic| simp only [dIfS, dIfE, dTest, dOp, dVar, dC, dIx, dEq, dNe, dI, dIc, dIsN, dNotN, isNonD, dAndT, dOrT, dNotT, dAndV, dNeg, dAdd, dTup, dLst, dCons, dNil, dCB, dCall, dLc, true_and, dLen, dInt1, dInt2, withSeq, with1_1, onSome_some, atI_0, atI_1, atI_2, atI_3, atI_4, atI_5, atI_6, List.getElem?_cons_succ, List.getElem?_cons_zero, List.set_cons_zero, List.set_cons_succ, gdN, Part.enc, encN, Bool.not_true, Bool.not_false, mapS_cons, mapS_nil, List.length_cons, List.length_nil, List.cons_append, List.nil_append, gdTup, gdCons, gdNil, dAppend, dExtend, dListF, dTupOf, dMul, dSl, dNoP, dPart])
local macro_rules | `(tactic| walk_at "dr") => `(tactic| simp only [dSeq, dAsg, dRet, dRetW, dDrop, dNext, dFor, diSeq, dIfS, dIfE, dTest, dOp, dVar, dC, dIx, dEq, dNe, dI, dIc, dIsN, dNotN, isNonD, dAndT, dOrT, dNotT, dAndV, dNeg, dAdd, dTup, dLst, dCons, dNil, dCB, dCall, dLc, true_and, dLen, dInt1, dInt2, withSeq, with1_1, onSome_some, atI_0, atI_1, atI_2, atI_3, atI_4, atI_5, atI_6, List.getElem?_cons_succ, List.getElem?_cons_zero, List.set_cons_zero, List.set_cons_succ, gdN, Part.enc, encN, Bool.not_true, Bool.not_false, mapS_cons, mapS_nil, List.length_cons, List.length_nil, List.cons_append, List.nil_append, gdTup, gdCons, gdNil, dAppend, dExtend, dListF, dTupOf, dMul, dSl, dNoP, dPart])

/-! ## fresh names -/
def sp_l_name : SpD := fun ds m Q => ∃ (t u : Addr) (l : List D) (used : List Str), ds = [.adr t, .adr u] ∧ t ≠ u ∧ m t = some l ∧ Tape l ∧ m u = some (used.map D.str) ∧ used.length ≤ 20 ∧ ∀ (s : Str) (l' : List D), s ∉ used → s.length ≤ 100 → Tape l' → Q (.str s) (mset m t l')
theorem nodup_sub {α : Type} [DecidableEq α] : ∀ {l u : List α}, l.Nodup → (∀ x ∈ l, x ∈ u) → l.length ≤ u.length
  | [], _, _, _ => Nat.zero_le _
  | x :: l, u, hn, hs => by
    rw [List.nodup_cons] at hn
    have hx := hs x List.mem_cons_self
    have z := nodup_sub (l := l) (u := u.erase x) hn.2 fun y hy => by
      have hne : y ≠ x := fun e => hn.1 (e ▸ hy)
      exact (List.mem_erase_of_ne hne).mpr (hs y (List.mem_cons_of_mem _ hy))
    have hl := List.length_erase_of_mem hx
    have hp := List.length_pos_of_mem hx
    rw [List.length_cons]
    omega
def strI (k : Nat) : Str := ((toString ((k : Nat) : Int) : String) : Str)
theorem strI_ok : ∀ i, i < 20 → ((strI i).length ≤ 20 ∧ 1 ≤ (strI i).length) := by decide +kernel
theorem strI_inj : ∀ i, i < 20 → ∀ j, j < 20 → strI i = strI j → i = j := by decide +kernel
theorem str_app_inj {a b c : Str} (h : a ++ b = a ++ c) : b = c := by
  have h1 : a.cps ++ b.cps = a.cps ++ c.cps := congrArg Str.cps h
  have h2 := congrArg Array.toList h1
  rw [Array.toList_append, Array.toList_append] at h2
  have h3 := Array.toList_inj.mp (List.append_cancel_left h2)
  cases b
  cases c
  exact congrArg Str.mk h3
theorem str_app_len (a b : Str) : (a ++ b).length = a.length + b.length := by
  show (a.cps ++ b.cps).size = a.cps.size + b.cps.size
  exact Array.size_append
/-- name, name0, name1, .. -/
def cand (a : Str) : Nat → Str
  | 0 => a
  | k + 1 => a ++ strI k
theorem cand_inj {a : Str} {i j : Nat} (hi : i ≤ 20) (hj : j ≤ 20) (h : cand a i = cand a j) : i = j := by
  cases i with
  | zero =>
    cases j with
    | zero => rfl
    | succ j =>
      have z := congrArg Str.length h
      have z2 : a.length = (a ++ strI j).length := z
      rw [str_app_len] at z2
      have := (strI_ok j (by omega)).2
      omega
  | succ i =>
    cases j with
    | zero =>
      have z := congrArg Str.length h
      have z2 : (a ++ strI i).length = a.length := z
      rw [str_app_len] at z2
      have := (strI_ok i (by omega)).2
      omega
    | succ j => exact congrArg _ (strI_inj i (by omega) j (by omega) (str_app_inj h))
theorem fresh_of {a : Str} {used : List Str} (hl : used.length ≤ 20) {f : Str} (h : f ∈ used → ∀ k, k ≤ used.length → cand a k ∈ used) : f ∉ used := fun hf => by
  have hall := h hf
  have hn : ((List.range (used.length + 1)).map (cand a)).Nodup := by
    refine List.pairwise_map.mpr (List.Pairwise.imp_of_mem ?_ List.nodup_range)
    intro x y hx hy hne e
    have h1 := List.mem_range.mp hx
    have h2 := List.mem_range.mp hy
    exact hne (cand_inj (by omega) (by omega) e)
  have z := nodup_sub hn fun x hx => by
    obtain ⟨k, hk, rfl⟩ := List.mem_map.mp hx
    exact hall k (by have := List.mem_range.mp hk; omega)
  rw [List.length_map, List.length_range] at z
  omega
theorem strs_at {ss : List Str} {b : Nat} (hall : ∀ s ∈ ss, s.length ≤ b) {r : Nat} (hr : r < ss.length) : ∃ s, atI (ss.map D.str) ((r : Nat) : Int) = some (.str s) ∧ s.length ≤ b := by
  refine ⟨ss[r], ?_, hall _ (List.getElem_mem hr)⟩
  rw [atI_c, List.getElem?_map, List.getElem?_eq_getElem hr]
  rfl
theorem sign_at {s : Str} {r : Nat} (hr : r < s.length) : ∃ c, atI s.cps.toList ((r : Nat) : Int) = some c := by
  have h : r < s.cps.toList.length := by
    rw [Array.length_toList]
    exact hr
  exact ⟨s.cps.toList[r], by rw [atI_c, List.getElem?_eq_getElem h]⟩
def signsS : Str := "abcdefghijklmnopqrstuvwxyzABCDEFGHIJKLMNOPQRSTUVWXYZ0123456789_"
def wordsS : Str := "signed case u8 in list default bits choice record literal reserved check marked sum xor i8 length value"
theorem signs_len : signsS.length = 63 := by decide +kernel
theorem words_ok : (Txt.split wordsS " ").length = 18 ∧ (∀ s ∈ Txt.split wordsS " ", s.length ≤ 20) ∧ wordsS.length + 2 ≤ 1000 := by decide +kernel
abbrev dDraw (k : Int) : TED := dCall 2 sp_l_draw (dCons (dVar 0) (dCons (dC (.int k)) dNil))
abbrev nmF : TSD := dSeq (dAsg (dVar 4) (gdN 6)) (dSeq (dFor (diRg1 (dCB dLen (dCons (dVar 1) dNil))) (gdN 5) (dIfS (dTest (dOp (dIn false) (dVar 6) (dVar 1))) (dAsg (dOp dAdd (dVar 4) (dCB dStrI (dCons (dVar 5) dNil))) (gdN 6)) dNext)) (dRet (dVar 6)))
abbrev nmLp : TSD := dSeq (dFor (diRg1 (dOp dIx (dLst (dCons (dC (.int 0)) (dCons (dC (.int 0)) (dCons (dC (.int 1)) (dCons (dC (.int 2)) dNil))))) (dDraw 4))) (gdN 5) (dAsg (dOp dAdd (dVar 4) (dOp dIx (dVar 2) (dDraw 63))) (gdN 4))) nmF
abbrev nm2 : TSD := dSeq (dIfS (dTest (dOp dEq (dVar 4) (dC (.str "")))) (dAsg (dOp dIx (dVar 2) (dDraw 52)) (gdN 4)) dNext) nmLp
structure NmC (t u : Addr) (used : List Str) (m : Mu) (Q : D → Mu → Prop) : Prop where
  ne : t ≠ u
  hu : m u = some (used.map D.str)
  len : used.length ≤ 20
  q : ∀ (s : Str) (l' : List D), s ∉ used → s.length ≤ 100 → Tape l' → Q (.str s) (mset m t l')
abbrev nmG (t u : Addr) (a : Str) (y5 y6 : Option D) : Env' := [some (.adr t), some (.adr u), some (.str signsS), some (.str wordsS), some (.str a), y5, y6]
theorem NmC.at_ {t u : Addr} {used : List Str} {m : Mu} {Q : D → Mu → Prop} (c : NmC t u used m Q) (l : List D) : mset m t l u = some (used.map D.str) := by
  rw [mset_ne c.ne.symm]
  exact c.hu
theorem nm_f {t u : Addr} {used : List Str} {m : Mu} {Q : D → Mu → Prop} (c : NmC t u used m Q) {a : Str} (ha : a.length ≤ 60) {l : List D} (hT : Tape l) {y5 y6 : Option D} {N : Env' → Mu → Prop} : nmF ⟨N, Q⟩ (nmG t u a y5 y6) (mset m t l) := by
  have hlu : (used.map D.str).length = used.length := List.length_map _
  have hl20 := c.len
  have e0 : ((used.map D.str).length : Int) = (used.length : Nat) := by rw [hlu]
  refine ⟨_, c.at_ l, ?_, ?_, ?_⟩
  · rw [hlu]
    omega
  · rw [hlu]
    omega
  · rw [hlu]
    refine loop_rg (fun i g' m' => ∃ (y5 : Option D) (f : Str), g' = nmG t u a y5 (some (.str f)) ∧ m' = mset m t l ∧ f.length ≤ 100 ∧ (f ∈ used → f = cand a i ∧ ∀ k, k < i → cand a k ∈ used)) ⟨y5, a, rfl, rfl, by omega, fun _ => ⟨rfl, fun k hk => absurd hk (Nat.not_lt_zero k)⟩⟩ (fun _ _ _ _ => trivial) (fun i g' m' hi hI => ?_) (fun g' m' hI => ?_)
    · obtain ⟨y5', f, rfl, rfl, hf, hI⟩ := hI
      refine ⟨_, c.at_ l, used, rfl, ?_⟩
      show if decide (f ∈ used) = true then _ else _
      refine ifD (fun hin => ?_) (fun hin => ?_)
      · have hi20 : i < 20 := by omega
        have h1 := strI_ok i hi20
        obtain ⟨hfc, hk⟩ := hI hin
        refine ⟨?_, sz ?_, _, a ++ strI i, rfl, rfl, ?_, fun hin2 => ⟨rfl, fun k hk2 => ?_⟩⟩
        · have : i.log2 ≤ i := Nat.log2_le_self i
          show (((i : Nat) : Int)).natAbs.log2 < 1920
          rw [Int.natAbs_natCast]
          omega
        · show a.length + (strI i).length ≤ 100000
          omega
        · rw [str_app_len]
          omega
        · rcases Nat.lt_or_ge k i with z | z
          · exact hk k z
          · have ek : k = i := by omega
            rw [ek, ← hfc]
            exact hin
      · exact ⟨_, f, rfl, rfl, hf, fun z => absurd z hin⟩
    · obtain ⟨y5', f, rfl, rfl, hf, hI⟩ := hI
      rw [Int.toNat_natCast] at hI
      refine c.q f l (fresh_of (a := a) hl20 fun hin k hk => ?_) hf hT
      obtain ⟨hfc, hkk⟩ := hI hin
      rcases Nat.lt_or_ge k used.length with z | z
      · exact hkk k z
      · have ek : k = used.length := by omega
        rw [ek, ← hfc]
        exact hin
theorem nm_l {t u : Addr} {used : List Str} {m : Mu} {Q : D → Mu → Prop} (c : NmC t u used m Q) {a : Str} (ha : a.length ≤ 40) {l : List D} (hT : Tape l) {y5 y6 : Option D} {N : Env' → Mu → Prop} : nmLp ⟨N, Q⟩ (nmG t u a y5 y6) (mset m t l) := by
  refine ⟨szr rfl, rfl, t, 4, l, rfl, by decide, by decide, mset_same, hT, fun r l1 hr hT1 => ?_⟩
  rw [mset_mset]
  obtain ⟨k, hk, hk2⟩ : ∃ k : Nat, atI [D.int 0, .int 0, .int 1, .int 2] ((r : Nat) : Int) = some (.int k) ∧ k ≤ 2 := by
    have hr4 : r < 4 := by omega
    rw [atI_c]
    match r, hr4 with
    | 0, _ => exact ⟨0, rfl, by decide⟩
    | 1, _ => exact ⟨0, rfl, by decide⟩
    | 2, _ => exact ⟨1, rfl, by decide⟩
    | 3, _ => exact ⟨2, rfl, by decide⟩
  refine (show onSome (atI [D.int 0, .int 0, .int 1, .int 2] ((r : Nat) : Int)) _ from ?_)
  rw [hk]
  refine ⟨by omega, by omega, loop_rg (fun i g' m' => ∃ (y5 : Option D) (b : Str) (l2 : List D), g' = nmG t u b y5 y6 ∧ m' = mset m t l2 ∧ Tape l2 ∧ b.length ≤ 40 + i) ⟨y5, a, l1, rfl, rfl, hT1, ha⟩ (fun _ _ _ _ => trivial) (fun i g' m' hi hI => ?_) (fun g' m' hI => ?_)⟩
  · obtain ⟨y5', b, l2, rfl, rfl, hT2, hb⟩ := hI
    have hi2 : i < 2 := by omega
    refine ⟨rfl, t, 63, l2, rfl, by decide, by decide, mset_same, hT2, fun r2 l3 hr2 hT3 => ?_⟩
    rw [mset_mset]
    obtain ⟨ch, hch⟩ := sign_at (s := signsS) (r := r2) (by rw [signs_len]; omega)
    refine ⟨by rw [signs_len]; exact szr rfl, ch, hch, sz ?_, _, _, l3, rfl, rfl, hT3, ?_⟩
    · show b.length + 1 ≤ 100000
      omega
    · rw [str_app_len]
      show b.length + 1 ≤ 40 + (i + 1)
      omega
  · obtain ⟨y5', b, l2, rfl, rfl, hT2, hb⟩ := hI
    rw [Int.toNat_natCast] at hb
    exact nm_f c (by omega) hT2
theorem nm_2 {t u : Addr} {used : List Str} {m : Mu} {Q : D → Mu → Prop} (c : NmC t u used m Q) {a : Str} (ha : a.length ≤ 40) {l : List D} (hT : Tape l) {y5 y6 : Option D} {N : Env' → Mu → Prop} : nm2 ⟨N, Q⟩ (nmG t u a y5 y6) (mset m t l) := by
  show if decide (a = "") = true then _ else _
  refine ifD (fun _ => ?_) (fun _ => nm_l c ha hT)
  refine ⟨rfl, t, 52, l, rfl, by decide, by decide, mset_same, hT, fun r2 l3 hr2 hT3 => ?_⟩
  rw [mset_mset]
  obtain ⟨ch, hch⟩ := sign_at (s := signsS) (r := r2) (by rw [signs_len]; omega)
  refine ⟨by rw [signs_len]; exact szr rfl, ch, hch, ?_⟩
  exact nm_l c (a := ⟨#[ch]⟩) (show 1 ≤ 40 by decide) hT3
section
variable {P : Program} {w : World} {K : PySem.W.Frag} {mg : Str → Option Value} {base : Heap}
theorem sc_l_name : FnScope ["_law_tape_here", "_law_used", "_law_signs", "_law_words", "_law_name_here", "_law_k", "_law_fresh"] ["_law_tape_here", "_law_used"] (defScope s_l_name) := ⟨rfl, rfl, rfl, by decide +kernel, rfl, by decide +kernel, by decide +kernel⟩
theorem cal_l_name  (D0 : Def K mg "_law_name" s_l_name) (B : Blt mg) (c_l_draw : Cal P w K mg base "_law_draw" (1) ["_law_tape_here", "_law_many"] (up K 2 sp_l_draw))  : Cal P w K mg base "_law_name" (2) ["_law_tape_here", "_law_used"] (up K 2 sp_l_name) := by
  refine D0.cal (N := ["_law_tape_here", "_law_used", "_law_signs", "_law_words", "_law_name_here", "_law_k", "_law_fresh"]) (k := 1) sc_l_name [none, none, none, none, none] rfl (fun _ _ _ _ _ _ us hl => match us, hl with | [_, _], _ => rfl) (fun f cdv A outer s H E hr => ⟨_, _,
(dss_cons (ds_set (i := 2) sc_l_name.nd rfl (.inl rfl) de_str)
(dss_cons (ds_set (i := 3) sc_l_name.nd rfl (.inl rfl) de_str)
(dss_cons (ds_set (i := 4) sc_l_name.nd rfl (.inl rfl) (de_ix (de_lst (da_cons de_str (da_cons de_str (da_cons de_str (da_cons de_str (da_cons de_str (da_cons de_str da_nil))))))) (de_call c_l_draw (hr.mono (by first | decide | omega)) (by rfl) (da_cons (dv 0) (da_cons de_int da_nil)))))
(dss_cons (ds_if (dt_eq (dv 4) de_str)
(dss_one (ds_set (i := 4) sc_l_name.nd rfl (.inl rfl) (de_ix (de_split (dv 3) de_str) (de_call c_l_draw (hr.mono (by first | decide | omega)) (by rfl) (da_cons (dv 0) (da_cons de_int da_nil))))))
dss_nil)
(dss_cons (ds_if (dt_eq (dv 4) de_str)
(dss_one (ds_set (i := 4) sc_l_name.nd rfl (.inl rfl) (de_ix (dv 2) (de_call c_l_draw (hr.mono (by first | decide | omega)) (by rfl) (da_cons (dv 0) (da_cons de_int da_nil))))))
dss_nil)
(dss_cons (ds_for PassesOwn.never rfl (di_rg1 (by rfl) B.range (de_ix (de_lst (da_cons de_int (da_cons de_int (da_cons de_int (da_cons de_int da_nil))))) (de_call c_l_draw (hr.mono (by first | decide | omega)) (by rfl) (da_cons (dv 0) (da_cons de_int da_nil))))) (dg_name (i := 5) sc_l_name.nd rfl (.inl rfl))
(dss_one (ds_set (i := 4) sc_l_name.nd rfl (.inl rfl) (de_add (dv 4) (de_ix (dv 2) (de_call c_l_draw (hr.mono (by first | decide | omega)) (by rfl) (da_cons (dv 0) (da_cons de_int da_nil))))))))
(dss_cons (ds_set (i := 6) sc_l_name.nd rfl (.inl rfl) (dv 4))
(dss_cons (ds_for PassesOwn.never rfl (di_rg1 (by rfl) B.range (de_cb rLen' call_len_seq sc_len (by rfl) B.len bt_len (da_cons (dv 1) da_nil))) (dg_name (i := 5) sc_l_name.nd rfl (.inl rfl))
(dss_one (ds_if (dt_in (dv 6) (dv 1))
(dss_one (ds_set (i := 6) sc_l_name.nd rfl (.inl rfl) (de_add (dv 4) (de_ct rStr' call_str_int sc_str (by rfl) B.str bt_str (da_cons (dv 5) da_nil)))))
dss_nil)))
(dss_one (ds_ret (dv 6))))))))))),
    fun ds m Q hl hs => ?_⟩)
  -- slots: 0 _law_tape_here 1 _law_used 2 _law_signs 3 _law_words 4 _law_name_here 5 _law_k 6 _law_fresh
  obtain ⟨t, u, l, used, rfl, htu, ht, hT, hu, hul, q⟩ := hs
  have c : NmC t u used m Q := ⟨htu, hu, hul, q⟩
  refine ⟨szr rfl, rfl, t, 6, l, rfl, by decide, by decide, ht, hT, fun r l1 hr hT1 => ?_⟩
  obtain ⟨s1, hs1, hl1⟩ := strs_at (ss := ["", "", "", "reading_of_stat", "word", "word"]) (b := 20) (by decide +kernel) (r := r) (by show r < 6; omega)
  refine (show onSome (atI (List.map D.str ["", "", "", "reading_of_stat", "word", "word"]) ((r : Nat) : Int)) _ from ?_)
  rw [hs1]
  show if decide (s1 = "word") = true then _ else _
  refine ifD (fun _ => ?_) (fun _ => nm_2 c (by omega) hT1)
  obtain ⟨w1, w2, w3⟩ := words_ok
  refine ⟨rfl, Nat.le_trans w3 (szr rfl), rfl, t, 18, l1, rfl, by decide, by decide, mset_same, hT1, fun r2 l2 hr2 hT2 => ?_⟩
  rw [mset_mset]
  obtain ⟨s2, hs2, hl2⟩ := strs_at (ss := Txt.split wordsS " ") (b := 20) w2 (r := r2) (by rw [w1]; omega)
  refine (show onSome (atI (List.map D.str (Txt.split wordsS " ")) ((r2 : Nat) : Int)) _ from ?_)
  rw [hs2]
  exact nm_2 c (by omega) hT2
end
end BB

namespace BB
open PySem PySem.Spec PyProof.Rows L2
local macro_rules | `(tactic| walk_at "dl") => `(tactic| simp only [dIfS, dIfE, dTest, dOp, dVar, dC, dIx, dEq, dNe, dI, dIc, dIsN, dNotN, isNonD, dAndT, dOrT, dNotT, dAndV, dNeg, dAdd, dTup, dLst, dCons, dNil, dCB, dCall, dLc, true_and, dLen, dInt1, dInt2, withSeq, with1_1, onSome_some, atI_0, atI_1, atI_2, atI_3, atI_4, atI_5, atI_6, List.getElem?_cons_succ, List.getElem?_cons_zero, List.set_cons_zero, List.set_cons_succ, gdN, Part.enc, encN, Bool.not_true, Bool.not_false, mapS_cons, mapS_nil, List.length_cons, List.length_nil, List.cons_append, List.nil_append, gdTup, gdCons, gdNil, dAppend, dExtend, dListF, dTupOf, dMul, dSl, dNoP, dPart])
local macro_rules | `(tactic| walk_at "dr") => `(tactic| simp only [dSeq, dAsg, dRet, dRetW, dDrop, dNext, dFor, diSeq, dIfS, dIfE, dTest, dOp, dVar, dC, dIx, dEq, dNe, dI, dIc, dIsN, dNotN, isNonD, dAndT, dOrT, dNotT, dAndV, dNeg, dAdd, dTup, dLst, dCons, dNil, dCB, dCall, dLc, true_and, dLen, dInt1, dInt2, withSeq, with1_1, onSome_some, atI_0, atI_1, atI_2, atI_3, atI_4, atI_5, atI_6, List.getElem?_cons_succ, List.getElem?_cons_zero, List.set_cons_zero, List.set_cons_succ, gdN, Part.enc, encN, Bool.not_true, Bool.not_false, mapS_cons, mapS_nil, List.length_cons, List.length_nil, List.cons_append, List.nil_append, gdTup, gdCons, gdNil, dAppend, dExtend, dListF, dTupOf, dMul, dSl, dNoP, dPart])

/-! ## rows put together -/
def joinL (rs ts : List (List D)) : List (List D) := rs.flatMap fun r => ts.map fun t => r ++ t
def crossL (rs : List (List D)) (es : List D) : List (List D) := rs.flatMap fun r => es.map fun e => r ++ [e]
def sp_l_joined : SpD := fun ds m Q => ∃ rs ts : List (List D), ds = [.lst (rs.map D.tup), .lst (ts.map D.tup)] ∧ rs.length * ts.length ≤ 10000 ∧ ts.length ≤ 10000 ∧ (∀ r ∈ rs, r.length ≤ 1000) ∧ (∀ t ∈ ts, t.length ≤ 1000) ∧ Q (.lst ((joinL rs ts).map D.tup)) m
def sp_l_crossed : SpD := fun ds m Q => ∃ (rs : List (List D)) (es : List D), ds = [.lst (rs.map D.tup), .lst es] ∧ rs.length * es.length ≤ 10000 ∧ (∀ r ∈ rs, r.length ≤ 1000) ∧ Q (.lst ((crossL rs es).map D.tup)) m
theorem joinL_len (rs ts : List (List D)) : (joinL rs ts).length = rs.length * ts.length := by
  induction rs with
  | nil =>
    rw [List.length_nil, Nat.zero_mul]
    rfl
  | cons r rs ih =>
    show ((ts.map fun t => r ++ t) ++ joinL rs ts).length = _
    rw [List.length_append, List.length_map, ih, List.length_cons, Nat.add_mul, Nat.one_mul, Nat.add_comm]
theorem crossL_len (rs : List (List D)) (es : List D) : (crossL rs es).length = rs.length * es.length := by
  induction rs with
  | nil =>
    rw [List.length_nil, Nat.zero_mul]
    rfl
  | cons r rs ih =>
    show ((es.map fun t => r ++ [t]) ++ crossL rs es).length = _
    rw [List.length_append, List.length_map, ih, List.length_cons, Nat.add_mul, Nat.one_mul, Nat.add_comm]
def serOk (es : List D) (lo hi : Nat) (found : List (List D)) : Prop := found ≠ [] ∧ found.length ≤ 1000 ∧ ∀ r ∈ found, lo ≤ r.length ∧ r.length ≤ hi ∧ ∀ v ∈ r, v ∈ es
def sp_l_series : SpD := fun ds m Q => ∃ (es : List D) (lo hi : Nat), ds = [.lst es, .int lo, .int hi] ∧ es ≠ [] ∧ es.length ≤ 9 ∧ lo ≤ hi ∧ hi ≤ 3 ∧ ∀ found, serOk es lo hi found → Q (.lst (found.map D.tup)) m
def pr (p : Int × Int) : D := .tup [.int p.1, .int p.2]
def sp_l_runs : SpD := fun ds m Q => ∃ ns : List Int, ds = [.lst (ns.map D.int)] ∧ ns.length ≤ 1000 ∧ ∀ ps : List (Int × Int), (ps.map fun p => p.2 - p.1 + 1).sum = ((ns.length : Nat) : Int) → (∀ p ∈ ps, p.1 ≤ p.2 ∧ p.1 ∈ ns ∧ p.2 ∈ ns) → (ns ≠ [] → ps ≠ []) → Q (.tup (ps.map pr)) m
/-- a field's ranges: none, or pairs; all together no more than cnt numbers -/
def RgD (sg : Bool) (w cnt : Nat) (d : D) : Prop := (d = .non ∧ 2 ^ w ≤ cnt) ∨ ∃ ps : List (Int × Int), d = .tup (ps.map pr) ∧ ps ≠ [] ∧ (∀ p ∈ ps, p.1 ≤ p.2 ∧ inF sg w p.1 ∧ inF sg w p.2) ∧ (ps.map fun p => p.2 - p.1 + 1).sum ≤ ((cnt : Nat) : Int)
def sp_l_listed : SpD := fun ds m Q => ∃ (sg : Bool) (w cnt : Nat) (d : D), ds = [.bl sg, .int w, d] ∧ 1 ≤ w ∧ w ≤ 8 ∧ cnt ≤ 1000 ∧ RgD sg w cnt d ∧ ∀ vs : List Int, vs ≠ [] → vs.length ≤ cnt → (∀ v ∈ vs, inF sg w v) → Q (.lst (vs.map D.int)) m
section
variable {P : Program} {w : World} {K : PySem.W.Frag} {mg : Str → Option Value} {base : Heap}
theorem sc_l_joined : FnScope ["_law_rows", "_law_tails", "_law_found", "_law_row", "_law_tail"] ["_law_rows", "_law_tails"] (defScope s_l_joined) := ⟨rfl, rfl, rfl, by decide +kernel, rfl, by decide +kernel, by decide +kernel⟩
theorem cal_l_joined  (D0 : Def K mg "_law_joined" s_l_joined) (B : Blt mg)   : Cal P w K mg base "_law_joined" (1) ["_law_rows", "_law_tails"] (up K 2 sp_l_joined) := by
  refine D0.cal (N := ["_law_rows", "_law_tails", "_law_found", "_law_row", "_law_tail"]) (k := 0) sc_l_joined [none, none, none] rfl (fun _ _ _ _ _ _ us hl => match us, hl with | [_, _], _ => rfl) (fun f cdv A outer s H E hr => ⟨_, _,
(dss_cons (ds_set (i := 2) sc_l_joined.nd rfl (.inl rfl) (de_lst da_nil))
(dss_cons (ds_for PassesOwn.never rfl (di_seq (dv 0)) (dg_name (i := 3) sc_l_joined.nd rfl (.inr rfl))
(dss_one (ds_set (i := 2) sc_l_joined.nd rfl (.inl rfl) (de_add (dv 2) (de_lc (own := [("_law_tail", 4)]) rfl sc_l_joined.nd (di_seq (dv 1)) (blkOk_by (N := ["_law_rows", "_law_tails", "_law_found", "_law_row", "_law_tail"]) (sc := defScope s_l_joined) (own := [("_law_tail", 4)]) (by decide +kernel)) (fun _ _ _ _ _ => (dg_name (i := 4) sc_l_joined.nd rfl (.inl rfl))) (keepN 4) (fun _ _ _ _ _ => dts_nil) (fun _ _ _ _ _ => (de_add (dv 3) (dv 4))) (by intro _; rfl) s H)))))
(dss_one (ds_ret (dv 2))))),
    fun ds m Q hl hs => ?_⟩)
  -- slots: 0 _law_rows 1 _law_tails 2 _law_found 3 _law_row 4 _law_tail
  obtain ⟨rs, ts, rfl, h1, h1b, h2, h3, q⟩ := hs
  refine ⟨Nat.zero_le _, ?_⟩
  refine loop_map (f := D.tup) (fun pp g' m' => ∃ y1 y2 : Option D, g' = [some (.lst (rs.map D.tup)), some (.lst (ts.map D.tup)), some (.lst ((joinL pp ts).map D.tup)), y1, y2] ∧ m' = m) ⟨none, none, rfl, rfl⟩ (fun _ _ _ _ => trivial) (fun pre x post g' m' hd hI => ?_) (fun g' m' hI => ?_)
  · obtain ⟨y1, y2, rfl, rfl⟩ := hI
    have hx : x ∈ rs := by
      rw [hd]
      exact List.mem_append_right _ List.mem_cons_self
    have hpl : pre.length + 1 ≤ rs.length := by
      have := congrArg List.length hd
      rw [List.length_append, List.length_cons] at this
      omega
    have hml := Nat.mul_le_mul_right ts.length hpl
    rw [Nat.add_mul] at hml
    walk_at "dr"
    refine lc_pure (f := D.tup) (xs := ts) (fun t => D.tup (x ++ t)) (by omega) (fun t ht m1 R hm hR => ?_) ?_
    · refine ⟨sz ?_, hR⟩
      have h4 := h2 x hx
      have h5 := h3 t ht
      omega
    · refine ⟨sz ?_, ?_⟩
      · rw [List.length_map, List.length_map, joinL_len]
        omega
      · refine ⟨some (.tup x), y2, ?_, rfl⟩
        have e1 : (joinL (pre ++ [x]) ts).map D.tup = (joinL pre ts).map D.tup ++ ts.map fun t => D.tup (x ++ t) := by
          have e2 : joinL (pre ++ [x]) ts = joinL pre ts ++ ts.map fun t => x ++ t := by
            unfold joinL
            rw [List.flatMap_append]
            show _ ++ ((ts.map fun t => x ++ t) ++ []) = _
            rw [List.append_nil]
          rw [e2, List.map_append, List.map_map]
          rfl
        rw [e1]
  · obtain ⟨y1, y2, rfl, rfl⟩ := hI
    exact q
theorem sc_l_crossed : FnScope ["_law_rows", "_law_entries", "_law_found", "_law_row", "_law_entry"] ["_law_rows", "_law_entries"] (defScope s_l_crossed) := ⟨rfl, rfl, rfl, by decide +kernel, rfl, by decide +kernel, by decide +kernel⟩
theorem cal_l_crossed  (D0 : Def K mg "_law_crossed" s_l_crossed) (B : Blt mg)   : Cal P w K mg base "_law_crossed" (1) ["_law_rows", "_law_entries"] (up K 2 sp_l_crossed) := by
  refine D0.cal (N := ["_law_rows", "_law_entries", "_law_found", "_law_row", "_law_entry"]) (k := 0) sc_l_crossed [none, none, none] rfl (fun _ _ _ _ _ _ us hl => match us, hl with | [_, _], _ => rfl) (fun f cdv A outer s H E hr => ⟨_, _,
(dss_cons (ds_set (i := 2) sc_l_crossed.nd rfl (.inl rfl) (de_new da_nil))
(dss_cons (ds_for PassesOwn.never rfl (di_seq (dv 0)) (dg_name (i := 3) sc_l_crossed.nd rfl (.inl rfl))
(dss_one (ds_for PassesOwn.never rfl (di_seq (dv 1)) (dg_name (i := 4) sc_l_crossed.nd rfl (.inl rfl))
(dss_one (ds_expr (de_append (dv 2) (de_add (dv 3) (de_tup (da_cons (dv 4) da_nil)))))))))
(dss_one (ds_retF (dv 2))))),
    fun ds m Q hl hs => ?_⟩)
  -- slots: 0 _law_rows 1 _law_entries 2 _law_found 3 _law_row 4 _law_entry
  obtain ⟨rs, es, rfl, h1, h2, q⟩ := hs
  refine ⟨Nat.zero_le _, fun p hp => ?_⟩
  refine loop_map (f := D.tup) (fun pp g' m' => ∃ y1 y2 : Option D, g' = [some (.lst (rs.map D.tup)), some (.lst es), some (.adr p), y1, y2] ∧ m' = mset m p ((crossL pp es).map D.tup)) ⟨none, none, rfl, rfl⟩ (fun _ _ _ _ => trivial) (fun pre x post g' m' hd hI => ?_) (fun g' m' hI => ?_)
  · obtain ⟨y1, y2, rfl, rfl⟩ := hI
    have hx : x ∈ rs := by
      rw [hd]
      exact List.mem_append_right _ List.mem_cons_self
    have hpl : pre.length + 1 ≤ rs.length := by
      have := congrArg List.length hd
      rw [List.length_append, List.length_cons] at this
      omega
    have hml := Nat.mul_le_mul_right es.length hpl
    rw [Nat.add_mul] at hml
    refine loop_id (fun pp g' m' => ∃ y2 : Option D, g' = [some (.lst (rs.map D.tup)), some (.lst es), some (.adr p), some (.tup x), y2] ∧ m' = mset m p ((crossL pre es).map D.tup ++ pp.map fun e => D.tup (x ++ [e]))) ⟨y2, rfl, by rw [List.map_nil, List.append_nil]⟩ (fun _ _ _ _ => trivial) (fun pr2 e po2 g' m' hd2 hI => ?_) (fun g' m' hI => ?_)
    · obtain ⟨y2', rfl, rfl⟩ := hI
      have hpl2 : pr2.length + 1 ≤ es.length := by
        have := congrArg List.length hd2
        rw [List.length_append, List.length_cons] at this
        omega
      have h4 := h2 x hx
      refine ⟨⟨_, mset_same⟩, szr rfl, sz ?_, _, mset_same, szl ?_, _, rfl, ?_⟩
      · show x.length + 1 ≤ 100000
        omega
      · rw [List.length_append, List.length_map, List.length_map, crossL_len]
        omega
      · rw [mset_mset, List.map_append, List.append_assoc]
        rfl
    · obtain ⟨y2', rfl, rfl⟩ := hI
      refine ⟨_, _, rfl, ?_⟩
      have e2 : crossL (pre ++ [x]) es = crossL pre es ++ es.map fun e => x ++ [e] := by
        unfold crossL
        rw [List.flatMap_append]
        show _ ++ ((es.map fun t => x ++ [t]) ++ []) = _
        rw [List.append_nil]
      rw [e2, List.map_append, List.map_map]
      rfl
  · obtain ⟨y1, y2, rfl, rfl⟩ := hI
    refine ⟨_, mset_same, ?_⟩
    rw [mdel_mset hp]
    exact q
theorem sc_l_series : FnScope ["_law_entries", "_law_least", "_law_greatest", "_law_found", "_law_rows", "_law_k"] ["_law_entries", "_law_least", "_law_greatest"] (defScope s_l_series) := ⟨rfl, rfl, rfl, by decide +kernel, rfl, by decide +kernel, by decide +kernel⟩
theorem cal_l_series  (D0 : Def K mg "_law_series" s_l_series) (B : Blt mg) (c_l_crossed : Cal P w K mg base "_law_crossed" (1) ["_law_rows", "_law_entries"] (up K 2 sp_l_crossed))  : Cal P w K mg base "_law_series" (2) ["_law_entries", "_law_least", "_law_greatest"] (up K 3 sp_l_series) := by
  refine D0.cal (N := ["_law_entries", "_law_least", "_law_greatest", "_law_found", "_law_rows", "_law_k"]) (k := 1) sc_l_series [none, none, none] rfl (fun _ _ _ _ _ _ us hl => match us, hl with | [_, _, _], _ => rfl) (fun f cdv A outer s H E hr => ⟨_, _,
(dss_cons (ds_set (i := 3) sc_l_series.nd rfl (.inl rfl) (de_lst da_nil))
(dss_cons (ds_set (i := 4) sc_l_series.nd rfl (.inl rfl) (de_lst (da_cons (de_tup da_nil) da_nil)))
(dss_cons (ds_for PassesOwn.never rfl (di_rg1 (by rfl) B.range (de_add (dv 2) de_int)) (dg_name (i := 5) sc_l_series.nd rfl (.inl rfl))
(dss_cons (ds_if (dt_gt (dv 5) de_int)
(dss_one (ds_set (i := 4) sc_l_series.nd rfl (.inl rfl) (de_call c_l_crossed (hr.mono (by first | decide | omega)) (by rfl) (da_cons (dv 4) (da_cons (dv 0) da_nil)))))
dss_nil)
(dss_one (ds_if (dt_ge (dv 5) (dv 1))
(dss_one (ds_set (i := 3) sc_l_series.nd rfl (.inl rfl) (de_add (dv 3) (dv 4))))
dss_nil))))
(dss_one (ds_ret (dv 3)))))),
    fun ds m Q hl hs => ?_⟩)
  -- slots: 0 _law_entries 1 _law_least 2 _law_greatest 3 _law_found 4 _law_rows 5 _law_k
  obtain ⟨es, lo, hi, rfl, hne, hl9, hlh, hh3, q⟩ := hs
  refine ⟨Nat.zero_le _, szr rfl, szr rfl, ?_⟩
  refine ⟨by omega, by omega, loop_rg (fun i g' m' => ∃ (y : Option D) (fd rows : List (List D)), g' = [some (.lst es), some (.int lo), some (.int hi), some (.lst (fd.map D.tup)), some (.lst (rows.map D.tup)), y] ∧ m' = m ∧ rows ≠ [] ∧ rows.length ≤ 9 ^ (i - 1) ∧ fd.length * 8 + 1 ≤ 9 ^ i ∧ (lo < i → fd ≠ []) ∧ (∀ r ∈ rows, r.length = i - 1 ∧ ∀ v ∈ r, v ∈ es) ∧ ∀ r ∈ fd, lo ≤ r.length ∧ r.length ≤ hi ∧ ∀ v ∈ r, v ∈ es) ⟨none, [], [[]], rfl, rfl, by simp, by decide, by decide, fun h => absurd h (Nat.not_lt_zero _), fun r hr => by rw [List.mem_singleton.mp hr]; exact ⟨rfl, fun _ h => nomatch h⟩, fun _ h => nomatch h⟩ (fun _ _ _ _ => trivial) (fun i g' m' hi2 hI => ?_) (fun g' m' hI => ?_)⟩
  · obtain ⟨y, fd, rows, rfl, rfl, hr0, hrl, hfl, hfn, hrr, hff⟩ := hI
    have hi3 : i ≤ hi := by omega
    have key : ∀ rows' : List (List D), rows' ≠ [] → rows'.length ≤ 9 ^ i → (∀ r ∈ rows', r.length = i ∧ ∀ v ∈ r, v ∈ es) → ∀ y' : Option D, if decide (((lo : Nat) : Int) ≤ ((i : Nat) : Int)) = true then (fd.map D.tup).length + (rows'.map D.tup).length ≤ sizeLine ∧ ∃ (y : Option D) (fd2 rows2 : List (List D)), [some (.lst es), some (.int lo), some (.int hi), some (.lst (fd.map D.tup ++ rows'.map D.tup)), some (.lst (rows'.map D.tup)), y'] = [some (.lst es), some (.int lo), some (.int hi), some (.lst (fd2.map D.tup)), some (.lst (rows2.map D.tup)), y] ∧ m' = m' ∧ rows2 ≠ [] ∧ rows2.length ≤ 9 ^ (i + 1 - 1) ∧ fd2.length * 8 + 1 ≤ 9 ^ (i + 1) ∧ (lo < i + 1 → fd2 ≠ []) ∧ (∀ r ∈ rows2, r.length = i + 1 - 1 ∧ ∀ v ∈ r, v ∈ es) ∧ ∀ r ∈ fd2, lo ≤ r.length ∧ r.length ≤ hi ∧ ∀ v ∈ r, v ∈ es
        else ∃ (y : Option D) (fd2 rows2 : List (List D)), [some (.lst es), some (.int lo), some (.int hi), some (.lst (fd.map D.tup)), some (.lst (rows'.map D.tup)), y'] = [some (.lst es), some (.int lo), some (.int hi), some (.lst (fd2.map D.tup)), some (.lst (rows2.map D.tup)), y] ∧ m' = m' ∧ rows2 ≠ [] ∧ rows2.length ≤ 9 ^ (i + 1 - 1) ∧ fd2.length * 8 + 1 ≤ 9 ^ (i + 1) ∧ (lo < i + 1 → fd2 ≠ []) ∧ (∀ r ∈ rows2, r.length = i + 1 - 1 ∧ ∀ v ∈ r, v ∈ es) ∧ ∀ r ∈ fd2, lo ≤ r.length ∧ r.length ≤ hi ∧ ∀ v ∈ r, v ∈ es := fun rows' k1 k2 k3 y' => by
      have hp9 : 9 ^ (i + 1) = 9 ^ i * 9 := Nat.pow_succ 9 i
      have hp93 : 9 ^ i ≤ 9 ^ 3 := Nat.pow_le_pow_right (by decide) (by omega)
      refine ifD (fun h => ⟨sz ?_, y', fd ++ rows', rows', by rw [List.map_append], rfl, k1, k2, ?_, fun _ e => k1 (List.append_eq_nil_iff.mp e).2, k3, fun r hr => ?_⟩) (fun h => ⟨y', fd, rows', rfl, rfl, k1, k2, by omega, fun z => ?_, k3, hff⟩)
      · rw [List.length_map, List.length_map]
        omega
      · rw [List.length_append]
        omega
      · rcases List.mem_append.mp hr with z | z
        · exact hff r z
        · obtain ⟨z1, z2⟩ := k3 r z
          exact ⟨by omega, by omega, z2⟩
      · omega
    show if decide (((0 : Int)) < ((i : Nat) : Int)) = true then _ else _
    refine ifD (fun h => ?_) (fun h => ?_)
    · have hi1 : 1 ≤ i := by omega
      have hp : 9 ^ i = 9 ^ (i - 1) * 9 := by
        rw [← Nat.pow_succ]
        congr 1
        omega
      have hp92 : 9 ^ (i - 1) ≤ 9 ^ 2 := Nat.pow_le_pow_right (by decide) (by omega)
      have hm1 : rows.length * es.length ≤ 9 ^ (i - 1) * 9 := Nat.mul_le_mul hrl hl9
      refine ⟨rfl, rows, es, rfl, by omega, fun r hr => by rw [(hrr r hr).1]; omega, ?_⟩
      refine key (crossL rows es) (fun e => ?_) (by rw [crossL_len, hp]; exact hm1) (fun r hr => ?_) _
      · have z := congrArg List.length e
        rw [crossL_len, List.length_nil] at z
        have h1 := List.length_pos_iff.mpr hr0
        have h2 := List.length_pos_iff.mpr hne
        have := Nat.mul_pos h1 h2
        omega
      · obtain ⟨r0, hr0', hr1⟩ := List.mem_flatMap.mp hr
        obtain ⟨e, he, rfl⟩ := List.mem_map.mp hr1
        obtain ⟨z1, z2⟩ := hrr r0 hr0'
        refine ⟨by rw [List.length_append, z1, List.length_singleton]; omega, fun v hv => ?_⟩
        rcases List.mem_append.mp hv with z | z
        · exact z2 v z
        · rw [List.mem_singleton.mp z]
          exact he
    · have hi0 : i = 0 := by omega
      subst hi0
      exact key rows hr0 hrl hrr _
  · obtain ⟨y, fd, rows, rfl, rfl, hr0, hrl, hfl, hfn, hrr, hff⟩ := hI
    have e1 : (((hi : Nat) : Int) + 1).toNat = hi + 1 := by omega
    rw [e1] at hfl hfn
    have hp94 : 9 ^ (hi + 1) ≤ 9 ^ 4 := Nat.pow_le_pow_right (by decide) (by omega)
    exact q fd ⟨hfn (by omega), by omega, hff⟩
theorem sc_l_runs : FnScope ["_law_numbers", "_law_rows", "_law_number"] ["_law_numbers"] (defScope s_l_runs) := ⟨rfl, rfl, rfl, by decide +kernel, rfl, by decide +kernel, by decide +kernel⟩
theorem cal_l_runs  (D0 : Def K mg "_law_runs" s_l_runs) (B : Blt mg)   : Cal P w K mg base "_law_runs" (1) ["_law_numbers"] (up K 1 sp_l_runs) := by
  refine D0.cal (N := ["_law_numbers", "_law_rows", "_law_number"]) (k := 0) sc_l_runs [none, none] rfl (fun _ _ _ _ _ _ us hl => match us, hl with | [_], _ => rfl) (fun f cdv A outer s H E hr => ⟨_, _,
(dss_cons (ds_set (i := 1) sc_l_runs.nd rfl (.inl rfl) (de_new da_nil))
(dss_cons (ds_for PassesOwn.never rfl (di_seq (dv 0)) (dg_name (i := 2) sc_l_runs.nd rfl (.inl rfl))
(dss_one (ds_if (DW.dt (dw_and (dt_tru (dv 1)) (dw_and1 (dt_eq (de_ix (de_ix (dv 1) (de_neg de_int)) de_int) (de_sub (dv 2) de_int)))))
(dss_one (ds_asg (de_tup (da_cons (de_ix (de_ix (dv 1) (de_neg de_int)) de_int) (da_cons (dv 2) da_nil))) (dg_sub (dv 1) (de_neg de_int))))
(dss_one (ds_expr (de_append (dv 1) (de_tup (da_cons (dv 2) (da_cons (dv 2) da_nil)))))))))
(dss_one (ds_retW (de_ct rTupOf call_tuple_of sc_tup (by rfl) B.tuple bt_tuple (da_cons (dv 1) da_nil)))))),
    fun ds m Q hl hs => ?_⟩)
  -- slots: 0 _law_numbers 1 _law_rows 2 _law_number
  obtain ⟨ns, rfl, h1, q⟩ := hs
  refine ⟨Nat.zero_le _, fun p hp => ?_⟩
  refine loop_map (f := D.int) (fun pp g' m' => ∃ (y : Option D) (ps : List (Int × Int)), g' = [some (.lst (ns.map D.int)), some (.adr p), y] ∧ m' = mset m p (ps.map pr) ∧ (ps.map fun p => p.2 - p.1 + 1).sum = ((pp.length : Nat) : Int) ∧ (∀ p ∈ ps, p.1 ≤ p.2 ∧ p.1 ∈ ns ∧ p.2 ∈ ns) ∧ (pp ≠ [] → ps ≠ []) ∧ ps.length ≤ pp.length) ⟨none, [], rfl, rfl, rfl, fun _ h => (nomatch h), fun h => absurd rfl h, Nat.le_refl _⟩ (fun _ _ _ _ => trivial) (fun pre x post g' m' hd hI => ?_) (fun g' m' hI => ?_)
  · obtain ⟨y, ps, rfl, rfl, hsum, hps, hne, hlen⟩ := hI
    have hx : x ∈ ns := by
      rw [hd]
      exact List.mem_append_right _ List.mem_cons_self
    have hpl : pre.length + 1 ≤ ns.length := by
      have := congrArg List.length hd
      rw [List.length_append, List.length_cons] at this
      omega
    have app : (∃ es, mset m p (ps.map pr) p = some es) ∧ 0 + 1 + 1 ≤ sizeLine ∧ ∃ ds, mset m p (ps.map pr) p = some ds ∧ ds.length < sizeLine ∧ ∃ (y : Option D) (ps2 : List (Int × Int)), [some (D.lst (ns.map D.int)), some (.adr p), some (.int x)] = [some (.lst (ns.map D.int)), some (.adr p), y] ∧ mset (mset m p (ps.map pr)) p (ds ++ [.tup [.int x, .int x]]) = mset m p (ps2.map pr) ∧ (ps2.map fun p => p.2 - p.1 + 1).sum = (((pre ++ [x]).length : Nat) : Int) ∧ (∀ p ∈ ps2, p.1 ≤ p.2 ∧ p.1 ∈ ns ∧ p.2 ∈ ns) ∧ (pre ++ [x] ≠ [] → ps2 ≠ []) ∧ ps2.length ≤ (pre ++ [x]).length := by
      refine ⟨⟨_, mset_same⟩, szr rfl, _, mset_same, szl (by rw [List.length_map]; omega), _, ps ++ [(x, x)], rfl, ?_, ?_, fun p hp => ?_, fun _ e => ?_, ?_⟩
      · rw [mset_mset, List.map_append]
        rfl
      · rw [List.map_append, List.sum_append, hsum, List.length_append]
        show ((pre.length : Nat) : Int) + (x - x + 1 + 0) = ((pre.length + 1 : Nat) : Int)
        omega
      · rcases List.mem_append.mp hp with z | z
        · exact hps p z
        · rw [List.mem_singleton.mp z]
          exact ⟨Int.le_refl _, hx, hx⟩
      · have := congrArg List.length e
        rw [List.length_append, List.length_singleton, List.length_nil] at this
        omega
      · rw [List.length_append, List.length_append]
        exact Nat.add_le_add_right hlen 1
    rcases List.eq_nil_or_concat ps with e | ⟨ini, lst, e⟩
    · subst e
      exact ⟨_, mset_same, app⟩
    · obtain ⟨a, b⟩ := lst
      rw [List.concat_eq_append] at e
      subst e
      have hmp : (ini ++ [(a, b)]).map pr = ini.map pr ++ [.tup [.int a, .int b]] := by rw [List.map_append] <;> rfl
      have hat : atI ((ini ++ [(a, b)]).map pr) (-1) = some (.tup [.int a, .int b]) := by rw [hmp, last_at]
      have hem : ((ini ++ [(a, b)]).map pr).isEmpty = false := by
        rw [hmp]
        cases ini <;> rfl
      refine ⟨_, mset_same, ?_⟩
      show if (!((ini ++ [(a, b)]).map pr).isEmpty) = true then _ else _
      rw [hem]
      refine ifT rfl ⟨_, mset_same, ?_⟩
      refine (show onSome (atI ((ini ++ [(a, b)]).map pr) (-1)) _ from ?_)
      rw [hat]
      show if decide (b = x - 1) = true then _ else _
      refine ifD (fun h => ?_) (fun h => app)
      refine ⟨_, mset_same, ?_⟩
      refine (show onSome (atI ((ini ++ [(a, b)]).map pr) (-1)) _ from ?_)
      rw [hat]
      have hix : ixN ((ini ++ [(a, b)]).map pr).length (-1) = some ini.length := by
        unfold ixN
        rw [List.length_map, List.length_append, List.length_singleton, if_neg (by omega), if_pos (by omega)]
        exact congrArg some (by omega)
      refine ⟨szr rfl, _, ini.length, mset_same, hix, _, ini ++ [(a, x)], rfl, ?_, ?_, fun p hp => ?_, fun _ e => ?_, ?_⟩
      · rw [mset_mset, hmp, List.set_append_right _ _ (by rw [List.length_map]; exact Nat.le_refl _), List.length_map, Nat.sub_self, List.map_append]
        rfl
      · rw [List.map_append, List.sum_append] at hsum ⊢
        have hs2 : (ini.map fun p => p.2 - p.1 + 1).sum + (b - a + 1 + 0) = ((pre.length : Nat) : Int) := hsum
        show (ini.map fun p => p.2 - p.1 + 1).sum + (x - a + 1 + 0) = (((pre ++ [x]).length : Nat) : Int)
        rw [List.length_append, List.length_singleton]
        omega
      · rcases List.mem_append.mp hp with z | z
        · exact hps p (List.mem_append_left _ z)
        · rw [List.mem_singleton.mp z]
          have h5 := hps (a, b) (List.mem_append_right _ (List.mem_singleton_self _))
          have h6 : a ≤ b := h5.1
          exact ⟨by show a ≤ x; omega, h5.2.1, hx⟩
      · have := congrArg List.length e
        rw [List.length_append, List.length_singleton, List.length_nil] at this
        omega
      · rw [List.length_append, List.length_singleton] at hlen ⊢
        rw [List.length_append]
        omega
  · obtain ⟨y, ps, rfl, rfl, hsum, hps, hne, hlen⟩ := hI
    exact ⟨_, mset_same, m, mset_ext hp, q ps hsum hps hne⟩
theorem sc_l_listed : FnScope ["_law_signed", "_law_width", "_law_ranges_here", "_law_lowest", "_law_found", "_law_pair"] ["_law_signed", "_law_width", "_law_ranges_here"] (defScope s_l_listed) := ⟨rfl, rfl, rfl, by decide +kernel, rfl, by decide +kernel, by decide +kernel⟩
theorem cal_l_listed  (D0 : Def K mg "_law_listed" s_l_listed) (B : Blt mg)   : Cal P w K mg base "_law_listed" (1) ["_law_signed", "_law_width", "_law_ranges_here"] (up K 3 sp_l_listed) := by
  refine D0.cal (N := ["_law_signed", "_law_width", "_law_ranges_here", "_law_lowest", "_law_found", "_law_pair"]) (k := 0) sc_l_listed [none, none, none] rfl (fun _ _ _ _ _ _ us hl => match us, hl with | [_, _, _], _ => rfl) (fun f cdv A outer s H E hr => ⟨_, _,
(dss_cons (ds_if (dt_isN (dv 2) de_non)
(dss_cons (ds_set (i := 3) sc_l_listed.nd rfl (.inl rfl) (de_if (dt_val (dv 0)) (de_neg (de_shl de_int (de_sub (dv 1) de_int))) de_int))
(dss_one (ds_ret (de_listRg rfl (by rfl) B.list (drg2 (by rfl) B.range (dv 3) (de_add (dv 3) (de_shl de_int (dv 1))))))))
dss_nil)
(dss_cons (ds_set (i := 4) sc_l_listed.nd rfl (.inl rfl) (de_lst da_nil))
(dss_cons (ds_for PassesOwn.never rfl (di_seq (dv 2)) (dg_name (i := 5) sc_l_listed.nd rfl (.inl rfl))
(dss_one (ds_set (i := 4) sc_l_listed.nd rfl (.inl rfl) (de_add (dv 4) (de_listRg rfl (by rfl) B.list (drg2 (by rfl) B.range (de_ix (dv 5) de_int) (de_add (de_ix (dv 5) de_int) de_int)))))))
(dss_one (ds_ret (dv 4)))))),
    fun ds m Q hl hs => ?_⟩)
  -- slots: 0 _law_signed 1 _law_width 2 _law_ranges_here 3 _law_lowest 4 _law_found 5 _law_pair
  obtain ⟨sg, wd, cnt, d, rfl, hw1, hw8, hc, hR, q⟩ := hs
  have hp8 : (2 : Int) ^ wd ≤ 256 := by
    rw [two_pow_nat]
    exact Int.ofNat_le.mpr (Nat.pow_le_pow_right (by decide : 2 > 0) hw8 : 2 ^ wd ≤ 2 ^ 8)
  have hp0 : (0 : Int) < 2 ^ (wd - 1) := Int.pow_pos (by decide)
  have hpd : (2 : Int) ^ wd = 2 ^ (wd - 1) + 2 ^ (wd - 1) := by
    have e : wd = (wd - 1) + 1 := by omega
    have e2 : (2 : Int) ^ ((wd - 1) + 1) = 2 ^ (wd - 1) * 2 := Int.pow_succ 2 (wd - 1)
    rw [← e] at e2
    omega
  have hbd : ∀ v : Int, inF sg wd v → -256 ≤ v ∧ v ≤ 256 := fun v hv => by
    unfold inF at hv
    split at hv <;> omega
  rcases hR with ⟨rfl, hcnt⟩ | ⟨ps, rfl, hpn, hps, hsum⟩
  · refine ⟨rfl, ?_⟩
    have key : ∀ lo : Int, (lo = if sg then -(2 ^ (wd - 1)) else 0) → Q (.lst ((rgI lo (lo + 2 ^ wd)).map D.int)) m := fun lo hlo => by
      have hl : (rgI lo (lo + 2 ^ wd)).length = 2 ^ wd := by
        rw [rgI_len, two_pow_nat, Int.add_comm, Int.add_sub_cancel, Int.toNat_natCast]
      refine q _ (fun e => ?_) (by rw [hl]; exact hcnt) fun v hv => ?_
      · rw [e] at hl
        have := Nat.two_pow_pos wd
        rw [← hl] at this
        exact absurd this (by decide)
      · unfold rgI at hv
        obtain ⟨k, hk, rfl⟩ := List.mem_map.mp hv
        have hk2 := List.mem_range.mp hk
        rw [hlo]
        unfold inF
        cases sg with
        | true =>
          rw [if_pos rfl, if_pos rfl]
          omega
        | false =>
          rw [if_neg Bool.false_ne_true, if_neg Bool.false_ne_true]
          omega
    have hsh : (1 : Int) * 2 ^ (((wd : Nat) : Int) - 1).toNat = 2 ^ (wd - 1) := by
      rw [Int.one_mul]
      congr 1
      omega
    have hrg : ∀ lo : Int, -256 ≤ lo → lo ≤ 0 → RgOk lo (lo + 1 * 2 ^ ((wd : Nat) : Int).toNat) := fun lo h1 h2 => by
      rw [powlit]
      refine ⟨by omega, by omega, by omega, by omega, ?_⟩ <;> omega
    cases sg with
    | true =>
      refine ifT rfl ⟨⟨by omega, by omega, by decide⟩, ⟨cpow1 (by omega), ?_, ?_⟩⟩
      · show RgOk (-(1 * 2 ^ (((wd : Nat) : Int) - 1).toNat)) _
        rw [hsh]
        exact hrg _ (by omega) (by omega)
      · show Q (.lst ((rgI (-(1 * 2 ^ (((wd : Nat) : Int) - 1).toNat)) (-(1 * 2 ^ (((wd : Nat) : Int) - 1).toNat) + 1 * 2 ^ ((wd : Nat) : Int).toNat)).map D.int)) m
        rw [hsh, powlit]
        exact key _ rfl
    | false =>
      refine ifT rfl ⟨cpow1 (by omega), hrg 0 (by decide) (by decide), ?_⟩
      show Q (.lst ((rgI 0 (0 + 1 * 2 ^ ((wd : Nat) : Int).toNat)).map D.int)) m
      rw [powlit]
      exact key 0 rfl
  · refine ⟨rfl, Nat.zero_le _, ?_⟩
    refine loop_map (f := pr) (fun pp g' m' => ∃ (y3 y5 : Option D) (vs : List Int), g' = [some (.bl sg), some (.int wd), some (.tup (ps.map pr)), y3, some (.lst (vs.map D.int)), y5] ∧ m' = m ∧ ((vs.length : Nat) : Int) = (pp.map fun p => p.2 - p.1 + 1).sum ∧ (∀ v ∈ vs, inF sg wd v) ∧ (pp ≠ [] → vs ≠ [])) ⟨none, none, [], rfl, rfl, rfl, fun _ h => (nomatch h), fun h => absurd rfl h⟩ (fun _ _ _ _ => trivial) (fun pre x post g' m' hd hI => ?_) (fun g' m' hI => ?_)
    · obtain ⟨y3, y5, vs, rfl, rfl, hvl, hvs, hvn⟩ := hI
      have hx : x ∈ ps := by
        rw [hd]
        exact List.mem_append_right _ List.mem_cons_self
      obtain ⟨a, b⟩ := x
      obtain ⟨h1, h2, h3⟩ := hps (a, b) hx
      have h1' : a ≤ b := h1
      have ha := hbd a h2
      have hb := hbd b h3
      have hpos : ∀ l : List (Int × Int), (∀ p ∈ l, p.1 ≤ p.2) → 0 ≤ (l.map fun p => p.2 - p.1 + 1).sum := fun l hl => by
        induction l with
        | nil => exact Int.le_refl _
        | cons p l ih =>
          have z1 := hl p List.mem_cons_self
          have z2 := ih fun q hq => hl q (List.mem_cons_of_mem _ hq)
          rw [List.map_cons, List.sum_cons]
          omega
      have hle : (pre.map fun p => p.2 - p.1 + 1).sum + (b - a + 1) ≤ ((cnt : Nat) : Int) := by
        rw [hd, List.map_append, List.map_cons, List.sum_append, List.sum_cons] at hsum
        have z := hpos post fun p hp => (hps p (by rw [hd]; exact List.mem_append_right _ (List.mem_cons_of_mem _ hp))).1
        omega
      have hrl : (rgI a (b + 1)).length = (b + 1 - a).toNat := rgI_len a (b + 1)
      refine ⟨⟨by omega, by omega, by omega, by omega, by omega⟩, sz ?_, y3, some (pr (a, b)), vs ++ rgI a (b + 1), ?_, rfl, ?_, fun v hv => ?_, fun _ e => ?_⟩
      · rw [List.length_map, List.length_map, hrl]
        omega
      · rw [List.map_append]
        rfl
      · rw [List.length_append, hrl, List.map_append, List.sum_append]
        show _ = _ + (b - a + 1 + 0)
        omega
      · rcases List.mem_append.mp hv with z | z
        · exact hvs v z
        · unfold rgI at z
          obtain ⟨k, hk, rfl⟩ := List.mem_map.mp z
          have hk2 := List.mem_range.mp hk
          unfold inF at h2 h3 ⊢
          cases sg with
          | true =>
            rw [if_pos rfl] at h2 h3 ⊢
            omega
          | false =>
            rw [if_neg Bool.false_ne_true] at h2 h3 ⊢
            omega
      · have z := congrArg List.length (List.append_eq_nil_iff.mp e).2
        rw [hrl, List.length_nil] at z
        omega
    · obtain ⟨y3, y5, vs, rfl, rfl, hvl, hvs, hvn⟩ := hI
      exact q vs (hvn hpn) (by omega) hvs
end
end BB

namespace BB
open PySem PySem.Spec PyProof.Rows L2
local macro_rules | `(tactic| walk_at "dl") => `(tactic| simp only [dIfS, dIfE, dTest, dOp, dVar, dC, dIx, dEq, dNe, dI, dIc, dIsN, dNotN, isNonD, dAndT, dOrT, dNotT, dAndV, dNeg, dAdd, dTup, dLst, dCons, dNil, dCB, dCall, dLc, true_and, dLen, dInt1, dInt2, withSeq, with1_1, onSome_some, atI_0, atI_1, atI_2, atI_3, atI_4, atI_5, atI_6, List.getElem?_cons_succ, List.getElem?_cons_zero, List.set_cons_zero, List.set_cons_succ, gdN, Part.enc, encN, Bool.not_true, Bool.not_false, mapS_cons, mapS_nil, List.length_cons, List.length_nil, List.cons_append, List.nil_append, gdTup, gdCons, gdNil, dAppend, dExtend, dListF, dTupOf, dMul, dSl, dNoP, dPart])
local macro_rules | `(tactic| walk_at "dr") => `(tactic| simp only [dSeq, dAsg, dRet, dRetW, dDrop, dNext, dFor, diSeq, dIfS, dIfE, dTest, dOp, dVar, dC, dIx, dEq, dNe, dI, dIc, dIsN, dNotN, isNonD, dAndT, dOrT, dNotT, dAndV, dNeg, dAdd, dTup, dLst, dCons, dNil, dCB, dCall, dLc, true_and, dLen, dInt1, dInt2, withSeq, with1_1, onSome_some, atI_0, atI_1, atI_2, atI_3, atI_4, atI_5, atI_6, List.getElem?_cons_succ, List.getElem?_cons_zero, List.set_cons_zero, List.set_cons_succ, gdN, Part.enc, encN, Bool.not_true, Bool.not_false, mapS_cons, mapS_nil, List.length_cons, List.length_nil, List.cons_append, List.nil_append, gdTup, gdCons, gdNil, dAppend, dExtend, dListF, dTupOf, dMul, dSl, dNoP, dPart])

/-! ## words, counts, fields -/
def sp_l_any_word : SpD := fun ds m Q => ∃ (t : Addr) (l : List D), ds = [.adr t] ∧ m t = some l ∧ Tape l ∧ ∀ (wd : Wd) (l' : List D), Tape l' → Q (.str wd.name) (mset m t l')
def sp_l_a_count : SpD := fun ds m Q => ∃ (t : Addr) (l : List D) (lo hi : Nat), ds = [.adr t, .int lo, .int hi] ∧ lo ≤ hi ∧ 1 ≤ hi ∧ hi ≤ 3 ∧ m t = some l ∧ Tape l ∧ ∀ (c : Cnt) (l' : List D), (∀ k, lo ≤ k → k ≤ hi → lenOk c k) → cMax c ≤ hi → Tape l' → Q c.enc (mset m t l')
def sp_l_ranges : SpD := fun ds m Q => ∃ (t : Addr) (l : List D) (w : Nat) (sg : Bool) (most : Nat), ds = [.adr t, .int w, .bl sg, .int most] ∧ 1 ≤ w ∧ w ≤ 8 ∧ 1 ≤ most ∧ most ≤ 1000 ∧ m t = some l ∧ Tape l ∧ ∀ (d : D) (l' : List D), RgD sg w most d → Tape l' → Q d (mset m t l')
theorem any_at {r : Nat} (hr : r < 6) : ∃ wd : Wd, atI [D.str "u8", .str "u8", .str "u16be", .str "u16le", .str "u32be", .str "u32le"] ((r : Nat) : Int) = some (.str wd.name) := by
  rw [atI_c]
  match r, hr with
  | 0, _ => exact ⟨.u8, rfl⟩
  | 1, _ => exact ⟨.u8, rfl⟩
  | 2, _ => exact ⟨.u16be, rfl⟩
  | 3, _ => exact ⟨.u16le, rfl⟩
  | 4, _ => exact ⟨.u32be, rfl⟩
  | 5, _ => exact ⟨.u32le, rfl⟩
/-- m' holds all of m, but t another tape -/
def Ext (m m' : Mu) (t : Addr) (l : List D) : Prop := m' t = some l ∧ ∀ b es, b ≠ t → m b = some es → m' b = some es
theorem Ext.ret {m m' : Mu} {t : Addr} {l : List D} (h : Ext m m' t l) : ∀ b es, mset m t l b = some es → m' b = some es := fun b es hb => by
  by_cases e : b = t
  · rw [e, mset_same] at hb
    rw [e, h.1, hb]
  · rw [mset_ne e] at hb
    exact h.2 b es e hb
theorem Ext.refl {m : Mu} {t : Addr} {l : List D} (h : m t = some l) : Ext m m t l := ⟨h, fun _ _ _ z => z⟩
theorem Ext.set {m m' : Mu} {t : Addr} {l l' : List D} (h : Ext m m' t l) : Ext m (mset m' t l') t l' := ⟨mset_same, fun b es e hb => by
  rw [mset_ne e]
  exact h.2 b es e hb⟩
theorem Ext.new {m m' : Mu} {t p : Addr} {l ds : List D} (h : Ext m m' t l) (hp : m' p = none) : Ext m (mset m' p ds) t l := ⟨by rw [mset_ne (mne h.1 hp)]; exact h.1, fun b es e hb => by
  have h2 := h.2 b es e hb
  rw [mset_ne (mne h2 hp)]
  exact h2⟩
abbrev mnf : Int → Int → Int := fun i j => if j < i then j else i
abbrev rgEnd : TSD := dSeq (dAsg (dIfE (dTest (dVar 2)) (dOp dFdv (dVar 4) (dC (.int 2))) (dC (.int 0))) (gdN 8)) (dRetW (dCall 1 sp_l_runs (dCons (dLc (diSeq (dCB dSorted (dCons (dVar 6) dNil))) (gdN 9) dYes (dOp dSub (dVar 9) (dVar 8)) ([(("_law_number" : Str), 9)].map fun x => x.2)) dNil)))
abbrev rgBody : TSD := dSeq (dAsg (dOp dMod (dCB (dInt1 fun i => i) (dCons (dOp dAdd (dVar 5) (dOp dIx (dLst (dCons (dC (.int 1)) (dCons (dC (.int 1)) (dCons (dC (.int 2)) (dCons (dC (.int 7)) (dCons (dOp dFdv (dVar 4) (dC (.int 2))) (dCons (dOp dAdd (dC (.int 1)) (dOp dFdv (dVar 4) (dC (.int 4)))) dNil))))))) (dDraw 6))) dNil)) (dVar 4)) (gdN 5))
  (dIfS (dTest (dOp (dIn true) (dVar 5) (dVar 6))) (dDrop (dAppend (dVar 6) (dVar 5))) dNext)
abbrev rgLoop : TSD := dSeq (dFor (diRg1 (dCall 2 sp_l_draw (dCons (dVar 0) (dCons (dIfE (dTest (dOp dEq (dVar 3) (dC (.int 0)))) (dC (.int 4)) (dCB (dInt2 mnf) (dCons (dVar 3) (dCons (dC (.int 4)) dNil)))) dNil)))) (gdN 7) rgBody) rgEnd
theorem rg_loop {wd most : Nat} {sg : Bool} (hw1 : 1 ≤ wd) (hw8 : wd ≤ 8) (hm1 : 1 ≤ most) (hm2 : most ≤ 1000) {m m' : Mu} {t p : Addr} {l : List D} {ns : List Int} {at_ : Int} {N : Env' → Mu → Prop} {Q : D → Mu → Prop} (he : Ext m m' t l) (hpt : p ≠ t) (hmp : m p = none) (hp : m' p = some (ns.map D.int)) (hT : Tape l) (hl : ns.length ≤ 1) (hns : ∀ n ∈ ns, 0 ≤ n ∧ n < 2 ^ wd) (hne : ns ≠ [])
    (q : ∀ (d : D) (l' : List D), RgD sg wd most d → Tape l' → Q d (mset m t l')) : rgLoop ⟨N, Q⟩ [some (.adr t), some (.int wd), some (.bl sg), some (.int most), some (.int (2 ^ wd)), some (.int at_), some (.adr p), none, none, none] m' := by
  have hp8 : (2 : Int) ^ wd ≤ 256 := by
    rw [two_pow_nat]
    exact Int.ofNat_le.mpr (Nat.pow_le_pow_right (by decide : 2 > 0) hw8 : 2 ^ wd ≤ 2 ^ 8)
  have hp0 : (0 : Int) < 2 ^ wd := Int.pow_pos (by decide)
  have hpd : (2 : Int) ^ wd = 2 ^ (wd - 1) + 2 ^ (wd - 1) := by
    have e : wd = (wd - 1) + 1 := by omega
    have e2 : (2 : Int) ^ ((wd - 1) + 1) = 2 ^ (wd - 1) * 2 := Int.pow_succ 2 (wd - 1)
    rw [← e] at e2
    omega
  have hmn : 1 ≤ mnf ((most : Nat) : Int) 4 ∧ mnf ((most : Nat) : Int) 4 ≤ 4 ∧ mnf ((most : Nat) : Int) 4 ≤ most := by
    unfold mnf
    split <;> omega
  show if decide (((most : Nat) : Int) = 0) = true then _ else _
  refine ifD (fun h => absurd h (by omega)) (fun _ => ?_)
  refine ⟨rfl, t, mnf ((most : Nat) : Int) 4, l, rfl, hmn.1, by omega, he.1, hT, fun r l1 hr hT1 => ⟨by omega, by omega, ?_⟩⟩
  have hrm : r + 1 ≤ most ∧ r < 4 := by omega
  refine loop_rg (fun i g' m2 => ∃ (y7 : Option D) (a : Int) (ns2 : List Int) (l2 : List D), g' = [some (.adr t), some (.int wd), some (.bl sg), some (.int most), some (.int (2 ^ wd)), some (.int a), some (.adr p), y7, none, none] ∧ Ext m m2 t l2 ∧ Tape l2 ∧ m2 p = some (ns2.map D.int) ∧ ns2.length ≤ 1 + i ∧ (∀ n ∈ ns2, 0 ≤ n ∧ n < 2 ^ wd) ∧ ns2 ≠ []) ⟨none, at_, ns, l1, rfl, he.set, hT1, by rw [mset_ne hpt]; exact hp, hl, hns, hne⟩ (fun _ _ _ _ => trivial) (fun i g' m2 hi hI => ?_) (fun g' m2 hI => ?_)
  · obtain ⟨y7, a, ns2, l2, rfl, he2, hT2, hp2, hl2, hns2, hne2⟩ := hI
    have hi3 : i < r := by omega
    refine ⟨⟨by decide, by decide⟩, ⟨by decide, by decide⟩, szr rfl, rfl, t, 6, l2, rfl, by decide, by decide, he2.1, hT2, fun r3 l3 hr3 hT3 => ?_⟩
    obtain ⟨dx, hdx⟩ : ∃ x : Int, atI [D.int 1, .int 1, .int 2, .int 7, .int (2 ^ wd / 2), .int (1 + 2 ^ wd / 4)] ((r3 : Nat) : Int) = some (.int x) := by
      have h6 : r3 < 6 := by omega
      rw [atI_c]
      match r3, h6 with
      | 0, _ => exact ⟨_, rfl⟩
      | 1, _ => exact ⟨_, rfl⟩
      | 2, _ => exact ⟨_, rfl⟩
      | 3, _ => exact ⟨_, rfl⟩
      | 4, _ => exact ⟨_, rfl⟩
      | 5, _ => exact ⟨_, rfl⟩
    refine (show onSome (atI [D.int 1, .int 1, .int 2, .int 7, .int (2 ^ wd / 2), .int (1 + 2 ^ wd / 4)] ((r3 : Nat) : Int)) _ from ?_)
    rw [hdx]
    have hp3 : mset m2 t l3 p = some (ns2.map D.int) := by
      rw [mset_ne hpt]
      exact hp2
    refine ⟨hp0, _, hp3, ns2, rfl, ?_⟩
    show if (!decide ((a + dx) % 2 ^ wd ∈ ns2)) = true then _ else _
    refine ifDn (fun _ => ?_) (fun _ => ⟨_, _, ns2, l3, rfl, he2.set, hT3, hp3, by omega, hns2, hne2⟩)
    have z1 := Int.emod_nonneg (a + dx) (Int.ne_of_gt hp0)
    have z2 := Int.emod_lt_of_pos (a + dx) hp0
    refine ⟨⟨_, hp3⟩, _, hp3, szl (by rw [List.length_map]; omega), _, _, ns2 ++ [(a + dx) % 2 ^ wd], l3, rfl, ⟨?_, fun b es e hb => ?_⟩, hT3, ?_, ?_, fun n hn => ?_, fun e => ?_⟩
    · rw [mset_ne hpt.symm]
      exact mset_same
    · by_cases hbp : b = p
      · rw [hbp, hmp] at hb
        cases hb
      · rw [mset_ne hbp, mset_ne e]
        exact he2.2 b es e hb
    · rw [mset_same, List.map_append]
      rfl
    · rw [List.length_append, List.length_singleton]
      omega
    · rcases List.mem_append.mp hn with z | z
      · exact hns2 n z
      · rw [List.mem_singleton.mp z]
        exact ⟨z1, z2⟩
    · have := congrArg List.length e
      rw [List.length_append, List.length_singleton, List.length_nil] at this
      omega
  · obtain ⟨y7, a, ns2, l2, rfl, he2, hT2, hp2, hl2, hns2, hne2⟩ := hI
    rw [Int.toNat_natCast] at hl2
    have fin : ∀ (low : Int) (y8 y9 : Option D), (∀ n, 0 ≤ n → n < 2 ^ wd → inF sg wd (n - low)) → dRetW (dCall 1 sp_l_runs (dCons (dLc (diSeq (dCB dSorted (dCons (dVar 6) dNil))) (gdN 9) dYes (dOp dSub (dVar 9) (dVar 8)) ([(("_law_number" : Str), 9)].map fun x => x.2)) dNil)) ⟨N, Q⟩ [some (.adr t), some (.int wd), some (.bl sg), some (.int most), some (.int (2 ^ wd)), some (.int a), some (.adr p), y8, some (.int low), y9] m2 := fun low y8 y9 hlow => by
      refine ⟨ns2, hp2, fun ns' hpm hsd => ?_⟩
      have hnl : ns'.length = ns2.length := hpm.length_eq
      refine lc_pure (f := D.int) (xs := ns') (fun n => .int (n - low)) (by omega) (fun n hn m3 R hm hR => hR) ?_
      refine ⟨rfl, ns'.map (fun n => n - low), by rw [List.map_map] <;> rfl, by rw [List.length_map]; omega, fun ps hsum hps hpsn => ⟨mset m t l2, he2.ret, q _ l2 (.inr ⟨ps, rfl, hpsn fun e => hne2 ?_, fun x hx => ?_, ?_⟩) hT2⟩⟩
      · have := List.map_eq_nil_iff.mp e
        rw [this] at hpm
        exact List.nil_perm.mp hpm
      · obtain ⟨z1, z2, z3⟩ := hps x hx
        obtain ⟨n1, hn1, e1⟩ := List.mem_map.mp z2
        obtain ⟨n2, hn2, e2⟩ := List.mem_map.mp z3
        have h1 := hns2 n1 (hpm.mem_iff.mp hn1)
        have h2 := hns2 n2 (hpm.mem_iff.mp hn2)
        rw [← e1, ← e2] at z1 ⊢
        exact ⟨z1, hlow n1 h1.1 h1.2, hlow n2 h2.1 h2.2⟩
      · rw [hsum, List.length_map]
        omega
    cases sg with
    | true =>
      refine ⟨⟨by decide, by decide⟩, fin (2 ^ wd / 2) _ _ fun n h1 h2 => ?_⟩
      unfold inF
      rw [if_pos rfl]
      omega
    | false =>
      refine fin 0 _ _ fun n h1 h2 => ?_
      unfold inF
      rw [if_neg Bool.false_ne_true]
      omega
section
variable {P : Program} {w : World} {K : PySem.W.Frag} {mg : Str → Option Value} {base : Heap}
theorem sc_l_any_word : FnScope ["_law_tape_here"] ["_law_tape_here"] (defScope s_l_any_word) := ⟨rfl, rfl, rfl, by decide +kernel, rfl, by decide +kernel, by decide +kernel⟩
theorem cal_l_any_word  (D0 : Def K mg "_law_any_word" s_l_any_word) (B : Blt mg) (c_l_draw : Cal P w K mg base "_law_draw" (1) ["_law_tape_here", "_law_many"] (up K 2 sp_l_draw))  : Cal P w K mg base "_law_any_word" (2) ["_law_tape_here"] (up K 1 sp_l_any_word) := by
  refine D0.cal (N := ["_law_tape_here"]) (k := 1) sc_l_any_word [] rfl (fun _ _ _ _ _ _ us hl => match us, hl with | [_], _ => rfl) (fun f cdv A outer s H E hr => ⟨_, _,
(dss_one (ds_ret (de_ix (de_lst (da_cons de_str (da_cons de_str (da_cons de_str (da_cons de_str (da_cons de_str (da_cons de_str da_nil))))))) (de_call c_l_draw (hr.mono (by first | decide | omega)) (by rfl) (da_cons (dv 0) (da_cons de_int da_nil)))))),
    fun ds m Q hl hs => ?_⟩)
  -- slots: 0 _law_tape_here
  obtain ⟨t, l, rfl, ht, hT, q⟩ := hs
  refine ⟨szr rfl, rfl, t, 6, l, rfl, by decide, by decide, ht, hT, fun r l1 hr hT1 => ?_⟩
  obtain ⟨wd, hw⟩ := any_at (r := r) (by omega)
  refine (show onSome (atI [D.str "u8", .str "u8", .str "u16be", .str "u16le", .str "u32be", .str "u32le"] ((r : Nat) : Int)) _ from ?_)
  rw [hw]
  exact q wd l1 hT1
theorem sc_l_a_count : FnScope ["_law_tape_here", "_law_least", "_law_greatest", "_law_share"] ["_law_tape_here", "_law_least", "_law_greatest"] (defScope s_l_a_count) := ⟨rfl, rfl, rfl, by decide +kernel, rfl, by decide +kernel, by decide +kernel⟩
theorem cal_l_a_count  (D0 : Def K mg "_law_a_count" s_l_a_count) (B : Blt mg) (c_l_draw : Cal P w K mg base "_law_draw" (1) ["_law_tape_here", "_law_many"] (up K 2 sp_l_draw)) (c_l_any_word : Cal P w K mg base "_law_any_word" (2) ["_law_tape_here"] (up K 1 sp_l_any_word))  : Cal P w K mg base "_law_a_count" (3) ["_law_tape_here", "_law_least", "_law_greatest"] (up K 3 sp_l_a_count) := by
  refine D0.cal (N := ["_law_tape_here", "_law_least", "_law_greatest", "_law_share"]) (k := 2) sc_l_a_count [none] rfl (fun _ _ _ _ _ _ us hl => match us, hl with | [_, _, _], _ => rfl) (fun f cdv A outer s H E hr => ⟨_, _,
(dss_cons (ds_set (i := 3) sc_l_a_count.nd rfl (.inl rfl) (de_call c_l_draw (hr.mono (by first | decide | omega)) (by rfl) (da_cons (dv 0) (da_cons de_int da_nil))))
(dss_cons (ds_if (DW.dt (dw_and (dt_eq (dv 1) (dv 2)) (dw_and1 (dt_gt (dv 3) de_int))))
(dss_one (ds_ret (de_tup (da_cons de_str (da_cons (dv 2) da_nil)))))
dss_nil)
(dss_cons (ds_if (DW.dt (dw_and (dt_eq (dv 1) de_int) (dw_and1 (dt_gt (dv 3) de_int))))
(dss_one (ds_ret (de_tup (da_cons de_str (da_cons (dv 2) da_nil)))))
dss_nil)
(dss_one (ds_ret (de_tup (da_cons de_str (da_cons (de_call c_l_any_word (hr.mono (by first | decide | omega)) (by rfl) (da_cons (dv 0) da_nil)) (da_cons (dv 1) (da_cons (dv 2) da_nil)))))))))),
    fun ds m Q hl hs => ?_⟩)
  -- slots: 0 _law_tape_here 1 _law_least 2 _law_greatest 3 _law_share
  obtain ⟨t, l, lo, hi, rfl, h1, h2, h3, ht, hT, q⟩ := hs
  refine ⟨rfl, t, 3, l, rfl, by decide, by decide, ht, hT, fun r l1 hr hT1 => ?_⟩
  have fin : ∀ l2 : List D, Tape l2 → ∀ wd : Wd, Q (.tup [.str "counted", .str wd.name, .int lo, .int hi]) (mset m t l2) := fun l2 hT2 wd => q (.counted wd lo hi) l2 (fun k a b => ⟨a, b, by omega⟩) (Nat.le_refl _) hT2
  walk_at "dr"
  have gen : sp_l_any_word [.adr t] (mset m t l1) fun x m1 => 0 + 1 + 1 + 1 + 1 ≤ sizeLine ∧ Q (.tup [.str "counted", x, .int lo, .int hi]) m1 := ⟨t, l1, rfl, mset_same, hT1, fun wd l2 hT2 => ⟨szr rfl, by rw [mset_mset]; exact fin l2 hT2 wd⟩⟩
  refine ifD (fun ha => ?_) (fun ha => ?_)
  · refine ifD (fun hb => ⟨szr rfl, q (.exactly hi) l1 (fun k a b => ?_) (Nat.le_refl _) hT1⟩) (fun hb => ?_)
    · have : lo = hi := Int.ofNat.inj ha
      show k = hi
      omega
    · exact ifD (fun _ => ifD (fun _ => ⟨szr rfl, q (.marked hi) l1 (fun k a b => b) (Nat.le_refl _) hT1⟩) (fun _ => gen)) (fun _ => ifF rfl gen)
  · exact ifF rfl (ifD (fun _ => ifD (fun _ => ⟨szr rfl, q (.marked hi) l1 (fun k a b => b) (Nat.le_refl _) hT1⟩) (fun _ => gen)) (fun _ => ifF rfl gen))
theorem sc_l_ranges : FnScope ["_law_tape_here", "_law_width", "_law_signed", "_law_most", "_law_span", "_law_at", "_law_numbers", "_law_k", "_law_lowest", "_law_number"] ["_law_tape_here", "_law_width", "_law_signed", "_law_most"] (defScope s_l_ranges) := ⟨rfl, rfl, rfl, by decide +kernel, rfl, by decide +kernel, by decide +kernel⟩
theorem cal_l_ranges  (D0 : Def K mg "_law_ranges" s_l_ranges) (B : Blt mg) (c_l_draw : Cal P w K mg base "_law_draw" (1) ["_law_tape_here", "_law_many"] (up K 2 sp_l_draw)) (c_l_runs : Cal P w K mg base "_law_runs" (1) ["_law_numbers"] (up K 1 sp_l_runs))  : Cal P w K mg base "_law_ranges" (2) ["_law_tape_here", "_law_width", "_law_signed", "_law_most"] (up K 4 sp_l_ranges) := by
  refine D0.cal (N := ["_law_tape_here", "_law_width", "_law_signed", "_law_most", "_law_span", "_law_at", "_law_numbers", "_law_k", "_law_lowest", "_law_number"]) (k := 1) sc_l_ranges [none, none, none, none, none, none] rfl (fun _ _ _ _ _ _ us hl => match us, hl with | [_, _, _, _], _ => rfl) (fun f cdv A outer s H E hr => ⟨_, _,
(dss_cons (ds_set (i := 4) sc_l_ranges.nd rfl (.inl rfl) (de_shl de_int (dv 1)))
(dss_cons (ds_if (DW.dt (dw_or (dt_gt (dv 1) de_int) (dw_or1 (DW.dt (dw_and (DW.dt (dw_or (dt_eq (dv 3) de_int) (dw_or1 (dt_le (dv 4) (dv 3))))) (dw_and1 (dt_eq (de_call c_l_draw (hr.mono (by first | decide | omega)) (by rfl) (da_cons (dv 0) (da_cons de_int da_nil))) de_int)))))))
(dss_one (ds_ret de_non))
dss_nil)
(dss_cons (ds_set (i := 5) sc_l_ranges.nd rfl (.inl rfl) (de_call c_l_draw (hr.mono (by first | decide | omega)) (by rfl) (da_cons (dv 0) (da_cons (dv 4) da_nil))))
(dss_cons (ds_set (i := 6) sc_l_ranges.nd rfl (.inl rfl) (de_new (da_cons (dv 5) da_nil)))
(dss_cons (ds_if (DW.dt (dw_and (dt_eq (dv 3) de_int) (dw_and1 (dt_eq (de_call c_l_draw (hr.mono (by first | decide | omega)) (by rfl) (da_cons (dv 0) (da_cons de_int da_nil))) de_int))))
(dss_one (ds_set (i := 6) sc_l_ranges.nd rfl (.inl rfl) (de_newRg rfl (by rfl) B.list (drg2 (by rfl) B.range (dv 5) (de_add (de_add (dv 5) de_int) (de_call c_l_draw (hr.mono (by first | decide | omega)) (by rfl) (da_cons (dv 0) (da_cons (de_sub (dv 4) (dv 5)) da_nil))))))))
dss_nil)
(dss_cons (ds_for PassesOwn.never rfl (di_rg1 (by rfl) B.range (de_call c_l_draw (hr.mono (by first | decide | omega)) (by rfl) (da_cons (dv 0) (da_cons (de_if (dt_eq (dv 3) de_int) de_int (de_cb rMin' (call_min2 rfl) sc_min (by rfl) B.min bt_min (da_cons (dv 3) (da_cons de_int da_nil)))) da_nil)))) (dg_name (i := 7) sc_l_ranges.nd rfl (.inl rfl))
(dss_cons (ds_set (i := 5) sc_l_ranges.nd rfl (.inl rfl) (de_mod (de_ct rInt' call_int1 sc_int (by rfl) B.int bt_int (da_cons (de_add (dv 5) (de_ix (de_lst (da_cons de_int (da_cons de_int (da_cons de_int (da_cons de_int (da_cons (de_fdv (dv 4) de_int) (da_cons (de_add de_int (de_fdv (dv 4) de_int)) da_nil))))))) (de_call c_l_draw (hr.mono (by first | decide | omega)) (by rfl) (da_cons (dv 0) (da_cons de_int da_nil))))) da_nil)) (dv 4)))
(dss_one (ds_if (dt_notin (dv 5) (dv 6))
(dss_one (ds_expr (de_append (dv 6) (dv 5))))
dss_nil))))
(dss_cons (ds_set (i := 8) sc_l_ranges.nd rfl (.inr rfl) (de_if (dt_val (dv 2)) (de_fdv (dv 4) de_int) de_int))
(dss_one (ds_retW (de_call c_l_runs (hr.mono (by first | decide | omega)) (by rfl) (da_cons (de_lc (own := [("_law_number", 9)]) rfl sc_l_ranges.nd (di_seq (de_cb rSortedI cr_sortedI sc_sorted (by rfl) B.sorted bt_sorted (da_cons (dv 6) da_nil))) (blkOk_by (N := ["_law_tape_here", "_law_width", "_law_signed", "_law_most", "_law_span", "_law_at", "_law_numbers", "_law_k", "_law_lowest", "_law_number"]) (sc := defScope s_l_ranges) (own := [("_law_number", 9)]) (by decide +kernel)) (fun _ _ _ _ _ => (dg_name (i := 9) sc_l_ranges.nd rfl (.inl rfl))) (keepN 9) (fun _ _ _ _ _ => dts_nil) (fun _ _ _ _ _ => (de_sub (dv 9) (dv 8))) (by intro _; rfl) s H) da_nil))))))))))),
    fun ds m Q hl hs => ?_⟩)
  -- slots: 0 _law_tape_here 1 _law_width 2 _law_signed 3 _law_most 4 _law_span 5 _law_at 6 _law_numbers 7 _law_k 8 _law_lowest 9 _law_number
  obtain ⟨t, l, wd, sg, most, rfl, hw1, hw8, hm1, hm2, ht, hT, q⟩ := hs
  refine ⟨cpow1 (by omega), ?_⟩
  walk_at "dr"
  refine ifD (fun h => absurd h (by omega)) (fun _ => ?_)
  refine ifD (fun h => absurd h (by omega)) (fun _ => ?_)
  rw [powlit]
  have hp8 : (2 : Int) ^ wd ≤ 256 := by
    rw [two_pow_nat]
    exact Int.ofNat_le.mpr (Nat.pow_le_pow_right (by decide : 2 > 0) hw8 : 2 ^ wd ≤ 2 ^ 8)
  have hp0 : (0 : Int) < 2 ^ wd := Int.pow_pos (by decide)
  have cont : ∀ (A B : D → D → Mu → Prop) (l1 : List D), Tape l1 → ∀ m1 : Mu, Ext m m1 t l1 → sp_l_draw [.adr t, .int (2 ^ wd)] m1 fun d m1 => dNew (dCons (dVar 5) dNil) [some (.adr t), some (.int wd), some (.bl sg), some (.int most), some (.int (2 ^ wd)), some d, none, none, none, none] m1 fun d_1 m1 => if decide (((most : Nat) : Int) = 0) = true then A d d_1 m1 else if false = true then B d d_1 m1 else rgLoop ⟨fun _ m' => Q .non m', Q⟩ [some (.adr t), some (.int wd), some (.bl sg), some (.int most), some (.int (2 ^ wd)), some d, some d_1, none, none, none] m1 := fun A B l1 hT1 m1 he => by
    refine ⟨t, 2 ^ wd, l1, rfl, by omega, by omega, he.1, hT1, fun r l2 hr hT2 => ⟨szr rfl, fun p hp => ?_⟩⟩
    have he2 := he.set (l' := l2)
    have hpt : p ≠ t := fun e => by
      rw [e, mset_same] at hp
      cases hp
    have hmp : m p = none := by
      cases e : m p with
      | none => rfl
      | some es =>
        have z := he2.2 p es hpt e
        rw [hp] at z
        cases z
    refine ifD (fun h => absurd h (by omega)) (fun _ => ifF rfl ?_)
    exact rg_loop hw1 hw8 hm1 hm2 (ns := [((r : Nat) : Int)]) (he2.new hp) hpt hmp mset_same hT2 (by show 1 ≤ 1; decide) (fun n hn => by rw [List.mem_singleton.mp hn]; exact ⟨Int.natCast_nonneg _, hr⟩) (fun e => (nomatch e)) q
  refine ifD (fun hsp => ⟨t, 2, l, rfl, by decide, by decide, ht, hT, fun r l1 hr hT1 => ?_⟩) (fun _ => ifF rfl (cont _ _ l hT m (Ext.refl ht)))
  refine ifD (fun _ => q .non l1 (.inl ⟨rfl, ?_⟩) hT1) (fun _ => cont _ _ l1 hT1 _ (Ext.refl ht).set)
  rw [two_pow_nat] at hsp
  exact Int.ofNat_le.mp hsp
end
end BB

namespace BB
open PySem PySem.Spec PyProof.Rows L2
local macro_rules | `(tactic| walk_at "dl") => `(tactic| simp only [dIfS, dIfE, dTest, dOp, dVar, dC, dIx, dEq, dNe, dI, dIc, dIsN, dNotN, isNonD, dAndT, dOrT, dNotT, dAndV, dNeg, dAdd, dTup, dLst, dCons, dNil, dCB, dCall, dLc, true_and, dLen, dInt1, dInt2, withSeq, with1_1, onSome_some, atI_0, atI_1, atI_2, atI_3, atI_4, atI_5, atI_6, List.getElem?_cons_succ, List.getElem?_cons_zero, List.set_cons_zero, List.set_cons_succ, gdN, Part.enc, encN, Bool.not_true, Bool.not_false, mapS_cons, mapS_nil, List.length_cons, List.length_nil, List.cons_append, List.nil_append, gdTup, gdCons, gdNil, dAppend, dExtend, dListF, dTupOf, dMul, dSl, dNoP, dPart])
local macro_rules | `(tactic| walk_at "dr") => `(tactic| simp only [dSeq, dAsg, dRet, dRetW, dDrop, dNext, dFor, diSeq, dIfS, dIfE, dTest, dOp, dVar, dC, dIx, dEq, dNe, dI, dIc, dIsN, dNotN, isNonD, dAndT, dOrT, dNotT, dAndV, dNeg, dAdd, dTup, dLst, dCons, dNil, dCB, dCall, dLc, true_and, dLen, dInt1, dInt2, withSeq, with1_1, onSome_some, atI_0, atI_1, atI_2, atI_3, atI_4, atI_5, atI_6, List.getElem?_cons_succ, List.getElem?_cons_zero, List.set_cons_zero, List.set_cons_succ, gdN, Part.enc, encN, Bool.not_true, Bool.not_false, mapS_cons, mapS_nil, List.length_cons, List.length_nil, List.cons_append, List.nil_append, gdTup, gdCons, gdNil, dAppend, dExtend, dListF, dTupOf, dMul, dSl, dNoP, dPart])

/-! ## constants, fields, parts -/
structure ConstI (it : Item) : Prop where
  ks : kindsI it = []
  wf : ∀ n, wfI n it
  mx : ∀ n, mxI n it ≤ 3
  en : ∀ n, encI n it = encI 0 it
theorem const_chk (x : Bool) : ConstI (.chk x) := ⟨rfl, fun n => by cases n <;> trivial, fun n => by cases n <;> exact (by decide : 1 ≤ 3), fun n => by rw [encI_chk, encI_chk]⟩
theorem const_res {k : Nat} (h : k ≤ 3) : ConstI (.res k) := ⟨rfl, fun n => by cases n <;> exact Nat.le_trans h (by decide), fun n => by cases n <;> exact h, fun n => by rw [encI_res, encI_res]⟩
theorem const_lit {data : List Int} (h : data.length ≤ 3) (hb : ∀ b ∈ data, 0 ≤ b ∧ b < 256) : ConstI (.lit data) := ⟨rfl, fun n => by cases n <;> exact ⟨Nat.le_trans h (by decide), hb⟩, fun n => by cases n <;> exact h, fun n => by rw [encI_lit, encI_lit]⟩
def padParts : List Part := [⟨none, 3, false, .non, .non⟩, ⟨none, 5, false, .non, .non⟩]
theorem const_pad : ConstI (.word .u8 padParts) := ⟨rfl, fun n => by
    have z : (padParts.map Part.width).sum = 8 * Wd.u8.size ∧ ∀ p ∈ padParts, wfP p := ⟨rfl, fun p hp => by
      rcases List.mem_cons.mp hp with e | e
      · rw [e]
        exact ⟨by decide, by decide⟩
      · rw [List.mem_singleton.mp e]
        exact ⟨by decide, by decide⟩⟩
    cases n <;> exact z, fun n => by cases n <;> exact (by decide : 1 ≤ 3), fun n => by rw [encI_word, encI_word]⟩
def sp_l_constant : SpD := fun ds m Q => ∃ (t : Addr) (l : List D), ds = [.adr t] ∧ m t = some l ∧ Tape l ∧ ∀ (it : Item) (l' : List D), ConstI it → Tape l' → Q (encI 0 it) (mset m t l')
def sp_l_a_field : SpD := fun ds m Q => ∃ (t : Addr) (l : List D) (ws : List Nat) (most : Nat), ds = [.adr t, .lst (ws.map fun w => .int (w : Nat)), .int most] ∧ ws ≠ [] ∧ ws.length ≤ 100 ∧ (∀ w ∈ ws, 1 ≤ w ∧ w ≤ 8) ∧ 1 ≤ most ∧ most ≤ 1000 ∧ m t = some l ∧ Tape l ∧ ∀ (w : Nat) (sg : Bool) (d : D) (l' : List D), w ∈ ws → RgD sg w most d → Tape l' → Q (.tup [.int w, .bl sg, d]) (mset m t l')
def sp_l_a_number : SpD := fun ds m Q => ∃ (t : Addr) (l : List D) (w : Nat) (sg : Bool) (most : Nat) (d : D), ds = [.adr t, .int w, .bl sg, d] ∧ 1 ≤ w ∧ w ≤ 8 ∧ most ≤ 1000 ∧ RgD sg w most d ∧ m t = some l ∧ Tape l ∧ ∀ (i : Int) (l' : List D), Tape l' → Q (.int i) (mset m t l')
def sp_l_part : SpD := fun ds m Q => ∃ (t u : Addr) (l : List D) (used : List Str) (w : Nat) (sg : Bool) (most : Nat) (d : D), ds = [.adr t, .adr u, .tup [.int w, .bl sg, d]] ∧ t ≠ u ∧ m u = some (used.map D.str) ∧ used.length ≤ 20 ∧ 1 ≤ w ∧ w ≤ 8 ∧ most ≤ 1000 ∧ RgD sg w most d ∧ m t = some l ∧ Tape l ∧
  (∀ l', Tape l' → Q (Part.enc ⟨none, w, false, .non, .non⟩) (mset m t l')) ∧ ∀ (s : Str) (df : D) (l' : List D), s ∉ used → Tape l' → Q (Part.enc ⟨some s, w, sg, d, df⟩) (mset (mset m t l') u ((used ++ [s]).map D.str))
section
variable {P : Program} {w : World} {K : PySem.W.Frag} {mg : Str → Option Value} {base : Heap}
theorem sc_l_constant : FnScope ["_law_tape_here", "_law_share", "_law_k"] ["_law_tape_here"] (defScope s_l_constant) := ⟨rfl, rfl, rfl, by decide +kernel, rfl, by decide +kernel, by decide +kernel⟩
theorem cal_l_constant  (D0 : Def K mg "_law_constant" s_l_constant) (B : Blt mg) (c_l_draw : Cal P w K mg base "_law_draw" (1) ["_law_tape_here", "_law_many"] (up K 2 sp_l_draw))  : Cal P w K mg base "_law_constant" (2) ["_law_tape_here"] (up K 1 sp_l_constant) := by
  refine D0.cal (N := ["_law_tape_here", "_law_share", "_law_k"]) (k := 1) sc_l_constant [none, none] rfl (fun _ _ _ _ _ _ us hl => match us, hl with | [_], _ => rfl) (fun f cdv A outer s H E hr => ⟨_, _,
(dss_cons (ds_set (i := 1) sc_l_constant.nd rfl (.inl rfl) (de_call c_l_draw (hr.mono (by first | decide | omega)) (by rfl) (da_cons (dv 0) (da_cons de_int da_nil))))
(dss_cons (ds_if (dt_lt (dv 1) de_int)
(dss_one (ds_ret (de_tup (da_cons de_str (da_cons (de_ix (de_lst (da_cons de_str (da_cons de_str da_nil))) (dv 1)) da_nil)))))
dss_nil)
(dss_cons (ds_if (dt_eq (dv 1) de_int)
(dss_one (ds_ret (de_tup (da_cons de_str (da_cons (de_add de_int (de_call c_l_draw (hr.mono (by first | decide | omega)) (by rfl) (da_cons (dv 0) (da_cons de_int da_nil)))) da_nil)))))
dss_nil)
(dss_cons (ds_if (dt_eq (dv 1) de_int)
(dss_one (ds_ret (de_tup (da_cons de_str (da_cons de_str (da_cons (de_tup (da_cons (de_tup (da_cons de_non (da_cons de_int (da_cons de_bl (da_cons de_non (da_cons de_non da_nil)))))) (da_cons (de_tup (da_cons de_non (da_cons de_int (da_cons de_bl (da_cons de_non (da_cons de_non da_nil)))))) da_nil))) da_nil))))))
dss_nil)
(dss_one (ds_ret (de_tup (da_cons de_str (da_cons (de_ct rTupOf call_tuple_of sc_tup (by rfl) B.tuple bt_tuple (da_cons (de_lc (own := [("_law_k", 2)]) rfl sc_l_constant.nd (di_rg1 (by rfl) B.range (de_add de_int (de_call c_l_draw (hr.mono (by first | decide | omega)) (by rfl) (da_cons (dv 0) (da_cons de_int da_nil))))) (blkOk_by (N := ["_law_tape_here", "_law_share", "_law_k"]) (sc := defScope s_l_constant) (own := [("_law_k", 2)]) (by decide +kernel)) (fun _ _ _ _ _ => (dg_name (i := 2) sc_l_constant.nd rfl (.inl rfl))) (keepN 2) (fun _ _ _ _ _ => dts_nil) (fun _ _ _ _ _ => (de_call c_l_draw (hr.mono (by first | decide | omega)) (by rfl) (da_cons (dv 0) (da_cons de_int da_nil)))) (by intro _; rfl) s H) da_nil)) da_nil))))))))),
    fun ds m Q hl hs => ?_⟩)
  -- slots: 0 _law_tape_here 1 _law_share 2 _law_k
  obtain ⟨t, l, rfl, ht, hT, q⟩ := hs
  refine ⟨rfl, t, 6, l, rfl, by decide, by decide, ht, hT, fun r l1 hr hT1 => ?_⟩
  show if decide (((r : Nat) : Int) < 2) = true then _ else _
  refine ifD (fun h => ?_) (fun h => ?_)
  · obtain ⟨x, hx⟩ : ∃ x : Bool, atI [D.str "sum", .str "xor"] ((r : Nat) : Int) = some (.str (chkS x)) := by
      have h2 : r < 2 := by omega
      rw [atI_c]
      match r, h2 with
      | 0, _ => exact ⟨false, rfl⟩
      | 1, _ => exact ⟨true, rfl⟩
    refine ⟨szr rfl, ?_⟩
    refine (show onSome (atI [D.str "sum", .str "xor"] ((r : Nat) : Int)) _ from ?_)
    rw [hx]
    have z := q (.chk x) l1 (const_chk x) hT1
    rw [encI_chk] at z
    exact ⟨szr rfl, z⟩
  · show if decide (((r : Nat) : Int) = 2) = true then _ else _
    refine ifD (fun h => ?_) (fun h => ?_)
    · refine ⟨rfl, t, 3, l1, rfl, by decide, by decide, mset_same, hT1, fun r2 l2 hr2 hT2 => ⟨szr rfl, ?_⟩⟩
      have z := q (.res (1 + r2)) l2 (const_res (by omega)) hT2
      rw [encI_res] at z
      rw [mset_mset]
      have e : ((1 + r2 : Nat) : Int) = 1 + (r2 : Int) := by omega
      rw [e] at z
      exact z
    · show if decide (((r : Nat) : Int) = 3) = true then _ else _
      refine ifD (fun h => ?_) (fun h => ?_)
      · have z := q (.word .u8 padParts) l1 const_pad hT1
        rw [encI_word] at z
        exact ⟨szr rfl, szr rfl, szr rfl, szr rfl, z⟩
      · refine ⟨rfl, t, 3, l1, rfl, by decide, by decide, mset_same, hT1, fun r2 l2 hr2 hT2 => ⟨by omega, by omega, ?_⟩⟩
        rw [mset_mset]
        refine lc_map (f := D.int) fun a ha => ⟨fun pre acc m' => ∃ (l3 : List D) (data : List Int), acc = data.map D.int ∧ (∀ b ∈ data, 0 ≤ b ∧ b < 256) ∧ data.length = pre.length ∧ m' = mset m t l3 ∧ Tape l3, ⟨l2, [], rfl, fun _ h => (nomatch h), rfl, rfl, hT2⟩, fun pre acc m' h => ⟨trivial, ?_⟩, fun pre x post acc m' ex h => ?_, fun acc m' h => ?_⟩
        · obtain ⟨l3, data, _, _, _, rfl, _⟩ := h
          have hat : a ≠ t := fun e => by
            rw [e, mset_same] at ha
            cases ha
          rw [mset_ne hat] at ha ⊢
          exact ha
        · obtain ⟨l3, data, rfl, hb, hl, rfl, hT3⟩ := h
          have hat : a ≠ t := fun e => by
            rw [e, mset_same] at ha
            cases ha
          have hpl : pre.length ≤ 100 := by
            have := congrArg List.length ex
            rw [rgI_len, List.length_append, List.length_cons] at this
            omega
          have hmt : mset (mset m t l3) a (data.map D.int) t = some l3 := by
            rw [mset_ne hat.symm]
            exact mset_same
          refine ⟨rfl, t, 256, l3, rfl, by decide, by decide, hmt, hT3, fun r3 l4 hr3 hT4 => ⟨szl ?_, mset m t l4, ?_, l4, data ++ [((r3 : Nat) : Int)], ?_, fun b hb2 => ?_, ?_, rfl, hT4⟩⟩
          · rw [List.length_map]
            omega
          · rw [mset_comm hat, mset_mset]
          · rw [List.map_append]
            rfl
          · rcases List.mem_append.mp hb2 with z | z
            · exact hb b z
            · rw [List.mem_singleton.mp z]
              omega
          · rw [List.length_append, List.length_append, hl]
            rfl
        · obtain ⟨l3, data, rfl, hb, hl, rfl, hT3⟩ := h
          rw [rgI_len] at hl
          have z := q (.lit data) l3 (const_lit (by omega) hb) hT3
          rw [encI_lit] at z
          exact ⟨szr rfl, z⟩
theorem sc_l_a_field : FnScope ["_law_tape_here", "_law_widths", "_law_most", "_law_width", "_law_signed"] ["_law_tape_here", "_law_widths", "_law_most"] (defScope s_l_a_field) := ⟨rfl, rfl, rfl, by decide +kernel, rfl, by decide +kernel, by decide +kernel⟩
theorem cal_l_a_field  (D0 : Def K mg "_law_a_field" s_l_a_field) (B : Blt mg) (c_l_draw : Cal P w K mg base "_law_draw" (1) ["_law_tape_here", "_law_many"] (up K 2 sp_l_draw)) (c_l_ranges : Cal P w K mg base "_law_ranges" (2) ["_law_tape_here", "_law_width", "_law_signed", "_law_most"] (up K 4 sp_l_ranges))  : Cal P w K mg base "_law_a_field" (3) ["_law_tape_here", "_law_widths", "_law_most"] (up K 3 sp_l_a_field) := by
  refine D0.cal (N := ["_law_tape_here", "_law_widths", "_law_most", "_law_width", "_law_signed"]) (k := 2) sc_l_a_field [none, none] rfl (fun _ _ _ _ _ _ us hl => match us, hl with | [_, _, _], _ => rfl) (fun f cdv A outer s H E hr => ⟨_, _,
(dss_cons (ds_set (i := 3) sc_l_a_field.nd rfl (.inl rfl) (de_ix (dv 1) (de_call c_l_draw (hr.mono (by first | decide | omega)) (by rfl) (da_cons (dv 0) (da_cons (de_cb rLen' call_len_seq sc_len (by rfl) B.len bt_len (da_cons (dv 1) da_nil)) da_nil)))))
(dss_cons (ds_set (i := 4) sc_l_a_field.nd rfl (.inl rfl) (de_eq (de_call c_l_draw (hr.mono (by first | decide | omega)) (by rfl) (da_cons (dv 0) (da_cons de_int da_nil))) de_int))
(dss_one (ds_ret (de_tup (da_cons (dv 3) (da_cons (dv 4) (da_cons (de_call c_l_ranges (hr.mono (by first | decide | omega)) (by rfl) (da_cons (dv 0) (da_cons (dv 3) (da_cons (dv 4) (da_cons (dv 2) da_nil))))) da_nil)))))))),
    fun ds m Q hl hs => ?_⟩)
  -- slots: 0 _law_tape_here 1 _law_widths 2 _law_most 3 _law_width 4 _law_signed
  obtain ⟨t, l, ws, most, rfl, hne, hwl, hws, hm1, hm2, ht, hT, q⟩ := hs
  have hpos := List.length_pos_iff.mpr hne
  have hml : ((ws.map fun w => D.int (w : Nat)).length : Int) = (ws.length : Nat) := by rw [List.length_map]
  walk_at "dr"
  rw [hml]
  refine ⟨t, ws.length, l, rfl, by omega, by omega, ht, hT, fun r l1 hr hT1 => ?_⟩
  have hr2 : r < ws.length := by omega
  have hat : atI (ws.map fun w => D.int (w : Nat)) ((r : Nat) : Int) = some (.int (ws[r] : Nat)) := by
    rw [atI_c, List.getElem?_map, List.getElem?_eq_getElem hr2]
    rfl
  refine (show onSome (atI (ws.map fun w => D.int (w : Nat)) ((r : Nat) : Int)) _ from ?_)
  rw [hat]
  have hw := hws ws[r] (List.getElem_mem hr2)
  refine ⟨t, 3, l1, rfl, by decide, by decide, mset_same, hT1, fun r2 l2 hr2' hT2 => ?_⟩
  refine ⟨t, l2, ws[r], decide (((r2 : Nat) : Int) = 0), most, rfl, hw.1, hw.2, hm1, hm2, mset_same, hT2, fun d l3 hd hT3 => ⟨szr rfl, ?_⟩⟩
  rw [mset_mset, mset_mset]
  exact q ws[r] _ d l3 (List.getElem_mem hr2) hd hT3
theorem sc_l_a_number : FnScope ["_law_tape_here", "_law_width", "_law_signed", "_law_ranges_here", "_law_pair", "_law_code"] ["_law_tape_here", "_law_width", "_law_signed", "_law_ranges_here"] (defScope s_l_a_number) := ⟨rfl, rfl, rfl, by decide +kernel, rfl, by decide +kernel, by decide +kernel⟩
theorem cal_l_a_number  (D0 : Def K mg "_law_a_number" s_l_a_number) (B : Blt mg) (c_l_draw : Cal P w K mg base "_law_draw" (1) ["_law_tape_here", "_law_many"] (up K 2 sp_l_draw))  : Cal P w K mg base "_law_a_number" (2) ["_law_tape_here", "_law_width", "_law_signed", "_law_ranges_here"] (up K 4 sp_l_a_number) := by
  refine D0.cal (N := ["_law_tape_here", "_law_width", "_law_signed", "_law_ranges_here", "_law_pair", "_law_code"]) (k := 1) sc_l_a_number [none, none] rfl (fun _ _ _ _ _ _ us hl => match us, hl with | [_, _, _, _], _ => rfl) (fun f cdv A outer s H E hr => ⟨_, _,
(dss_cons (ds_if (dt_notN (dv 3) de_non)
(dss_cons (ds_set (i := 4) sc_l_a_number.nd rfl (.inl rfl) (de_ix (dv 3) (de_call c_l_draw (hr.mono (by first | decide | omega)) (by rfl) (da_cons (dv 0) (da_cons (de_cb rLen' call_len_seq sc_len (by rfl) B.len bt_len (da_cons (dv 3) da_nil)) da_nil)))))
(dss_one (ds_ret (de_add (de_ix (dv 4) de_int) (de_call c_l_draw (hr.mono (by first | decide | omega)) (by rfl) (da_cons (dv 0) (da_cons (de_add (de_sub (de_ix (dv 4) de_int) (de_ix (dv 4) de_int)) de_int) da_nil)))))))
dss_nil)
(dss_cons (ds_set (i := 5) sc_l_a_number.nd rfl (.inl rfl) (de_call c_l_draw (hr.mono (by first | decide | omega)) (by rfl) (da_cons (dv 0) (da_cons (de_shl de_int (de_cb rMin' (call_min2 rfl) sc_min (by rfl) B.min bt_min (da_cons (dv 1) (da_cons de_int da_nil)))) da_nil))))
(dss_cons (ds_if (dt_gt (dv 1) de_int)
(dss_one (ds_set (i := 5) sc_l_a_number.nd rfl (.inl rfl) (de_add (de_mul (dv 5) de_int) (de_call c_l_draw (hr.mono (by first | decide | omega)) (by rfl) (da_cons (dv 0) (da_cons de_int da_nil))))))
dss_nil)
(dss_cons (ds_set (i := 5) sc_l_a_number.nd rfl (.inl rfl) (de_and (de_ix (de_lst (da_cons de_int (da_cons (de_sub (de_shl de_int (dv 1)) de_int) (da_cons (de_shl de_int (de_sub (dv 1) de_int)) (da_cons (de_and (dv 5) de_int) (da_cons (dv 5) (da_cons (dv 5) da_nil))))))) (de_call c_l_draw (hr.mono (by first | decide | omega)) (by rfl) (da_cons (dv 0) (da_cons de_int da_nil)))) (de_sub (de_shl de_int (dv 1)) de_int)))
(dss_one (ds_ret (de_if (DW.dt (dw_and (dt_val (dv 2)) (dw_and1 (dt_eq (de_shr (dv 5) (de_sub (dv 1) de_int)) de_int)))) (de_sub (dv 5) (de_shl de_int (dv 1))) (dv 5)))))))),
    fun ds m Q hl hs => ?_⟩)
  -- slots: 0 _law_tape_here 1 _law_width 2 _law_signed 3 _law_ranges_here 4 _law_pair 5 _law_code
  obtain ⟨t, l, wd, sg, most, d, rfl, hw1, hw8, hm2, hR, ht, hT, q⟩ := hs
  have hp8 : (2 : Int) ^ wd ≤ 256 := by
    rw [two_pow_nat]
    exact Int.ofNat_le.mpr (Nat.pow_le_pow_right (by decide : 2 > 0) hw8 : 2 ^ wd ≤ 2 ^ 8)
  have hp0 : (0 : Int) < 2 ^ wd := Int.pow_pos (by decide)
  rcases hR with ⟨rfl, hcnt⟩ | ⟨ps, rfl, hpn, hps, hsum⟩
  · have hmin : mnf ((wd : Nat) : Int) 16 = (wd : Nat) := if_neg (by omega)
    have hsh : (1 : Int) * 2 ^ (mnf ((wd : Nat) : Int) 16).toNat = 2 ^ wd := by rw [hmin, powlit]
    have hcp : CPow 1 (mnf ((wd : Nat) : Int) 16) := by
      rw [hmin]
      exact cpow1 (by omega)
    have hcp1 : CPow 1 (((wd : Nat) : Int) - 1) := ⟨by omega, by omega, by decide⟩
    refine ⟨rfl, ?_⟩
    refine (show CPow 1 (mnf ((wd : Nat) : Int) 16) ∧ _ from ?_)
    refine ⟨hcp, rfl, t, 1 * 2 ^ (mnf ((wd : Nat) : Int) 16).toNat, l, rfl, by rw [hsh]; omega, by rw [hsh]; omega, ht, hT, fun r l1 hr hT1 => ?_⟩
    show if decide (16 < ((wd : Nat) : Int)) = true then _ else _
    refine ifD (fun h => absurd h (by omega)) (fun _ => ?_)
    refine ⟨cpow1 (by omega), hcp1, szr rfl, rfl, t, 6, l1, rfl, by decide, by decide, mset_same, hT1, fun r3 l2 hr3 hT2 => ?_⟩
    rw [mset_mset]
    obtain ⟨x, hx⟩ : ∃ x : Int, atI [D.int 0, .int (1 * 2 ^ ((wd : Nat) : Int).toNat - 1), .int (1 * 2 ^ (((wd : Nat) : Int) - 1).toNat), .int (Builtin.bitAnd r 255), .int r, .int r] ((r3 : Nat) : Int) = some (.int x) := by
      have h6 : r3 < 6 := by omega
      rw [atI_c]
      match r3, h6 with
      | 0, _ => exact ⟨_, rfl⟩
      | 1, _ => exact ⟨_, rfl⟩
      | 2, _ => exact ⟨_, rfl⟩
      | 3, _ => exact ⟨_, rfl⟩
      | 4, _ => exact ⟨_, rfl⟩
      | 5, _ => exact ⟨_, rfl⟩
    refine (show onSome (atI [D.int 0, .int (1 * 2 ^ ((wd : Nat) : Int).toNat - 1), .int (1 * 2 ^ (((wd : Nat) : Int) - 1).toNat), .int (Builtin.bitAnd r 255), .int r, .int r] ((r3 : Nat) : Int)) _ from ?_)
    rw [hx]
    refine ⟨cpow1 (by omega), ?_⟩
    cases sg with
    | true =>
      refine ⟨by omega, ?_⟩
      show if decide (Builtin.bitAnd x (1 * 2 ^ ((wd : Nat) : Int).toNat - 1) / 2 ^ (((wd : Nat) : Int) - 1).toNat = 1) = true then _ else _
      exact ifD (fun _ => ⟨cpow1 (by omega), q _ l2 hT2⟩) (fun _ => q _ l2 hT2)
    | false => exact q (Builtin.bitAnd x (1 * 2 ^ ((wd : Nat) : Int).toNat - 1)) l2 hT2
  · have hpos := List.length_pos_iff.mpr hpn
    have hml : (ps.map pr).length = ps.length := List.length_map _
    have hpsl : ps.length ≤ 1000 := by
      have hge : ∀ l : List (Int × Int), (∀ p ∈ l, p.1 ≤ p.2) → ((l.length : Nat) : Int) ≤ (l.map fun p => p.2 - p.1 + 1).sum := fun l hl => by
        induction l with
        | nil => exact Int.le_refl _
        | cons p l ih =>
          have z1 := hl p List.mem_cons_self
          have z2 := ih fun q hq => hl q (List.mem_cons_of_mem _ hq)
          rw [List.map_cons, List.sum_cons, List.length_cons]
          omega
      have := hge ps fun p hp => (hps p hp).1
      omega
    have hbd : ∀ v : Int, inF sg wd v → -256 ≤ v ∧ v ≤ 256 := fun v hv => by
      have := inF_range hv
      omega
    refine ⟨rfl, rfl, t, ((ps.map pr).length : Nat), l, rfl, by rw [hml]; omega, by rw [hml]; omega, ht, hT, fun r l1 hr hT1 => ?_⟩
    rw [hml] at hr
    have hr2 : r < ps.length := by omega
    have hat : atI (ps.map pr) ((r : Nat) : Int) = some (pr ps[r]) := by
      rw [atI_c, List.getElem?_map, List.getElem?_eq_getElem hr2]
      rfl
    refine (show onSome (atI (ps.map pr) ((r : Nat) : Int)) _ from ?_)
    rw [hat]
    obtain ⟨h1, h2, h3⟩ := hps ps[r] (List.getElem_mem hr2)
    have ha := hbd _ h2
    have hb := hbd _ h3
    refine ⟨rfl, t, ps[r].2 - ps[r].1 + 1, l1, rfl, by omega, by omega, mset_same, hT1, fun r2 l2 hr2 hT2 => ?_⟩
    rw [mset_mset]
    exact q _ l2 hT2
theorem sc_l_part : FnScope ["_law_tape_here", "_law_used", "_law_field", "_law_default"] ["_law_tape_here", "_law_used", "_law_field"] (defScope s_l_part) := ⟨rfl, rfl, rfl, by decide +kernel, rfl, by decide +kernel, by decide +kernel⟩
theorem cal_l_part  (D0 : Def K mg "_law_part" s_l_part) (B : Blt mg) (c_l_draw : Cal P w K mg base "_law_draw" (1) ["_law_tape_here", "_law_many"] (up K 2 sp_l_draw)) (c_l_name : Cal P w K mg base "_law_name" (2) ["_law_tape_here", "_law_used"] (up K 2 sp_l_name)) (c_l_a_number : Cal P w K mg base "_law_a_number" (2) ["_law_tape_here", "_law_width", "_law_signed", "_law_ranges_here"] (up K 4 sp_l_a_number))  : Cal P w K mg base "_law_part" (3) ["_law_tape_here", "_law_used", "_law_field"] (up K 3 sp_l_part) := by
  refine D0.cal (N := ["_law_tape_here", "_law_used", "_law_field", "_law_default"]) (k := 2) sc_l_part [none] rfl (fun _ _ _ _ _ _ us hl => match us, hl with | [_, _, _], _ => rfl) (fun f cdv A outer s H E hr => ⟨_, _,
(dss_cons (ds_if (dt_eq (de_call c_l_draw (hr.mono (by first | decide | omega)) (by rfl) (da_cons (dv 0) (da_cons de_int da_nil))) de_int)
(dss_one (ds_ret (de_tup (da_cons de_non (da_cons (de_ix (dv 2) de_int) (da_cons de_bl (da_cons de_non (da_cons de_non da_nil))))))))
dss_nil)
(dss_cons (ds_expr (de_append (dv 1) (de_call c_l_name (hr.mono (by first | decide | omega)) (by rfl) (da_cons (dv 0) (da_cons (dv 1) da_nil)))))
(dss_cons (ds_set (i := 3) sc_l_part.nd rfl (.inl rfl) (de_ix (de_lst (da_cons de_non (da_cons (de_call c_l_a_number (hr.mono (by first | decide | omega)) (by rfl) (da_cons (dv 0) (da_cons (de_ix (dv 2) de_int) (da_cons (de_ix (dv 2) de_int) (da_cons (de_ix (dv 2) de_int) da_nil))))) da_nil))) (de_call c_l_draw (hr.mono (by first | decide | omega)) (by rfl) (da_cons (dv 0) (da_cons de_int da_nil)))))
(dss_one (ds_ret (de_tup (da_cons (de_ix (dv 1) (de_neg de_int)) (da_cons (de_ix (dv 2) de_int) (da_cons (de_ix (dv 2) de_int) (da_cons (de_ix (dv 2) de_int) (da_cons (dv 3) da_nil))))))))))),
    fun ds m Q hl hs => ?_⟩)
  -- slots: 0 _law_tape_here 1 _law_used 2 _law_field 3 _law_default
  obtain ⟨t, u, l, used, wd, sg, most, d, rfl, htu, hu, hul, hw1, hw8, hm2, hR, ht, hT, q1, q2⟩ := hs
  refine ⟨rfl, t, 5, l, rfl, by decide, by decide, ht, hT, fun r l1 hr hT1 => ?_⟩
  show if decide (((r : Nat) : Int) = 0) = true then _ else _
  refine ifD (fun _ => ⟨szr rfl, q1 l1 hT1⟩) (fun _ => ?_)
  have hu1 : mset m t l1 u = some (used.map D.str) := by
    rw [mset_ne htu.symm]
    exact hu
  refine ⟨⟨_, hu1⟩, rfl, t, u, l1, used, rfl, htu, mset_same, hT1, hu1, hul, fun s l2 hs hsl hT2 => ?_⟩
  rw [mset_mset]
  have hu2 : mset m t l2 u = some (used.map D.str) := by
    rw [mset_ne htu.symm]
    exact hu
  refine ⟨_, hu2, szl (by rw [List.length_map]; omega), ?_⟩
  have e1 : used.map D.str ++ [D.str s] = (used ++ [s]).map D.str := by rw [List.map_append] <;> rfl
  rw [e1]
  have ht2 : mset (mset m t l2) u ((used ++ [s]).map D.str) t = some l2 := by
    rw [mset_ne htu]
    exact mset_same
  have sw : ∀ l3, mset (mset (mset m t l2) u ((used ++ [s]).map D.str)) t l3 = mset (mset m t l3) u ((used ++ [s]).map D.str) := fun l3 => by rw [mset_comm htu.symm, mset_mset]
  refine ⟨rfl, t, l2, wd, sg, most, d, rfl, hw1, hw8, hm2, hR, ht2, hT2, fun i l3 hT3 => ⟨szr rfl, ?_⟩⟩
  rw [sw]
  have ht3 : mset (mset m t l3) u ((used ++ [s]).map D.str) t = some l3 := by
    rw [mset_ne htu]
    exact mset_same
  refine ⟨rfl, t, 2, l3, rfl, by decide, by decide, ht3, hT3, fun r4 l4 hr4 hT4 => ?_⟩
  have sw2 : mset (mset (mset m t l3) u ((used ++ [s]).map D.str)) t l4 = mset (mset m t l4) u ((used ++ [s]).map D.str) := by rw [mset_comm htu.symm, mset_mset]
  rw [sw2]
  obtain ⟨df, hdf⟩ : ∃ df : D, atI [D.non, .int i] ((r4 : Nat) : Int) = some df := by
    have h2 : r4 < 2 := by omega
    rw [atI_c]
    match r4, h2 with
    | 0, _ => exact ⟨_, rfl⟩
    | 1, _ => exact ⟨_, rfl⟩
  refine (show onSome (atI [D.non, .int i] ((r4 : Nat) : Int)) _ from ?_)
  rw [hdf]
  refine ⟨_, mset_same, ?_⟩
  refine (show onSome (atI ((used ++ [s]).map D.str) (-1)) _ from ?_)
  rw [← e1, last_at, e1]
  exact ⟨szr rfl, q2 s df l4 hs hT4⟩
end
end BB

namespace BB
open PySem PySem.Spec PyProof.Rows L2
local macro_rules | `(tactic| walk_at "dl") => `(tactic| simp only [dIfS, dIfE, dTest, dOp, dVar, dC, dIx, dEq, dNe, dI, dIc, dIsN, dNotN, isNonD, dAndT, dOrT, dNotT, dAndV, dNeg, dAdd, dTup, dLst, dCons, dNil, dCB, dCall, dLc, true_and, dLen, dInt1, dInt2, withSeq, with1_1, onSome_some, atI_0, atI_1, atI_2, atI_3, atI_4, atI_5, atI_6, List.getElem?_cons_succ, List.getElem?_cons_zero, List.set_cons_zero, List.set_cons_succ, gdN, Part.enc, encN, Bool.not_true, Bool.not_false, mapS_cons, mapS_nil, List.length_cons, List.length_nil, List.cons_append, List.nil_append, gdTup, gdCons, gdNil, dAppend, dExtend, dListF, dTupOf, dMul, dSl, dNoP, dPart])
local macro_rules | `(tactic| walk_at "dr") => `(tactic| simp only [dSeq, dAsg, dRet, dRetW, dDrop, dNext, dFor, diSeq, dIfS, dIfE, dTest, dOp, dVar, dC, dIx, dEq, dNe, dI, dIc, dIsN, dNotN, isNonD, dAndT, dOrT, dNotT, dAndV, dNeg, dAdd, dTup, dLst, dCons, dNil, dCB, dCall, dLc, true_and, dLen, dInt1, dInt2, withSeq, with1_1, onSome_some, atI_0, atI_1, atI_2, atI_3, atI_4, atI_5, atI_6, List.getElem?_cons_succ, List.getElem?_cons_zero, List.set_cons_zero, List.set_cons_succ, gdN, Part.enc, encN, Bool.not_true, Bool.not_false, mapS_cons, mapS_nil, List.length_cons, List.length_nil, List.cons_append, List.nil_append, gdTup, gdCons, gdNil, dAppend, dExtend, dListF, dTupOf, dMul, dSl, dNoP, dPart])

/-! ## a choice's numbers; a list's layout is not empty -/
def sp_l_case_numbers : SpD := fun ds m Q => ∃ (t : Addr) (l : List D) (wd : Wd) (many : Nat), ds = [.adr t, .str wd.name, .int many] ∧ 1 ≤ many ∧ many ≤ 6 ∧ m t = some l ∧ Tape l ∧ ∀ (ns : List Int) (l' : List D), ns.length = many → ns.Nodup → (∀ n ∈ ns, 0 ≤ n ∧ n < 2 ^ (8 * wd.size)) → Tape l' → Q (.lst (ns.map D.int)) (mset m t l')
def sp_l_not_empty : SpD := fun ds m Q => ∃ (t : Addr) (l : List D) (n : Nat) (its : List Item), ds = [.adr t, encL n its] ∧ its.length ≤ 50 ∧ (∀ i ∈ its, wfI n i) ∧ m t = some l ∧ Tape l ∧ ∀ (its' : List Item) (l' : List D), (its' = its ∨ ∃ r : Nat, r < 256 ∧ its' = its ++ [.lit [((r : Nat) : Int)]]) → Tape l' → Q (encL n its') (mset m t l')
def tagOf : Item → Str
  | .word _ _ => "word"
  | .lit _ => "literal"
  | .res _ => "reserved"
  | .chk _ => "check"
  | .arr _ _ _ _ _ _ => "array"
  | .list _ _ _ => "list"
  | .choice _ _ _ => "choice"
  | .rcd _ _ => "record"
theorem enc_tag {n : Nat} {it : Item} (h : wfI n it) : ∃ rest, encI n it = .tup (.str (tagOf it) :: rest) := by
  cases it with
  | word wd ps => exact ⟨_, encI_word⟩
  | lit _ => exact ⟨_, encI_lit⟩
  | res _ => exact ⟨_, encI_res⟩
  | chk _ => exact ⟨_, encI_chk⟩
  | arr _ _ _ _ _ _ => exact ⟨_, encI_arr⟩
  | list _ _ _ =>
    cases n with
    | zero => exact h.elim
    | succ n => exact ⟨_, encI_list⟩
  | choice _ _ _ =>
    cases n with
    | zero => exact h.elim
    | succ n => exact ⟨_, encI_choice⟩
  | rcd _ _ =>
    cases n with
    | zero => exact h.elim
    | succ n => exact ⟨_, encI_rcd⟩
def stepsW : Wd → List Int
  | .u8 => [1, 255, 37, 2]
  | .u16be => [1, 256, 257, 65535]
  | .u16le => [1, 256, 257, 65535]
  | .u32be => [1, 256, 65536, 16777216]
  | .u32le => [1, 256, 65536, 16777216]
theorem steps_inj {wd : Wd} {s b : Int} (hs : s ∈ stepsW wd) {i j : Nat} (hi : i < 6) (hj : j < 6) (h : (b + (i : Int) * s) % 2 ^ (8 * wd.size) = (b + (j : Int) * s) % 2 ^ (8 * wd.size)) : i = j := by
  cases wd with
  | u8 =>
    have h2 : (b + (i : Int) * s) % 256 = (b + (j : Int) * s) % 256 := h
    simp only [stepsW, List.mem_cons, List.not_mem_nil, or_false] at hs
    rcases hs with rfl | rfl | rfl | rfl <;> omega
  | u16be =>
    have h2 : (b + (i : Int) * s) % 65536 = (b + (j : Int) * s) % 65536 := h
    simp only [stepsW, List.mem_cons, List.not_mem_nil, or_false] at hs
    rcases hs with rfl | rfl | rfl | rfl <;> omega
  | u16le =>
    have h2 : (b + (i : Int) * s) % 65536 = (b + (j : Int) * s) % 65536 := h
    simp only [stepsW, List.mem_cons, List.not_mem_nil, or_false] at hs
    rcases hs with rfl | rfl | rfl | rfl <;> omega
  | u32be =>
    have h2 : (b + (i : Int) * s) % 4294967296 = (b + (j : Int) * s) % 4294967296 := h
    simp only [stepsW, List.mem_cons, List.not_mem_nil, or_false] at hs
    rcases hs with rfl | rfl | rfl | rfl <;> omega
  | u32le =>
    have h2 : (b + (i : Int) * s) % 4294967296 = (b + (j : Int) * s) % 4294967296 := h
    simp only [stepsW, List.mem_cons, List.not_mem_nil, or_false] at hs
    rcases hs with rfl | rfl | rfl | rfl <;> omega
section
variable {P : Program} {w : World} {K : PySem.W.Frag} {mg : Str → Option Value} {base : Heap}
theorem sc_l_not_empty : FnScope ["_law_tape_here", "_law_items", "_law_item"] ["_law_tape_here", "_law_items"] (defScope s_l_not_empty) := ⟨rfl, rfl, rfl, by decide +kernel, rfl, by decide +kernel, by decide +kernel⟩
theorem cal_l_not_empty  (D0 : Def K mg "_law_not_empty" s_l_not_empty) (B : Blt mg) (c_l_draw : Cal P w K mg base "_law_draw" (1) ["_law_tape_here", "_law_many"] (up K 2 sp_l_draw))  : Cal P w K mg base "_law_not_empty" (2) ["_law_tape_here", "_law_items"] (up K 2 sp_l_not_empty) := by
  refine D0.cal (N := ["_law_tape_here", "_law_items", "_law_item"]) (k := 1) sc_l_not_empty [none] rfl (fun _ _ _ _ _ _ us hl => match us, hl with | [_, _], _ => rfl) (fun f cdv A outer s H E hr => ⟨_, _,
(dss_cons (ds_if (dt_tru (de_lc (own := [("_law_item", 2)]) rfl sc_l_not_empty.nd (di_seq (dv 1)) (blkOk_by (N := ["_law_tape_here", "_law_items", "_law_item"]) (sc := defScope s_l_not_empty) (own := [("_law_item", 2)]) (by decide +kernel)) (fun _ _ _ _ _ => (dg_name (i := 2) sc_l_not_empty.nd rfl (.inl rfl))) (keepN 2) (fun _ _ _ _ _ => (dts_one (dt_in (de_ix (dv 2) de_int) (de_tup (da_cons de_str (da_cons de_str (da_cons de_str (da_cons de_str (da_cons de_str da_nil))))))))) (fun _ _ _ _ _ => (dv 2)) (by intro _; rfl) s H))
(dss_one (ds_ret (dv 1)))
dss_nil)
(dss_one (ds_ret (de_add (dv 1) (de_tup (da_cons (de_tup (da_cons de_str (da_cons (de_tup (da_cons (de_call c_l_draw (hr.mono (by first | decide | omega)) (by rfl) (da_cons (dv 0) (da_cons de_int da_nil))) da_nil)) da_nil))) da_nil)))))),
    fun ds m Q hl hs => ?_⟩)
  -- slots: 0 _law_tape_here 1 _law_items 2 _law_item
  obtain ⟨t, l, n, its, rfl, hl, hw, ht, hT, q⟩ := hs
  walk_at "dr"
  simp only [dTru]
  walk_at "dr"
  refine lc_filter (f := encI n) (xs := its) (fun it => decide (tagOf it ∈ (["word", "choice", "literal", "reserved", "check"] : List Str))) (encI n) (by omega) (fun it hit m1 R R' hm hT2 hF2 => ?_) ?_
  · obtain ⟨rest, he⟩ := enc_tag (hw it hit)
    rw [he] at hT2 ⊢
    have hat : atI (D.str (tagOf it) :: rest) 0 = some (.str (tagOf it)) := by
      rw [atI_0]
      rfl
    refine (show onSome (atI (D.str (tagOf it) :: rest) 0) _ from ?_)
    rw [hat]
    refine ⟨szr rfl, ["word", "choice", "literal", "reserved", "check"], rfl, ?_⟩
    exact ifD (fun h => hT2 (decide_eq_true h)) (fun h => hF2 (decide_eq_false h))
  · show if (!(List.map (encI n) _).isEmpty) = true then _ else _
    generalize (List.map (encI n) (its.filter fun it => decide (tagOf it ∈ (["word", "choice", "literal", "reserved", "check"] : List Str)))).isEmpty = b
    have z1 : Q (encL n its) m := by
      have z := q its l (.inl rfl) hT
      rw [mset_id ht] at z
      exact z
    cases b with
    | false => exact ifT rfl z1
    | true =>
      refine ifF rfl ⟨t, 256, l, rfl, by decide, by decide, ht, hT, fun r l1 hr hT1 => ⟨szr rfl, szr rfl, szr rfl, sz ?_, ?_⟩⟩
      · rw [List.length_map]
        show its.length + 1 ≤ 100000
        omega
      · have z := q (its ++ [Item.lit [((r : Nat) : Int)]]) l1 (.inr ⟨r, by omega, rfl⟩) hT1
        rw [show encL n (its ++ [Item.lit [((r : Nat) : Int)]]) = .tup (its.map (encI n) ++ [.tup [.str "literal", .tup [.int r]]]) by
          show D.tup ((its ++ [Item.lit [((r : Nat) : Int)]]).map (encI n)) = _
          rw [List.map_append]
          show D.tup (its.map (encI n) ++ [encI n (Item.lit [((r : Nat) : Int)])]) = _
          rw [encI_lit]
          rfl] at z
        exact z
theorem sc_l_case_numbers : FnScope ["_law_tape_here", "_law_word", "_law_many", "_law_size_here", "_law_steps", "_law_step", "_law_base", "_law_k"] ["_law_tape_here", "_law_word", "_law_many"] (defScope s_l_case_numbers) := ⟨rfl, rfl, rfl, by decide +kernel, rfl, by decide +kernel, by decide +kernel⟩
theorem cal_l_case_numbers  (D0 : Def K mg "_law_case_numbers" s_l_case_numbers) (B : Blt mg) (c_l_size : Cal P w K mg base "_law_size" (1) ["_law_word"] (up K 1 sp_l_size)) (c_l_draw : Cal P w K mg base "_law_draw" (1) ["_law_tape_here", "_law_many"] (up K 2 sp_l_draw))  : Cal P w K mg base "_law_case_numbers" (2) ["_law_tape_here", "_law_word", "_law_many"] (up K 3 sp_l_case_numbers) := by
  refine D0.cal (N := ["_law_tape_here", "_law_word", "_law_many", "_law_size_here", "_law_steps", "_law_step", "_law_base", "_law_k"]) (k := 1) sc_l_case_numbers [none, none, none, none, none] rfl (fun _ _ _ _ _ _ us hl => match us, hl with | [_, _, _], _ => rfl) (fun f cdv A outer s H E hr => ⟨_, _,
(dss_cons (ds_set (i := 3) sc_l_case_numbers.nd rfl (.inr rfl) (de_call c_l_size (hr.mono (by first | decide | omega)) (by rfl) (da_cons (dv 1) da_nil)))
(dss_cons (ds_set (i := 4) sc_l_case_numbers.nd rfl (.inl rfl) (de_tab hr.units (dps_int (de_lst (da_cons de_int (da_cons de_int (da_cons de_int (da_cons de_int da_nil))))) (dps_int (de_lst (da_cons de_int (da_cons de_int (da_cons de_int (da_cons de_int da_nil))))) (dps_int (de_lst (da_cons de_int (da_cons de_int (da_cons de_int (da_cons de_int da_nil))))) dps_nil))) (dv 3) (by decide +kernel) rfl rfl (fun q => nomatch q) (by decide) (by decide)))
(dss_cons (ds_set (i := 5) sc_l_case_numbers.nd rfl (.inr rfl) (de_ix (dv 4) (de_call c_l_draw (hr.mono (by first | decide | omega)) (by rfl) (da_cons (dv 0) (da_cons de_int da_nil)))))
(dss_cons (ds_set (i := 6) sc_l_case_numbers.nd rfl (.inr rfl) (de_shl (de_call c_l_draw (hr.mono (by first | decide | omega)) (by rfl) (da_cons (dv 0) (da_cons de_int da_nil))) (de_mul de_int (de_call c_l_draw (hr.mono (by first | decide | omega)) (by rfl) (da_cons (dv 0) (da_cons (dv 3) da_nil))))))
(dss_one (ds_ret (de_lc (own := [("_law_k", 7)]) rfl sc_l_case_numbers.nd (di_rg1 (by rfl) B.range (dv 2)) (blkOk_by (N := ["_law_tape_here", "_law_word", "_law_many", "_law_size_here", "_law_steps", "_law_step", "_law_base", "_law_k"]) (sc := defScope s_l_case_numbers) (own := [("_law_k", 7)]) (by decide +kernel)) (fun _ _ _ _ _ => (dg_name (i := 7) sc_l_case_numbers.nd rfl (.inl rfl))) (keepN 7) (fun _ _ _ _ _ => dts_nil) (fun _ _ _ _ _ => (de_mod (de_ct rInt' call_int1 sc_int (by rfl) B.int bt_int (da_cons (de_add (dv 6) (de_mul (dv 7) (dv 5))) da_nil)) (de_shl de_int (de_mul de_int (dv 3))))) (by intro _; rfl) s H))))))),
    fun ds m Q hl hs => ?_⟩)
  -- slots: 0 _law_tape_here 1 _law_word 2 _law_many 3 _law_size_here 4 _law_steps 5 _law_step 6 _law_base 7 _law_k
  obtain ⟨t, l, wd, many, rfl, hm1, hm6, ht, hT, q⟩ := hs
  have h4 := wd_le wd
  obtain ⟨i, ky, k1, k2, k3⟩ : ∃ (i : Nat) (ky : Key), keyD (.int (wd.size : Nat)) = some ky ∧ ([.inl 1, .inl 2, .inl 4] : List Key)[i]? = some ky ∧ ([D.lst [.int 1, .int 255, .int 37, .int 2], .lst [.int 1, .int 256, .int 257, .int 65535], .lst [.int 1, .int 256, .int 65536, .int 16777216]] : List D)[i]? = some (.lst ((stepsW wd).map D.int)) := by
    cases wd with
    | u8 => exact ⟨0, _, rfl, rfl, rfl⟩
    | u16be => exact ⟨1, _, rfl, rfl, rfl⟩
    | u16le => exact ⟨1, _, rfl, rfl, rfl⟩
    | u32be => exact ⟨2, _, rfl, rfl, rfl⟩
    | u32le => exact ⟨2, _, rfl, rfl, rfl⟩
  have hsl : (stepsW wd).length = 4 := by cases wd <;> rfl
  refine ⟨rfl, wd, rfl, szr rfl, szr rfl, szr rfl, i, ky, _, k1, k2, k3, ?_⟩
  refine ⟨rfl, t, 4, l, rfl, by decide, by decide, ht, hT, fun r l1 hr hT1 => ?_⟩
  have hr4 : r < (stepsW wd).length := by omega
  have hat : atI ((stepsW wd).map D.int) ((r : Nat) : Int) = some (.int (stepsW wd)[r]) := by
    rw [atI_c, List.getElem?_map, List.getElem?_eq_getElem hr4]
    rfl
  refine (show onSome (atI ((stepsW wd).map D.int) ((r : Nat) : Int)) _ from ?_)
  rw [hat]
  have hst := List.getElem_mem hr4
  generalize (stepsW wd)[r] = st at hst
  have hsz1 : 1 ≤ wd.size := by cases wd <;> decide
  refine ⟨rfl, t, 256, l1, rfl, by decide, by decide, mset_same, hT1, fun r2 l2 hr2 hT2 => ?_⟩
  rw [mset_mset]
  refine ⟨rfl, t, (wd.size : Nat), l2, rfl, by omega, by omega, mset_same, hT2, fun r3 l3 hr3 hT3 => ?_⟩
  rw [mset_mset]
  refine ⟨.inl ⟨by decide, by decide⟩, ⟨by omega, by omega, ?_⟩, by omega, by omega, ?_⟩
  · rw [Int.natAbs_natCast]
    exact Nat.lt_of_lt_of_le (by omega : r2 < 256) (by decide)
  have hM : (1 : Int) * 2 ^ ((8 : Int) * ((wd.size : Nat) : Int)).toNat = 2 ^ (8 * wd.size) := by
    rw [Int.one_mul]
    exact congrArg (fun k : Nat => (2 : Int) ^ k) (by omega)
  have hMp : (0 : Int) < 2 ^ (8 * wd.size) := Int.pow_pos (by decide)
  generalize hbs : (r2 : Int) * 2 ^ ((8 : Int) * ((r3 : Nat) : Int)).toNat = bs
  refine lc_pure (f := D.int) (xs := rgI 0 (many : Nat)) (fun i => .int ((bs + i * st) % 2 ^ (8 * wd.size))) (by rw [rgI_len]; omega) (fun x hx m1 R hm hR => ?_) ?_
  · unfold rgI at hx
    obtain ⟨j, hj, rfl⟩ := List.mem_map.mp hx
    have hj2 := List.mem_range.mp hj
    rw [← hM, ← hbs] at hR
    refine ⟨.inl ⟨by omega, by omega⟩, .inl ⟨by decide, by decide⟩, ⟨by omega, by omega, by decide⟩, ?_, hR⟩
    show 0 < (1 : Int) * 2 ^ ((8 : Int) * ((wd.size : Nat) : Int)).toNat
    rw [hM]
    exact hMp
  · have e1 : (rgI 0 (many : Nat)).map (fun i => D.int ((bs + i * st) % 2 ^ (8 * wd.size))) = ((List.range many).map fun i : Nat => (bs + (i : Int) * st) % 2 ^ (8 * wd.size)).map D.int := by
      unfold rgI
      rw [List.map_map, List.map_map, Int.sub_zero, Int.toNat_natCast]
      refine List.map_congr_left fun k _ => ?_
      show D.int ((bs + (0 + (k : Int)) * st) % 2 ^ (8 * wd.size)) = D.int ((bs + (k : Int) * st) % 2 ^ (8 * wd.size))
      rw [Int.zero_add]
    rw [e1]
    refine q _ l3 (by rw [List.length_map, List.length_range]) ?_ (fun n hn => ?_) hT3
    · refine List.pairwise_map.mpr (List.Pairwise.imp_of_mem ?_ List.nodup_range)
      intro x y hx hy hne e
      have h1 := List.mem_range.mp hx
      have h2 := List.mem_range.mp hy
      exact hne (steps_inj hst (by omega) (by omega) e)
    · obtain ⟨k, _, rfl⟩ := List.mem_map.mp hn
      exact ⟨Int.emod_nonneg _ (Int.ne_of_gt hMp), Int.emod_lt_of_pos _ hMp⟩
end
end BB

namespace BB
open PySem PySem.Spec PyProof.Rows L2
local macro_rules | `(tactic| walk_at "dl") => `(tactic| simp only [dIfS, dIfE, dTest, dOp, dVar, dC, dIx, dEq, dNe, dI, dIc, dIsN, dNotN, isNonD, dAndT, dOrT, dNotT, dAndV, dNeg, dAdd, dTup, dLst, dCons, dNil, dCB, dCall, dLc, true_and, dLen, dInt1, dInt2, withSeq, with1_1, onSome_some, atI_0, atI_1, atI_2, atI_3, atI_4, atI_5, atI_6, List.getElem?_cons_succ, List.getElem?_cons_zero, List.set_cons_zero, List.set_cons_succ, gdN, Part.enc, encN, Bool.not_true, Bool.not_false, mapS_cons, mapS_nil, List.length_cons, List.length_nil, List.cons_append, List.nil_append, gdTup, gdCons, gdNil, dAppend, dExtend, dListF, dTupOf, dMul, dSl, dNoP, dPart])
local macro_rules | `(tactic| walk_at "dr") => `(tactic| simp only [dSeq, dAsg, dRet, dRetW, dDrop, dNext, dFor, diSeq, dIfS, dIfE, dTest, dOp, dVar, dC, dIx, dEq, dNe, dI, dIc, dIsN, dNotN, isNonD, dAndT, dOrT, dNotT, dAndV, dNeg, dAdd, dTup, dLst, dCons, dNil, dCB, dCall, dLc, true_and, dLen, dInt1, dInt2, withSeq, with1_1, onSome_some, atI_0, atI_1, atI_2, atI_3, atI_4, atI_5, atI_6, List.getElem?_cons_succ, List.getElem?_cons_zero, List.set_cons_zero, List.set_cons_succ, gdN, Part.enc, encN, Bool.not_true, Bool.not_false, mapS_cons, mapS_nil, List.length_cons, List.length_nil, List.cons_append, List.nil_append, gdTup, gdCons, gdNil, dAppend, dExtend, dListF, dTupOf, dMul, dSl, dNoP, dPart])

/-! ## a word -/
theorem rowIn_ext {V : Kind → D → Prop} : ∀ {ks : List Kind} {r x : List D}, r.length = ks.length → rowIn V ks r → rowIn V ks (r ++ x)
  | [], _, _, _, _ => trivial
  | k :: ks, [], x, hl, _ => absurd hl (by simp)
  | k :: ks, d :: r, x, hl, h => ⟨h.1, rowIn_ext (ks := ks) (r := r) (Nat.succ.inj hl) h.2⟩
theorem rowOf_app {V : Kind → D → Prop} {xs ys : List Kind} {r1 r2 : List D} (h1 : rowOf V xs r1) (h2 : rowOf V ys r2) : rowOf V (xs ++ ys) (r1 ++ r2) := by
  refine ⟨by rw [List.length_append, List.length_append, h1.1, h2.1], (rowIn_app _ _ _).mpr ⟨rowIn_ext h1.1 h1.2, ?_⟩⟩
  rw [← h1.1, List.drop_left]
  exact h2.2
/-- the memory with another tape and other names -/
abbrev mTU (m : Mu) (t u : Addr) (l : List D) (us : List Str) : Mu := mset (mset m t l) u (us.map D.str)
theorem mTU_t {m : Mu} {t u : Addr} (h : t ≠ u) {l : List D} {us : List Str} : mTU m t u l us t = some l := by
  show mset (mset m t l) u _ t = _
  rw [mset_ne h]
  exact mset_same
theorem mTU_setT {m : Mu} {t u : Addr} (h : t ≠ u) {l l' : List D} {us : List Str} : mset (mTU m t u l us) t l' = mTU m t u l' us := by
  show mset (mset (mset m t l) u _) t l' = mset (mset m t l') u _
  rw [mset_comm h.symm, mset_mset]
theorem mTU_setU {m : Mu} {t u : Addr} {l : List D} {us us' : List Str} : mset (mTU m t u l us) u (us'.map D.str) = mTU m t u l us' := mset_mset
theorem mTU_id {m : Mu} {t u : Addr} (h : t ≠ u) {l : List D} {us : List Str} (ht : m t = some l) (hu : m u = some (us.map D.str)) : mTU m t u l us = m := by
  show mset (mset m t l) u _ = m
  rw [mset_id ht, mset_id hu]
/-- a word, its rows, and its new names -/
structure WordR (wd : Wd) (ps : List Part) (rows : List (List D)) (nms : List Str) : Prop where
  sum : (ps.map Part.width).sum = 8 * wd.size
  wf : ∀ p ∈ ps, wfP p
  nm : (pK ps).map Kind.name = nms
  ne : rows ≠ []
  len : rows.length ≤ 64
  row : ∀ n, ∀ r ∈ rows, rowOf (valOf n) (pK ps) r
def sp_l_small_word : SpD := fun ds m Q => ∃ (t u : Addr) (l : List D) (used : List Str) (most : Nat), ds = [.adr t, .adr u, .int most] ∧ t ≠ u ∧ 1 ≤ most ∧ most ≤ 1000 ∧ m t = some l ∧ Tape l ∧ m u = some (used.map D.str) ∧ used.length ≤ 17 ∧ used.Nodup ∧
  ∀ (wd : Wd) (ps : List Part) (rows : List (List D)) (nms : List Str) (l' : List D), WordR wd ps rows nms → nms.length ≤ 3 → (used ++ nms).Nodup → Tape l' → Q (.tup [encI 0 (.word wd ps), .lst (rows.map D.tup), .int 8]) (mTU m t u l' (used ++ nms))
/-- a word half made -/
structure WordS (wd : Wd) (ps : List Part) (lft : Nat) (rows : List (List D)) (used nms : List Str) (i : Nat) : Prop where
  sum : (ps.map Part.width).sum + lft = 8 * wd.size
  wf : ∀ p ∈ ps, wfP p
  nm : (pK ps).map Kind.name = nms
  ne : rows ≠ []
  len : rows.length ≤ 4 ^ i
  row : ∀ n, ∀ r ∈ rows, rowOf (valOf n) (pK ps) r
  nl : nms.length ≤ i
  nd : (used ++ nms).Nodup
theorem WordS.mono {wd : Wd} {ps : List Part} {lft : Nat} {rows : List (List D)} {used nms : List Str} {i j : Nat} (h : WordS wd ps lft rows used nms i) (hij : i ≤ j) : WordS wd ps lft rows used nms j :=
  ⟨h.sum, h.wf, h.nm, h.ne, Nat.le_trans h.len (Nat.pow_le_pow_right (by decide) hij), h.row, Nat.le_trans h.nl hij, h.nd⟩
theorem WordS.none {wd : Wd} {ps : List Part} {lft w : Nat} {rows : List (List D)} {used nms : List Str} {i : Nat} (h : WordS wd ps lft rows used nms i) (hw1 : 1 ≤ w) (hw : w ≤ lft) (hw32 : w ≤ 32) : WordS wd (ps ++ [⟨none, w, false, .non, .non⟩]) (lft - w) rows used nms (i + 1) := by
  have hk : pK (ps ++ [⟨Option.none, w, false, .non, .non⟩]) = pK ps := by
    rw [pK_snoc, pK_none rfl]
    exact List.append_nil _
  refine ⟨?_, fun p hp => ?_, by rw [hk]; exact h.nm, h.ne, Nat.le_trans h.len (Nat.pow_le_pow_right (by decide) (Nat.le_succ i)), fun n r hr => by rw [hk]; exact h.row n r hr, Nat.le_succ_of_le h.nl, h.nd⟩
  · have := h.sum
    rw [widths_app]
    show (ps.map Part.width).sum + (w + 0) + (lft - w) = _
    omega
  · rcases List.mem_append.mp hp with z | z
    · exact h.wf p z
    · rw [List.mem_singleton.mp z]
      exact ⟨hw1, hw32⟩
theorem WordS.some {wd : Wd} {ps : List Part} {lft w : Nat} {rows : List (List D)} {used nms : List Str} {i : Nat} (h : WordS wd ps lft rows used nms i) (hw1 : 1 ≤ w) (hw : w ≤ lft) (hw32 : w ≤ 32) {s : Str} (hs : s ∉ used ++ nms) {sg : Bool} {rg df : D} {vs : List Int} (hvn : vs ≠ []) (hvl : vs.length ≤ 4) (hv : ∀ v ∈ vs, inF sg w v) :
    WordS wd (ps ++ [⟨Option.some s, w, sg, rg, df⟩]) (lft - w) (joinL rows (vs.map fun v => [.int v])) used (nms ++ [s]) (i + 1) := by
  have hk : pK (ps ++ [⟨Option.some s, w, sg, rg, df⟩]) = pK ps ++ [.num s ⟨Option.some s, w, sg, rg, df⟩] := by
    rw [pK_snoc, pK_some rfl]
    rfl
  refine ⟨?_, fun p hp => ?_, by rw [hk, List.map_append, h.nm]; rfl, fun e => ?_, ?_, fun n r hr => ?_, by rw [List.length_append]; exact Nat.add_le_add_right h.nl 1, ?_⟩
  · have := h.sum
    rw [widths_app]
    show (ps.map Part.width).sum + (w + 0) + (lft - w) = _
    omega
  · rcases List.mem_append.mp hp with z | z
    · exact h.wf p z
    · rw [List.mem_singleton.mp z]
      exact ⟨hw1, hw32⟩
  · have z := congrArg List.length e
    rw [joinL_len, List.length_map, List.length_nil] at z
    have h1 := List.length_pos_iff.mpr h.ne
    have h2 := List.length_pos_iff.mpr hvn
    have := Nat.mul_pos h1 h2
    omega
  · rw [joinL_len, List.length_map, Nat.pow_succ]
    exact Nat.mul_le_mul h.len hvl
  · rw [hk]
    obtain ⟨r0, hr0, hr1⟩ := List.mem_flatMap.mp hr
    obtain ⟨tl, htl, rfl⟩ := List.mem_map.mp hr1
    obtain ⟨v, hvm, rfl⟩ := List.mem_map.mp htl
    refine rowOf_app (h.row n r0 hr0) ⟨rfl, ?_, trivial⟩
    have z : ∃ i, D.int v = .int i ∧ inF sg w i := ⟨v, rfl, hv v hvm⟩
    cases n <;> exact z
  · rw [← List.append_assoc, List.nodup_append]
    exact ⟨h.nd, List.nodup_cons.mpr ⟨fun z => (nomatch z), List.nodup_nil⟩, fun a ha b hb e => hs (by rw [List.mem_singleton.mp hb] at e; exact e ▸ ha)⟩
section
variable {P : Program} {w : World} {K : PySem.W.Frag} {mg : Str → Option Value} {base : Heap}
theorem sc_l_small_word : FnScope ["_law_tape_here", "_law_used", "_law_most", "_law_word", "_law_left", "_law_parts", "_law_rows", "_law_k", "_law_widths", "_law_width", "_law_field", "_law_number"] ["_law_tape_here", "_law_used", "_law_most"] (defScope s_l_small_word) := ⟨rfl, rfl, rfl, by decide +kernel, rfl, by decide +kernel, by decide +kernel⟩
theorem cal_l_small_word  (D0 : Def K mg "_law_small_word" s_l_small_word) (B : Blt mg) (c_l_any_word : Cal P w K mg base "_law_any_word" (2) ["_law_tape_here"] (up K 1 sp_l_any_word)) (c_l_size : Cal P w K mg base "_law_size" (1) ["_law_word"] (up K 1 sp_l_size)) (c_l_draw : Cal P w K mg base "_law_draw" (1) ["_law_tape_here", "_law_many"] (up K 2 sp_l_draw)) (c_l_a_field : Cal P w K mg base "_law_a_field" (3) ["_law_tape_here", "_law_widths", "_law_most"] (up K 3 sp_l_a_field)) (c_l_part : Cal P w K mg base "_law_part" (3) ["_law_tape_here", "_law_used", "_law_field"] (up K 3 sp_l_part)) (c_l_joined : Cal P w K mg base "_law_joined" (1) ["_law_rows", "_law_tails"] (up K 2 sp_l_joined)) (c_l_listed : Cal P w K mg base "_law_listed" (1) ["_law_signed", "_law_width", "_law_ranges_here"] (up K 3 sp_l_listed))  : Cal P w K mg base "_law_small_word" (4) ["_law_tape_here", "_law_used", "_law_most"] (up K 3 sp_l_small_word) := by
  refine D0.cal (N := ["_law_tape_here", "_law_used", "_law_most", "_law_word", "_law_left", "_law_parts", "_law_rows", "_law_k", "_law_widths", "_law_width", "_law_field", "_law_number"]) (k := 3) sc_l_small_word [none, none, none, none, none, none, none, none, none] rfl (fun _ _ _ _ _ _ us hl => match us, hl with | [_, _, _], _ => rfl) (fun f cdv A outer s H E hr => ⟨_, _,
(dss_cons (ds_set (i := 3) sc_l_small_word.nd rfl (.inl rfl) (de_call c_l_any_word (hr.mono (by first | decide | omega)) (by rfl) (da_cons (dv 0) da_nil)))
(dss_cons (ds_set (i := 4) sc_l_small_word.nd rfl (.inr rfl) (de_mul de_int (de_call c_l_size (hr.mono (by first | decide | omega)) (by rfl) (da_cons (dv 3) da_nil))))
(dss_cons (ds_set (i := 5) sc_l_small_word.nd rfl (.inl rfl) (de_tup da_nil))
(dss_cons (ds_set (i := 6) sc_l_small_word.nd rfl (.inl rfl) (de_lst (da_cons (de_tup da_nil) da_nil)))
(dss_cons (ds_for PassesOwn.never rfl (di_rg1 (by rfl) B.range (de_ix (de_lst (da_cons de_int (da_cons de_int (da_cons de_int da_nil)))) (de_call c_l_draw (hr.mono (by first | decide | omega)) (by rfl) (da_cons (dv 0) (da_cons de_int da_nil))))) (dg_name (i := 7) sc_l_small_word.nd rfl (.inl rfl))
(dss_one (ds_if (dt_gt (dv 4) de_int)
(dss_cons (ds_setLc (i := 8) (own := [("_law_width", 9)]) rfl sc_l_small_word.nd rfl rfl (sw_true rfl rfl rfl (by decide +kernel)) (di_seq (de_lst (da_cons de_int (da_cons de_int (da_cons de_int (da_cons de_int (da_cons de_int (da_cons de_int da_nil)))))))) (blkOk_by (N := ["_law_tape_here", "_law_used", "_law_most", "_law_word", "_law_left", "_law_parts", "_law_rows", "_law_k", "_law_widths", "_law_width", "_law_field", "_law_number"]) (sc := defScope s_l_small_word) (own := [("_law_width", 9)]) (by decide +kernel)) (fun _ _ _ _ _ => (dg_name (i := 9) sc_l_small_word.nd rfl (.inl rfl))) (keepN 9) (fun _ _ _ _ _ => (dts_one (dt_le (dv 9) (dv 4)))) (fun _ _ _ _ _ => (dv 9)) (by intro _; rfl) s H)
(dss_cons (ds_set (i := 10) sc_l_small_word.nd rfl (.inl rfl) (de_call c_l_a_field (hr.mono (by first | decide | omega)) (by rfl) (da_cons (dv 0) (da_cons (dv 8) (da_cons (de_cb rMax' (call_max2 rfl) sc_max (by rfl) B.max bt_max (da_cons de_int (da_cons (de_cb rMin' (call_min2 rfl) sc_min (by rfl) B.min bt_min (da_cons de_int (da_cons (de_fdv (dv 2) (de_cb rLen' call_len_seq sc_len (by rfl) B.len bt_len (da_cons (dv 6) da_nil))) da_nil))) da_nil))) da_nil)))))
(dss_cons (ds_set (i := 5) sc_l_small_word.nd rfl (.inl rfl) (de_add (dv 5) (de_tup (da_cons (de_call c_l_part (hr.mono (by first | decide | omega)) (by rfl) (da_cons (dv 0) (da_cons (dv 1) (da_cons (dv 10) da_nil)))) da_nil))))
(dss_cons (ds_set (i := 4) sc_l_small_word.nd rfl (.inr rfl) (de_sub (dv 4) (de_ix (dv 10) de_int)))
(dss_one (ds_if (dt_notN (de_ix (de_ix (dv 5) (de_neg de_int)) de_int) de_non)
(dss_one (ds_set (i := 6) sc_l_small_word.nd rfl (.inl rfl) (de_call c_l_joined (hr.mono (by first | decide | omega)) (by rfl) (da_cons (dv 6) (da_cons (de_lc (own := [("_law_number", 11)]) rfl sc_l_small_word.nd (di_seq (de_call c_l_listed (hr.mono (by first | decide | omega)) (by rfl) (da_cons (de_ix (dv 10) de_int) (da_cons (de_ix (dv 10) de_int) (da_cons (de_ix (dv 10) de_int) da_nil))))) (blkOk_by (N := ["_law_tape_here", "_law_used", "_law_most", "_law_word", "_law_left", "_law_parts", "_law_rows", "_law_k", "_law_widths", "_law_width", "_law_field", "_law_number"]) (sc := defScope s_l_small_word) (own := [("_law_number", 11)]) (by decide +kernel)) (fun _ _ _ _ _ => (dg_name (i := 11) sc_l_small_word.nd rfl (.inl rfl))) (keepN 11) (fun _ _ _ _ _ => dts_nil) (fun _ _ _ _ _ => (de_tup (da_cons (dv 11) da_nil))) (by intro _; rfl) s H) da_nil)))))
dss_nil))))))
dss_nil)))
(dss_cons (ds_if (dt_gt (dv 4) de_int)
(dss_one (ds_set (i := 5) sc_l_small_word.nd rfl (.inl rfl) (de_add (dv 5) (de_tup (da_cons (de_tup (da_cons de_non (da_cons (dv 4) (da_cons de_bl (da_cons de_non (da_cons de_non da_nil)))))) da_nil)))))
dss_nil)
(dss_one (ds_ret (de_tup (da_cons (de_tup (da_cons de_str (da_cons (dv 3) (da_cons (dv 5) da_nil)))) (da_cons (dv 6) (da_cons de_int da_nil)))))))))))),
    fun ds m Q hl hs => ?_⟩)
  -- slots: 0 _law_tape_here 1 _law_used 2 _law_most 3 _law_word 4 _law_left 5 _law_parts 6 _law_rows 7 _law_k 8 _law_widths 9 _law_width 10 _law_field 11 _law_number
  obtain ⟨t, u, l, used, most, rfl, htu, hm1, hm2, ht, hT, hu, hul, hun, q⟩ := hs
  refine ⟨rfl, t, l, rfl, ht, hT, fun wd l1 hT1 => ?_⟩
  have h4 := wd_le wd
  have h1 := wd_bits wd
  have hu1 : mset m t l1 = mTU m t u l1 used := by
    have z : mset m t l1 u = Option.some (used.map D.str) := by
      rw [mset_ne htu.symm]
      exact hu
    exact (mset_id z).symm
  rw [hu1]
  refine ⟨rfl, wd, rfl, .inl ⟨by decide, by decide⟩, Nat.zero_le _, szr rfl, szr rfl, szr rfl, rfl, t, 3, l1, rfl, by decide, by decide, mTU_t htu, hT1, fun r l2 hr hT2 => ?_⟩
  rw [mTU_setT htu]
  obtain ⟨kk, hkk, hk3⟩ : ∃ k : Nat, atI [D.int 1, .int 2, .int 3] ((r : Nat) : Int) = Option.some (.int k) ∧ k ≤ 3 := by
    have hr3 : r < 3 := by omega
    rw [atI_c]
    match r, hr3 with
    | 0, _ => exact ⟨1, rfl, by decide⟩
    | 1, _ => exact ⟨2, rfl, by decide⟩
    | 2, _ => exact ⟨3, rfl, by decide⟩
  refine (show onSome (atI [D.int 1, .int 2, .int 3] ((r : Nat) : Int)) _ from ?_)
  rw [hkk]
  refine ⟨by omega, by omega, loop_rg (fun i g' m' => ∃ (y7 y8 y9 y10 y11 : Option D) (ps : List Part) (lft : Nat) (rows : List (List D)) (nms : List Str) (l3 : List D), g' = [some (.adr t), some (.adr u), some (.int most), some (.str wd.name), some (.int lft), some (.tup (ps.map Part.enc)), some (.lst (rows.map D.tup)), y7, y8, y9, y10, y11] ∧ m' = mTU m t u l3 (used ++ nms) ∧ Tape l3 ∧ WordS wd ps lft rows used nms i) ⟨none, none, none, none, none, [], 8 * wd.size, [[]], [], l2, ?_, by rw [List.append_nil], hT2, ⟨Nat.zero_add _, fun _ h => (nomatch h), rfl, fun e => (nomatch e), Nat.le_refl _, fun n r hr => ?_, Nat.le_refl _, by rw [List.append_nil]; exact hun⟩⟩ (fun _ _ _ _ => trivial) (fun i g' m' hi hI => ?_) (fun g' m' hI => ?_)⟩
  · rfl
  · rw [List.mem_singleton.mp hr]
    exact ⟨rfl, trivial⟩
  · obtain ⟨y7, y8, y9, y10, y11, ps, lft, rows, nms, l3, rfl, rfl, hT3, hS⟩ := hI
    have hi3 : i < 3 := by omega
    show if decide (0 < ((lft : Nat) : Int)) = true then _ else _
    refine ifD (fun h0 => ?_) (fun h0 => ⟨_, _, _, _, _, ps, lft, rows, nms, l3, rfl, rfl, hT3, hS.mono (Nat.le_succ i)⟩)
    refine ⟨szr rfl, ?_⟩
    refine lc_filter (f := fun w : Nat => D.int (w : Nat)) (xs := [8, 1, 2, 3, 5, 8]) (fun w => decide (w ≤ lft)) (fun w => .int (w : Nat)) (by decide) (fun x hx m1 R R' hm hT2' hF2 => ?_) ?_
    · show if decide (((x : Nat) : Int) ≤ ((lft : Nat) : Int)) = true then R (.int (x : Nat)) m1 else R' m1
      exact ifD (fun h => hT2' (decide_eq_true (by omega))) (fun h => hF2 (decide_eq_false (by omega)))
    · generalize hws : ([8, 1, 2, 3, 5, 8] : List Nat).filter (fun w => decide (w ≤ lft)) = ws
      have hwm : ∀ w ∈ ws, (1 ≤ w ∧ w ≤ 8) ∧ w ≤ lft := fun w hw => by
        rw [← hws] at hw
        obtain ⟨z1, z2⟩ := List.mem_filter.mp hw
        have z3 : ∀ w ∈ ([8, 1, 2, 3, 5, 8] : List Nat), 1 ≤ w ∧ w ≤ 8 := by decide
        exact ⟨z3 w z1, of_decide_eq_true z2⟩
      have hwn : ws ≠ [] := fun e => by
        have : 1 ∈ ws := by
          rw [← hws]
          exact List.mem_filter.mpr ⟨by decide, decide_eq_true (by omega)⟩
        rw [e] at this
        cases this
      have hwl : ws.length ≤ 6 := by
        rw [← hws]
        exact List.length_filter_le _ _
      have hrl : rows.length ≤ 64 := Nat.le_trans hS.len (Nat.pow_le_pow_right (by decide : 4 > 0) (by omega : i ≤ 3))
      have hrp := List.length_pos_iff.mpr hS.ne
      have hml : (rows.map D.tup).length = rows.length := List.length_map _
      obtain ⟨mst, hmst, hms1, hms4⟩ : ∃ mst : Nat, mxf 1 (mnf 4 (((most : Nat) : Int) / (((rows.map D.tup).length : Nat) : Int))) = (mst : Nat) ∧ 1 ≤ mst ∧ mst ≤ 4 := by
        refine ⟨(mxf 1 (mnf 4 (((most : Nat) : Int) / (((rows.map D.tup).length : Nat) : Int)))).toNat, ?_, ?_, ?_⟩
        · rw [Int.toNat_of_nonneg]
          unfold mxf
          split <;> omega
        · unfold mxf
          split <;> omega
        · unfold mxf mnf
          split <;> split <;> omega
      have hul2 : (used ++ nms).length ≤ 20 := by
        have := hS.nl
        rw [List.length_append]
        omega
      have hcd : CDiv ((most : Nat) : Int) (((rows.map D.tup).length : Nat) : Int) := ⟨by omega, by omega⟩
      refine ⟨hcd, rfl, t, l3, ws, mst, congrArg (fun z => [D.adr t, D.lst (ws.map fun w => D.int (w : Nat)), D.int z]) hmst, hwn, by omega, fun w hw => (hwm w hw).1, hms1, by omega, mTU_t htu, hT3, fun w sg d l4 hw hR hT4 => ?_⟩
      rw [mTU_setT htu]
      obtain ⟨⟨hw1, hw8⟩, hwlf⟩ := hwm w hw
      have hpl : (ps.map Part.enc).length ≤ 100 := by
        rw [List.length_map]
        have h2 := sum_ge fun p hp => (hS.wf p hp).1
        have h3 := hS.sum
        omega
      have esub : ((lft : Nat) : Int) - ((w : Nat) : Int) = ((lft - w : Nat) : Int) := by omega
      refine ⟨rfl, t, u, l4, used ++ nms, w, sg, mst, d, rfl, htu, mset_same, hul2, hw1, hw8, by omega, hR, mTU_t htu, hT4, fun l5 hT5 => ?_, fun s df l5 hs hT5 => ?_⟩
      · rw [mTU_setT htu]
        refine ⟨szr rfl, sz (by show (ps.map Part.enc).length + 1 ≤ 100000; omega), ?_⟩
        have hla : atI (ps.map Part.enc ++ [Part.enc ⟨Option.none, w, false, .non, .non⟩]) (-1) = Option.some (Part.enc ⟨Option.none, w, false, .non, .non⟩) := last_at _ _
        refine (show onSome (atI (ps.map Part.enc ++ [Part.enc ⟨Option.none, w, false, .non, .non⟩]) (-1)) _ from ?_)
        rw [hla]
        refine ⟨rfl, ?_⟩
        refine ⟨some (.int (i : Nat)), some (.lst (ws.map fun w => .int (w : Nat))), y9, some (.tup [.int w, .bl sg, d]), y11, ps ++ [⟨Option.none, w, false, .non, .non⟩], lft - w, rows, nms, l5, ?_, rfl, hT5, hS.none hw1 hwlf (by omega)⟩
        rw [List.map_append, ← esub]
        rfl
      · have esw : mset (mset (mTU m t u l4 (used ++ nms)) t l5) u ((used ++ nms ++ [s]).map D.str) = mTU m t u l5 (used ++ (nms ++ [s])) := by
          rw [mTU_setT htu, mTU_setU, List.append_assoc]
        rw [esw]
        refine ⟨szr rfl, sz (by show (ps.map Part.enc).length + 1 ≤ 100000; omega), ?_⟩
        have hla : atI (ps.map Part.enc ++ [Part.enc ⟨Option.some s, w, sg, d, df⟩]) (-1) = Option.some (Part.enc ⟨Option.some s, w, sg, d, df⟩) := last_at _ _
        refine (show onSome (atI (ps.map Part.enc ++ [Part.enc ⟨Option.some s, w, sg, d, df⟩]) (-1)) _ from ?_)
        rw [hla]
        refine ⟨rfl, rfl, sg, w, mst, d, rfl, hw1, hw8, by omega, hR, fun vs hvn hvl hv => ?_⟩
        refine lc_pure (f := D.int) (xs := vs) (fun v => .tup [.int v]) (by omega) (fun v hv m1 R hm hR => ⟨szr rfl, hR⟩) ?_
        have hm2 : rows.length * vs.length ≤ 64 * 4 := Nat.mul_le_mul hrl (by omega)
        refine ⟨rfl, rows, vs.map (fun v => [.int v]), by rw [List.map_map] <;> rfl, by rw [List.length_map]; omega, by rw [List.length_map]; omega, fun r hr => ?_, fun tl htl => ?_, ?_⟩
        · have z := (hS.row 0 r hr).1
          have z2 : (pK ps).length ≤ ps.length := List.length_filterMap_le _ _
          rw [List.length_map] at hpl
          omega
        · obtain ⟨v, _, rfl⟩ := List.mem_map.mp htl
          exact (by decide : 1 ≤ 1000)
        · refine ⟨some (.int (i : Nat)), some (.lst (ws.map fun w => .int (w : Nat))), y9, some (.tup [.int w, .bl sg, d]), y11, ps ++ [⟨Option.some s, w, sg, d, df⟩], lft - w, joinL rows (vs.map fun v => [.int v]), nms ++ [s], l5, ?_, rfl, hT5, hS.some hw1 hwlf (by omega) hs hvn (by omega) hv⟩
          rw [List.map_append, ← esub]
          rfl
  · obtain ⟨y7, y8, y9, y10, y11, ps, lft, rows, nms, l3, rfl, rfl, hT3, hS⟩ := hI
    rw [Int.toNat_natCast] at hS
    have hS3 := hS.mono hk3
    have fin : ∀ ps' : List Part, WordS wd ps' 0 rows used nms 4 → Q (.tup [.tup [.str "word", .str wd.name, .tup (ps'.map Part.enc)], .lst (rows.map D.tup), .int 8]) (mTU m t u l3 (used ++ nms)) := fun ps' h' => by
      have z := q wd ps' rows nms l3 ⟨by have := h'.sum; omega, h'.wf, h'.nm, h'.ne, hS3.len, h'.row⟩ hS3.nl hS3.nd hT3
      rw [encI_word] at z
      exact z
    have hpl : (ps.map Part.enc).length ≤ 100 := by
      rw [List.length_map]
      have h2 := sum_ge fun p hp => (hS.wf p hp).1
      have h3 := hS.sum
      omega
    show if decide (0 < ((lft : Nat) : Int)) = true then _ else _
    refine ifD (fun h0 => ?_) (fun h0 => ?_)
    · refine ⟨szr rfl, szr rfl, sz (by show (ps.map Part.enc).length + 1 ≤ 100000; omega), szr rfl, szr rfl, ?_⟩
      have hsum := hS3.sum
      have h5 := hS3.none (w := lft) (by omega) (Nat.le_refl _) (by omega)
      rw [Nat.sub_self] at h5
      have z := fin _ h5
      rw [List.map_append] at z
      exact z
    · have h00 : lft = 0 := by omega
      subst h00
      exact ⟨szr rfl, szr rfl, fin ps (hS3.mono (by decide))⟩
end
end BB

namespace BB
open PySem PySem.Spec PyProof.Rows L2
local macro_rules | `(tactic| walk_at "dl") => `(tactic| simp only [dIfS, dIfE, dTest, dOp, dVar, dC, dIx, dEq, dNe, dI, dIc, dIsN, dNotN, isNonD, dAndT, dOrT, dNotT, dAndV, dNeg, dAdd, dTup, dLst, dCons, dNil, dCB, dCall, dLc, true_and, dLen, dInt1, dInt2, withSeq, with1_1, onSome_some, atI_0, atI_1, atI_2, atI_3, atI_4, atI_5, atI_6, List.getElem?_cons_succ, List.getElem?_cons_zero, List.set_cons_zero, List.set_cons_succ, gdN, Part.enc, encN, Bool.not_true, Bool.not_false, mapS_cons, mapS_nil, List.length_cons, List.length_nil, List.cons_append, List.nil_append, gdTup, gdCons, gdNil, dAppend, dExtend, dListF, dTupOf, dMul, dSl, dNoP, dPart])
local macro_rules | `(tactic| walk_at "dr") => `(tactic| simp only [dSeq, dAsg, dRet, dRetW, dDrop, dNext, dFor, diSeq, dIfS, dIfE, dTest, dOp, dVar, dC, dIx, dEq, dNe, dI, dIc, dIsN, dNotN, isNonD, dAndT, dOrT, dNotT, dAndV, dNeg, dAdd, dTup, dLst, dCons, dNil, dCB, dCall, dLc, true_and, dLen, dInt1, dInt2, withSeq, with1_1, onSome_some, atI_0, atI_1, atI_2, atI_3, atI_4, atI_5, atI_6, List.getElem?_cons_succ, List.getElem?_cons_zero, List.set_cons_zero, List.set_cons_succ, gdN, Part.enc, encN, Bool.not_true, Bool.not_false, mapS_cons, mapS_nil, List.length_cons, List.length_nil, List.cons_append, List.nil_append, gdTup, gdCons, gdNil, dAppend, dExtend, dListF, dTupOf, dMul, dSl, dNoP, dPart])

/-! ## a small layout -/
structure ItemR (n : Nat) (it : Item) (rows : List (List D)) (nms : List Str) (sp : Int) : Prop where
  wf : wfI n it
  nm : (kindsI it).map Kind.name = nms
  ne : rows ≠ []
  len : rows.length ≤ 1000
  row : ∀ r ∈ rows, rowOf (valOf n) (kindsI it) r
  mx : ((mxI n it : Nat) : Int) ≤ sp
structure LayR (n : Nat) (its : List Item) (rows : List (List D)) (sp : Int) : Prop where
  wf : ∀ i ∈ its, wfI n i
  nd : ((kinds its).map Kind.name).Nodup
  ne : rows ≠ []
  row : ∀ r ∈ rows, rowIs n its r
  mx : ((mxL n its : Nat) : Int) ≤ sp
def sp_itemG (d : Nat) : SpD := fun ds m Q => ∃ (t u : Addr) (l : List D) (used : List Str) (most : Nat) (room : Int), ds = [.adr t, .adr u, .int d, .int most, .int room] ∧ t ≠ u ∧ 1 ≤ most ∧ most ≤ 1000 ∧ m t = some l ∧ Tape l ∧ m u = some (used.map D.str) ∧ used.length ≤ 17 ∧ used.Nodup ∧
  ∀ (it : Item) (rows : List (List D)) (nms : List Str) (sp : Int) (us : List Str) (l' : List D), ItemR (d + 1) it rows nms sp → us.length ≤ 3 → nms.Sublist us → (used ++ us).Nodup → Tape l' → Q (.tup [encI (d + 1) it, .lst (rows.map D.tup), .int sp]) (mTU m t u l' (used ++ us))
def sp_smallG (d : Nat) : SpD := fun ds m Q => ∃ (t : Addr) (l : List D) (most : Nat) (room : Int), ds = [.adr t, .int d, .int most, .int room] ∧ 1 ≤ most ∧ most ≤ 1000 ∧ m t = some l ∧ Tape l ∧
  ∀ (its : List Item) (rows : List (List D)) (sp : Int) (l' : List D), LayR (d + 1) its rows sp → its.length ≤ 4 → rows.length ≤ most → 0 ≤ sp → (sp ≤ room ∨ sp ≤ 0) → Tape l' → Q (.tup [encL (d + 1) its, .lst (rows.map D.tup), .int sp]) (mset m t l')
theorem LayR.add {n : Nat} {its : List Item} {rows rows2 : List (List D)} {sp sp2 : Int} {it : Item} {nms us used : List Str} (h : LayR n its rows sp) (h2 : ItemR n it rows2 nms sp2) (hs : ((kinds its).map Kind.name).Sublist used) (hu : nms.Sublist us) (hnd : (used ++ us).Nodup) :
    LayR n (its ++ [it]) (joinL rows rows2) (sp + sp2) ∧ ((kinds (its ++ [it])).map Kind.name).Sublist (used ++ us) := by
  have hk : kinds (its ++ [it]) = kinds its ++ kindsI it := by
    rw [kinds_app]
    show _ ++ (kindsI it ++ []) = _
    rw [List.append_nil]
  have hsub : ((kinds (its ++ [it])).map Kind.name).Sublist (used ++ us) := by
    rw [hk, List.map_append, h2.nm]
    exact List.Sublist.append hs hu
  refine ⟨⟨fun i hi => ?_, hsub.nodup hnd, fun e => ?_, fun r hr => ?_, ?_⟩, hsub⟩
  · rcases List.mem_append.mp hi with z | z
    · exact h.wf i z
    · rw [List.mem_singleton.mp z]
      exact h2.wf
  · have z := congrArg List.length e
    rw [joinL_len, List.length_nil] at z
    have h1 := List.length_pos_iff.mpr h.ne
    have h3 := List.length_pos_iff.mpr h2.ne
    have := Nat.mul_pos h1 h3
    omega
  · obtain ⟨r0, hr0, hr1⟩ := List.mem_flatMap.mp hr
    obtain ⟨tl, htl, rfl⟩ := List.mem_map.mp hr1
    unfold rowIs
    rw [hk]
    exact rowOf_app (h.row r0 hr0) (h2.row tl htl)
  · have e : mxL n (its ++ [it]) = mxL n its + mxI n it := by
      show ((its ++ [it]).map (mxI n)).sum = _
      rw [List.map_append, List.sum_append]
      rfl
    rw [e]
    have := h.mx
    have := h2.mx
    omega
abbrev smBody (k : Nat) : TSD := dSeq (dAsg (dCall 5 (sp_itemG k) (dCons (dVar 0) (dCons (dVar 7) (dCons (dVar 1) (dCons (dOp dFdv (dVar 2) (dCB dLen (dCons (dVar 5) dNil))) (dCons (dOp dSub (dVar 3) (dVar 6)) dNil)))))) (gdN 9))
  (dIfS (dAndT (dTest (dOp dLe (dOp dMul (dCB dLen (dCons (dVar 5) dNil)) (dCB dLen (dCons (dOp dIx (dVar 9) (dC (.int 1))) dNil))) (dVar 2))) (dTest (dOp dLe (dOp dAdd (dVar 6) (dOp dIx (dVar 9) (dC (.int 2)))) (dVar 3))))
    (dSeq (dAsg (dOp dAdd (dVar 4) (dTup (dCons (dOp dIx (dVar 9) (dC (.int 0))) dNil))) (gdN 4)) (dSeq (dAsg (dCall 2 sp_l_joined (dCons (dVar 5) (dCons (dOp dIx (dVar 9) (dC (.int 1))) dNil))) (gdN 5)) (dAsg (dOp dAdd (dVar 6) (dOp dIx (dVar 9) (dC (.int 2)))) (gdN 6)))) dNext)
abbrev smEnd : TSD := dRetW (dTup (dCons (dVar 4) (dCons (dVar 5) (dCons (dVar 6) dNil))))
section
variable {P : Program} {w : World} {K : PySem.W.Frag} {mg : Str → Option Value} {base : Heap}
theorem sc_l_small : FnScope ["_law_tape_here", "_law_depth", "_law_most", "_law_room", "_law_items", "_law_rows", "_law_spent", "_law_used", "_law_k", "_law_told"] ["_law_tape_here", "_law_depth", "_law_most", "_law_room"] (defScope s_l_small) := ⟨rfl, rfl, rfl, by decide +kernel, rfl, by decide +kernel, by decide +kernel⟩
theorem cal_l_small (k : Nat) (D0 : Def K mg "_law_small" s_l_small) (B : Blt mg) (c_l_draw : Cal P w K mg base "_law_draw" (1) ["_law_tape_here", "_law_many"] (up K 2 sp_l_draw)) (c_l_small_item : Cal P w K mg base "_law_small_item" (50*k+40) ["_law_tape_here", "_law_used", "_law_depth", "_law_most", "_law_room"] (up K 5 (sp_itemG k))) (c_l_joined : Cal P w K mg base "_law_joined" (1) ["_law_rows", "_law_tails"] (up K 2 sp_l_joined))  : Cal P w K mg base "_law_small" (50*k+40 + 1) ["_law_tape_here", "_law_depth", "_law_most", "_law_room"] (up K 4 (sp_smallG k)) := by
  refine D0.cal (N := ["_law_tape_here", "_law_depth", "_law_most", "_law_room", "_law_items", "_law_rows", "_law_spent", "_law_used", "_law_k", "_law_told"]) (k := 50*k+40) sc_l_small [none, none, none, none, none, none] rfl (fun _ _ _ _ _ _ us hl => match us, hl with | [_, _, _, _], _ => rfl) (fun f cdv A outer s H E hr => ⟨_, _,
(dss_cons (ds_set (i := 4) sc_l_small.nd rfl (.inl rfl) (de_tup da_nil))
(dss_cons (ds_set (i := 5) sc_l_small.nd rfl (.inl rfl) (de_lst (da_cons (de_tup da_nil) da_nil)))
(dss_cons (ds_set (i := 6) sc_l_small.nd rfl (.inl rfl) de_int)
(dss_cons (ds_set (i := 7) sc_l_small.nd rfl (.inl rfl) (de_new da_nil))
(dss_cons (ds_for PassesOwn.never rfl (di_rg1 (by rfl) B.range (de_if (dt_gt (dv 3) de_int) (de_ix (de_lst (da_cons de_int (da_cons de_int (da_cons de_int (da_cons de_int (da_cons de_int (da_cons de_int da_nil))))))) (de_call c_l_draw (hr.mono (by first | decide | omega)) (by rfl) (da_cons (dv 0) (da_cons de_int da_nil)))) de_int)) (dg_name (i := 8) sc_l_small.nd rfl (.inl rfl))
(dss_cons (ds_set (i := 9) sc_l_small.nd rfl (.inl rfl) (de_call c_l_small_item (hr.mono (by first | decide | omega)) (by rfl) (da_cons (dv 0) (da_cons (dv 7) (da_cons (dv 1) (da_cons (de_fdv (dv 2) (de_cb rLen' call_len_seq sc_len (by rfl) B.len bt_len (da_cons (dv 5) da_nil))) (da_cons (de_sub (dv 3) (dv 6)) da_nil)))))))
(dss_one (ds_if (DW.dt (dw_and (dt_le (de_mul (de_cb rLen' call_len_seq sc_len (by rfl) B.len bt_len (da_cons (dv 5) da_nil)) (de_cb rLen' call_len_seq sc_len (by rfl) B.len bt_len (da_cons (de_ix (dv 9) de_int) da_nil))) (dv 2)) (dw_and1 (dt_le (de_add (dv 6) (de_ix (dv 9) de_int)) (dv 3)))))
(dss_cons (ds_set (i := 4) sc_l_small.nd rfl (.inl rfl) (de_add (dv 4) (de_tup (da_cons (de_ix (dv 9) de_int) da_nil))))
(dss_cons (ds_set (i := 5) sc_l_small.nd rfl (.inl rfl) (de_call c_l_joined (hr.mono (by first | decide | omega)) (by rfl) (da_cons (dv 5) (da_cons (de_ix (dv 9) de_int) da_nil))))
(dss_one (ds_set (i := 6) sc_l_small.nd rfl (.inl rfl) (de_add (dv 6) (de_ix (dv 9) de_int))))))
dss_nil))))
(dss_one (ds_retW (de_tup (da_cons (dv 4) (da_cons (dv 5) (da_cons (dv 6) da_nil))))))))))),
    fun ds m Q hl hs => ?_⟩)
  -- slots: 0 _law_tape_here 1 _law_depth 2 _law_most 3 _law_room 4 _law_items 5 _law_rows 6 _law_spent 7 _law_used 8 _law_k 9 _law_told
  obtain ⟨t, l, most, room, rfl, hm1, hm2, ht, hT, q⟩ := hs
  refine ⟨szr rfl, szr rfl, szr rfl, Nat.zero_le _, fun u hu => ?_⟩
  have htu : t ≠ u := mne ht hu
  have hm0 : mset m u [] = mTU m t u l [] := by
    show mset m u [] = mset (mset m t l) u []
    rw [mset_id ht]
  rw [hm0]
  have body : ∀ (l1 : List D), Tape l1 → ∀ c : Nat, c ≤ 4 → (0 < c → 0 < room) → ((c : Nat) : Int) < 2 ^ 62 ∧ -(2 ^ 62) ≤ ((c : Nat) : Int) ∧ LoopD ((rgI 0 ((c : Nat) : Int)).map D.int) (fun _ => True) (gdN 8) (smBody k) ⟨smEnd ⟨fun _ m' => Q .non m', Q⟩, Q⟩ [some (.adr t), some (.int k), some (.int most), some (.int room), some (.tup []), some (.lst [.tup []]), some (.int 0), some (.adr u), none, none] (mTU m t u l1 []) := fun l1 hT1 c hc4 hc0 => by
    refine ⟨by omega, by omega, loop_rg (fun i g' m' => ∃ (y8 y9 : Option D) (its : List Item) (rows : List (List D)) (sp : Int) (us : List Str) (l2 : List D), g' = [some (.adr t), some (.int k), some (.int most), some (.int room), some (encL (k + 1) its), some (.lst (rows.map D.tup)), some (.int sp), some (.adr u), y8, y9] ∧ m' = mTU m t u l2 us ∧ Tape l2 ∧ us.length ≤ 3 * i ∧ us.Nodup ∧ ((kinds its).map Kind.name).Sublist us ∧ LayR (k + 1) its rows sp ∧ its.length ≤ i ∧ rows.length ≤ most ∧ 0 ≤ sp ∧ (sp ≤ room ∨ sp ≤ 0)) ⟨none, none, [], [[]], 0, [], l1, rfl, rfl, hT1, Nat.le_refl _, List.nodup_nil, List.Sublist.refl _, ⟨fun _ h => (nomatch h), List.nodup_nil, fun e => (nomatch e), fun r hr => ?_, Int.le_refl _⟩, Nat.le_refl _, hm1, Int.le_refl _, .inr (Int.le_refl _)⟩ (fun _ _ _ _ => trivial) (fun i g' m' hi hI => ?_) (fun g' m' hI => ?_)⟩
    · rw [List.mem_singleton.mp hr]
      exact ⟨rfl, trivial⟩
    · obtain ⟨y8, y9, its, rows, sp, us, l2, rfl, rfl, hT2, hul, hun, hsu, hL, hil, hrm, hsp0, hsp⟩ := hI
      have hi4 : i < 4 := by omega
      have hrp := List.length_pos_iff.mpr hL.ne
      have hml : (rows.map D.tup).length = rows.length := List.length_map _
      have hcd : CDiv ((most : Nat) : Int) (((rows.map D.tup).length : Nat) : Int) := ⟨by omega, by omega⟩
      have hdv : ((most : Nat) : Int) / (((rows.map D.tup).length : Nat) : Int) = ((most / rows.length : Nat) : Int) := by
        rw [hml, Int.natCast_ediv]
      have hd1 : 1 ≤ most / rows.length := (Nat.le_div_iff_mul_le hrp).mpr (by omega)
      have hd2 : most / rows.length ≤ 1000 := Nat.le_trans (Nat.div_le_self _ _) hm2
      refine ⟨hcd, rfl, t, u, l2, us, most / rows.length, room - sp, congrArg (fun z => [D.adr t, D.adr u, D.int k, D.int z, D.int (room - sp)]) hdv, htu, hd1, hd2, mTU_t htu, hT2, mset_same, by omega, hun, fun it rows2 nms sp2 us2 l3 hIt hu2 hsn hnd hT3 => ?_⟩
      have em : mTU (mTU m t u l2 us) t u l3 (us ++ us2) = mTU m t u l3 (us ++ us2) := by
        show mset (mset (mTU m t u l2 us) t l3) u _ = _
        rw [mTU_setT htu, mTU_setU]
      rw [em]
      have hul2 : (us ++ us2).length ≤ 3 * (i + 1) := by
        rw [List.length_append]
        omega
      have hml2 : (rows2.map D.tup).length = rows2.length := List.length_map _
      have hr2l := hIt.len
      have hsp2 : 0 ≤ sp2 := by
        have := hIt.mx
        omega
      have rej : ∃ (y8 y9 : Option D) (its' : List Item) (rows' : List (List D)) (sp' : Int) (us' : List Str) (l2' : List D), [some (.adr t), some (.int k), some (.int most), some (.int room), some (encL (k + 1) its), some (.lst (rows.map D.tup)), some (.int sp), some (.adr u), some (.int (i : Nat)), some (.tup [encI (k + 1) it, .lst (rows2.map D.tup), .int sp2])] = [some (.adr t), some (.int k), some (.int most), some (.int room), some (encL (k + 1) its'), some (.lst (rows'.map D.tup)), some (.int sp'), some (.adr u), y8, y9] ∧ mTU m t u l3 (us ++ us2) = mTU m t u l2' us' ∧ Tape l2' ∧ us'.length ≤ 3 * (i + 1) ∧ us'.Nodup ∧ ((kinds its').map Kind.name).Sublist us' ∧ LayR (k + 1) its' rows' sp' ∧ its'.length ≤ i + 1 ∧ rows'.length ≤ most ∧ 0 ≤ sp' ∧ (sp' ≤ room ∨ sp' ≤ 0) :=
        ⟨_, _, its, rows, sp, us ++ us2, l3, rfl, rfl, hT3, hul2, hnd, hsu.trans (List.sublist_append_left us us2), hL, Nat.le_succ_of_le hil, hrm, hsp0, hsp⟩
      refine ⟨.inl ⟨by omega, by omega⟩, ?_⟩
      show if decide ((((rows.map D.tup).length : Nat) : Int) * (((rows2.map D.tup).length : Nat) : Int) ≤ ((most : Nat) : Int)) = true then (if decide (sp + sp2 ≤ room) = true then _ else _) else _
      refine ifD (fun ha => ifD (fun hb => ?_) (fun hb => rej)) (fun ha => rej)
      rw [hml, hml2, ← Int.natCast_mul] at ha
      have ha' : rows.length * rows2.length ≤ most := Int.ofNat_le.mp ha
      obtain ⟨hL2, hs2⟩ := hL.add hIt hsu hsn hnd
      have hkn : (kinds its).length ≤ us.length := by
        have := hsu.length_le
        rw [List.length_map] at this
        exact this
      have hkn2 : (kindsI it).length ≤ us2.length := by
        have h1 := hsn.length_le
        rw [← hIt.nm, List.length_map] at h1
        exact h1
      refine ⟨szr rfl, sz ?_, rfl, rows, rows2, rfl, by omega, by omega, fun r hr => by rw [(hL.row r hr).1]; omega, fun r hr => by rw [(hIt.row r hr).1]; omega, ?_⟩
      · show (its.map (encI (k + 1))).length + 1 ≤ 100000
        rw [List.length_map]
        omega
      · refine ⟨some (.int (i : Nat)), some (.tup [encI (k + 1) it, .lst (rows2.map D.tup), .int sp2]), its ++ [it], joinL rows rows2, sp + sp2, us ++ us2, l3, ?_, rfl, hT3, hul2, hnd, hs2, hL2, ?_, ?_, by omega, .inl hb⟩
        · rw [show encL (k + 1) (its ++ [it]) = .tup (its.map (encI (k + 1)) ++ [encI (k + 1) it]) by
            show D.tup ((its ++ [it]).map (encI (k + 1))) = _
            rw [List.map_append]
            rfl]
          rfl
        · rw [List.length_append]
          exact Nat.add_le_add_right hil 1
        · rw [joinL_len]
          exact ha'
    · obtain ⟨y8, y9, its, rows, sp, us, l2, rfl, rfl, hT2, hul, hun, hsu, hL, hil, hrm, hsp0, hsp⟩ := hI
      rw [Int.toNat_natCast] at hil
      refine ⟨szr rfl, mset m t l2, fun b es hb => ?_, q its rows sp l2 hL (by omega) hrm hsp0 hsp hT2⟩
      have hbu : b ≠ u := fun e => by
        rw [e, mset_ne htu.symm, hu] at hb
        cases hb
      show mset (mset m t l2) u _ b = some es
      rw [mset_ne hbu]
      exact hb
  show if decide (0 < room) = true then _ else _
  refine ifD (fun h => ⟨szr rfl, rfl, t, 6, l, rfl, by decide, by decide, mTU_t htu, hT, fun r l1 hr hT1 => ?_⟩) (fun h => body l hT 0 (by decide) (fun z => absurd z (by decide)))
  rw [mTU_setT htu]
  obtain ⟨c, hc, hc4⟩ : ∃ c : Nat, atI [D.int 2, .int 1, .int 2, .int 3, .int 4, .int 0] ((r : Nat) : Int) = some (.int c) ∧ c ≤ 4 := by
    have h6 : r < 6 := by omega
    rw [atI_c]
    match r, h6 with
    | 0, _ => exact ⟨2, rfl, by decide⟩
    | 1, _ => exact ⟨1, rfl, by decide⟩
    | 2, _ => exact ⟨2, rfl, by decide⟩
    | 3, _ => exact ⟨3, rfl, by decide⟩
    | 4, _ => exact ⟨4, rfl, by decide⟩
    | 5, _ => exact ⟨0, rfl, by decide⟩
  refine (show onSome (atI [D.int 2, .int 1, .int 2, .int 3, .int 4, .int 0] ((r : Nat) : Int)) _ from ?_)
  rw [hc]
  exact body l1 hT1 c hc4 fun _ => h
end
end BB

namespace BB
open PySem PySem.Spec PyProof.Rows L2
local macro_rules | `(tactic| walk_at "dl") => `(tactic| simp only [dIfS, dIfE, dTest, dOp, dVar, dC, dIx, dEq, dNe, dI, dIc, dIsN, dNotN, isNonD, dAndT, dOrT, dNotT, dAndV, dNeg, dAdd, dTup, dLst, dCons, dNil, dCB, dCall, dLc, true_and, dLen, dInt1, dInt2, withSeq, with1_1, onSome_some, atI_0, atI_1, atI_2, atI_3, atI_4, atI_5, atI_6, List.getElem?_cons_succ, List.getElem?_cons_zero, List.set_cons_zero, List.set_cons_succ, gdN, Part.enc, encN, Bool.not_true, Bool.not_false, mapS_cons, mapS_nil, List.length_cons, List.length_nil, List.cons_append, List.nil_append, gdTup, gdCons, gdNil, dAppend, dExtend, dListF, dTupOf, dMul, dSl, dNoP, dPart])
local macro_rules | `(tactic| walk_at "dr") => `(tactic| simp only [dSeq, dAsg, dRet, dRetW, dDrop, dNext, dFor, diSeq, dIfS, dIfE, dTest, dOp, dVar, dC, dIx, dEq, dNe, dI, dIc, dIsN, dNotN, isNonD, dAndT, dOrT, dNotT, dAndV, dNeg, dAdd, dTup, dLst, dCons, dNil, dCB, dCall, dLc, true_and, dLen, dInt1, dInt2, withSeq, with1_1, onSome_some, atI_0, atI_1, atI_2, atI_3, atI_4, atI_5, atI_6, List.getElem?_cons_succ, List.getElem?_cons_zero, List.set_cons_zero, List.set_cons_succ, gdN, Part.enc, encN, Bool.not_true, Bool.not_false, mapS_cons, mapS_nil, List.length_cons, List.length_nil, List.cons_append, List.nil_append, gdTup, gdCons, gdNil, dAppend, dExtend, dListF, dTupOf, dMul, dSl, dNoP, dPart])

/-! ## a small item -/
def sp_choiceH (d : Nat) : SpD := fun ds m Q => ∃ (t : Addr) (nm : Str) (l : List D) (most : Nat) (room : Int), ds = [.adr t, .str nm, .int ((d + 1 : Nat) : Int), .int most, .int room] ∧ 1 ≤ most ∧ most ≤ 1000 ∧ m t = some l ∧ Tape l ∧
  ∀ (wd : Wd) (cs : List Cs) (rows : List (List D)) (sp : Int) (l' : List D), ItemR (d + 2) (.choice nm wd cs) rows [nm] sp → Tape l' → Q (.tup [encI (d + 2) (.choice nm wd cs), .lst (rows.map D.tup), .int sp]) (mset m t l')
theorem mTU_start {m : Mu} {t u : Addr} (h : t ≠ u) {used : List Str} (hu : m u = some (used.map D.str)) (l : List D) : mset m t l = mTU m t u l used := by
  have z : mset m t l u = some (used.map D.str) := by
    rw [mset_ne h.symm]
    exact hu
  exact (mset_id z).symm
theorem if2 {A B W R : Prop} [Decidable A] [Decidable B] (h : A → ¬ B) (r : R) : if decide A = true then (if decide B = true then W else R) else R := ifD (fun a => ifD (fun b => absurd b (h a)) (fun _ => r)) (fun _ => r)
theorem if2T {A B W R : Prop} [Decidable A] [Decidable B] (a : A) (b : B) (w : W) : if decide A = true then (if decide B = true then W else R) else R := ifD (fun _ => ifD (fun _ => w) (fun n => absurd b n)) (fun n => absurd a n)
section
variable {P : Program} {w : World} {K : PySem.W.Frag} {mg : Str → Option Value} {base : Heap}
theorem sc_l_small_item : FnScope ["_law_tape_here", "_law_used", "_law_depth", "_law_most", "_law_room", "_law_sort", "_law_told", "_law_row", "_law_greatest", "_law_least", "_law_count", "_law_inner", "_law_many", "_law_field", "_law_rows", "_law_thing"] ["_law_tape_here", "_law_used", "_law_depth", "_law_most", "_law_room"] (defScope s_l_small_item) := ⟨rfl, rfl, rfl, by decide +kernel, rfl, by decide +kernel, by decide +kernel⟩
theorem cal_l_small_item (k : Nat) (D0 : Def K mg "_law_small_item" s_l_small_item) (B : Blt mg) (c_l_draw : Cal P w K mg base "_law_draw" (1) ["_law_tape_here", "_law_many"] (up K 2 sp_l_draw)) (c_l_constant : Cal P w K mg base "_law_constant" (2) ["_law_tape_here"] (up K 1 sp_l_constant)) (c_l_small_word : Cal P w K mg base "_law_small_word" (4) ["_law_tape_here", "_law_used", "_law_most"] (up K 3 sp_l_small_word)) (c_l_name : Cal P w K mg base "_law_name" (2) ["_law_tape_here", "_law_used"] (up K 2 sp_l_name)) (c_l_small : Cal P w K mg base "_law_small" (50*k) ["_law_tape_here", "_law_depth", "_law_most", "_law_room"] (up K 4 (at2 sp_smallG k))) (c_l_small_choice : Cal P w K mg base "_law_small_choice" (50*k+30) ["_law_tape_here", "_law_name_here", "_law_depth", "_law_most", "_law_room"] (up K 5 (at2 sp_choiceH k))) (c_l_a_count : Cal P w K mg base "_law_a_count" (3) ["_law_tape_here", "_law_least", "_law_greatest"] (up K 3 sp_l_a_count)) (c_l_a_field : Cal P w K mg base "_law_a_field" (3) ["_law_tape_here", "_law_widths", "_law_most"] (up K 3 sp_l_a_field)) (c_l_series : Cal P w K mg base "_law_series" (2) ["_law_entries", "_law_least", "_law_greatest"] (up K 3 sp_l_series)) (c_l_listed : Cal P w K mg base "_law_listed" (1) ["_law_signed", "_law_width", "_law_ranges_here"] (up K 3 sp_l_listed)) (c_l_not_empty : Cal P w K mg base "_law_not_empty" (2) ["_law_tape_here", "_law_items"] (up K 2 sp_l_not_empty))  : Cal P w K mg base "_law_small_item" (50*k+39 + 1) ["_law_tape_here", "_law_used", "_law_depth", "_law_most", "_law_room"] (up K 5 (sp_itemG k)) := by
  refine D0.cal (N := ["_law_tape_here", "_law_used", "_law_depth", "_law_most", "_law_room", "_law_sort", "_law_told", "_law_row", "_law_greatest", "_law_least", "_law_count", "_law_inner", "_law_many", "_law_field", "_law_rows", "_law_thing"]) (k := 50*k+39) sc_l_small_item [none, none, none, none, none, none, none, none, none, none, none] rfl (fun _ _ _ _ _ _ us hl => match us, hl with | [_, _, _, _, _], _ => rfl) (fun f cdv A outer s H E hr => ⟨_, _,
(dss_cons (ds_set (i := 5) sc_l_small_item.nd rfl (.inl rfl) (de_call c_l_draw (hr.mono (by first | decide | omega)) (by rfl) (da_cons (dv 0) (da_cons de_int da_nil))))
(dss_cons (ds_if (dt_lt (dv 5) de_int)
(dss_one (ds_ret (de_tup (da_cons (de_call c_l_constant (hr.mono (by first | decide | omega)) (by rfl) (da_cons (dv 0) da_nil)) (da_cons (de_lst (da_cons (de_tup da_nil) da_nil)) (da_cons de_int da_nil))))))
dss_nil)
(dss_cons (ds_if (DW.dt (dw_or (dt_lt (dv 5) de_int) (dw_or1 (DW.dt (dw_and (dt_gt (dv 5) de_int) (dw_and1 (dt_eq (dv 2) de_int)))))))
(dss_one (ds_ret (de_call c_l_small_word (hr.mono (by first | decide | omega)) (by rfl) (da_cons (dv 0) (da_cons (dv 1) (da_cons (dv 3) da_nil))))))
dss_nil)
(dss_cons (ds_expr (de_append (dv 1) (de_call c_l_name (hr.mono (by first | decide | omega)) (by rfl) (da_cons (dv 0) (da_cons (dv 1) da_nil)))))
(dss_cons (ds_if (dt_eq (dv 5) de_int)
(dss_cons (ds_set (i := 6) sc_l_small_item.nd rfl (.inl rfl) (de_call c_l_small (hr.mono (by first | decide | omega)) (by rfl) (da_cons (dv 0) (da_cons (de_sub (dv 2) de_int) (da_cons (dv 3) (da_cons (de_sub (dv 4) de_int) da_nil))))))
(dss_one (ds_ret (de_tup (da_cons (de_tup (da_cons de_str (da_cons (de_ix (dv 1) (de_neg de_int)) (da_cons (de_ix (dv 6) de_int) da_nil)))) (da_cons (de_lc (own := [("_law_row", 7)]) rfl sc_l_small_item.nd (di_seq (de_ix (dv 6) de_int)) (blkOk_by (N := ["_law_tape_here", "_law_used", "_law_depth", "_law_most", "_law_room", "_law_sort", "_law_told", "_law_row", "_law_greatest", "_law_least", "_law_count", "_law_inner", "_law_many", "_law_field", "_law_rows", "_law_thing"]) (sc := defScope s_l_small_item) (own := [("_law_row", 7)]) (by decide +kernel)) (fun _ _ _ _ _ => (dg_name (i := 7) sc_l_small_item.nd rfl (.inl rfl))) (keepN 7) (fun _ _ _ _ _ => dts_nil) (fun _ _ _ _ _ => (de_tup (da_cons (dv 7) da_nil))) (by intro _; rfl) s H) (da_cons (de_add (de_ix (dv 6) de_int) de_int) da_nil)))))))
dss_nil)
(dss_cons (ds_if (dt_eq (dv 5) de_int)
(dss_one (ds_ret (de_call c_l_small_choice (hr.mono (by first | decide | omega)) (by rfl) (da_cons (dv 0) (da_cons (de_ix (dv 1) (de_neg de_int)) (da_cons (dv 2) (da_cons (dv 3) (da_cons (dv 4) da_nil))))))))
dss_nil)
(dss_cons (ds_set (i := 8) sc_l_small_item.nd rfl (.inl rfl) (de_add de_int (de_call c_l_draw (hr.mono (by first | decide | omega)) (by rfl) (da_cons (dv 0) (da_cons de_int da_nil)))))
(dss_cons (ds_set (i := 9) sc_l_small_item.nd rfl (.inl rfl) (de_ix (de_lst (da_cons de_int (da_cons (dv 8) (da_cons (de_call c_l_draw (hr.mono (by first | decide | omega)) (by rfl) (da_cons (dv 0) (da_cons (de_add (dv 8) de_int) da_nil))) da_nil)))) (de_call c_l_draw (hr.mono (by first | decide | omega)) (by rfl) (da_cons (dv 0) (da_cons de_int da_nil)))))
(dss_cons (ds_set (i := 10) sc_l_small_item.nd rfl (.inl rfl) (de_call c_l_a_count (hr.mono (by first | decide | omega)) (by rfl) (da_cons (dv 0) (da_cons (dv 9) (da_cons (dv 8) da_nil)))))
(dss_cons (ds_set (i := 11) sc_l_small_item.nd rfl (.inl rfl) de_int)
(dss_cons (ds_for PassesOwn.never rfl (di_rg2 (by rfl) B.range de_int de_int) (dg_name (i := 12) sc_l_small_item.nd rfl (.inl rfl))
(dss_one (ds_if (dt_le (de_ix (de_lst (da_cons (de_add de_int (dv 12)) (da_cons (de_add (de_add de_int (dv 12)) (de_mul (dv 12) (dv 12))) (da_cons (de_add (de_add (de_add de_int (dv 12)) (de_mul (dv 12) (dv 12))) (de_mul (de_mul (dv 12) (dv 12)) (dv 12))) da_nil)))) (de_sub (dv 8) de_int)) (dv 3))
(dss_one (ds_set (i := 11) sc_l_small_item.nd rfl (.inl rfl) (dv 12)))
dss_nil)))
(dss_cons (ds_if (dt_eq (dv 5) de_int)
(dss_cons (ds_set (i := 13) sc_l_small_item.nd rfl (.inl rfl) (de_call c_l_a_field (hr.mono (by first | decide | omega)) (by rfl) (da_cons (dv 0) (da_cons (de_lst (da_cons de_int da_nil)) (da_cons (dv 11) da_nil)))))
(dss_cons (ds_setLc (i := 14) (own := [("_law_thing", 15)]) rfl sc_l_small_item.nd rfl rfl (sw_true rfl rfl rfl (by decide +kernel)) (di_seq (de_call c_l_series (hr.mono (by first | decide | omega)) (by rfl) (da_cons (de_call c_l_listed (hr.mono (by first | decide | omega)) (by rfl) (da_cons (de_ix (dv 13) de_int) (da_cons de_int (da_cons (de_ix (dv 13) de_int) da_nil)))) (da_cons (dv 9) (da_cons (dv 8) da_nil))))) (blkOk_by (N := ["_law_tape_here", "_law_used", "_law_depth", "_law_most", "_law_room", "_law_sort", "_law_told", "_law_row", "_law_greatest", "_law_least", "_law_count", "_law_inner", "_law_many", "_law_field", "_law_rows", "_law_thing"]) (sc := defScope s_l_small_item) (own := [("_law_thing", 15)]) (by decide +kernel)) (fun _ _ _ _ _ => (dg_name (i := 15) sc_l_small_item.nd rfl (.inl rfl))) (keepN 15) (fun _ _ _ _ _ => dts_nil) (fun _ _ _ _ _ => (de_tup (da_cons (dv 15) da_nil))) (by intro _; rfl) s H)
(dss_one (ds_ret (de_tup (da_cons (de_tup (da_cons de_str (da_cons (de_ix (dv 1) (de_neg de_int)) (da_cons de_str (da_cons (de_ix (dv 13) de_int) (da_cons (dv 10) (da_cons (de_ix (dv 13) de_int) (da_cons de_non da_nil)))))))) (da_cons (dv 14) (da_cons (de_add de_int (de_mul de_int (dv 8))) da_nil))))))))
dss_nil)
(dss_cons (ds_set (i := 6) sc_l_small_item.nd rfl (.inl rfl) (de_call c_l_small (hr.mono (by first | decide | omega)) (by rfl) (da_cons (dv 0) (da_cons (de_sub (dv 2) de_int) (da_cons (dv 11) (da_cons (de_sub (de_fdv (de_sub (dv 4) de_int) (dv 8)) de_int) da_nil))))))
(dss_cons (ds_setLc (i := 14) (own := [("_law_thing", 15)]) rfl sc_l_small_item.nd rfl rfl (sw_true rfl rfl rfl (by decide +kernel)) (di_seq (de_call c_l_series (hr.mono (by first | decide | omega)) (by rfl) (da_cons (de_ix (dv 6) de_int) (da_cons (dv 9) (da_cons (dv 8) da_nil))))) (blkOk_by (N := ["_law_tape_here", "_law_used", "_law_depth", "_law_most", "_law_room", "_law_sort", "_law_told", "_law_row", "_law_greatest", "_law_least", "_law_count", "_law_inner", "_law_many", "_law_field", "_law_rows", "_law_thing"]) (sc := defScope s_l_small_item) (own := [("_law_thing", 15)]) (by decide +kernel)) (fun _ _ _ _ _ => (dg_name (i := 15) sc_l_small_item.nd rfl (.inl rfl))) (keepN 15) (fun _ _ _ _ _ => dts_nil) (fun _ _ _ _ _ => (de_tup (da_cons (dv 15) da_nil))) (by intro _; rfl) s H)
(dss_one (ds_ret (de_tup (da_cons (de_tup (da_cons de_str (da_cons (de_ix (dv 1) (de_neg de_int)) (da_cons (dv 10) (da_cons (de_call c_l_not_empty (hr.mono (by first | decide | omega)) (by rfl) (da_cons (dv 0) (da_cons (de_ix (dv 6) de_int) da_nil))) da_nil))))) (da_cons (dv 14) (da_cons (de_add de_int (de_mul (dv 8) (de_add (de_ix (dv 6) de_int) de_int))) da_nil)))))))))))))))))))),
    fun ds m Q hl hs => ?_⟩)
  -- slots: 0 _law_tape_here 1 _law_used 2 _law_depth 3 _law_most 4 _law_room 5 _law_sort 6 _law_told 7 _law_row 8 _law_greatest 9 _law_least 10 _law_count 11 _law_inner 12 _law_many 13 _law_field 14 _law_rows 15 _law_thing
  obtain ⟨t, u, l, used, most, room, rfl, htu, hm1, hm2, ht, hT, hu, hul, hun, q⟩ := hs
  refine ⟨rfl, t, 10, l, rfl, by decide, by decide, ht, hT, fun r l1 hr hT1 => ?_⟩
  rw [mTU_start htu hu]
  show if decide (((r : Nat) : Int) < 2) = true then _ else _
  refine ifD (fun h => ?_) (fun h => ?_)
  · refine ⟨rfl, t, l1, rfl, mTU_t htu, hT1, fun it l2 hc hT2 => ⟨szr rfl, szr rfl, szr rfl, ?_⟩⟩
    rw [mTU_setT htu]
    have z := q it [[]] [] 3 [] l2 ⟨hc.wf _, by rw [hc.ks]; rfl, fun e => (nomatch e), by decide, fun r hr => by rw [List.mem_singleton.mp hr, hc.ks]; exact ⟨rfl, trivial⟩, by have := hc.mx (k + 1); omega⟩ (by decide) (List.Sublist.refl _) (by rw [List.append_nil]; exact hun) hT2
    rw [List.append_nil, hc.en] at z
    exact z
  · have word : ∀ l2, Tape l2 → sp_l_small_word [.adr t, .adr u, .int most] (mTU m t u l2 used) Q := fun l2 hT2 => by
      refine ⟨t, u, l2, used, most, rfl, htu, hm1, hm2, mTU_t htu, hT2, mset_same, hul, hun, fun wd ps rows nms l3 hW hn3 hnd hT3 => ?_⟩
      have em : mTU (mTU m t u l2 used) t u l3 (used ++ nms) = mTU m t u l3 (used ++ nms) := by
        show mset (mset (mTU m t u l2 used) t l3) u _ = _
        rw [mTU_setT htu, mTU_setU]
      rw [em]
      have z := q (.word wd ps) rows nms 8 nms l3 ⟨⟨hW.sum, hW.wf⟩, hW.nm, hW.ne, Nat.le_trans hW.len (by decide), fun r hr => hW.row _ r hr, ?_⟩ hn3 (List.Sublist.refl _) hnd hT3
      · rw [encI_word] at z ⊢
        exact z
      · have h4 := wd_le wd
        show ((wd.size : Nat) : Int) ≤ 8
        omega
    show if decide (((r : Nat) : Int) < 5) = true then _ else _
    refine ifD (fun h5 => ⟨rfl, word l1 hT1⟩) (fun h5 => ?_)
    show if decide (5 < ((r : Nat) : Int)) = true then (if decide (((k : Nat) : Int) = 0) = true then _ else _) else _
    by_cases hk0 : 5 < r ∧ k = 0
    · exact if2T (by omega) (by omega) ⟨rfl, word l1 hT1⟩
    refine if2 (fun a b => hk0 ⟨by omega, by omega⟩) ?_
    refine ⟨⟨_, mset_same⟩, rfl, t, u, l1, used, rfl, htu, mTU_t htu, hT1, mset_same, by omega, fun s l2 hs hsl hT2 => ?_⟩
    rw [mTU_setT htu]
    refine ⟨_, mset_same, szl (by rw [List.length_map]; omega), ?_⟩
    have e1 : used.map D.str ++ [D.str s] = (used ++ [s]).map D.str := by rw [List.map_append] <;> rfl
    rw [e1, mTU_setU]
    have hnd1 : (used ++ [s]).Nodup := List.nodup_append.mpr ⟨hun, List.nodup_cons.mpr ⟨fun z => (nomatch z), List.nodup_nil⟩, fun a ha b hb e => hs (by rw [List.mem_singleton.mp hb] at e; exact e ▸ ha)⟩
    have hlast : atI ((used ++ [s]).map D.str) (-1) = some (.str s) := by rw [← e1, last_at]
    have fin : ∀ (it : Item) (rows : List (List D)) (sp : Int) (l' : List D), ItemR (k + 1) it rows [s] sp → Tape l' → Q (.tup [encI (k + 1) it, .lst (rows.map D.tup), .int sp]) (mTU m t u l' (used ++ [s])) := fun it rows sp l' hI hT' => q it rows [s] sp [s] l' hI (show 1 ≤ 3 by decide) (List.Sublist.refl _) hnd1 hT'
    show if decide (((r : Nat) : Int) = 9) = true then _ else _
    refine ifD (fun h9 => ?_) (fun h9 => ?_)
    · cases k with
      | zero => exact absurd ⟨by omega, rfl⟩ hk0
      | succ d =>
        have edd : ((d + 1 : Nat) : Int) - 1 = (d : Nat) := by omega
        refine ⟨rfl, t, l2, most, room - 1, congrArg (fun z => [D.adr t, D.int z, D.int most, D.int (room - 1)]) edd, hm1, hm2, mTU_t htu, hT2, fun its rows sp l3 hL hil hrm hsp0 hsp hT3 => ?_⟩
        rw [mTU_setT htu]
        refine ⟨_, mset_same, ?_⟩
        refine (show onSome (atI ((used ++ [s]).map D.str) (-1)) _ from ?_)
        rw [hlast]
        refine ⟨szr rfl, ?_⟩
        walk_at "dr"
        refine lc_pure (f := D.tup) (xs := rows) (fun r => .tup [.tup r]) (by omega) (fun x hx m1 R hm hR => ⟨szr rfl, hR⟩) ⟨szr rfl, ?_⟩
        have z := fin (.rcd s its) (rows.map fun r => [.tup r]) (sp + 1) l3 ⟨⟨by omega, hL.wf⟩, rfl, fun e => hL.ne (List.map_eq_nil_iff.mp e), by rw [List.length_map]; omega, fun x hx => ?_, ?_⟩ hT3
        · rw [List.map_map] at z
          exact z
        · obtain ⟨x0, hx0, rfl⟩ := List.mem_map.mp hx
          exact ⟨rfl, ⟨x0, rfl, hL.row x0 hx0⟩, trivial⟩
        · have h1 := hL.mx
          have h2 : mxI (d + 2) (.rcd s its) = mxL (d + 1) its := rfl
          rw [h2]
          omega
    · show if decide (((r : Nat) : Int) = 8) = true then _ else _
      refine ifD (fun h8 => ?_) (fun h8 => ?_)
      · cases k with
        | zero => exact absurd ⟨by omega, rfl⟩ hk0
        | succ d =>
          refine ⟨_, mset_same, ?_⟩
          refine (show onSome (atI ((used ++ [s]).map D.str) (-1)) _ from ?_)
          rw [hlast]
          refine ⟨rfl, t, s, l2, most, room, rfl, hm1, hm2, mTU_t htu, hT2, fun wd cs rows sp l3 hI hT3 => ?_⟩
          rw [mTU_setT htu]
          exact fin _ rows sp l3 hI hT3
      · refine ⟨rfl, t, 3, l2, rfl, by decide, by decide, mTU_t htu, hT2, fun rg l3 hrg hT3 => ?_⟩
        rw [mTU_setT htu]
        refine ⟨rfl, t, (1 : Int) + ((rg : Nat) : Int) + 1, l3, rfl, by omega, by omega, mTU_t htu, hT3, fun r2 l4 hr2 hT4 => ⟨szr rfl, rfl, t, 3, l4, rfl, by decide, by decide, mset_same, hT4, fun r3 l5 hr3 hT5 => ?_⟩⟩
        rw [mset_mset, mTU_setT htu]
        have egr : (1 : Int) + ((rg : Nat) : Int) = ((1 + rg : Nat) : Int) := by omega
        obtain ⟨lo, hlo, hlg⟩ : ∃ lo : Nat, atI [D.int 0, .int (1 + ((rg : Nat) : Int)), .int ((r2 : Nat) : Int)] ((r3 : Nat) : Int) = some (.int (lo : Nat)) ∧ lo ≤ 1 + rg := by
          have h3 : r3 < 3 := by omega
          rw [atI_c]
          match r3, h3 with
          | 0, _ => exact ⟨0, rfl, by omega⟩
          | 1, _ => exact ⟨1 + rg, by rw [← egr]; rfl, by omega⟩
          | 2, _ => exact ⟨r2, rfl, by omega⟩
        refine (show onSome (atI [D.int 0, .int (1 + ((rg : Nat) : Int)), .int ((r2 : Nat) : Int)] ((r3 : Nat) : Int)) _ from ?_)
        rw [hlo]
        refine ⟨rfl, t, l5, lo, 1 + rg, congrArg (fun z => [D.adr t, D.int (lo : Nat), D.int z]) egr, hlg, by omega, by omega, mTU_t htu, hT5, fun c l6 hc1 hc2 hT6 => ?_⟩
        rw [mTU_setT htu]
        have hin : ∀ i : Int, ∃ x : Int, atI [D.int (1 + i), .int (1 + i + i * i), .int (1 + i + i * i + i * i * i)] (1 + ((rg : Nat) : Int) - 1) = some (.int x) := fun i => by
          have e : (1 + ((rg : Nat) : Int) - 1) = ((rg : Nat) : Int) := by omega
          have h3 : rg < 3 := by omega
          rw [e, atI_c]
          match rg, h3 with
          | 0, _ => exact ⟨_, rfl⟩
          | 1, _ => exact ⟨_, rfl⟩
          | 2, _ => exact ⟨_, rfl⟩
        refine ⟨⟨by decide, by decide, by decide, by decide⟩, loop_map (f := D.int) (xs := rgI 2 10) (fun pp g' m' => ∃ (y12 : Option D) (inr : Nat), g' = [some (.adr t), some (.adr u), some (.int k), some (.int most), some (.int room), some (.int r), none, none, some (.int (1 + ((rg : Nat) : Int))), some (.int lo), some c.enc, some (.int inr), y12, none, none, none] ∧ m' = mTU m t u l6 (used ++ [s]) ∧ 1 ≤ inr ∧ inr ≤ 9) ⟨none, 1, rfl, rfl, by decide, by decide⟩ (fun _ _ _ _ => trivial) (fun pre x post g' m' hd hI => ?_) (fun g' m' hI => ?_)⟩
        · obtain ⟨y12, inr, rfl, rfl, hi1, hi9⟩ := hI
          have hx : x ∈ rgI 2 10 := by
            rw [hd]
            exact List.mem_append_right _ List.mem_cons_self
          unfold rgI at hx
          obtain ⟨j, hj, rfl⟩ := List.mem_map.mp hx
          have hj2 := List.mem_range.mp hj
          have hj8 : j < 8 := hj2
          have hxx : (2 : Int) + (j : Int) = ((2 + j : Nat) : Int) := by omega
          obtain ⟨y, hy⟩ := hin (2 + (j : Int))
          have cm : CMul (2 + (j : Int)) (2 + (j : Int)) := .inl ⟨by omega, by omega⟩
          have cm2 : CMul ((2 + (j : Int)) * (2 + (j : Int))) (2 + (j : Int)) := .inr ⟨by omega, by omega⟩
          refine ⟨cm, cm, cm, cm2, szr rfl, ?_⟩
          refine (show onSome (atI [D.int (1 + (2 + (j : Int))), .int (1 + (2 + (j : Int)) + (2 + (j : Int)) * (2 + (j : Int))), .int (1 + (2 + (j : Int)) + (2 + (j : Int)) * (2 + (j : Int)) + (2 + (j : Int)) * (2 + (j : Int)) * (2 + (j : Int)))] (1 + ((rg : Nat) : Int) - 1)) _ from ?_)
          rw [hy]
          show if decide (y ≤ ((most : Nat) : Int)) = true then _ else _
          refine ifD (fun _ => ⟨some (.int (2 + (j : Int))), 2 + j, ?_, rfl, by omega, by omega⟩) (fun _ => ⟨some (.int (2 + (j : Int))), inr, rfl, rfl, hi1, hi9⟩)
          rw [← hxx]
          rfl
        · obtain ⟨y12, inr, rfl, rfl, hi1, hi9⟩ := hI
          show if decide (((r : Nat) : Int) = 5) = true then _ else _
          refine ifD (fun h5 => ?_) (fun h5 => ?_)
          · refine ⟨szr rfl, rfl, t, l6, [8], inr, rfl, fun e => (nomatch e), by decide, fun w hw => by rw [List.mem_singleton.mp hw]; exact ⟨by decide, by decide⟩, hi1, by omega, mTU_t htu, hT6, fun w sg d l7 hw hR hT7 => ?_⟩
            rw [mTU_setT htu]
            obtain rfl := List.mem_singleton.mp hw
            refine ⟨rfl, sg, 8, inr, d, rfl, by decide, by decide, by omega, hR, fun vs hvn hvl hv => ?_⟩
            refine ⟨rfl, vs.map D.int, lo, 1 + rg, congrArg (fun z => [D.lst (vs.map D.int), D.int (lo : Nat), D.int z]) egr, fun e => hvn (List.map_eq_nil_iff.mp e), by rw [List.length_map]; omega, hlg, by omega, fun found hf => ?_⟩
            refine lc_pure (f := D.tup) (xs := found) (fun x => .tup [.tup x]) (by have := hf.2.1; omega) (fun x hx m1 R hm hR => ⟨szr rfl, hR⟩) ?_
            refine ⟨_, mset_same, ?_⟩
            refine (show onSome (atI ((used ++ [s]).map D.str) (-1)) _ from ?_)
            rw [hlast]
            refine ⟨szr rfl, .inl ⟨by decide, by decide⟩, szr rfl, ?_⟩
            have z := fin (.arr s .u8 sg c d .non) (found.map fun x => [.tup x]) (5 + 2 * (1 + ((rg : Nat) : Int))) l7 ⟨Nat.le_trans hc2 (by omega), rfl, fun e => hf.1 (List.map_eq_nil_iff.mp e), by rw [List.length_map]; exact hf.2.1, fun x hx => ?_, ?_⟩ hT7
            · rw [List.map_map, encI_arr] at z
              exact z
            · obtain ⟨x0, hx0, rfl⟩ := List.mem_map.mp hx
              obtain ⟨h1, h2, h3⟩ := hf.2.2 x0 hx0
              refine ⟨rfl, ⟨x0, rfl, hc1 _ h1 h2, fun v hv2 => ?_⟩, trivial⟩
              obtain ⟨iv, hiv, rfl⟩ := List.mem_map.mp (h3 v hv2)
              have hz : ∃ i, D.int iv = .int i ∧ inF sg 8 i := ⟨iv, rfl, hv iv hiv⟩
              have hz2 : valOf k (.num "" ⟨some "", 8 * Wd.u8.size, sg, d, .non⟩) (.int iv) := by cases k <;> exact hz
              exact ⟨rfl, hz2, trivial⟩
            · show (((5 + cMax c * (1 + 1) : Nat)) : Int) ≤ 5 + 2 * (1 + ((rg : Nat) : Int))
              omega
          · cases k with
            | zero => exact absurd ⟨by omega, rfl⟩ hk0
            | succ d =>
            have edd : ((d + 1 : Nat) : Int) - 1 = (d : Nat) := by omega
            refine ⟨⟨by omega, by omega⟩, rfl, t, l6, inr, (room - 5) / (1 + ((rg : Nat) : Int)) - 2, congrArg (fun z => [D.adr t, D.int z, D.int inr, D.int ((room - 5) / (1 + ((rg : Nat) : Int)) - 2)]) edd, hi1, by omega, mTU_t htu, hT6, fun its rows sp l7 hL hil hrm hsp0 hsp hT7 => ?_⟩
            rw [mTU_setT htu]
            refine ⟨rfl, rows.map D.tup, lo, 1 + rg, congrArg (fun z => [D.lst (rows.map D.tup), D.int (lo : Nat), D.int z]) egr, fun e => hL.ne (List.map_eq_nil_iff.mp e), by rw [List.length_map]; omega, hlg, by omega, fun found hf => ?_⟩
            refine lc_pure (f := D.tup) (xs := found) (fun x => .tup [.tup x]) (by have := hf.2.1; omega) (fun x hx m1 R hm hR => ⟨szr rfl, hR⟩) ?_
            refine ⟨_, mset_same, ?_⟩
            refine (show onSome (atI ((used ++ [s]).map D.str) (-1)) _ from ?_)
            rw [hlast]
            refine ⟨rfl, t, l7, d + 1, its, rfl, by omega, hL.wf, mTU_t htu, hT7, fun its' l8 hit hT8 => ?_⟩
            rw [mTU_setT htu]
            have hits : (∀ i ∈ its', wfI (d + 1) i) ∧ its'.length ≤ 100 ∧ kinds its' = kinds its ∧ mxL (d + 1) its' ≤ mxL (d + 1) its + 1 := by
              rcases hit with rfl | ⟨rb, hrb, rfl⟩
              · exact ⟨hL.wf, by omega, rfl, Nat.le_succ _⟩
              · refine ⟨fun i hi => ?_, by rw [List.length_append, List.length_singleton]; omega, ?_, ?_⟩
                · rcases List.mem_append.mp hi with z | z
                  · exact hL.wf i z
                  · rw [List.mem_singleton.mp z]
                    exact ⟨(show 1 ≤ 100 by decide), fun b hb => by rw [List.mem_singleton.mp hb]; omega⟩
                · rw [kinds_app]
                  exact List.append_nil _
                · show ((its ++ [Item.lit [((rb : Nat) : Int)]]).map (mxI (d + 1))).sum ≤ _
                  rw [List.map_append, List.sum_append]
                  exact Nat.le_refl _
            obtain ⟨q1, q2, q3, q4⟩ := hits
            refine ⟨szr rfl, .inl ⟨by omega, by omega⟩, szr rfl, ?_⟩
            have z := fin (.list s c its') (found.map fun x => [.tup x]) (5 + (1 + ((rg : Nat) : Int)) * (sp + 2)) l8 ⟨⟨Nat.le_trans hc2 (by omega), q2, q1⟩, rfl, fun e => hf.1 (List.map_eq_nil_iff.mp e), by rw [List.length_map]; exact hf.2.1, fun x hx => ?_, ?_⟩ hT8
            · rw [List.map_map, encI_list] at z
              exact z
            · obtain ⟨x0, hx0, rfl⟩ := List.mem_map.mp hx
              obtain ⟨h1, h2, h3⟩ := hf.2.2 x0 hx0
              refine ⟨rfl, ⟨x0, rfl, hc1 _ h1 h2, fun v hv2 => ?_⟩, trivial⟩
              obtain ⟨r0, hr0, rfl⟩ := List.mem_map.mp (h3 v hv2)
              refine ⟨⟨r0, rfl⟩, ?_⟩
              show rowOf (valOf (d + 1)) (kinds its') r0
              rw [q3]
              exact hL.row r0 hr0
            · have h1 := hL.mx
              have h2 : cMax c * (mxL (d + 1) its' + 1) ≤ (1 + rg) * (mxL (d + 1) its + 2) := Nat.mul_le_mul hc2 (by omega)
              have h3 : (((1 + rg) * (mxL (d + 1) its + 2) : Nat) : Int) ≤ (1 + ((rg : Nat) : Int)) * (sp + 2) := by
                rw [Int.natCast_mul, ← egr]
                exact Int.mul_le_mul_of_nonneg_left (by omega) (by omega)
              show (((5 + cMax c * (mxL (d + 1) its' + 1) : Nat)) : Int) ≤ 5 + (1 + ((rg : Nat) : Int)) * (sp + 2)
              omega
end
end BB

namespace BB
open PySem PySem.Spec PyProof.Rows L2
local macro_rules | `(tactic| walk_at "dl") => `(tactic| simp only [dIfS, dIfE, dTest, dOp, dVar, dC, dIx, dEq, dNe, dI, dIc, dIsN, dNotN, isNonD, dAndT, dOrT, dNotT, dAndV, dNeg, dAdd, dTup, dLst, dCons, dNil, dCB, dCall, dLc, true_and, dLen, dInt1, dInt2, withSeq, with1_1, onSome_some, atI_0, atI_1, atI_2, atI_3, atI_4, atI_5, atI_6, List.getElem?_cons_succ, List.getElem?_cons_zero, List.set_cons_zero, List.set_cons_succ, gdN, Part.enc, encN, Bool.not_true, Bool.not_false, mapS_cons, mapS_nil, List.length_cons, List.length_nil, List.cons_append, List.nil_append, gdTup, gdCons, gdNil, dAppend, dExtend, dListF, dTupOf, dMul, dSl, dNoP, dPart])
local macro_rules | `(tactic| walk_at "dr") => `(tactic| simp only [dSeq, dAsg, dRet, dRetW, dDrop, dNext, dFor, diSeq, dIfS, dIfE, dTest, dOp, dVar, dC, dIx, dEq, dNe, dI, dIc, dIsN, dNotN, isNonD, dAndT, dOrT, dNotT, dAndV, dNeg, dAdd, dTup, dLst, dCons, dNil, dCB, dCall, dLc, true_and, dLen, dInt1, dInt2, withSeq, with1_1, onSome_some, atI_0, atI_1, atI_2, atI_3, atI_4, atI_5, atI_6, List.getElem?_cons_succ, List.getElem?_cons_zero, List.set_cons_zero, List.set_cons_succ, gdN, Part.enc, encN, Bool.not_true, Bool.not_false, mapS_cons, mapS_nil, List.length_cons, List.length_nil, List.cons_append, List.nil_append, gdTup, gdCons, gdNil, dAppend, dExtend, dListF, dTupOf, dMul, dSl, dNoP, dPart])

/-! ## rows put in the order of the reversed members -/
theorem rowOf_get {V : Kind → D → Prop} : ∀ {ks : List Kind} {r : List D} {i : Nat} {k : Kind}, rowOf V ks r → ks[i]? = some k → ∃ d, r[i]? = some d ∧ V k d
  | [], _, i, _, _, h => by cases i <;> cases h
  | k0 :: ks, [], _, _, h, _ => absurd h.1 (by simp)
  | k0 :: ks, d :: r, 0, k, h, e => ⟨d, rfl, by cases e; exact h.2.1⟩
  | k0 :: ks, d :: r, i + 1, k, h, e => rowOf_get (ks := ks) (r := r) (i := i) ⟨by have := h.1; simpa using this, h.2.2⟩ e
theorem rowOf_map {V : Kind → D → Prop} (f : Kind → D) : ∀ {ks : List Kind}, (∀ k ∈ ks, V k (f k)) → rowOf V ks (ks.map f)
  | [], _ => ⟨rfl, trivial⟩
  | k :: ks, h => by
    have z := rowOf_map f (ks := ks) fun x hx => h x (.tail _ hx)
    exact ⟨by rw [List.length_map], h k (.head _), z.2⟩
def posK : List Kind → Kind → Nat
  | [], _ => 0
  | k0 :: ks, k => if k0.name = k.name then 0 else posK ks k + 1
theorem posK_ok : ∀ {ks : List Kind} {k : Kind}, (ks.map Kind.name).Nodup → k ∈ ks → ks[posK ks k]? = some k ∧ ∀ n : Nat, n < posK ks k → (ks.map Kind.name)[n]? ≠ some k.name
  | [], _, _, h => nomatch h
  | k0 :: ks, k, hn, h => by
    have hn' := List.nodup_cons.mp hn
    by_cases e : k0.name = k.name
    · rcases List.mem_cons.mp h with z | z
      · subst z
        simp [posK]
      · exact absurd (List.mem_map.mpr ⟨k, z, e.symm⟩) hn'.1
    · rcases List.mem_cons.mp h with z | z
      · exact absurd (by rw [z]) e
      · have q := posK_ok hn'.2 z
        simp only [posK, if_neg e]
        refine ⟨q.1, fun n hl => ?_⟩
        cases n with
        | zero => exact fun x => e (by injection x)
        | succ n => exact q.2 n (by omega)
/-- a row in the order of other members -/
def reR (ks ks' : List Kind) (r : List D) : List D := ks'.map fun k => r.getD (posK ks k) .non
theorem reR_ok {V : Kind → D → Prop} {ks ks' : List Kind} {r : List D} (hn : (ks.map Kind.name).Nodup) (hs : ∀ k ∈ ks', k ∈ ks) (h : rowOf V ks r) : rowOf V ks' (reR ks ks' r) := by
  refine rowOf_map _ fun k hk => ?_
  obtain ⟨d, h1, h2⟩ := rowOf_get h (posK_ok hn (hs k hk)).1
  rw [List.getD_eq_getElem?_getD, h1]
  exact h2
theorem kinds_perm {a b : List Item} (h : a.Perm b) : (kinds a).Perm (kinds b) := h.flatMap_right kindsI
theorem LayR.rev {n : Nat} {its : List Item} {rows : List (List D)} {sp : Int} (h : LayR n its rows sp) : LayR n its.reverse (rows.map (reR (kinds its) (kinds its.reverse))) sp := by
  have p : (kinds its.reverse).Perm (kinds its) := kinds_perm (List.reverse_perm its)
  refine ⟨fun i hi => h.wf i (List.mem_reverse.mp hi), (p.map Kind.name).nodup_iff.mpr h.nd, fun e => h.ne (List.map_eq_nil_iff.mp e), fun r hr => ?_, ?_⟩
  · obtain ⟨r0, hr0, rfl⟩ := List.mem_map.mp hr
    exact reR_ok h.nd (fun k hk => p.mem_iff.mp hk) (h.row r0 hr0)
  · have e : mxL n its.reverse = mxL n its := by
      show (its.reverse.map (mxI n)).sum = (its.map (mxI n)).sum
      exact ((List.reverse_perm its).map (mxI n)).sum_nat
    rw [e]
    exact h.mx
/-- the cases made so far -/
structure ChI (k : Nat) (mo : Nat) (pre : List Int) (cs : List Cs) (R : List (List D)) (sp : Int) : Prop where
  num : cs.map (fun c => c.1) = pre
  nmd : (cs.map fun c => c.2.1).Nodup
  cwf : ∀ c ∈ cs, c.2.2.length ≤ 100 ∧ ∀ i ∈ c.2.2, wfI (k + 1) i
  ne : pre ≠ [] → R ≠ []
  len : R.length ≤ pre.length * mo
  row : ∀ r ∈ R, ∃ c ∈ cs, ∃ r0, r = [.tup [.str c.2.1, .tup r0]] ∧ rowOf (valOf (k + 1)) (kinds c.2.2) r0
  mx : 5 + ((cs.length : Nat) : Int) + (((cs.map fun c => mxL (k + 1) c.2.2).sum : Nat) : Int) ≤ sp
def caseR (s : Str) (r : List D) : List D := [.tup [.str s, .tup r]]
theorem ChI.add {k mo : Nat} {pre : List Int} {cs : List Cs} {R rows : List (List D)} {sp s2 : Int} {its : List Item} {s : Str} (h : ChI k mo pre cs R sp) (hL : LayR (k + 1) its rows s2) (hi : its.length ≤ 100) (hr : rows.length ≤ mo) (hs : s ∉ cs.map fun c => c.2.1) (x : Int) :
    ChI k mo (pre ++ [x]) (cs ++ [(x, s, its)]) (R ++ rows.map (caseR s)) (sp + 1 + s2) := by
  refine ⟨by rw [List.map_append, h.num]; rfl, ?_, fun c hc => ?_, fun _ e => ?_, ?_, fun r hr => ?_, ?_⟩
  · rw [List.map_append]
    exact List.nodup_append.mpr ⟨h.nmd, List.nodup_cons.mpr ⟨fun z => (nomatch z), List.nodup_nil⟩, fun a ha b hb e => hs (by rw [List.mem_singleton.mp hb] at e; exact (show a = s from e) ▸ ha)⟩
  · rcases List.mem_append.mp hc with z | z
    · exact h.cwf c z
    · rw [List.mem_singleton.mp z]
      exact ⟨hi, hL.wf⟩
  · exact hL.ne (List.map_eq_nil_iff.mp (List.append_eq_nil_iff.mp e).2)
  · rw [List.length_append, List.length_append, List.length_map]
    have := h.len
    show _ ≤ (pre.length + 1) * mo
    rw [Nat.add_mul]
    omega
  · rcases List.mem_append.mp hr with z | z
    · obtain ⟨c, hc, q⟩ := h.row r z
      exact ⟨c, List.mem_append_left _ hc, q⟩
    · obtain ⟨r0, h0, rfl⟩ := List.mem_map.mp z
      exact ⟨(x, s, its), List.mem_append_right _ (.head _), r0, rfl, hL.row r0 h0⟩
  · have h1 := h.mx
    have h2 := hL.mx
    rw [List.map_append, List.sum_append, List.length_append]
    show 5 + ((cs.length + 1 : Nat) : Int) + (((cs.map fun c => mxL (k + 1) c.2.2).sum + (mxL (k + 1) its + 0) : Nat) : Int) ≤ _
    omega
theorem ChI.item {k mo : Nat} {ns : List Int} {cs : List Cs} {R : List (List D)} {sp : Int} (h : ChI k mo ns cs R sp) (wd : Wd) (nm : Str) (hne : ns ≠ []) (hl : ns.length ≤ 100) (hn : ns.Nodup) (hr : ∀ n ∈ ns, 0 ≤ n ∧ n < 2 ^ (8 * wd.size)) (hR : ns.length * mo ≤ 1000) :
    ItemR (k + 2) (.choice nm wd cs) R [nm] sp := by
  refine ⟨⟨?_, ?_, h.nmd, fun c hc => ⟨hr _ ?_, (h.cwf c hc).1, (h.cwf c hc).2⟩⟩, rfl, h.ne hne, Nat.le_trans h.len hR, fun r hrr => ?_, ?_⟩
  · have := congrArg List.length h.num
    rw [List.length_map] at this
    omega
  · rw [h.num]
    exact hn
  · rw [← h.num]
    exact List.mem_map.mpr ⟨c, hc, rfl⟩
  · obtain ⟨c, hc, r0, rfl, q⟩ := h.row r hrr
    exact ⟨rfl, ⟨h.nmd, c, hc, r0, rfl, q⟩, trivial⟩
  · have h1 := h.mx
    have h2 := wd_le wd
    show (((wd.size + (cs.map fun c => mxL (k + 1) c.2.2).sum : Nat)) : Int) ≤ sp
    omega
theorem dVar_at {i : Nat} {d : D} {g : Env'} {m : Mu} {Q : D → Mu → Prop} (h : g[i]? = some (some d)) (q : Q d m) : dVar i g m Q := by
  unfold dVar
  rw [h]
  exact q
theorem reIx {ks' : List Kind} {pf : Kind → Nat} {r : List D} {g : Env'} {m : Mu} {R : D → Mu → Prop} (hl : ks'.length ≤ 100000) (hg : 17 < g.length) (h15 : g[15]? = some (some (.lst (ks'.map fun kd => .int ((pf kd : Nat) : Int))))) (h14 : g[14]? = some (some (.tup r))) (hr : ∀ kd ∈ ks', pf kd < r.length) (q : R (.tup (ks'.map fun kd => r.getD (pf kd) .non)) m) :
    dCB dTupOf (dCons (dLc (diSeq (dVar 15)) (gdN 17) dYes (dOp dIx (dVar 14) (dVar 17)) [17]) dNil) g m R := by
  unfold dCB dCons dLc diSeq
  refine dVar_at h15 ?_
  show LcD (ks'.map fun kd => D.int ((pf kd : Nat) : Int)) (fun _ => True) (gdN 17) dYes (dOp dIx (dVar 14) (dVar 17)) (g.set 17 none) m _
  refine lc_pure (f := fun kd => D.int ((pf kd : Nat) : Int)) (xs := ks') (fun kd => r.getD (pf kd) .non) hl (fun kd hk m2 R3 hm3 hR3 => ?_) q
  unfold gdN dOp
  refine dVar_at (d := .tup r) (by rw [List.getElem?_set_ne (by decide), List.getElem?_set_ne (by decide)]; exact h14) ?_
  refine dVar_at (d := .int ((pf kd : Nat) : Int)) (by rw [List.getElem?_set_self (by rw [List.length_set]; exact hg)]) ?_
  refine (show onSome (atI r ((pf kd : Nat) : Int)) _ from ?_)
  have hlt := hr kd hk
  have eg : r[pf kd]? = some (r.getD (pf kd) .non) := by
    rw [List.getD_eq_getElem?_getD, List.getElem?_eq_getElem hlt]
    rfl
  rw [atI_c, eg]
  exact hR3
theorem dRev_at {i : Nat} {ds r : List D} {g : Env'} {m : Mu} {Q : D → Mu → Prop} (h : g[i]? = some (some (.tup (.tup ds :: r)))) (q : Q (.tup ds.reverse) m) : dRevT (dOp dIx (dVar i) (dC (.int 0))) g m Q := by
  unfold dRevT dOp dVar
  rw [h]
  show onSome (atI (D.tup ds :: r) 0) _
  rw [atI_0]
  exact q
theorem encK_nm {n : Nat} : ∀ {its : List Item} {kd : Kind}, kd ∈ kinds its → ∃ tg rest, encK (n + 1) kd = .tup (.str tg :: .str kd.name :: rest) := fun {its kd} h => by
  obtain ⟨it, _, hk⟩ := List.mem_flatMap.mp h
  cases it with
  | word w ps =>
    obtain ⟨p, hp, e⟩ := List.mem_filterMap.mp hk
    unfold Part.kind at e
    cases hn : p.name with
    | none => rw [hn] at e; cases e
    | some s =>
      rw [hn] at e
      cases e
      exact ⟨_, _, rfl⟩
  | lit _ => cases hk
  | res _ => cases hk
  | chk _ => cases hk
  | arr _ _ _ _ _ _ => rw [List.mem_singleton.mp hk]; exact ⟨_, _, rfl⟩
  | list _ _ _ => rw [List.mem_singleton.mp hk]; exact ⟨_, _, rfl⟩
  | choice _ _ _ => rw [List.mem_singleton.mp hk]; exact ⟨_, _, rfl⟩
  | rcd _ _ => rw [List.mem_singleton.mp hk]; exact ⟨_, _, rfl⟩
theorem posK_lt {ks : List Kind} {k : Kind} (hn : (ks.map Kind.name).Nodup) (h : k ∈ ks) : posK ks k < ks.length := (List.getElem?_eq_some_iff.mp (posK_ok hn h).1).1
theorem kindN_at {n : Nat} {its : List Item} {kd : Kind} (h : kd ∈ kinds its) : ∃ ds, encK (n + 1) kd = .tup ds ∧ atI ds 1 = some (.str kd.name) := by
  obtain ⟨tg, rest, e⟩ := encK_nm (n := n) h
  exact ⟨_, e, by rw [atI_1] <;> rfl⟩
section
variable {P : Program} {w : World} {K : PySem.W.Frag} {mg : Str → Option Value} {base : Heap}
theorem sc_l_small_choice : FnScope ["_law_tape_here", "_law_name_here", "_law_depth", "_law_most", "_law_room", "_law_word", "_law_many", "_law_alike_here", "_law_told", "_law_cases", "_law_names", "_law_rows", "_law_spent", "_law_number", "_law_row", "_law_order", "_law_kind", "_law_k"] ["_law_tape_here", "_law_name_here", "_law_depth", "_law_most", "_law_room"] (defScope s_l_small_choice) := ⟨rfl, rfl, rfl, by decide +kernel, rfl, by decide +kernel, by decide +kernel⟩
theorem cal_l_small_choice (k : Nat) (D0 : Def K mg "_law_small_choice" s_l_small_choice) (B : Blt mg) (c_l_any_word : Cal P w K mg base "_law_any_word" (2) ["_law_tape_here"] (up K 1 sp_l_any_word)) (c_l_draw : Cal P w K mg base "_law_draw" (1) ["_law_tape_here", "_law_many"] (up K 2 sp_l_draw)) (c_l_small : Cal P w K mg base "_law_small" (50*k+50) ["_law_tape_here", "_law_depth", "_law_most", "_law_room"] (up K 4 (sp_smallG k))) (c_l_case_numbers : Cal P w K mg base "_law_case_numbers" (2) ["_law_tape_here", "_law_word", "_law_many"] (up K 3 sp_l_case_numbers)) (c_l_name : Cal P w K mg base "_law_name" (2) ["_law_tape_here", "_law_used"] (up K 2 sp_l_name)) (c_l_kinds : Cal P w K mg base "_law_kinds" (2) ["_law_items"] (up K 1 sp_l_kinds))  : Cal P w K mg base "_law_small_choice" (50*k+79 + 1) ["_law_tape_here", "_law_name_here", "_law_depth", "_law_most", "_law_room"] (up K 5 (sp_choiceH k)) := by
  refine D0.cal (N := ["_law_tape_here", "_law_name_here", "_law_depth", "_law_most", "_law_room", "_law_word", "_law_many", "_law_alike_here", "_law_told", "_law_cases", "_law_names", "_law_rows", "_law_spent", "_law_number", "_law_row", "_law_order", "_law_kind", "_law_k"]) (k := 50*k+79) sc_l_small_choice [none, none, none, none, none, none, none, none, none, none, none, none, none] rfl (fun _ _ _ _ _ _ us hl => match us, hl with | [_, _, _, _, _], _ => rfl) (fun f cdv A outer s H E hr => ⟨_, _,
(dss_cons (ds_set (i := 5) sc_l_small_choice.nd rfl (.inl rfl) (de_call c_l_any_word (hr.mono (by first | decide | omega)) (by rfl) (da_cons (dv 0) da_nil)))
(dss_cons (ds_set (i := 6) sc_l_small_choice.nd rfl (.inl rfl) (de_ix (de_lst (da_cons de_int (da_cons de_int (da_cons de_int (da_cons de_int da_nil))))) (de_call c_l_draw (hr.mono (by first | decide | omega)) (by rfl) (da_cons (dv 0) (da_cons de_int da_nil)))))
(dss_cons (ds_set (i := 7) sc_l_small_choice.nd rfl (.inl rfl) (de_eq (de_call c_l_draw (hr.mono (by first | decide | omega)) (by rfl) (da_cons (dv 0) (da_cons de_int da_nil))) de_int))
(dss_cons (ds_set (i := 8) sc_l_small_choice.nd rfl (.inl rfl) (de_call c_l_small (hr.mono (by first | decide | omega)) (by rfl) (da_cons (dv 0) (da_cons (de_sub (dv 2) de_int) (da_cons (de_cb rMax' (call_max2 rfl) sc_max (by rfl) B.max bt_max (da_cons de_int (da_cons (de_fdv (dv 3) (dv 6)) da_nil))) (da_cons (de_sub (de_fdv (de_sub (dv 4) de_int) (dv 6)) de_int) da_nil))))))
(dss_cons (ds_set (i := 9) sc_l_small_choice.nd rfl (.inl rfl) (de_tup da_nil))
(dss_cons (ds_set (i := 10) sc_l_small_choice.nd rfl (.inr rfl) (de_new da_nil))
(dss_cons (ds_set (i := 11) sc_l_small_choice.nd rfl (.inl rfl) (de_lst da_nil))
(dss_cons (ds_set (i := 12) sc_l_small_choice.nd rfl (.inl rfl) de_int)
(dss_cons (ds_for PassesOwn.never rfl (di_seq (de_call c_l_case_numbers (hr.mono (by first | decide | omega)) (by rfl) (da_cons (dv 0) (da_cons (dv 5) (da_cons (dv 6) da_nil))))) (dg_name (i := 13) sc_l_small_choice.nd rfl (.inl rfl))
(dss_cons (ds_expr (de_append (dv 10) (de_call c_l_name (hr.mono (by first | decide | omega)) (by rfl) (da_cons (dv 0) (da_cons (dv 10) da_nil)))))
(dss_cons (ds_set (i := 9) sc_l_small_choice.nd rfl (.inl rfl) (de_add (dv 9) (de_tup (da_cons (de_tup (da_cons (dv 13) (da_cons (de_ix (dv 10) (de_neg de_int)) (da_cons (de_ix (dv 8) de_int) da_nil)))) da_nil))))
(dss_cons (ds_set (i := 11) sc_l_small_choice.nd rfl (.inl rfl) (de_add (dv 11) (de_lc (own := [("_law_row", 14)]) rfl sc_l_small_choice.nd (di_seq (de_ix (dv 8) de_int)) (blkOk_by (N := ["_law_tape_here", "_law_name_here", "_law_depth", "_law_most", "_law_room", "_law_word", "_law_many", "_law_alike_here", "_law_told", "_law_cases", "_law_names", "_law_rows", "_law_spent", "_law_number", "_law_row", "_law_order", "_law_kind", "_law_k"]) (sc := defScope s_l_small_choice) (own := [("_law_row", 14)]) (by decide +kernel)) (fun _ _ _ _ _ => (dg_name (i := 14) sc_l_small_choice.nd rfl (.inl rfl))) (keepN 14) (fun _ _ _ _ _ => dts_nil) (fun _ _ _ _ _ => (de_tup (da_cons (de_tup (da_cons (de_ix (dv 10) (de_neg de_int)) (da_cons (dv 14) da_nil))) da_nil))) (by intro _; rfl) s H)))
(dss_cons (ds_set (i := 12) sc_l_small_choice.nd rfl (.inl rfl) (de_add (de_add (dv 12) de_int) (de_ix (dv 8) de_int)))
(dss_one (ds_if (dt_val (dv 7))
(dss_cons (ds_set (i := 15) sc_l_small_choice.nd rfl (.inr rfl) (de_lc (own := [("_law_kind", 16)]) rfl sc_l_small_choice.nd (di_seq (de_call c_l_kinds (hr.mono (by first | decide | omega)) (by rfl) (da_cons (de_ix (dv 8) de_int) da_nil))) (blkOk_by (N := ["_law_tape_here", "_law_name_here", "_law_depth", "_law_most", "_law_room", "_law_word", "_law_many", "_law_alike_here", "_law_told", "_law_cases", "_law_names", "_law_rows", "_law_spent", "_law_number", "_law_row", "_law_order", "_law_kind", "_law_k"]) (sc := defScope s_l_small_choice) (own := [("_law_kind", 16)]) (by decide +kernel)) (fun _ _ _ _ _ => (dg_name (i := 16) sc_l_small_choice.nd rfl (.inl rfl))) (keepN 16) (fun _ _ _ _ _ => dts_nil) (fun _ _ _ _ _ => (de_ix (dv 16) de_int)) (by intro _; rfl) s H))
(dss_cons (ds_set (i := 15) sc_l_small_choice.nd rfl (.inr rfl) (de_lc (own := [("_law_kind", 16)]) rfl sc_l_small_choice.nd (di_seq (de_call c_l_kinds (hr.mono (by first | decide | omega)) (by rfl) (da_cons (de_revT (de_ix (dv 8) de_int)) da_nil))) (blkOk_by (N := ["_law_tape_here", "_law_name_here", "_law_depth", "_law_most", "_law_room", "_law_word", "_law_many", "_law_alike_here", "_law_told", "_law_cases", "_law_names", "_law_rows", "_law_spent", "_law_number", "_law_row", "_law_order", "_law_kind", "_law_k"]) (sc := defScope s_l_small_choice) (own := [("_law_kind", 16)]) (by decide +kernel)) (fun _ _ _ _ _ => (dg_name (i := 16) sc_l_small_choice.nd rfl (.inl rfl))) (keepN 16) (fun _ _ _ _ _ => dts_nil) (fun _ _ _ _ _ => (de_index (dv 15) (de_ix (dv 16) de_int))) (by intro _; rfl) s H))
(dss_one (ds_set (i := 8) sc_l_small_choice.nd rfl (.inl rfl) (de_tup (da_cons (de_revT (de_ix (dv 8) de_int)) (da_cons (de_lc (own := [("_law_row", 14)]) rfl sc_l_small_choice.nd (di_seq (de_ix (dv 8) de_int)) (blkOk_by (N := ["_law_tape_here", "_law_name_here", "_law_depth", "_law_most", "_law_room", "_law_word", "_law_many", "_law_alike_here", "_law_told", "_law_cases", "_law_names", "_law_rows", "_law_spent", "_law_number", "_law_row", "_law_order", "_law_kind", "_law_k"]) (sc := defScope s_l_small_choice) (own := [("_law_row", 14)]) (by decide +kernel)) (fun _ _ _ _ _ => (dg_name (i := 14) sc_l_small_choice.nd rfl (.inr rfl))) (keepN 14) (fun _ _ _ _ _ => dts_nil) (fun _ _ _ _ _ => (de_ct rTupOf call_tuple_of sc_tup (by rfl) B.tuple bt_tuple (da_cons (de_lc (own := [("_law_k", 17)]) rfl sc_l_small_choice.nd (di_seq (dv 15)) (blkOk_by (N := ["_law_tape_here", "_law_name_here", "_law_depth", "_law_most", "_law_room", "_law_word", "_law_many", "_law_alike_here", "_law_told", "_law_cases", "_law_names", "_law_rows", "_law_spent", "_law_number", "_law_row", "_law_order", "_law_kind", "_law_k"]) (sc := { kind := .function, names := [(".0", .local), ("_law_row", .cell), ("tuple", .globalImplicit), ("_law_order", .cell)], isGenerator := false, isCoroutine := false }) (own := [("_law_k", 17)]) (by decide +kernel)) (fun _ _ _ _ _ => (dg_name (i := 17) sc_l_small_choice.nd rfl (.inl rfl))) (keepN 17) (fun _ _ _ _ _ => dts_nil) (fun _ _ _ _ _ => (de_ix (dv 14) (dv 17))) (by intro _; rfl) s H) da_nil))) (by intro _; rfl) s H) (da_cons (de_ix (dv 8) de_int) da_nil))))))))
(dss_one (ds_set (i := 8) sc_l_small_choice.nd rfl (.inl rfl) (de_call c_l_small (hr.mono (by first | decide | omega)) (by rfl) (da_cons (dv 0) (da_cons (de_sub (dv 2) de_int) (da_cons (de_cb rMax' (call_max2 rfl) sc_max (by rfl) B.max bt_max (da_cons de_int (da_cons (de_fdv (dv 3) (dv 6)) da_nil))) (da_cons (de_sub (de_fdv (de_sub (dv 4) de_int) (dv 6)) de_int) da_nil))))))))))))))
(dss_one (ds_retW (de_tup (da_cons (de_tup (da_cons de_str (da_cons (dv 1) (da_cons (dv 5) (da_cons (dv 9) da_nil))))) (da_cons (dv 11) (da_cons (dv 12) da_nil))))))))))))))),
    fun ds m Q hl hs => ?_⟩)
  -- slots: 0 _law_tape_here 1 _law_name_here 2 _law_depth 3 _law_most 4 _law_room 5 _law_word 6 _law_many 7 _law_alike_here 8 _law_told 9 _law_cases 10 _law_names 11 _law_rows 12 _law_spent 13 _law_number 14 _law_row 15 _law_order 16 _law_kind 17 _law_k
  obtain ⟨t, nm, l, most, room, rfl, hm1, hm2, ht, hT, q⟩ := hs
  refine ⟨rfl, t, l, rfl, ht, hT, fun wd l1 hT1 => ?_⟩
  refine ⟨szr rfl, rfl, t, 4, l1, rfl, by decide, by decide, mset_same, hT1, fun r l2 hr hT2 => ?_⟩
  rw [mset_mset]
  refine (show onSome (atI [D.int 1, .int 2, .int 3, .int 6] ((r : Nat) : Int)) _ from ?_)
  have hmany : ∃ many : Nat, atI [D.int 1, .int 2, .int 3, .int 6] ((r : Nat) : Int) = some (.int (many : Int)) ∧ 1 ≤ many ∧ many ≤ 6 := by
    have : r = 0 ∨ r = 1 ∨ r = 2 ∨ r = 3 := by omega
    rcases this with rfl | rfl | rfl | rfl
    · exact ⟨1, rfl, by decide, by decide⟩
    · exact ⟨2, rfl, by decide, by decide⟩
    · exact ⟨3, rfl, by decide, by decide⟩
    · exact ⟨6, rfl, by decide, by decide⟩
  obtain ⟨many, em, hk1, hk2⟩ := hmany
  rw [em]
  refine ⟨rfl, t, 3, l2, rfl, by decide, by decide, mset_same, hT2, fun r2 l3 hr2 hT3 => ?_⟩
  rw [mset_mset]
  walk_at "dr"
  have ediv : ((most : Nat) : Int) / ((many : Nat) : Int) = ((most / many : Nat) : Int) := (Int.natCast_ediv most many).symm
  have hdm : most / many ≤ most := Nat.div_le_self _ _
  have eds : ∀ z : Int, [D.adr t, D.int (((k + 1 : Nat) : Int) - 1), D.int (if ((most : Nat) : Int) / ((many : Nat) : Int) > 1 then ((most : Nat) : Int) / ((many : Nat) : Int) else 1), D.int z] = [D.adr t, D.int ((k : Nat) : Int), D.int ((max 1 (most / many) : Nat) : Int), D.int z] := fun z => by
    have a1 : ((k + 1 : Nat) : Int) - 1 = (k : Nat) := by omega
    have a2 : (if ((most : Nat) : Int) / ((many : Nat) : Int) > 1 then ((most : Nat) : Int) / ((many : Nat) : Int) else 1) = ((max 1 (most / many) : Nat) : Int) := by
      rw [ediv]
      split <;> omega
    rw [a1, a2]
  rw [eds]
  refine ⟨⟨by omega, by omega⟩, ⟨by omega, by omega⟩, t, l3, max 1 (most / many), (room - 5) / many - 1, rfl, by omega, by omega, mset_same, hT3, fun its rows sp l4 hL hil hrm hs0 hs hT4 => ?_⟩
  rw [mset_mset]
  refine ⟨szr rfl, Nat.zero_le _, fun u hu => ?_⟩
  have htu : t ≠ u := mne (mset_same (m := m) (a := t) (ds := l4)) hu
  have hm0 : mset (mset m t l4) u [] = mTU m t u l4 [] := rfl
  rw [hm0]
  refine ⟨szr rfl, t, l4, wd, many, rfl, hk1, hk2, mTU_t htu, hT4, fun ns l5 hnl hnn hnr hT5 => ?_⟩
  rw [mTU_setT htu]
  show LoopD (ns.map D.int) (fun _ => True) (gdN 13) _ _ _ _
  have htn : mset m t l4 u = none := hu
  refine loop_map (f := D.int) (fun pre g' m' => ∃ (y13 y15 : Option D) (its : List Item) (rows : List (List D)) (s2 : Int) (l' : List D) (cs : List Cs) (R : List (List D)) (spent : Int), g' = [some (.adr t), some (.str nm), some (.int ((k + 1 : Nat) : Int)), some (.int most), some (.int room), some (.str wd.name), some (.int many), some (.bl (decide (((r2 : Nat) : Int) = 0))), some (.tup [encL (k + 1) its, .lst (rows.map D.tup), .int s2]), some (.tup (cs.map (encC' (k + 1)))), some (.adr u), some (.lst (R.map D.tup)), some (.int spent), y13, none, y15, none, none] ∧ m' = mTU m t u l' (cs.map fun c => c.2.1) ∧ Tape l' ∧ ChI k (max 1 (most / many)) pre cs R spent ∧ LayR (k + 1) its rows s2 ∧ its.length ≤ 4 ∧ rows.length ≤ max 1 (most / many) ∧ 0 ≤ s2)
    ⟨none, none, its, rows, sp, l5, [], [], 5, rfl, rfl, hT5, ⟨rfl, List.nodup_nil, fun _ h => (nomatch h), fun h => absurd rfl h, Nat.zero_le _, fun _ h => (nomatch h), (show (5 : Int) + 0 + 0 ≤ 5 by decide)⟩, hL, hil, hrm, hs0⟩ (fun _ _ _ _ => trivial) (fun pre x post g' m' hd hI => ?_) (fun g' m' hI => ?_)
  · obtain ⟨y13, y15, its, rows, s2, l', cs, R, spent, rfl, rfl, hT', hC, hL, hil, hrm, hs0⟩ := hI
    have hcl : cs.length = pre.length := by
      have := congrArg List.length hC.num
      rw [List.length_map] at this
      exact this
    have hpl : pre.length < 6 := by
      have := congrArg List.length hd
      rw [List.length_append, List.length_cons] at this
      omega
    refine ⟨⟨_, mset_same⟩, rfl, t, u, l', cs.map fun c => c.2.1, rfl, htu, mTU_t htu, hT', mset_same, by rw [List.length_map]; omega, fun s l6 hs hsl hT6 => ?_⟩
    rw [mTU_setT htu]
    refine ⟨_, mset_same, szl (by rw [List.length_map, List.length_map]; omega), ?_⟩
    have e1 : (cs.map fun c => c.2.1).map D.str ++ [D.str s] = ((cs.map fun c => c.2.1) ++ [s]).map D.str := by rw [List.map_append] <;> rfl
    rw [e1, mTU_setU]
    have hlast : atI (((cs.map fun c => c.2.1) ++ [s]).map D.str) (-1) = some (.str s) := by rw [← e1, last_at]
    walk_at "dr"
    refine ⟨_, mset_same, ?_⟩
    rw [hlast]
    have hrl : rows.length ≤ 1000 := Nat.le_trans hrm (by omega)
    have hRl : R.length ≤ 6000 := Nat.le_trans hC.len (Nat.le_trans (Nat.mul_le_mul (show pre.length ≤ 6 by omega) (show max 1 (most / many) ≤ 1000 by omega)) (by decide))
    refine ⟨szr rfl, szr rfl, sz (by rw [List.length_map]; omega), ?_⟩
    refine lc_pure (f := D.tup) (xs := rows) (fun r => .tup [.tup [.str s, .tup r]]) (by omega) (fun r hr m1 R2 hm hR2 => ?_) ?_
    · walk_at "dr"
      refine ⟨_, hm _ _ mset_same, ?_⟩
      rw [hlast]
      exact ⟨szr rfl, szr rfl, hR2⟩
    have er : (rows.map fun r => D.tup [.tup [.str s, .tup r]]) = (rows.map (caseR s)).map D.tup := by
      rw [List.map_map]
      rfl
    rw [er]
    have hwL : wfL (k + 1) its := ⟨by omega, hL.wf⟩
    have hC2 := hC.add hL (by omega) hrm hs x
    have eC : cs.map (encC' (k + 1)) ++ [D.tup [D.int x, D.str s, encL (k + 1) its]] = (cs ++ [(x, s, its)]).map (encC' (k + 1)) := by rw [List.map_append] <;> rfl
    have eR : R.map D.tup ++ (rows.map (caseR s)).map D.tup = (R ++ rows.map (caseR s)).map D.tup := by rw [List.map_append]
    have eN : (cs.map fun c => c.2.1) ++ [s] = (cs ++ [(x, s, its)]).map fun c => c.2.1 := by rw [List.map_append] <;> rfl
    have hks := kinds_le hwL
    refine ⟨sz (by rw [List.length_map, List.length_map, List.length_map]; omega), ?_⟩
    refine ifD (fun ha => ?_) (fun ha => ?_)
    · refine ⟨k + 1, its, rfl, hwL, ?_⟩
      refine (show LcD ((kinds its).map (encK (k + 1))) (fun _ => True) (gdN 16) dYes (dOp dIx (dVar 16) (dC (.int 1))) _ _ _ from ?_)
      refine lc_pure (f := encK (k + 1)) (xs := kinds its) (fun kd => .str kd.name) (by omega) (fun kd hk m1 R2 hm hR2 => ?_) ?_
      · obtain ⟨ds, e, h1⟩ := kindN_at (n := k) hk
        rw [e]
        refine (show onSome (atI ds 1) _ from ?_)
        rw [h1]
        exact hR2
      have erv : (its.map (encI (k + 1))).reverse = its.reverse.map (encI (k + 1)) := List.map_reverse.symm
      have hwR : wfL (k + 1) its.reverse := ⟨by rw [List.length_reverse]; omega, fun i hi => hL.wf i (List.mem_reverse.mp hi)⟩
      have hkr := kinds_le hwR
      have hmem : ∀ kd ∈ kinds its.reverse, kd ∈ kinds its := fun kd hk => (kinds_perm (List.reverse_perm its)).mem_iff.mp hk
      refine dRev_at (i := 8) rfl ?_
      rw [erv]
      refine ⟨k + 1, its.reverse, rfl, hwR, ?_⟩
      refine (show LcD ((kinds its.reverse).map (encK (k + 1))) (fun _ => True) (gdN 16) dYes (dIndex' (dVar 15) (dOp dIx (dVar 16) (dC (.int 1)))) _ _ _ from ?_)
      refine lc_pure (f := encK (k + 1)) (xs := kinds its.reverse) (fun kd => .int ((posK (kinds its) kd : Nat) : Int)) (by omega) (fun kd hk m1 R2 hm hR2 => ?_) ?_
      · obtain ⟨ds, e, h1⟩ := kindN_at (n := k) hk
        rw [e]
        refine (show onSome (atI ds 1) _ from ?_)
        rw [h1]
        have hp := posK_ok hL.nd (hmem kd hk)
        refine ⟨(kinds its).map Kind.name, posK (kinds its) kd, by rw [List.map_map] <;> rfl, ?_, hp.2, hR2⟩
        rw [List.getElem?_map, hp.1]
        rfl
      refine dRev_at (i := 8) rfl ?_
      rw [erv]
      refine lc_pure (f := D.tup) (xs := rows) (fun r => .tup (reR (kinds its) (kinds its.reverse) r)) (by omega) (fun r hr m1 R2 hm hR2 => ?_) ?_
      · exact reIx (ks' := kinds its.reverse) (pf := posK (kinds its)) (r := r) (by omega) (show 17 < 18 by decide) rfl rfl (fun kd hk => by rw [(hL.row r hr).1]; exact posK_lt hL.nd (hmem kd hk)) hR2
      have err : (rows.map fun r => D.tup (reR (kinds its) (kinds its.reverse) r)) = (rows.map (reR (kinds its) (kinds its.reverse))).map D.tup := by
        rw [List.map_map]
        rfl
      rw [err]
      refine ⟨szr rfl, some (.int x), some (.lst ((kinds its.reverse).map fun kd => D.int ((posK (kinds its) kd : Nat) : Int))), its.reverse, rows.map (reR (kinds its) (kinds its.reverse)), s2, l6, cs ++ [(x, s, its)], R ++ rows.map (caseR s), spent + 1 + s2, ?_, ?_, hT6, hC2, hL.rev, by rw [List.length_reverse]; exact hil, by rw [List.length_map]; exact hrm, hs0⟩
      · rw [← eC, ← eR]
      · rw [← eN]
    · refine ⟨⟨by omega, by omega⟩, ⟨by omega, by omega⟩, ?_⟩
      rw [eds]
      refine ⟨t, l6, max 1 (most / many), (room - 5) / many - 1, rfl, by omega, by omega, mTU_t htu, hT6, fun its3 rows3 sp3 l7 hL3 hil3 hrm3 hs3 _ hT7 => ?_⟩
      rw [mTU_setT htu]
      refine ⟨some (.int x), y15, its3, rows3, sp3, l7, cs ++ [(x, s, its)], R ++ rows.map (caseR s), spent + 1 + s2, ?_, ?_, hT7, hC2, hL3, hil3, hrm3, hs3⟩
      · rw [← eC, ← eR]
      · rw [← eN]
  · obtain ⟨y13, y15, its, rows, s2, l', cs, R, spent, rfl, rfl, hT', hC, hL, hil, hrm, hs0⟩ := hI
    have hmo : ns.length * max 1 (most / many) ≤ 1000 := by
      rw [hnl]
      have h1 : many * (most / many) ≤ most := Nat.mul_div_le _ _
      by_cases h : 1 ≤ most / many
      · rw [Nat.max_eq_right h]
        omega
      · rw [Nat.max_eq_left (by omega)]
        omega
    have hit := hC.item wd nm (fun e => by rw [e] at hnl; simp at hnl; omega) (by omega) hnn hnr hmo
    have z := q wd cs R spent l' hit hT'
    rw [encI_choice] at z
    refine ⟨szr rfl, szr rfl, mset m t l', fun b es hb => ?_, z⟩
    have hmu : m u = none := by
      rw [mset_ne htu.symm] at hu
      exact hu
    have hbu : b ≠ u := fun e => by
      rw [e, mset_ne htu.symm, hmu] at hb
      cases hb
    show mset (mset m t l') u _ b = some es
    rw [mset_ne hbu]
    exact hb
end
end BB

namespace BB
open PySem PySem.Spec PyProof.Rows L2
/-! ## every cell of a message is a byte -/
def BtL (o : List Int) : Prop := ∀ b ∈ o, 0 ≤ b ∧ b < 256
theorem BtL.nil : BtL [] := fun _ h => nomatch h
theorem BtL.app {a b : List Int} (ha : BtL a) (hb : BtL b) : BtL (a ++ b) := fun x hx => (List.mem_append.mp hx).elim (ha x) (hb x)
theorem BtL.one {x : Int} (h : 0 ≤ x ∧ x < 256) : BtL [x] := fun y hy => by
  rw [List.mem_singleton.mp hy]
  exact h
theorem bt_word (w : Wd) (c : Nat) : BtL (wbytes w c) := fun b hb => by
  obtain ⟨k, _, rfl⟩ := List.mem_map.mp hb
  have h : c / 2 ^ k % 256 < 256 := Nat.mod_lt _ (by decide)
  show (0 : Int) ≤ ((c / 2 ^ k % 256 : Nat) : Int) ∧ ((c / 2 ^ k % 256 : Nat) : Int) < 256
  omega
theorem bt_xor : ∀ (o : List Int) (a : Nat), BtL o → a < 256 → 0 ≤ o.foldl Builtin.bitXor (a : Int) ∧ o.foldl Builtin.bitXor (a : Int) < 256
  | [], a, _, ha => by
    show (0 : Int) ≤ (a : Int) ∧ (a : Int) < 256
    omega
  | b :: o, a, h, ha => by
    have hb := h b List.mem_cons_self
    obtain ⟨n, rfl⟩ := Int.eq_ofNat_of_zero_le hb.1
    have hn : n < 256 := by omega
    have e : Builtin.bitXor (a : Int) (n : Int) = ((a ^^^ n : Nat) : Int) := by
      rw [Bits.bitXor_pp (Int.natCast_nonneg _) (Int.natCast_nonneg _)]
      rfl
    rw [List.foldl_cons, e]
    exact bt_xor o (a ^^^ n) (fun x hx => h x (List.mem_cons_of_mem _ hx)) (Nat.xor_lt_two_pow (n := 8) ha hn)
theorem bt_chk (x : Bool) {o : List Int} (h : BtL o) : BtL [chkB x o] := BtL.one (by
  cases x with
  | true => exact bt_xor o 0 h (by decide)
  | false =>
    show 0 ≤ o.sum % 256 ∧ o.sum % 256 < 256
    exact ⟨Int.emod_nonneg _ (by decide), Int.emod_lt_of_pos _ (by decide)⟩)
theorem bt_zero (k : Nat) : BtL (List.replicate k 0) := fun b hb => by
  rw [(List.mem_replicate.mp hb).2]
  exact ⟨Int.le_refl _, by decide⟩
theorem bt_foldI {f : Item → List D → List Int → List Int} : ∀ (its : List Item) (row : List D) (o : List Int), (∀ it ∈ its, ∀ row o, BtL o → BtL (f it row o)) → BtL o → BtL (foldI f its row o)
  | [], _, _, _, h => h
  | it :: its, row, o, hf, h => bt_foldI its (row.drop (nm it)) (f it row o) (fun i hi => hf i (List.mem_cons_of_mem _ hi)) (hf it List.mem_cons_self row o h)
theorem bt_putN {f : D → List Int → List Int} (h : ∀ v o, BtL o → BtL (f v o)) (c : Cnt) : ∀ (vs : List D) (o : List Int), BtL o → BtL (putN f c vs o)
  | [], _, ho => ho
  | v :: vs, o, ho => bt_putN h c vs (f v (o ++ cMark c)) (h v _ (ho.app (by
      cases c with
      | marked _ => exact BtL.one ⟨by decide, by decide⟩
      | exactly _ => exact BtL.nil
      | counted _ _ _ => exact BtL.nil)))
theorem bt_putS {f : D → List Int → List Int} (h : ∀ v o, BtL o → BtL (f v o)) (c : Cnt) (vs : List D) (o : List Int) (ho : BtL o) : BtL (putS f c vs o) := by
  refine (bt_putN h c vs _ (ho.app ?_)).app ?_
  · cases c with
    | counted w _ _ => exact bt_word w _
    | exactly _ => exact BtL.nil
    | marked _ => exact BtL.nil
  · cases c with
    | counted _ _ _ => exact BtL.nil
    | exactly _ => exact BtL.nil
    | marked _ => exact BtL.one ⟨by decide, by decide⟩
theorem bt_putI : ∀ (n : Nat) (it : Item), wfI n it → ∀ (row : List D) (o : List Int), BtL o → BtL (putI n it row o) := by
  intro n
  induction n with
  | zero =>
    intro it hw row o ho
    cases it with
    | word w ps => exact ho.app (bt_word w _)
    | lit data => exact ho.app hw.2
    | res k => exact ho.app (bt_zero k)
    | chk x => exact ho.app (bt_chk x ho)
    | arr _ _ _ _ _ _ => exact ho
    | list _ _ _ => exact ho
    | choice _ _ _ => exact ho
    | rcd _ _ => exact ho
  | succ n ih =>
    intro it hw row o ho
    cases it with
    | word w ps => exact ho.app (bt_word w _)
    | lit data => exact ho.app hw.2
    | res k => exact ho.app (bt_zero k)
    | chk x => exact ho.app (bt_chk x ho)
    | arr a w sg c rg df =>
      refine bt_putS (fun v o h => bt_foldI _ _ o (fun it hi row o h => ?_) h) c _ o ho
      rw [List.mem_singleton.mp hi]
      cases n <;> exact h.app (bt_word w _)
    | list a c its => exact bt_putS (fun v o h => bt_foldI _ _ o (fun it hi row o h => ih it (hw.2.2 it hi) row o h) h) c _ o ho
    | choice a w cs =>
      unfold putI
      cases h : caseOf cs (nameD (row.headD .non)) with
      | none => exact ho
      | some c => exact bt_foldI _ _ _ (fun it hi row o h2 => ih it ((hw.2.2.2 c (caseOf_mem h).1).2.2 it hi) row o h2) (ho.app (bt_word w _))
    | rcd a its => exact bt_foldI _ _ _ (fun it hi row o h => ih it (hw.2 it hi) row o h) ho
theorem bt_putL {n : Nat} {its : List Item} (hw : wfL n its) (row : List D) : BtL (putL n its row []) := bt_foldI its row [] (fun it hi row o h => bt_putI n it (hw.2 it hi) row o h) BtL.nil
/-! ## the longest common beginning -/
theorem cpre_pre : ∀ c x : List Int, c.take (cpre c x) <+: x
  | [], x => by simp
  | a :: c, [] => by simp [cpre]
  | a :: c, b :: x => by
    unfold cpre
    by_cases h : a = b
    · subst h
      rw [if_pos rfl, List.take_succ_cons]
      exact List.cons_prefix_cons.mpr ⟨rfl, cpre_pre c x⟩
    · rw [if_neg h]
      simp
theorem cpre_ge : ∀ {o c x : List Int}, o <+: c → o <+: x → o <+: c.take (cpre c x)
  | [], _, _, _, _ => List.nil_prefix
  | a :: o, [], _, h, _ => absurd (List.IsPrefix.length_le h) (by simp)
  | a :: o, _ :: _, [], _, h => absurd (List.IsPrefix.length_le h) (by simp)
  | a :: o, b :: c, d :: x, h1, h2 => by
    obtain ⟨e1, h3⟩ := List.cons_prefix_cons.mp h1
    obtain ⟨e2, h4⟩ := List.cons_prefix_cons.mp h2
    subst e1
    subst e2
    unfold cpre
    rw [if_pos rfl, List.take_succ_cons]
    exact List.cons_prefix_cons.mpr ⟨rfl, cpre_ge h3 h4⟩
theorem comL_init : ∀ (ms : List (List Int)) (a : List Int), comL a ms <+: a
  | [], a => List.prefix_refl a
  | x :: ms, a => (comL_init ms (a.take (cpre a x))).trans (List.take_prefix _ _)
theorem comL_mem : ∀ (ms : List (List Int)) (a x : List Int), x ∈ ms → comL a ms <+: x
  | y :: ms, a, x, h => by
    rcases List.mem_cons.mp h with e | e
    · rw [e]
      exact (comL_init ms (a.take (cpre a y))).trans (cpre_pre a y)
    · exact comL_mem ms (a.take (cpre a y)) x e
theorem comL_ge : ∀ (ms : List (List Int)) (a o : List Int), o <+: a → (∀ x ∈ ms, o <+: x) → o <+: comL a ms
  | [], _, _, h, _ => h
  | y :: ms, a, o, h, hx => comL_ge ms (a.take (cpre a y)) o (cpre_ge h (hx y List.mem_cons_self)) fun x h => hx x (List.mem_cons_of_mem _ h)
theorem com_good {V H : List D → Prop} {f : List D → List Int} {S : List (List D)} {o' : List Int} {b : Bool} (g : GoodP V H f S o' b) {r0 : List D} {rs : List (List D)} (hin : ∀ r ∈ r0 :: rs, V r ∧ H r) (hS : ∀ r ∈ S, r ∈ r0 :: rs) :
    comL (f r0) ((r0 :: rs).map f) = o' := by
  have hp : ∀ r ∈ r0 :: rs, o' <+: f r := fun r hr => by
    obtain ⟨t, e⟩ := (g.1 r (hin r hr).1 (hin r hr).2).1
    exact ⟨t, e.symm⟩
  have h1 : o' <+: comL (f r0) ((r0 :: rs).map f) := comL_ge _ _ _ (hp r0 List.mem_cons_self) fun x hx => by
    obtain ⟨r, hr, rfl⟩ := List.mem_map.mp hx
    exact hp r hr
  cases b with
  | true =>
    have e := (g.1 r0 (hin r0 List.mem_cons_self).1 (hin r0 List.mem_cons_self).2).2 rfl
    have h2 := comL_init ((r0 :: rs).map f) (f r0)
    have h3 := h2.length_le
    rw [e] at h3
    exact (h1.eq_of_length (Nat.le_antisymm h1.length_le (by rw [e]; exact h3))).symm
  | false =>
    obtain ⟨r1, m1, r2, m2, x, y, t1, t2, hne, e1, e2⟩ := g.2 rfl
    obtain ⟨t, e⟩ := h1
    have k1 := comL_mem ((r0 :: rs).map f) (f r0) (f r1) (List.mem_map.mpr ⟨r1, hS r1 m1, rfl⟩)
    have k2 := comL_mem ((r0 :: rs).map f) (f r0) (f r2) (List.mem_map.mpr ⟨r2, hS r2 m2, rfl⟩)
    rw [← e, e1] at k1
    rw [← e, e2] at k2
    have k3 := (List.prefix_append_right_inj o').mp k1
    have k4 := (List.prefix_append_right_inj o').mp k2
    cases t with
    | nil => rw [← e, List.append_nil]
    | cons z t =>
      have z1 := (List.cons_prefix_cons.mp k3).1
      have z2 := (List.cons_prefix_cons.mp k4).1
      exact absurd (z1.symm.trans z2) hne
end BB

namespace BB
open PySem PySem.Spec PyProof.Rows L2
local macro_rules | `(tactic| walk_at "dl") => `(tactic| simp only [dIfS, dIfE, dTest, dOp, dVar, dC, dIx, dEq, dNe, dI, dIc, dIsN, dNotN, isNonD, dAndT, dOrT, dNotT, dAndV, dNeg, dAdd, dTup, dLst, dCons, dNil, dCB, dCall, dLc, true_and, dLen, dInt1, dInt2, withSeq, with1_1, onSome_some, atI_0, atI_1, atI_2, atI_3, atI_4, atI_5, atI_6, List.getElem?_cons_succ, List.getElem?_cons_zero, List.set_cons_zero, List.set_cons_succ, gdN, Part.enc, encN, Bool.not_true, Bool.not_false, mapS_cons, mapS_nil, List.length_cons, List.length_nil, List.cons_append, List.nil_append, gdTup, gdCons, gdNil, dAppend, dExtend, dListF, dTupOf, dMul, dSl, dNoP, dPart])
local macro_rules | `(tactic| walk_at "dr") => `(tactic| simp only [dSeq, dAsg, dRet, dRetW, dDrop, dNext, dFor, diSeq, dIfS, dIfE, dTest, dOp, dVar, dC, dIx, dEq, dNe, dI, dIc, dIsN, dNotN, isNonD, dAndT, dOrT, dNotT, dAndV, dNeg, dAdd, dTup, dLst, dCons, dNil, dCB, dCall, dLc, true_and, dLen, dInt1, dInt2, withSeq, with1_1, onSome_some, atI_0, atI_1, atI_2, atI_3, atI_4, atI_5, atI_6, List.getElem?_cons_succ, List.getElem?_cons_zero, List.set_cons_zero, List.set_cons_succ, gdN, Part.enc, encN, Bool.not_true, Bool.not_false, mapS_cons, mapS_nil, List.length_cons, List.length_nil, List.cons_append, List.nil_append, gdTup, gdCons, gdNil, dAppend, dExtend, dListF, dTupOf, dMul, dSl, dNoP, dPart])

/-! ## the law's own def -/
def sp_law : SpD := fun ds m Q => ∃ ns : List Int, ds = [.scr ns] ∧ ∀ m', Q (.bl true) m'
section
variable {P : Program} {w : World} {K : PySem.W.Frag} {mg : Str → Option Value} {base : Heap}
theorem sc_law : FnScope ["_law_script", "_law_tape_here", "_law_world", "_law_layout", "_law_rows", "_law_some", "_law_k", "_law_pattern_here", "_law_inside", "_law_row", "_law_due", "_law_told"] ["_law_script"] (defScope s_law) := ⟨rfl, rfl, rfl, by decide +kernel, rfl, by decide +kernel, by decide +kernel⟩
theorem ok_law  {f0 : Addr} {fd0 : FuncData} (F0 : FunD K "law" "law" (defArgs s_law) (defBody s_law) (defScope s_law) [] [] f0 fd0) (B : Blt mg) (c_l_tape : Cal P w K mg base "_law_tape" (1) ["_law_script"] (up K 1 sp_l_tape)) (c_l_small : Cal P w K mg base "_law_small" (150) ["_law_tape_here", "_law_depth", "_law_most", "_law_room"] (up K 4 (sp_smallG 2))) (c_l_draw : Cal P w K mg base "_law_draw" (1) ["_law_tape_here", "_law_many"] (up K 2 sp_l_draw)) (c_l_pattern : Cal P w K mg base "_law_pattern" (40) ["_law_items", "_law_rows"] (up K 2 (sp_patternN 3))) (c_l_has : Cal P w K mg base "_law_has" (40) ["_law_items", "_law_pattern_here", "_law_row"] (up K 3 (sp_hasN 3))) (c_l_common : Cal P w K mg base "_law_common" (2) ["_law_messages"] (up K 1 sp_l_common)) (c_l_bytes_of : Cal P w K mg base "_law_bytes_of" (41) ["_law_items", "_law_row", "_law_like"] (up K 3 (sp_bytesofN 3))) (c_determined : Cal P w K mg base "determined" (41) ["layout", "pattern"] (up K 2 (sp_determined 3))) (c_l_same_bytes : Cal P w K mg base "_law_same_bytes" (2) ["_law_told", "_law_due"] (up K 2 sp_l_same_bytes)) : FnOk P w K mg base CX0 (151) f0 fd0 ["_law_script"] (up K 1 sp_law) := by
  refine okD F0 (N := ["_law_script", "_law_tape_here", "_law_world", "_law_layout", "_law_rows", "_law_some", "_law_k", "_law_pattern_here", "_law_inside", "_law_row", "_law_due", "_law_told"]) (k := 150) sc_law [none, none, none, none, none, none, none, none, none, none, none] rfl (fun f cdv A outer s H E hr => ⟨_, _,
(dss_cons (ds_set (i := 1) sc_law.nd rfl (.inr rfl) (de_call c_l_tape (hr.mono (by first | decide | omega)) (by rfl) (da_cons (dv 0) da_nil)))
(dss_cons (ds_set (i := 2) sc_law.nd rfl (.inl rfl) (de_call c_l_small (hr.mono (by first | decide | omega)) (by rfl) (da_cons (dv 1) (da_cons de_int (da_cons de_int (da_cons de_int da_nil))))))
(dss_cons (ds_set (i := 3) sc_law.nd rfl (.inr rfl) (de_ix (dv 2) de_int))
(dss_cons (ds_set (i := 4) sc_law.nd rfl (.inr rfl) (de_ix (dv 2) de_int))
(dss_cons (ds_setLc (i := 5) (own := [("_law_k", 6)]) rfl sc_law.nd rfl rfl (sw_true rfl rfl rfl (by decide +kernel)) (di_rg1 (by rfl) B.range de_int) (blkOk_by (N := ["_law_script", "_law_tape_here", "_law_world", "_law_layout", "_law_rows", "_law_some", "_law_k", "_law_pattern_here", "_law_inside", "_law_row", "_law_due", "_law_told"]) (sc := defScope s_law) (own := [("_law_k", 6)]) (by decide +kernel)) (fun _ _ _ _ _ => (dg_name (i := 6) sc_law.nd rfl (.inl rfl))) (keepN 6) (fun _ _ _ _ _ => dts_nil) (fun _ _ _ _ _ => (de_ix (dv 4) (de_call c_l_draw (hr.mono (by first | decide | omega)) (by rfl) (da_cons (dv 1) (da_cons (de_cb rLen' call_len_seq sc_len (by rfl) B.len bt_len (da_cons (dv 4) da_nil)) da_nil))))) (by intro _; rfl) s H)
(dss_cons (ds_set (i := 7) sc_law.nd rfl (.inr rfl) (de_call c_l_pattern (hr.mono (by first | decide | omega)) (by rfl) (da_cons (dv 3) (da_cons (de_ix (de_lst (da_cons (dv 4) (da_cons (dv 5) (da_cons (de_sl (dv 5) dp_none (dp_some de_int)) (da_cons (de_sl (dv 5) dp_none (dp_some de_int)) da_nil))))) (de_call c_l_draw (hr.mono (by first | decide | omega)) (by rfl) (da_cons (dv 1) (da_cons de_int da_nil)))) da_nil))))
(dss_cons (ds_setLc (i := 8) (own := [("_law_row", 9)]) rfl sc_law.nd rfl rfl (sw_true rfl rfl rfl (by decide +kernel)) (di_seq (dv 4)) (blkOk_by (N := ["_law_script", "_law_tape_here", "_law_world", "_law_layout", "_law_rows", "_law_some", "_law_k", "_law_pattern_here", "_law_inside", "_law_row", "_law_due", "_law_told"]) (sc := defScope s_law) (own := [("_law_row", 9)]) (by decide +kernel)) (fun _ _ _ _ _ => (dg_name (i := 9) sc_law.nd rfl (.inl rfl))) (keepN 9) (fun _ _ _ _ _ => (dts_one (dt_val (de_call c_l_has (hr.mono (by first | decide | omega)) (by rfl) (da_cons (dv 3) (da_cons (dv 7) (da_cons (dv 9) da_nil))))))) (fun _ _ _ _ _ => (dv 9)) (by intro _; rfl) s H)
(dss_cons (ds_set (i := 10) sc_law.nd rfl (.inl rfl) (de_call c_l_common (hr.mono (by first | decide | omega)) (by rfl) (da_cons (de_lc (own := [("_law_row", 9)]) rfl sc_law.nd (di_seq (dv 8)) (blkOk_by (N := ["_law_script", "_law_tape_here", "_law_world", "_law_layout", "_law_rows", "_law_some", "_law_k", "_law_pattern_here", "_law_inside", "_law_row", "_law_due", "_law_told"]) (sc := defScope s_law) (own := [("_law_row", 9)]) (by decide +kernel)) (fun _ _ _ _ _ => (dg_name (i := 9) sc_law.nd rfl (.inl rfl))) (keepN 9) (fun _ _ _ _ _ => dts_nil) (fun _ _ _ _ _ => (de_call c_l_bytes_of (hr.mono (by first | decide | omega)) (by rfl) (da_cons (dv 3) (da_cons (dv 9) (da_cons (de_lst da_nil) da_nil))))) (by intro _; rfl) s H) da_nil)))
(dss_cons (ds_set (i := 11) sc_law.nd rfl (.inl rfl) (de_call c_determined (hr.mono (by first | decide | omega)) (by rfl) (da_cons (dv 3) (da_cons (dv 7) da_nil))))
(dss_cons (ds_if (dt_not (dt_val (de_call c_l_same_bytes (hr.mono (by first | decide | omega)) (by rfl) (da_cons (dv 11) (da_cons (dv 10) da_nil)))))
(dss_one (ds_ret de_bl))
dss_nil)
(dss_cons (ds_expr (de_append (dv 11) de_int))
(dss_cons (ds_asg (de_neg de_int) (dg_sub (dv 11) de_int))
(dss_one (ds_ret (de_call c_l_same_bytes (hr.mono (by first | decide | omega)) (by rfl) (da_cons (de_call c_determined (hr.mono (by first | decide | omega)) (by rfl) (da_cons (dv 3) (da_cons (dv 7) da_nil))) (da_cons (dv 10) da_nil))))))))))))))))),
    fun ds m Q hl hs => ?_⟩)
  obtain ⟨ns, rfl, q⟩ := hs
  refine ⟨rfl, ns, rfl, fun t l ht hT => ?_⟩
  refine ⟨rfl, t, l, 120, 120, rfl, by decide, by decide, mset_same, hT, fun its rows sp l2 hL hil hrm hs0 hsp hT2 => ?_⟩
  rw [mset_mset]
  walk_at "dr"
  have hrl := List.length_pos_iff.mpr hL.ne
  have hml : (rows.map D.tup).length = rows.length := List.length_map _
  refine ⟨by decide, by decide, ?_⟩
  refine lc_map (f := D.int) (xs := rgI 0 3) fun a ha => ⟨fun pre acc m' => ∃ (l' : List D) (S : List (List D)), m' = mset m t l' ∧ Tape l' ∧ acc = S.map D.tup ∧ S.length = pre.length ∧ ∀ r ∈ S, r ∈ rows, ⟨l2, [], rfl, hT2, rfl, rfl, fun _ h => nomatch h⟩, fun pre acc m' h => ?_, fun pre x post acc m' ex h => ?_, fun acc m' h => ?_⟩
  · obtain ⟨l', S, rfl, hT', rfl, hSl, hSr⟩ := h
    refine ⟨trivial, ?_⟩
    have hta : t ≠ a := mne (mset_same (m := m) (a := t) (ds := l2)) ha
    rw [mset_ne hta.symm] at ha ⊢
    exact ha
  · obtain ⟨l', S, rfl, hT', rfl, hSl, hSr⟩ := h
    have hta : t ≠ a := mne (mset_same (m := m) (a := t) (ds := l2)) ha
    have hpl : pre.length < 3 := by
      have := congrArg List.length ex
      rw [rgI_len, List.length_append, List.length_cons] at this
      have e3 : ((3 : Int) - 0).toNat = 3 := rfl
      omega
    refine ⟨rfl, t, _, l', rfl, by rw [hml]; omega, by rw [hml]; omega, by rw [mset_ne hta]; exact mset_same, hT', fun r l3 hr hT3 => ?_⟩
    rw [hml] at hr
    have hr' : r < rows.length := by omega
    refine (show onSome (atI (rows.map D.tup) ((r : Nat) : Int)) _ from ?_)
    rw [atI_c, List.getElem?_map, List.getElem?_eq_getElem hr']
    refine ⟨szl (by rw [List.length_map]; omega), mset m t l3, by rw [mset_comm hta.symm, mset_mset], l3, S ++ [rows[r]], rfl, hT3, by rw [List.map_append] <;> rfl, by rw [List.length_append, List.length_append, hSl] <;> rfl, fun x hx => ?_⟩
    rcases List.mem_append.mp hx with z | z
    · exact hSr x z
    · rw [List.mem_singleton.mp z]
      exact List.getElem_mem hr'
  · obtain ⟨l', S, rfl, hT', rfl, hSl, hSr⟩ := h
    have hS3 : S.length = 3 := hSl
    obtain ⟨a0, a1, a2, rfl⟩ : ∃ a0 a1 a2, S = [a0, a1, a2] := by
      match S, hS3 with
      | [a0, a1, a2], _ => exact ⟨a0, a1, a2, rfl⟩
    have h0 := hSr a0 (by simp)
    have h1 := hSr a1 (by simp)
    have h2 := hSr a2 (by simp)
    refine ⟨szr rfl, t, 4, l', rfl, by decide, by decide, mset_same, hT', fun r l4 hr hT4 => ?_⟩
    rw [mset_mset]
    obtain ⟨T, hT0, hTne, hTl, hTr⟩ : ∃ T : List (List D), atI [D.lst (rows.map D.tup), D.lst ([a0, a1, a2].map D.tup), D.lst (cutD ([a0, a1, a2].map D.tup) none (some 2)), D.lst (cutD ([a0, a1, a2].map D.tup) none (some 1))] ((r : Nat) : Int) = some (.lst (T.map D.tup)) ∧ T ≠ [] ∧ T.length ≤ 1000 ∧ ∀ x ∈ T, x ∈ rows := by
      have h4 : r < 4 := by omega
      rw [atI_c]
      match r, h4 with
      | 0, _ => exact ⟨rows, rfl, hL.ne, by omega, fun _ h => h⟩
      | 1, _ => exact ⟨[a0, a1, a2], rfl, fun e => (nomatch e), (by decide : 3 ≤ 1000), hSr⟩
      | 2, _ => exact ⟨[a0, a1], rfl, fun e => (nomatch e), (by decide : 2 ≤ 1000), fun x hx => hSr x (by simp at hx ⊢; rcases hx with e | e <;> simp [e])⟩
      | 3, _ => exact ⟨[a0], rfl, fun e => (nomatch e), (by decide : 1 ≤ 1000), fun x hx => hSr x (by simp at hx ⊢; simp [hx])⟩
    refine (show onSome (atI [D.lst (rows.map D.tup), D.lst ([a0, a1, a2].map D.tup), D.lst (cutD ([a0, a1, a2].map D.tup) none (some 2)), D.lst (cutD ([a0, a1, a2].map D.tup) none (some 1))] ((r : Nat) : Int)) _ from ?_)
    rw [hT0]
    have hw : wfL 3 its := ⟨by omega, hL.wf⟩
    refine ⟨its, T, rfl, hw, hTne, hTl, fun x hx => hL.row x (hTr x hx), fun P hP => ?_⟩
    refine lc_filter (f := D.tup) (xs := rows) (fun r => @decide (HasL 3 its P r) (Classical.propDecidable _)) D.tup (by omega) (fun r hr m1 R R' hm hR hR' => ?_) ?_
    · refine ⟨rfl, its, T, P, r, rfl, hw, hP, fun r' hr' => (hL.row r' (hTr r' hr')).2, hL.row r hr, fun b hb => ?_⟩
      cases b with
      | true => exact ifT rfl (hR (@decide_eq_true _ (Classical.propDecidable _) (hb.mp rfl)))
      | false => exact ifF rfl (hR' (@decide_eq_false _ (Classical.propDecidable _) fun h => by cases hb.mpr h))
    obtain ⟨inside, hie⟩ : ∃ z, z = rows.filter (fun r => @decide (HasL 3 its P r) (Classical.propDecidable _)) := ⟨_, rfl⟩
    rw [← hie]
    have hiH : ∀ r ∈ inside, r ∈ rows ∧ HasL 3 its P r := fun r hr => by
      rw [hie] at hr
      obtain ⟨h1, h2⟩ := List.mem_filter.mp hr
      exact ⟨h1, @of_decide_eq_true _ (Classical.propDecidable _) h2⟩
    have hil2 : inside.length ≤ rows.length := by
      rw [hie]
      exact List.length_filter_le _ _
    have c : Ctx 3 (kinds its) T P := ⟨hTne, Nat.le_of_eq hP.1.symm, hP.2, fun r hr => (hL.row r (hTr r hr)).2⟩
    have hTi : ∀ r ∈ T, r ∈ inside := fun r hr => by
      rw [hie]
      exact List.mem_filter.mpr ⟨hTr r hr, @decide_eq_true _ (Classical.propDecidable _) (c.has r hr)⟩
    obtain ⟨r0, rs, hins⟩ : ∃ r0 rs, inside = r0 :: rs := by
      cases T with
      | nil => exact absurd rfl hTne
      | cons x xs =>
        cases inside with
        | nil => exact nomatch hTi x List.mem_cons_self
        | cons y ys => exact ⟨y, ys, rfl⟩
    clear hie
    subst hins
    have hmx : mxL 3 its ≤ 120 := by
      have z0 : ((mxL 3 its : Nat) : Int) ≤ sp := hL.mx
      rcases hsp with z | z <;> omega
    have hfl : ∀ r ∈ r0 :: rs, (putL 3 its r []).length ≤ 120 := fun r hr => by
      have z := foldI_len (n := 3) (mx := mxI 3) (putI_len 3) its r [] (hL.row r (hiH r hr).1).2
      rw [List.length_nil, Nat.zero_add] at z
      exact Nat.le_trans z hmx
    refine (show LcD ((r0 :: rs).map D.tup) (fun _ => True) (gdN 9) dYes (dCall 3 (sp_bytesofN 3) (dCons (dVar 3) (dCons (dVar 9) (dCons (dLst dNil) dNil)))) _ _ _ from ?_)
    refine lc_pure (f := D.tup) (xs := r0 :: rs) (fun r => .lst ((putL 3 its r []).map D.int)) (by omega) (fun r hr m1 R hm hR => ?_) ?_
    · exact ⟨szr rfl, rfl, its, r, rfl, hw, hL.row r (hiH r hr).1, by omega, hR⟩
    refine ⟨putL 3 its r0 [], rs.map fun r => putL 3 its r [], ?_, Nat.le_trans (hfl r0 List.mem_cons_self) (by decide), fun x hx => ?_, ?_⟩
    · rw [List.map_cons, List.map_cons, List.map_map]
      rfl
    · obtain ⟨r, hr, rfl⟩ := List.mem_map.mp hx
      exact Nat.le_trans (hfl r (List.mem_cons_of_mem _ hr)) (by decide)
    have hcom : ∀ o' b, GoodL 3 its T P [] o' b → comL (putL 3 its r0 []) (putL 3 its r0 [] :: rs.map fun r => putL 3 its r []) = o' ∧ o'.length ≤ 120 ∧ BtL o' := fun o' b g => by
      have e := com_good g (r0 := r0) (rs := rs) (fun r hr => ⟨(hL.row r (hiH r hr).1).2, (hiH r hr).2⟩) hTi
      refine ⟨e, ?_⟩
      obtain ⟨tl, e2⟩ := (g.1 r0 (hL.row r0 (hiH r0 List.mem_cons_self).1).2 (hiH r0 List.mem_cons_self).2).1
      have h3 := hfl r0 List.mem_cons_self
      have h4 := bt_putL hw r0
      have e3 : putL 3 its r0 [] = o' ++ tl := e2
      rw [e3] at h3 h4
      rw [List.length_append] at h3
      exact ⟨by omega, fun b hb => h4 b (List.mem_append_left _ hb)⟩
    generalize comL (putL 3 its r0 []) (putL 3 its r0 [] :: rs.map fun r => putL 3 its r []) = due at hcom ⊢
    refine ⟨its, T, P, rfl, hw, c, by omega, fun p o' b hp g => ?_⟩
    obtain ⟨ed, ho1, ho2⟩ := hcom o' b g
    refine ⟨p, o', due, rfl, mset_same, ho2, ?_⟩
    refine ifDn (fun h => absurd ed.symm h) (fun _ => ?_)
    refine ⟨⟨_, mset_same⟩, _, mset_same, szl (by rw [List.length_map]; omega), ?_⟩
    rw [mset_mset]
    refine ⟨_, 0, mset_same, ?_, ?_⟩
    · unfold ixN
      rw [if_pos (by decide), if_pos (by rw [List.length_append]; show (0 : Int) < ((_ + 1 : Nat) : Int); omega)]
      rfl
    refine ⟨rfl, ⟨its, T, P, rfl, hw, c, by omega, fun p2 o2 b2 hp2 g2 => ?_⟩⟩
    obtain ⟨ed2, _, ho3⟩ := hcom o2 b2 g2
    refine ⟨rfl, p2, o2, due, rfl, mset_same, ho3, ?_⟩
    rw [decide_eq_true ed2.symm]
    exact q _
end
end BB

set_option maxHeartbeats 0
namespace BB
open PySem PySem.Spec PyProof.Rows L2
/-! ### the head's facts, def by def -/
section
variable {K : PySem.W.Frag} {w : World} {h : Heap} {mg : Str → Option Value}
theorem def_at (X : K.In h) (G : h.Ns mainGlobals mg) (c : He.SaysX hfa hfn hts [] hex_ w h K) (i : Nat) {x : Str} {st : Stmt} (h1 : hfn[i]? = some ⟨(x, none), x, x, defArgs st, defBody st, defScope st, [], []⟩) (h2 : hfa[i]? = some (.glo x)) : Def K mg x st := by
  obtain ⟨fd, F⟩ := c.t.d.def_ i h1
  exact ⟨_, fd, F, He.glo_ok X G (c.t.d.fact i h2)⟩
structure Defs (K : PySem.W.Frag) (mg : Str → Option Value) : Prop where
  word_size : Def K mg "word_size" s_word_size
  code_of : Def K mg "code_of" s_code_of
  first_bits : Def K mg "first_bits" s_first_bits
  fields : Def K mg "fields" s_fields
  placed : Def K mg "placed" s_placed
  count_of : Def K mg "count_of" s_count_of
  element_layout : Def K mg "element_layout" s_element_layout
  wrap : Def K mg "wrap" s_wrap
  case_named : Def K mg "case_named" s_case_named
  ones : Def K mg "ones" s_ones
  agreement : Def K mg "agreement" s_agreement
  common_bits : Def K mg "common_bits" s_common_bits
  check_byte : Def K mg "check_byte" s_check_byte
  known_word : Def K mg "known_word" s_known_word
  append_code : Def K mg "append_code" s_append_code
  append_number : Def K mg "append_number" s_append_number
  append_elements : Def K mg "append_elements" s_append_elements
  append_entry : Def K mg "append_entry" s_append_entry
  append_item : Def K mg "append_item" s_append_item
  append_pattern : Def K mg "append_pattern" s_append_pattern
  determined : Def K mg "determined" s_determined
  l_tape : Def K mg "_law_tape" s_l_tape
  l_draw : Def K mg "_law_draw" s_l_draw
  l_name : Def K mg "_law_name" s_l_name
  l_runs : Def K mg "_law_runs" s_l_runs
  l_listed : Def K mg "_law_listed" s_l_listed
  l_constant : Def K mg "_law_constant" s_l_constant
  l_crossed : Def K mg "_law_crossed" s_l_crossed
  l_series : Def K mg "_law_series" s_l_series
  l_check : Def K mg "_law_check" s_l_check
  l_alike : Def K mg "_law_alike" s_l_alike
  l_are_bytes : Def K mg "_law_are_bytes" s_l_are_bytes
  l_same_bytes : Def K mg "_law_same_bytes" s_l_same_bytes
  l_size : Def K mg "_law_size" s_l_size
  l_bytes : Def K mg "_law_bytes" s_l_bytes
  l_read : Def K mg "_law_read" s_l_read
  l_any_word : Def K mg "_law_any_word" s_l_any_word
  l_a_count : Def K mg "_law_a_count" s_l_a_count
  l_a_field : Def K mg "_law_a_field" s_l_a_field
  l_ranges : Def K mg "_law_ranges" s_l_ranges
  l_a_number : Def K mg "_law_a_number" s_l_a_number
  l_part : Def K mg "_law_part" s_l_part
  l_case_numbers : Def K mg "_law_case_numbers" s_l_case_numbers
  l_not_empty : Def K mg "_law_not_empty" s_l_not_empty
  l_small : Def K mg "_law_small" s_l_small
  l_joined : Def K mg "_law_joined" s_l_joined
  l_small_item : Def K mg "_law_small_item" s_l_small_item
  l_small_word : Def K mg "_law_small_word" s_l_small_word
  l_small_choice : Def K mg "_law_small_choice" s_l_small_choice
  l_kinds : Def K mg "_law_kinds" s_l_kinds
  l_once : Def K mg "_law_once" s_l_once
  l_set : Def K mg "_law_set" s_l_set
  l_pattern : Def K mg "_law_pattern" s_l_pattern
  l_pattern_of : Def K mg "_law_pattern_of" s_l_pattern_of
  l_bytes_of : Def K mg "_law_bytes_of" s_l_bytes_of
  l_put_items : Def K mg "_law_put_items" s_l_put_items
  l_put_inside : Def K mg "_law_put_inside" s_l_put_inside
  l_has : Def K mg "_law_has" s_l_has
  l_has_in : Def K mg "_law_has_in" s_l_has_in
  l_in_set : Def K mg "_law_in_set" s_l_in_set
  l_common : Def K mg "_law_common" s_l_common
  law : Def K mg "law" s_law
theorem defs_of (X : K.In h) (G : h.Ns mainGlobals mg) (c : He.SaysX hfa hfn hts [] hex_ w h K) : Defs K mg where
  word_size := def_at X G c 0 rfl rfl
  code_of := def_at X G c 1 rfl rfl
  first_bits := def_at X G c 2 rfl rfl
  fields := def_at X G c 3 rfl rfl
  placed := def_at X G c 4 rfl rfl
  count_of := def_at X G c 5 rfl rfl
  element_layout := def_at X G c 6 rfl rfl
  wrap := def_at X G c 7 rfl rfl
  case_named := def_at X G c 8 rfl rfl
  ones := def_at X G c 9 rfl rfl
  agreement := def_at X G c 10 rfl rfl
  common_bits := def_at X G c 11 rfl rfl
  check_byte := def_at X G c 12 rfl rfl
  known_word := def_at X G c 13 rfl rfl
  append_code := def_at X G c 14 rfl rfl
  append_number := def_at X G c 15 rfl rfl
  append_elements := def_at X G c 16 rfl rfl
  append_entry := def_at X G c 17 rfl rfl
  append_item := def_at X G c 18 rfl rfl
  append_pattern := def_at X G c 19 rfl rfl
  determined := def_at X G c 20 rfl rfl
  l_tape := def_at X G c 21 rfl rfl
  l_draw := def_at X G c 22 rfl rfl
  l_name := def_at X G c 23 rfl rfl
  l_runs := def_at X G c 24 rfl rfl
  l_listed := def_at X G c 25 rfl rfl
  l_constant := def_at X G c 26 rfl rfl
  l_crossed := def_at X G c 27 rfl rfl
  l_series := def_at X G c 28 rfl rfl
  l_check := def_at X G c 29 rfl rfl
  l_alike := def_at X G c 30 rfl rfl
  l_are_bytes := def_at X G c 31 rfl rfl
  l_same_bytes := def_at X G c 32 rfl rfl
  l_size := def_at X G c 33 rfl rfl
  l_bytes := def_at X G c 34 rfl rfl
  l_read := def_at X G c 35 rfl rfl
  l_any_word := def_at X G c 36 rfl rfl
  l_a_count := def_at X G c 37 rfl rfl
  l_a_field := def_at X G c 38 rfl rfl
  l_ranges := def_at X G c 39 rfl rfl
  l_a_number := def_at X G c 40 rfl rfl
  l_part := def_at X G c 41 rfl rfl
  l_case_numbers := def_at X G c 42 rfl rfl
  l_not_empty := def_at X G c 43 rfl rfl
  l_small := def_at X G c 44 rfl rfl
  l_joined := def_at X G c 45 rfl rfl
  l_small_item := def_at X G c 46 rfl rfl
  l_small_word := def_at X G c 47 rfl rfl
  l_small_choice := def_at X G c 48 rfl rfl
  l_kinds := def_at X G c 49 rfl rfl
  l_once := def_at X G c 50 rfl rfl
  l_set := def_at X G c 51 rfl rfl
  l_pattern := def_at X G c 52 rfl rfl
  l_pattern_of := def_at X G c 53 rfl rfl
  l_bytes_of := def_at X G c 54 rfl rfl
  l_put_items := def_at X G c 55 rfl rfl
  l_put_inside := def_at X G c 56 rfl rfl
  l_has := def_at X G c 57 rfl rfl
  l_has_in := def_at X G c 58 rfl rfl
  l_in_set := def_at X G c 59 rfl rfl
  l_common := def_at X G c 60 rfl rfl
  law := def_at X G c 61 rfl rfl
theorem blt_of (X : K.In h) (G : h.Ns mainGlobals mg) (c : He.SaysX hfa hfn hts [] hex_ w h K) : Blt mg where
  len := He.free_ok X G (c.t.d.fact 64 (f := .free "len") rfl)
  abs := He.free_ok X G (c.t.d.fact 65 (f := .free "abs") rfl)
  int := He.free_ok X G (c.t.d.fact 66 (f := .free "int") rfl)
  max := He.free_ok X G (c.t.d.fact 67 (f := .free "max") rfl)
  min := He.free_ok X G (c.t.d.fact 68 (f := .free "min") rfl)
  range := He.free_ok X G (c.t.d.fact 69 (f := .free "range") rfl)
  list := He.free_ok X G (c.t.d.fact 70 (f := .free "list") rfl)
  tuple := He.free_ok X G (c.t.d.fact 71 (f := .free "tuple") rfl)
  sorted := He.free_ok X G (c.t.d.fact 72 (f := .free "sorted") rfl)
  sum := He.free_ok X G (c.t.d.fact 73 (f := .free "sum") rfl)
  str := He.free_ok X G (c.t.d.fact 74 (f := .free "str") rfl)
  zip := He.free_ok X G (c.t.d.fact 75 (f := .free "zip") rfl)
  isinstance := He.free_ok X G (c.t.d.fact 76 (f := .free "isinstance") rfl)
  bool := He.free_ok X G (c.t.d.fact 77 (f := .free "bool") rfl)
theorem env_of (X : K.In h) (G : h.Ns mainGlobals mg) (c : He.SaysX hfa hfn hts [] hex_ w h K) : Env1 K w mg := by
  obtain ⟨m1, m2⟩ := He.ba c.more
  obtain ⟨es, n, kd⟩ := c.t.tab 0
  refine ⟨blt_of X G c, ⟨_, He.glo_ok X G (c.t.d.fact 62 (f := .glo "WORD_SIZES") rfl), ?_, ?_, ?_, ?_, ?_⟩, ⟨_, He.glo_ok X G (c.t.d.fact 63 (f := .glo "COMPOSITES") rfl), fun H => He.tupB_ok m2 H⟩⟩
  · obtain ⟨u, e, r⟩ := He.valsB_ok m1 (q := ("u8", .int 1)) (by simp)
    exact ⟨es, n, u, kd.at_, kd.lit, e, r⟩
  · obtain ⟨u, e, r⟩ := He.valsB_ok m1 (q := ("u16be", .int 2)) (by simp)
    exact ⟨es, n, u, kd.at_, kd.lit, e, r⟩
  · obtain ⟨u, e, r⟩ := He.valsB_ok m1 (q := ("u16le", .int 2)) (by simp)
    exact ⟨es, n, u, kd.at_, kd.lit, e, r⟩
  · obtain ⟨u, e, r⟩ := He.valsB_ok m1 (q := ("u32be", .int 4)) (by simp)
    exact ⟨es, n, u, kd.at_, kd.lit, e, r⟩
  · obtain ⟨u, e, r⟩ := He.valsB_ok m1 (q := ("u32le", .int 4)) (by simp)
    exact ⟨es, n, u, kd.at_, kd.lit, e, r⟩
end
end BB

set_option maxHeartbeats 4000000
namespace BB
open PySem PySem.Spec PyProof.Rows L2
/-! ## all the defs together -/
section
variable {P : Program} {w : World} {K : PySem.W.Frag} {mg : Str → Option Value} {base : Heap}
theorem law_ok {f0 : Addr} {fd0 : FuncData} (F0 : FunD K "law" "law" (defArgs s_law) (defBody s_law) (defScope s_law) [] [] f0 fd0) (D : Defs K mg) (E1 : Env1 K w mg) : FnOk P w K mg base CX0 151 f0 fd0 ["_law_script"] (up K 1 sp_law) := by
  have B := E1.blt
  have gC := E1.comps
  have c_word_size : Cal P w K mg base "word_size" (1) ["word"] (up K 1 sp_word_size) := cal_word_size D.word_size E1
  have c_fields : Cal P w K mg base "fields" (2) ["item"] (up K 1 sp_fields) := cal_fields D.fields B c_word_size
  have c_placed : Cal P w K mg base "placed" (3) ["layout"] (up K 1 sp_placed) := cal_placed D.placed B gC c_fields
  have c_count_of : Cal P w K mg base "count_of" (1) ["item"] (up K 1 sp_count_of) := cal_count_of D.count_of B
  have c_element_layout : Cal P w K mg base "element_layout" (2) ["item"] (up K 1 sp_element_layout) := cal_element_layout D.element_layout B c_word_size
  have c_wrap : Cal P w K mg base "wrap" (1) ["item", "element"] (up K 2 sp_wrap) := cal_wrap D.wrap B
  have c_case_named : Cal P w K mg base "case_named" (1) ["item", "name"] (up K 2 sp_case_named) := cal_case_named D.case_named B
  have c_ones : Cal P w K mg base "ones" (1) ["width"] (up K 1 sp_ones) := cal_ones D.ones B
  have c_code_of : Cal P w K mg base "code_of" (1) ["number", "width"] (up K 2 sp_code_of) := cal_code_of D.code_of B
  have c_first_bits : Cal P w K mg base "first_bits" (2) ["word"] (up K 1 sp_first_bits) := cal_first_bits D.first_bits B c_word_size
  have c_agreement : Cal P w K mg base "agreement" (2) ["codes", "width"] (up K 2 sp_agreement) := cal_agreement D.agreement B c_ones
  have c_common_bits : Cal P w K mg base "common_bits" (3) ["entry", "width"] (up K 2 sp_common_bits) := cal_common_bits D.common_bits B c_agreement c_code_of
  have c_check_byte : Cal P w K mg base "check_byte" (1) ["method", "data"] (up K 2 sp_check_byte) := cal_check_byte D.check_byte B
  have c_known_word : Cal P w K mg base "known_word" (4) ["item", "entries"] (up K 2 sp_known_word) := cal_known_word D.known_word B c_ones c_word_size c_fields c_common_bits
  have c_append_code : Cal P w K mg base "append_code" (3) ["out", "word", "known", "code"] (up K 4 sp_append_code) := cal_append_code D.append_code B c_first_bits
  have c_append_number : Cal P w K mg base "append_number" (4) ["out", "word", "numbers"] (up K 3 sp_append_number) := cal_append_number D.append_number B c_agreement c_word_size c_append_code
  have c_l_size : Cal P w K mg base "_law_size" (1) ["_law_word"] (up K 1 sp_l_size) := cal_l_size D.l_size B
  have c_l_bytes : Cal P w K mg base "_law_bytes" (2) ["_law_word", "_law_code"] (up K 2 sp_l_bytes) := cal_l_bytes D.l_bytes B c_l_size
  have c_l_read : Cal P w K mg base "_law_read" (1) ["_law_word", "_law_data"] (up K 2 sp_l_read) := cal_l_read D.l_read B
  have c_l_check : Cal P w K mg base "_law_check" (1) ["_law_method", "_law_out"] (up K 2 sp_l_check) := cal_l_check D.l_check B
  have c_l_kinds : Cal P w K mg base "_law_kinds" (2) ["_law_items"] (up K 1 sp_l_kinds) := cal_l_kinds D.l_kinds B c_l_size
  have c_l_in_set : Cal P w K mg base "_law_in_set" (1) ["_law_entry", "_law_number", "_law_width"] (up K 3 sp_l_in_set) := cal_l_in_set D.l_in_set B
  have c_l_set : Cal P w K mg base "_law_set" (1) ["_law_numbers", "_law_width"] (up K 2 sp_l_set) := cal_l_set D.l_set B
  have c_l_alike : Cal P w K mg base "_law_alike" (1) ["_law_left", "_law_right"] (up K 2 sp_l_alike) := cal_l_alike D.l_alike B
  have c_l_common : Cal P w K mg base "_law_common" (2) ["_law_messages"] (up K 1 sp_l_common) := cal_l_common D.l_common B c_l_alike
  have c_l_are_bytes : Cal P w K mg base "_law_are_bytes" (1) ["_law_told", "_law_size_here"] (up K 2 sp_l_are_bytes) := cal_l_are_bytes D.l_are_bytes B
  have c_l_same_bytes : Cal P w K mg base "_law_same_bytes" (2) ["_law_told", "_law_due"] (up K 2 sp_l_same_bytes) := cal_l_same_bytes D.l_same_bytes B c_l_are_bytes
  have c_l_once : Cal P w K mg base "_law_once" (1) ["_law_things"] (up K 1 sp_l_once) := cal_l_once D.l_once B
  have c_l_tape : Cal P w K mg base "_law_tape" (1) ["_law_script"] (up K 1 sp_l_tape) := cal_l_tape D.l_tape B
  have c_l_draw : Cal P w K mg base "_law_draw" (1) ["_law_tape_here", "_law_many"] (up K 2 sp_l_draw) := cal_l_draw D.l_draw B
  have c_l_name : Cal P w K mg base "_law_name" (2) ["_law_tape_here", "_law_used"] (up K 2 sp_l_name) := cal_l_name D.l_name B c_l_draw
  have c_l_joined : Cal P w K mg base "_law_joined" (1) ["_law_rows", "_law_tails"] (up K 2 sp_l_joined) := cal_l_joined D.l_joined B
  have c_l_crossed : Cal P w K mg base "_law_crossed" (1) ["_law_rows", "_law_entries"] (up K 2 sp_l_crossed) := cal_l_crossed D.l_crossed B
  have c_l_series : Cal P w K mg base "_law_series" (2) ["_law_entries", "_law_least", "_law_greatest"] (up K 3 sp_l_series) := cal_l_series D.l_series B c_l_crossed
  have c_l_runs : Cal P w K mg base "_law_runs" (1) ["_law_numbers"] (up K 1 sp_l_runs) := cal_l_runs D.l_runs B
  have c_l_listed : Cal P w K mg base "_law_listed" (1) ["_law_signed", "_law_width", "_law_ranges_here"] (up K 3 sp_l_listed) := cal_l_listed D.l_listed B
  have c_l_any_word : Cal P w K mg base "_law_any_word" (2) ["_law_tape_here"] (up K 1 sp_l_any_word) := cal_l_any_word D.l_any_word B c_l_draw
  have c_l_a_count : Cal P w K mg base "_law_a_count" (3) ["_law_tape_here", "_law_least", "_law_greatest"] (up K 3 sp_l_a_count) := cal_l_a_count D.l_a_count B c_l_draw c_l_any_word
  have c_l_ranges : Cal P w K mg base "_law_ranges" (2) ["_law_tape_here", "_law_width", "_law_signed", "_law_most"] (up K 4 sp_l_ranges) := cal_l_ranges D.l_ranges B c_l_draw c_l_runs
  have c_l_constant : Cal P w K mg base "_law_constant" (2) ["_law_tape_here"] (up K 1 sp_l_constant) := cal_l_constant D.l_constant B c_l_draw
  have c_l_a_field : Cal P w K mg base "_law_a_field" (3) ["_law_tape_here", "_law_widths", "_law_most"] (up K 3 sp_l_a_field) := cal_l_a_field D.l_a_field B c_l_draw c_l_ranges
  have c_l_a_number : Cal P w K mg base "_law_a_number" (2) ["_law_tape_here", "_law_width", "_law_signed", "_law_ranges_here"] (up K 4 sp_l_a_number) := cal_l_a_number D.l_a_number B c_l_draw
  have c_l_part : Cal P w K mg base "_law_part" (3) ["_law_tape_here", "_law_used", "_law_field"] (up K 3 sp_l_part) := cal_l_part D.l_part B c_l_draw c_l_name c_l_a_number
  have c_l_not_empty : Cal P w K mg base "_law_not_empty" (2) ["_law_tape_here", "_law_items"] (up K 2 sp_l_not_empty) := cal_l_not_empty D.l_not_empty B c_l_draw
  have c_l_case_numbers : Cal P w K mg base "_law_case_numbers" (2) ["_law_tape_here", "_law_word", "_law_many"] (up K 3 sp_l_case_numbers) := cal_l_case_numbers D.l_case_numbers B c_l_size c_l_draw
  have c_l_small_word : Cal P w K mg base "_law_small_word" (4) ["_law_tape_here", "_law_used", "_law_most"] (up K 3 sp_l_small_word) := cal_l_small_word D.l_small_word B c_l_any_word c_l_size c_l_draw c_l_a_field c_l_part c_l_joined c_l_listed
  have f_append_pattern : ∀ k, Cal P w K mg base "append_pattern" (10*k) ["out", "layout", "pattern"] (up K 3 (at2 sp_patN k)) := fun k => by
    induction k with
    | zero => exact (Def.no D.append_pattern sc_append_pattern rfl (fun _ _ _ _ _ _ us hl => match us, hl with | [_, _, _], _ => rfl))
    | succ k ih =>
      have c_append_elements : Cal P w K mg base "append_elements" (10*k+5 + 1) ["out", "item", "entry"] (up K 3 (at2 sp_elemN k)) := cal_append_elements k D.append_elements B c_count_of c_append_number ih c_wrap c_element_layout
      have c_append_entry : Cal P w K mg base "append_entry" (10*k+6 + 1) ["out", "item", "entry"] (up K 3 (at2 sp_entN k)) := cal_append_entry k D.append_entry B ih c_append_number c_case_named c_append_elements
      have c_append_item : Cal P w K mg base "append_item" (10*k+7 + 1) ["out", "item", "entries"] (up K 3 (sp_itemN k)) := cal_append_item k D.append_item B gC c_known_word c_append_code c_append_entry c_check_byte
      have c_append_pattern : Cal P w K mg base "append_pattern" (10*k+8 + 1) ["out", "layout", "pattern"] (up K 3 (sp_patN k)) := cal_append_pattern k D.append_pattern B c_placed c_append_item
      exact c_append_pattern.mono (by omega)
  have f_l_has : ∀ k, Cal P w K mg base "_law_has" (10*k) ["_law_items", "_law_pattern_here", "_law_row"] (up K 3 (at2 sp_hasN k)) := fun k => by
    induction k with
    | zero => exact (Def.no D.l_has sc_l_has rfl (fun _ _ _ _ _ _ us hl => match us, hl with | [_, _, _], _ => rfl))
    | succ k ih =>
      have c_l_has_in : Cal P w K mg base "_law_has_in" (10*k+5 + 1) ["_law_kind", "_law_entry", "_law_thing"] (up K 3 (sp_hasinN k)) := cal_l_has_in k D.l_has_in B c_l_in_set ih
      have c_l_has : Cal P w K mg base "_law_has" (10*k+6 + 1) ["_law_items", "_law_pattern_here", "_law_row"] (up K 3 (sp_hasN k)) := cal_l_has k D.l_has B c_l_kinds c_l_has_in
      exact c_l_has.mono (by omega)
  have f_l_pattern : ∀ k, Cal P w K mg base "_law_pattern" (10*k) ["_law_items", "_law_rows"] (up K 2 (at2 sp_patternN k)) := fun k => by
    induction k with
    | zero => exact (Def.no D.l_pattern sc_l_pattern rfl (fun _ _ _ _ _ _ us hl => match us, hl with | [_, _], _ => rfl))
    | succ k ih =>
      have c_l_pattern_of : Cal P w K mg base "_law_pattern_of" (10*k+5 + 1) ["_law_kind", "_law_things"] (up K 2 (sp_patofN k)) := cal_l_pattern_of k D.l_pattern_of B c_l_set c_l_once ih
      have c_l_pattern : Cal P w K mg base "_law_pattern" (10*k+6 + 1) ["_law_items", "_law_rows"] (up K 2 (sp_patternN k)) := cal_l_pattern k D.l_pattern B c_l_kinds c_l_pattern_of
      exact c_l_pattern.mono (by omega)
  have f_l_put_items : ∀ k, Cal P w K mg base "_law_put_items" (10*k) ["_law_items", "_law_row", "_law_out", "_law_like"] (up K 4 (at2 sp_putN k)) := fun k => by
    induction k with
    | zero => exact (Def.no D.l_put_items sc_l_put_items rfl (fun _ _ _ _ _ _ us hl => match us, hl with | [_, _, _, _], _ => rfl))
    | succ k ih =>
      have c_l_put_inside : Cal P w K mg base "_law_put_inside" (10*k+5 + 1) ["_law_item", "_law_thing", "_law_out", "_law_like"] (up K 4 (at2 sp_insN k)) := cal_l_put_inside k D.l_put_inside B ih c_l_bytes
      have c_l_put_items : Cal P w K mg base "_law_put_items" (10*k+6 + 1) ["_law_items", "_law_row", "_law_out", "_law_like"] (up K 4 (sp_putN k)) := cal_l_put_items k D.l_put_items B c_l_size c_l_read c_l_bytes c_l_check c_l_put_inside
      exact c_l_put_items.mono (by omega)
  have f_small : ∀ k, Cal P w K mg base "_law_small" (50*k) ["_law_tape_here", "_law_depth", "_law_most", "_law_room"] (up K 4 (at2 sp_smallG k)) ∧ Cal P w K mg base "_law_small_choice" (50*k+30) ["_law_tape_here", "_law_name_here", "_law_depth", "_law_most", "_law_room"] (up K 5 (at2 sp_choiceH k)) := fun k => by
    induction k with
    | zero => exact ⟨(Def.no D.l_small sc_l_small rfl (fun _ _ _ _ _ _ us hl => match us, hl with | [_, _, _, _], _ => rfl)), Cal.mono (Def.no D.l_small_choice sc_l_small_choice rfl (fun _ _ _ _ _ _ us hl => match us, hl with | [_, _, _, _, _], _ => rfl)) (Nat.zero_le _)⟩
    | succ k ih =>
      have c_item : Cal P w K mg base "_law_small_item" (50*k+39 + 1) ["_law_tape_here", "_law_used", "_law_depth", "_law_most", "_law_room"] (up K 5 (sp_itemG k)) := cal_l_small_item k D.l_small_item B c_l_draw c_l_constant c_l_small_word c_l_name ih.1 ih.2 c_l_a_count c_l_a_field c_l_series c_l_listed c_l_not_empty
      have c_small : Cal P w K mg base "_law_small" (50*k+40 + 1) ["_law_tape_here", "_law_depth", "_law_most", "_law_room"] (up K 4 (sp_smallG k)) := cal_l_small k D.l_small B c_l_draw (c_item.mono (by omega)) c_l_joined
      have c_ch : Cal P w K mg base "_law_small_choice" (50*k+79 + 1) ["_law_tape_here", "_law_name_here", "_law_depth", "_law_most", "_law_room"] (up K 5 (sp_choiceH k)) := cal_l_small_choice k D.l_small_choice B c_l_any_word c_l_draw (c_small.mono (by omega)) c_l_case_numbers c_l_name c_l_kinds
      exact ⟨c_small.mono (by omega), c_ch.mono (by omega)⟩
  have c_l_small : Cal P w K mg base "_law_small" (150) ["_law_tape_here", "_law_depth", "_law_most", "_law_room"] (up K 4 (sp_smallG 2)) := (f_small 3).1.mono (by decide)
  have c_l_pattern : Cal P w K mg base "_law_pattern" (40) ["_law_items", "_law_rows"] (up K 2 (sp_patternN 3)) := (f_l_pattern 4).mono (by decide)
  have c_l_has : Cal P w K mg base "_law_has" (40) ["_law_items", "_law_pattern_here", "_law_row"] (up K 3 (sp_hasN 3)) := (f_l_has 4).mono (by decide)
  have c_put : Cal P w K mg base "_law_put_items" (10*3+10) ["_law_items", "_law_row", "_law_out", "_law_like"] (up K 4 (sp_putN 3)) := (f_l_put_items 4).mono (by decide)
  have c_l_bytes_of : Cal P w K mg base "_law_bytes_of" (41) ["_law_items", "_law_row", "_law_like"] (up K 3 (sp_bytesofN 3)) := cal_l_bytes_of 3 D.l_bytes_of B c_put
  have c_pat : Cal P w K mg base "append_pattern" (10*3+10) ["out", "layout", "pattern"] (up K 3 (sp_patN 3)) := (f_append_pattern 4).mono (by decide)
  have c_determined : Cal P w K mg base "determined" (41) ["layout", "pattern"] (up K 2 (sp_determined 3)) := cal_determined 3 D.determined B c_pat
  exact ok_law F0 B c_l_tape c_l_small c_l_draw c_l_pattern c_l_has c_l_common c_l_bytes_of c_determined c_l_same_bytes
end
end BB

set_option maxHeartbeats 0
namespace BB
open PySem PySem.Spec PyProof.Rows L2
/-! ## the law -/
theorem law_fn {P : Program} {w : World} {K : PySem.W.Frag} {h : Heap} {mg : Str → Option Value} {f : Addr} (X : K.In h) (G : h.Ns mainGlobals mg) (hlaw : mg ("law" : Str) = some (.ref f)) (c : He.SaysX hfa hfn hts [] hex_ w h K) :
    ∃ fd : FuncData, (∀ (s : Shared) (v : Value), BindsTo s fd ⟨[v], []⟩ [("_law_script", v)]) ∧ ∀ base : Heap, K.In base → base.Ns mainGlobals mg → FnOk P w K mg base CX0 151 f fd ["_law_script"] (up K 1 sp_law) := by
  have D := defs_of X G c
  obtain ⟨fd, F⟩ := c.t.d.def_ 61 (d := d_law) rfl
  have e := hlaw.symm.trans (He.glo_ok X G (c.t.d.fact 61 (f := .glo "law") rfl))
  have b := FunD.bindsA (ps := ["_law_script"]) F fun _ _ _ _ _ _ us hl => match us, hl with | [_], _ => rfl
  cases e
  exact ⟨fd, fun s v => b s [v] rfl, fun base _ _ => law_ok F D (env_of X G c)⟩
theorem law_end {K : PySem.W.Frag} {H : Hp} {a : Addr} {ns : List Int} (hS : SqL K H a (ns.map V.int)) {E : XK} : up K 1 sp_law [.ref a] H (fun v _ => v = .bl true) E := by
  refine ⟨rfl, H, fun _ => none, [.scr ns], fun d _ => d = .bl true, ⟨Same.refl H, fun _ _ e => nomatch e⟩, isDs_one ⟨a, rfl, hS⟩, ⟨ns, rfl, fun _ => rfl⟩, ?_⟩
  intro d m' v F' H' q _ _ i
  subst q
  exact i
end BB
open PySem PySem.W PySem.Calls PyProof.Rows
theorem PySem.Challenge.cw_bytebridge_k39_whole_determined_bytes_ar_holds : PySem.Challenge.rw_bytebridge_k39_whole_determined_bytes_ar.Holds := by
  w_on; o_law
  refine HandSHeadRun.head_any (r := OpenLaw.row PySem.Challenge.rw_bytebridge_k39_whole_determined_bytes_ar) (q := view (OpenLaw.row PySem.Challenge.rw_bytebridge_k39_whole_determined_bytes_ar).prog [69]) (H := BB.hk) (ob := BB.hob) (M := 8000) (loose := BB.hloose) (d := HandSHeadRun.topDef (OpenLaw.row PySem.Challenge.rw_bytebridge_k39_whole_determined_bytes_ar).prog 69) (kwd := []) BB.hob_eq
    (by kernel_rfl) (fun s => by kernel_rfl) BB.hrun (by kernel_rfl) (by kernel_rfl) (by kernel_rfl) (by rfl) (by first | assumption | decide +kernel) (by decide +kernel) ⟨rfl, rfl, rfl, rfl, rfl, by decide +kernel⟩ ?hw ?hc
  case hw => w_witness2
  case hc =>
    refine L2.walk_ofE (l := PySem.Challenge.rw_bytebridge_k39_whole_determined_bytes_ar) (n := 63) (k := 151) (x := "_law_script") (CX := L2.CX0) rfl (by decide) (by kernel_rfl) ⟨rfl, by decide, by decide⟩ ?F (fun _ _ _ _ z => z)
    intro w mg fa h Y G hmg0
    obtain ⟨K, KX, c⟩ := Y
    have hmg : mg ("law" : PySem.Str) = some (.ref fa) := by
      have e : (HandSHeadRun.topDef (OpenLaw.row PySem.Challenge.rw_bytebridge_k39_whole_determined_bytes_ar).prog 69).name = ("law" : PySem.Str) := by kernel_rfl
      rw [← e]
      exact hmg0
    obtain ⟨fd, hb, hF⟩ := BB.law_fn (P := (PySem.Challenge.rw_bytebridge_k39_whole_determined_bytes_ar).prog) (w := w) KX G hmg c
    exact ⟨K, fd, BB.up K 1 BB.sp_law, KX, hb, fun H a ns hl _ hS => BB.law_end hS, hF⟩

