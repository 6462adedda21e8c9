import PyProof.Rows.All
import Wide.All
import OpenK.AllK
import Wide.FinOn
import HandS.ForMost
import HandS.Evl
import HandS.Style
import HandS.IsInst
import HandS.WideBits
import HandS.Wide
import HandS.More
import HandS.CallRecv
import HandS.NoneIn
import HandS.Defaults
import HandS.TupAny
import HandS.DictTup
import HandS.SortRule
import HandS.SortInts
import HandS.HeadEnd
import HandS.HeadHook4
import HandS.Head2
import KE.SortData
import KE.KSortTupAny
import HandS.NamedTupSort
import HandS.Walk
import HandS.Small
import HandS.Zip
import HandS.SortKw
import KE.KDictPairs
import KE.KDictKeyed
import KE.DataMinMax
import KE.KxStill
import KE.KEqDict
import KE.KSortAsk
import KE.RegLcTurns
import PySem.Challenge.RW_potround_k87_whole_pieces_walked_back
set_option Elab.async false
set_option linter.all false
set_option maxRecDepth 100000
set_option maxHeartbeats 4000000

namespace K87
open PySem PySem.Spec PyProof.Rows L2
--nomac
/-! ### the text by places -/
def top (i : Nat) : Stmt := PySem.Challenge.pw_potround_k87_whole_pieces_walked_back.main.body.getD i (.Pass ⟨0, 0, 0, 0⟩)
abbrev s_colour_row : Stmt := top 4
abbrev s_wash_for : Stmt := top 5
abbrev s_ready_at : Stmt := top 6
abbrev s_Batch_init : Stmt := inClass (top 8) 0
abbrev s_PotNow_init : Stmt := inClass (top 9) 0
abbrev s_PotNow_is_busy : Stmt := inClass (top 9) 1
abbrev s_PotNow_word_of : Stmt := inClass (top 9) 2
abbrev s_PotNow_is_streaked : Stmt := inClass (top 9) 3
abbrev s_PotNow_fill : Stmt := inClass (top 9) 4
abbrev s_PotNow_hold : Stmt := inClass (top 9) 5
abbrev s_PotNow_wash : Stmt := inClass (top 9) 6
abbrev s_PotNow_taken : Stmt := inClass (top 9) 7
abbrev s_PotNow_shatter : Stmt := inClass (top 9) 8
abbrev s_PotNow_renew : Stmt := inClass (top 9) 9
abbrev s_batch_words : Stmt := top 12
abbrev s_bare_word : Stmt := top 13
abbrev s_batch_word : Stmt := top 14
abbrev s_Account_init : Stmt := inClass (top 15) 0
abbrev s_Account_has_names : Stmt := inClass (top 15) 1
abbrev s_Account_pot_of : Stmt := inClass (top 15) 2
abbrev s_Account_free_slots : Stmt := inClass (top 15) 3
abbrev s_Account_gather_word : Stmt := inClass (top 15) 4
abbrev s_Account_void_word : Stmt := inClass (top 15) 5
abbrev s_Account_go : Stmt := inClass (top 15) 6
abbrev s_Account_done : Stmt := inClass (top 15) 7
abbrev s_Account_fill_done : Stmt := inClass (top 15) 8
abbrev s_Account_empty_done : Stmt := inClass (top 15) 9
abbrev s_Account_gather_done : Stmt := inClass (top 15) 10
abbrev s_Account_break_done : Stmt := inClass (top 15) 11
abbrev s_Account_look_pot : Stmt := inClass (top 15) 12
abbrev s_Account_rows : Stmt := inClass (top 15) 13
abbrev s_Account_state : Stmt := inClass (top 15) 15
abbrev s_Account_glass : Stmt := inClass (top 15) 16
abbrev s_Account_pieces : Stmt := inClass (top 15) 17
abbrev s_Account_tunnel : Stmt := inClass (top 15) 18
abbrev s_Entered_init : Stmt := inClass (top 17) 0
abbrev s_Entered_own_number : Stmt := inClass (top 17) 1
abbrev s_Entered_put_into : Stmt := inClass (top 17) 2
abbrev s_known_by : Stmt := top 18
abbrev s_next_number : Stmt := top 19
abbrev s_Book_init : Stmt := inClass (top 21) 0
abbrev s_Book_enter : Stmt := inClass (top 21) 2
abbrev s_Book_entries : Stmt := inClass (top 21) 6
abbrev s_folded : Stmt := top 23
abbrev s_draws : Stmt := top 24
abbrev s_take : Stmt := top 25
abbrev s_pick : Stmt := top 26
abbrev s_some_names : Stmt := top 27
abbrev s_shuffled : Stmt := top 28
abbrev s_same : Stmt := top 29
abbrev s_some_washes : Stmt := top 30
abbrev s_a_hall : Stmt := top 31
abbrev s_a_deed : Stmt := top 32
abbrev s_a_story : Stmt := top 33
abbrev s_a_book : Stmt := top 34
abbrev s_led_back : Stmt := top 35
abbrev s_ready_right : Stmt := top 36
abbrev s_slots_right : Stmt := top 37
abbrev s_left_right : Stmt := top 38
abbrev s_pieces_right : Stmt := top 39
abbrev s_right : Stmt := top 40
abbrev s_law : Stmt := top 41
/-! ### defs and facts of the top -/
def d_colour_row : He.DefD := ⟨("colour_row", none), "colour_row", "colour_row", defArgs s_colour_row, defBody s_colour_row, defScope s_colour_row, [], []⟩
def d_wash_for : He.DefD := ⟨("wash_for", none), "wash_for", "wash_for", defArgs s_wash_for, defBody s_wash_for, defScope s_wash_for, [], []⟩
def d_ready_at : He.DefD := ⟨("ready_at", none), "ready_at", "ready_at", defArgs s_ready_at, defBody s_ready_at, defScope s_ready_at, [.int 0], []⟩
def d_Batch_init : He.DefD := ⟨("Batch", some "__init__"), "__init__", "Batch.__init__", defArgs s_Batch_init, defBody s_Batch_init, defScope s_Batch_init, [], []⟩
def d_PotNow_init : He.DefD := ⟨("PotNow", some "__init__"), "__init__", "PotNow.__init__", defArgs s_PotNow_init, defBody s_PotNow_init, defScope s_PotNow_init, [], []⟩
def d_PotNow_is_busy : He.DefD := ⟨("PotNow", some "is_busy"), "is_busy", "PotNow.is_busy", defArgs s_PotNow_is_busy, defBody s_PotNow_is_busy, defScope s_PotNow_is_busy, [], []⟩
def d_PotNow_word_of : He.DefD := ⟨("PotNow", some "word_of"), "word_of", "PotNow.word_of", defArgs s_PotNow_word_of, defBody s_PotNow_word_of, defScope s_PotNow_word_of, [], []⟩
def d_PotNow_is_streaked : He.DefD := ⟨("PotNow", some "is_streaked"), "is_streaked", "PotNow.is_streaked", defArgs s_PotNow_is_streaked, defBody s_PotNow_is_streaked, defScope s_PotNow_is_streaked, [], []⟩
def d_PotNow_fill : He.DefD := ⟨("PotNow", some "fill"), "fill", "PotNow.fill", defArgs s_PotNow_fill, defBody s_PotNow_fill, defScope s_PotNow_fill, [], []⟩
def d_PotNow_hold : He.DefD := ⟨("PotNow", some "hold"), "hold", "PotNow.hold", defArgs s_PotNow_hold, defBody s_PotNow_hold, defScope s_PotNow_hold, [], []⟩
def d_PotNow_wash : He.DefD := ⟨("PotNow", some "wash"), "wash", "PotNow.wash", defArgs s_PotNow_wash, defBody s_PotNow_wash, defScope s_PotNow_wash, [], []⟩
def d_PotNow_taken : He.DefD := ⟨("PotNow", some "taken"), "taken", "PotNow.taken", defArgs s_PotNow_taken, defBody s_PotNow_taken, defScope s_PotNow_taken, [], []⟩
def d_PotNow_shatter : He.DefD := ⟨("PotNow", some "shatter"), "shatter", "PotNow.shatter", defArgs s_PotNow_shatter, defBody s_PotNow_shatter, defScope s_PotNow_shatter, [], []⟩
def d_PotNow_renew : He.DefD := ⟨("PotNow", some "renew"), "renew", "PotNow.renew", defArgs s_PotNow_renew, defBody s_PotNow_renew, defScope s_PotNow_renew, [], []⟩
def d_batch_words : He.DefD := ⟨("batch_words", none), "batch_words", "batch_words", defArgs s_batch_words, defBody s_batch_words, defScope s_batch_words, [], []⟩
def d_bare_word : He.DefD := ⟨("bare_word", none), "bare_word", "bare_word", defArgs s_bare_word, defBody s_bare_word, defScope s_bare_word, [], []⟩
def d_batch_word : He.DefD := ⟨("batch_word", none), "batch_word", "batch_word", defArgs s_batch_word, defBody s_batch_word, defScope s_batch_word, [], []⟩
def d_Account_init : He.DefD := ⟨("Account", some "__init__"), "__init__", "Account.__init__", defArgs s_Account_init, defBody s_Account_init, defScope s_Account_init, [], []⟩
def d_Account_has_names : He.DefD := ⟨("Account", some "has_names"), "has_names", "Account.has_names", defArgs s_Account_has_names, defBody s_Account_has_names, defScope s_Account_has_names, [], []⟩
def d_Account_pot_of : He.DefD := ⟨("Account", some "pot_of"), "pot_of", "Account.pot_of", defArgs s_Account_pot_of, defBody s_Account_pot_of, defScope s_Account_pot_of, [], []⟩
def d_Account_free_slots : He.DefD := ⟨("Account", some "free_slots"), "free_slots", "Account.free_slots", defArgs s_Account_free_slots, defBody s_Account_free_slots, defScope s_Account_free_slots, [], []⟩
def d_Account_gather_word : He.DefD := ⟨("Account", some "gather_word"), "gather_word", "Account.gather_word", defArgs s_Account_gather_word, defBody s_Account_gather_word, defScope s_Account_gather_word, [], []⟩
def d_Account_void_word : He.DefD := ⟨("Account", some "void_word"), "void_word", "Account.void_word", defArgs s_Account_void_word, defBody s_Account_void_word, defScope s_Account_void_word, [], []⟩
def d_Account_go : He.DefD := ⟨("Account", some "go"), "go", "Account.go", defArgs s_Account_go, defBody s_Account_go, defScope s_Account_go, [], []⟩
def d_Account_done : He.DefD := ⟨("Account", some "done"), "done", "Account.done", defArgs s_Account_done, defBody s_Account_done, defScope s_Account_done, [], []⟩
def d_Account_fill_done : He.DefD := ⟨("Account", some "fill_done"), "fill_done", "Account.fill_done", defArgs s_Account_fill_done, defBody s_Account_fill_done, defScope s_Account_fill_done, [], []⟩
def d_Account_empty_done : He.DefD := ⟨("Account", some "empty_done"), "empty_done", "Account.empty_done", defArgs s_Account_empty_done, defBody s_Account_empty_done, defScope s_Account_empty_done, [], []⟩
def d_Account_gather_done : He.DefD := ⟨("Account", some "gather_done"), "gather_done", "Account.gather_done", defArgs s_Account_gather_done, defBody s_Account_gather_done, defScope s_Account_gather_done, [], []⟩
def d_Account_break_done : He.DefD := ⟨("Account", some "break_done"), "break_done", "Account.break_done", defArgs s_Account_break_done, defBody s_Account_break_done, defScope s_Account_break_done, [], []⟩
def d_Account_look_pot : He.DefD := ⟨("Account", some "look_pot"), "look_pot", "Account.look_pot", defArgs s_Account_look_pot, defBody s_Account_look_pot, defScope s_Account_look_pot, [], []⟩
def d_Account_rows : He.DefD := ⟨("Account", some "rows"), "rows", "Account.rows", defArgs s_Account_rows, defBody s_Account_rows, defScope s_Account_rows, [], []⟩
def d_Account_state : He.DefD := ⟨("Account", some "state"), "state", "Account.state", defArgs s_Account_state, defBody s_Account_state, defScope s_Account_state, [], []⟩
def d_Account_glass : He.DefD := ⟨("Account", some "glass"), "glass", "Account.glass", defArgs s_Account_glass, defBody s_Account_glass, defScope s_Account_glass, [], []⟩
def d_Account_pieces : He.DefD := ⟨("Account", some "pieces"), "pieces", "Account.pieces", defArgs s_Account_pieces, defBody s_Account_pieces, defScope s_Account_pieces, [], []⟩
def d_Account_tunnel : He.DefD := ⟨("Account", some "tunnel"), "tunnel", "Account.tunnel", defArgs s_Account_tunnel, defBody s_Account_tunnel, defScope s_Account_tunnel, [], []⟩
def d_Entered_init : He.DefD := ⟨("Entered", some "__init__"), "__init__", "Entered.__init__", defArgs s_Entered_init, defBody s_Entered_init, defScope s_Entered_init, [], []⟩
def d_Entered_own_number : He.DefD := ⟨("Entered", some "own_number"), "own_number", "Entered.own_number", defArgs s_Entered_own_number, defBody s_Entered_own_number, defScope s_Entered_own_number, [], []⟩
def d_Entered_put_into : He.DefD := ⟨("Entered", some "put_into"), "put_into", "Entered.put_into", defArgs s_Entered_put_into, defBody s_Entered_put_into, defScope s_Entered_put_into, [], []⟩
def d_known_by : He.DefD := ⟨("known_by", none), "known_by", "known_by", defArgs s_known_by, defBody s_known_by, defScope s_known_by, [], []⟩
def d_next_number : He.DefD := ⟨("next_number", none), "next_number", "next_number", defArgs s_next_number, defBody s_next_number, defScope s_next_number, [], []⟩
def d_Book_init : He.DefD := ⟨("Book", some "__init__"), "__init__", "Book.__init__", defArgs s_Book_init, defBody s_Book_init, defScope s_Book_init, [.int 12], []⟩
def d_Book_enter : He.DefD := ⟨("Book", some "enter"), "enter", "Book.enter", defArgs s_Book_enter, defBody s_Book_enter, defScope s_Book_enter, [.int 0], []⟩
def d_Book_entries : He.DefD := ⟨("Book", some "entries"), "entries", "Book.entries", defArgs s_Book_entries, defBody s_Book_entries, defScope s_Book_entries, [], []⟩
def d_folded : He.DefD := ⟨("_law_folded", none), "_law_folded", "_law_folded", defArgs s_folded, defBody s_folded, defScope s_folded, [], []⟩
def d_draws : He.DefD := ⟨("_law_draws", none), "_law_draws", "_law_draws", defArgs s_draws, defBody s_draws, defScope s_draws, [], []⟩
def d_take : He.DefD := ⟨("_law_take", none), "_law_take", "_law_take", defArgs s_take, defBody s_take, defScope s_take, [], []⟩
def d_pick : He.DefD := ⟨("_law_pick", none), "_law_pick", "_law_pick", defArgs s_pick, defBody s_pick, defScope s_pick, [], []⟩
def d_some_names : He.DefD := ⟨("_law_some_names", none), "_law_some_names", "_law_some_names", defArgs s_some_names, defBody s_some_names, defScope s_some_names, [], []⟩
def d_shuffled : He.DefD := ⟨("_law_shuffled", none), "_law_shuffled", "_law_shuffled", defArgs s_shuffled, defBody s_shuffled, defScope s_shuffled, [], []⟩
def d_same : He.DefD := ⟨("_law_same", none), "_law_same", "_law_same", defArgs s_same, defBody s_same, defScope s_same, [], []⟩
def d_some_washes : He.DefD := ⟨("_law_some_washes", none), "_law_some_washes", "_law_some_washes", defArgs s_some_washes, defBody s_some_washes, defScope s_some_washes, [], []⟩
def d_a_hall : He.DefD := ⟨("_law_a_hall", none), "_law_a_hall", "_law_a_hall", defArgs s_a_hall, defBody s_a_hall, defScope s_a_hall, [], []⟩
def d_a_deed : He.DefD := ⟨("_law_a_deed", none), "_law_a_deed", "_law_a_deed", defArgs s_a_deed, defBody s_a_deed, defScope s_a_deed, [], []⟩
def d_a_story : He.DefD := ⟨("_law_a_story", none), "_law_a_story", "_law_a_story", defArgs s_a_story, defBody s_a_story, defScope s_a_story, [], []⟩
def d_a_book : He.DefD := ⟨("_law_a_book", none), "_law_a_book", "_law_a_book", defArgs s_a_book, defBody s_a_book, defScope s_a_book, [], []⟩
def d_led_back : He.DefD := ⟨("_law_led_back", none), "_law_led_back", "_law_led_back", defArgs s_led_back, defBody s_led_back, defScope s_led_back, [], []⟩
def d_ready_right : He.DefD := ⟨("_law_ready_right", none), "_law_ready_right", "_law_ready_right", defArgs s_ready_right, defBody s_ready_right, defScope s_ready_right, [], []⟩
def d_slots_right : He.DefD := ⟨("_law_slots_right", none), "_law_slots_right", "_law_slots_right", defArgs s_slots_right, defBody s_slots_right, defScope s_slots_right, [], []⟩
def d_left_right : He.DefD := ⟨("_law_left_right", none), "_law_left_right", "_law_left_right", defArgs s_left_right, defBody s_left_right, defScope s_left_right, [], []⟩
def d_pieces_right : He.DefD := ⟨("_law_pieces_right", none), "_law_pieces_right", "_law_pieces_right", defArgs s_pieces_right, defBody s_pieces_right, defScope s_pieces_right, [], []⟩
def d_right : He.DefD := ⟨("_law_right", none), "_law_right", "_law_right", defArgs s_right, defBody s_right, defScope s_right, [], []⟩
def d_law : He.DefD := ⟨("law", none), "law", "law", defArgs s_law, defBody s_law, defScope s_law, [], []⟩
def fn : List He.DefD := [d_colour_row, d_wash_for, d_ready_at, d_Batch_init, d_PotNow_init, d_PotNow_is_busy, d_PotNow_word_of, d_PotNow_is_streaked, d_PotNow_fill, d_PotNow_hold, d_PotNow_wash, d_PotNow_taken, d_PotNow_shatter, d_PotNow_renew, d_batch_words, d_bare_word, d_batch_word, d_Account_init, d_Account_has_names, d_Account_pot_of, d_Account_free_slots, d_Account_gather_word, d_Account_void_word, d_Account_go, d_Account_done, d_Account_fill_done, d_Account_empty_done, d_Account_gather_done, d_Account_break_done, d_Account_look_pot, d_Account_rows, d_Account_state, d_Account_glass, d_Account_pieces, d_Account_tunnel, d_Entered_init, d_Entered_own_number, d_Entered_put_into, d_known_by, d_next_number, d_Book_init, d_Book_enter, d_Book_entries, d_folded, d_draws, d_take, d_pick, d_some_names, d_shuffled, d_same, d_some_washes, d_a_hall, d_a_deed, d_a_story, d_a_book, d_led_back, d_ready_right, d_slots_right, d_left_right, d_pieces_right, d_right, d_law]
def fa : List He.Fa := [.glo "colour_row",
  .glo "wash_for",
  .glo "ready_at",
  .glo "batch_words",
  .glo "bare_word",
  .glo "batch_word",
  .glo "known_by",
  .glo "next_number",
  .glo "_law_folded",
  .glo "_law_draws",
  .glo "_law_take",
  .glo "_law_pick",
  .glo "_law_some_names",
  .glo "_law_shuffled",
  .glo "_law_same",
  .glo "_law_some_washes",
  .glo "_law_a_hall",
  .glo "_law_a_deed",
  .glo "_law_a_story",
  .glo "_law_a_book",
  .glo "_law_led_back",
  .glo "_law_ready_right",
  .glo "_law_slots_right",
  .glo "_law_left_right",
  .glo "_law_pieces_right",
  .glo "_law_right",
  .glo "law",
  .glo "Batch",
  .cls "Batch",
  .mkr "Batch",
  .noat "Batch" "colour",
  .noat "Batch" "left",
  .noat "Batch" "source",
  .noat "Batch" "charged",
  .noat "Batch" "ready",
  .glo "PotNow",
  .cls "PotNow",
  .mkr "PotNow",
  .noat "PotNow" "whole_now",
  .noat "PotNow" "batch",
  .noat "PotNow" "last_colour",
  .noat "PotNow" "washed_hours",
  .noat "PotNow" "busy_word",
  .noat "PotNow" "busy_until",
  .glo "Account",
  .cls "Account",
  .mkr "Account",
  .noat "Account" "last_hour",
  .noat "Account" "palette",
  .noat "Account" "known_kinds",
  .noat "Account" "known_teams",
  .noat "Account" "known_pots",
  .noat "Account" "many_slots",
  .noat "Account" "cooling_rows",
  .noat "Account" "made_by",
  .noat "Account" "done_rows",
  .noat "Account" "void_rows",
  .glo "Entered",
  .cls "Entered",
  .mkr "Entered",
  .noat "Entered" "number",
  .noat "Entered" "hour",
  .noat "Entered" "deed",
  .glo "Book",
  .cls "Book",
  .mkr "Book",
  .noat "Book" "palette",
  .noat "Book" "kinds",
  .noat "Book" "teams",
  .noat "Book" "pots",
  .noat "Book" "slots",
  .noat "Book" "telling",
  .meth "PotNow" "is_busy",
  .meth "PotNow" "word_of",
  .meth "PotNow" "is_streaked",
  .meth "PotNow" "fill",
  .meth "PotNow" "hold",
  .meth "PotNow" "wash",
  .meth "PotNow" "taken",
  .meth "PotNow" "shatter",
  .meth "PotNow" "renew",
  .meth "Account" "has_names",
  .meth "Account" "pot_of",
  .meth "Account" "free_slots",
  .meth "Account" "gather_word",
  .meth "Account" "void_word",
  .meth "Account" "go",
  .meth "Account" "done",
  .meth "Account" "fill_done",
  .meth "Account" "empty_done",
  .meth "Account" "gather_done",
  .meth "Account" "break_done",
  .meth "Account" "look_pot",
  .meth "Account" "rows",
  .meth "Account" "state",
  .meth "Account" "glass",
  .meth "Account" "pieces",
  .meth "Account" "tunnel",
  .meth "Entered" "own_number",
  .meth "Entered" "put_into",
  .meth "Book" "enter",
  .meth "Book" "entries",
  .glo "NOTHING",
  .free "dict",
  .free "sorted",
  .free "list",
  .free "range",
  .free "len",
  .free "max",
  .free "enumerate",
  .free "abs",
  .free "int",
  .free "divmod",
  .free "isinstance",
  .free "tuple",
  .free "str",
  .free "bool",
  .free "all",
  .free "zip",
  .free "min"]
/-! ### what of the top the walk leans on -/
structure Txt (K : PySem.W.Frag) (mg : Str → Option Value) : Prop where
  says : He.SaysD fa fn K
  glo : ∀ (i : Nat) (x : Str), fa[i]? = some (.glo x) → mg x = some (.ref (He.ga K x))
  free : ∀ (i : Nat) (x : Str), fa[i]? = some (.free x) → mg x = none
  noth : SqT K (fun _ => none) (He.ga K "NOTHING") [.str "", .non]
section
variable {K : PySem.W.Frag} {mg : Str → Option Value}
theorem Txt.g_colour_row (T : Txt K mg) : mg "colour_row" = some (.ref (He.ga K "colour_row")) := T.glo 0 _ rfl
theorem Txt.g_wash_for (T : Txt K mg) : mg "wash_for" = some (.ref (He.ga K "wash_for")) := T.glo 1 _ rfl
theorem Txt.g_ready_at (T : Txt K mg) : mg "ready_at" = some (.ref (He.ga K "ready_at")) := T.glo 2 _ rfl
theorem Txt.g_batch_words (T : Txt K mg) : mg "batch_words" = some (.ref (He.ga K "batch_words")) := T.glo 3 _ rfl
theorem Txt.g_bare_word (T : Txt K mg) : mg "bare_word" = some (.ref (He.ga K "bare_word")) := T.glo 4 _ rfl
theorem Txt.g_batch_word (T : Txt K mg) : mg "batch_word" = some (.ref (He.ga K "batch_word")) := T.glo 5 _ rfl
theorem Txt.g_known_by (T : Txt K mg) : mg "known_by" = some (.ref (He.ga K "known_by")) := T.glo 6 _ rfl
theorem Txt.g_next_number (T : Txt K mg) : mg "next_number" = some (.ref (He.ga K "next_number")) := T.glo 7 _ rfl
theorem Txt.g_folded (T : Txt K mg) : mg "_law_folded" = some (.ref (He.ga K "_law_folded")) := T.glo 8 _ rfl
theorem Txt.g_draws (T : Txt K mg) : mg "_law_draws" = some (.ref (He.ga K "_law_draws")) := T.glo 9 _ rfl
theorem Txt.g_take (T : Txt K mg) : mg "_law_take" = some (.ref (He.ga K "_law_take")) := T.glo 10 _ rfl
theorem Txt.g_pick (T : Txt K mg) : mg "_law_pick" = some (.ref (He.ga K "_law_pick")) := T.glo 11 _ rfl
theorem Txt.g_some_names (T : Txt K mg) : mg "_law_some_names" = some (.ref (He.ga K "_law_some_names")) := T.glo 12 _ rfl
theorem Txt.g_shuffled (T : Txt K mg) : mg "_law_shuffled" = some (.ref (He.ga K "_law_shuffled")) := T.glo 13 _ rfl
theorem Txt.g_same (T : Txt K mg) : mg "_law_same" = some (.ref (He.ga K "_law_same")) := T.glo 14 _ rfl
theorem Txt.g_some_washes (T : Txt K mg) : mg "_law_some_washes" = some (.ref (He.ga K "_law_some_washes")) := T.glo 15 _ rfl
theorem Txt.g_a_hall (T : Txt K mg) : mg "_law_a_hall" = some (.ref (He.ga K "_law_a_hall")) := T.glo 16 _ rfl
theorem Txt.g_a_deed (T : Txt K mg) : mg "_law_a_deed" = some (.ref (He.ga K "_law_a_deed")) := T.glo 17 _ rfl
theorem Txt.g_a_story (T : Txt K mg) : mg "_law_a_story" = some (.ref (He.ga K "_law_a_story")) := T.glo 18 _ rfl
theorem Txt.g_a_book (T : Txt K mg) : mg "_law_a_book" = some (.ref (He.ga K "_law_a_book")) := T.glo 19 _ rfl
theorem Txt.g_led_back (T : Txt K mg) : mg "_law_led_back" = some (.ref (He.ga K "_law_led_back")) := T.glo 20 _ rfl
theorem Txt.g_ready_right (T : Txt K mg) : mg "_law_ready_right" = some (.ref (He.ga K "_law_ready_right")) := T.glo 21 _ rfl
theorem Txt.g_slots_right (T : Txt K mg) : mg "_law_slots_right" = some (.ref (He.ga K "_law_slots_right")) := T.glo 22 _ rfl
theorem Txt.g_left_right (T : Txt K mg) : mg "_law_left_right" = some (.ref (He.ga K "_law_left_right")) := T.glo 23 _ rfl
theorem Txt.g_pieces_right (T : Txt K mg) : mg "_law_pieces_right" = some (.ref (He.ga K "_law_pieces_right")) := T.glo 24 _ rfl
theorem Txt.g_right (T : Txt K mg) : mg "_law_right" = some (.ref (He.ga K "_law_right")) := T.glo 25 _ rfl
theorem Txt.g_law (T : Txt K mg) : mg "law" = some (.ref (He.ga K "law")) := T.glo 26 _ rfl
theorem Txt.g_Batch (T : Txt K mg) : mg "Batch" = some (.ref (He.ga K "Batch")) := T.glo 27 _ rfl
theorem Txt.c_Batch (T : Txt K mg) : Cls K (He.ga K "Batch") := He.cls_ok (T.says.fact 28)
theorem Txt.k_Batch (T : Txt K mg) : Mk K (He.ga K "Batch") (He.ma K (He.ga K "Batch") "__init__") := He.mkr_ok (T.says.fact 29)
theorem Txt.n_Batch_colour (T : Txt K mg) : NoAttr K (He.ga K "Batch") "colour" := He.noat_ok (T.says.fact 30)
theorem Txt.n_Batch_left (T : Txt K mg) : NoAttr K (He.ga K "Batch") "left" := He.noat_ok (T.says.fact 31)
theorem Txt.n_Batch_source (T : Txt K mg) : NoAttr K (He.ga K "Batch") "source" := He.noat_ok (T.says.fact 32)
theorem Txt.n_Batch_charged (T : Txt K mg) : NoAttr K (He.ga K "Batch") "charged" := He.noat_ok (T.says.fact 33)
theorem Txt.n_Batch_ready (T : Txt K mg) : NoAttr K (He.ga K "Batch") "ready" := He.noat_ok (T.says.fact 34)
theorem Txt.g_PotNow (T : Txt K mg) : mg "PotNow" = some (.ref (He.ga K "PotNow")) := T.glo 35 _ rfl
theorem Txt.c_PotNow (T : Txt K mg) : Cls K (He.ga K "PotNow") := He.cls_ok (T.says.fact 36)
theorem Txt.k_PotNow (T : Txt K mg) : Mk K (He.ga K "PotNow") (He.ma K (He.ga K "PotNow") "__init__") := He.mkr_ok (T.says.fact 37)
theorem Txt.n_PotNow_whole_now (T : Txt K mg) : NoAttr K (He.ga K "PotNow") "whole_now" := He.noat_ok (T.says.fact 38)
theorem Txt.n_PotNow_batch (T : Txt K mg) : NoAttr K (He.ga K "PotNow") "batch" := He.noat_ok (T.says.fact 39)
theorem Txt.n_PotNow_last_colour (T : Txt K mg) : NoAttr K (He.ga K "PotNow") "last_colour" := He.noat_ok (T.says.fact 40)
theorem Txt.n_PotNow_washed_hours (T : Txt K mg) : NoAttr K (He.ga K "PotNow") "washed_hours" := He.noat_ok (T.says.fact 41)
theorem Txt.n_PotNow_busy_word (T : Txt K mg) : NoAttr K (He.ga K "PotNow") "busy_word" := He.noat_ok (T.says.fact 42)
theorem Txt.n_PotNow_busy_until (T : Txt K mg) : NoAttr K (He.ga K "PotNow") "busy_until" := He.noat_ok (T.says.fact 43)
theorem Txt.g_Account (T : Txt K mg) : mg "Account" = some (.ref (He.ga K "Account")) := T.glo 44 _ rfl
theorem Txt.c_Account (T : Txt K mg) : Cls K (He.ga K "Account") := He.cls_ok (T.says.fact 45)
theorem Txt.k_Account (T : Txt K mg) : Mk K (He.ga K "Account") (He.ma K (He.ga K "Account") "__init__") := He.mkr_ok (T.says.fact 46)
theorem Txt.n_Account_last_hour (T : Txt K mg) : NoAttr K (He.ga K "Account") "last_hour" := He.noat_ok (T.says.fact 47)
theorem Txt.n_Account_palette (T : Txt K mg) : NoAttr K (He.ga K "Account") "palette" := He.noat_ok (T.says.fact 48)
theorem Txt.n_Account_known_kinds (T : Txt K mg) : NoAttr K (He.ga K "Account") "known_kinds" := He.noat_ok (T.says.fact 49)
theorem Txt.n_Account_known_teams (T : Txt K mg) : NoAttr K (He.ga K "Account") "known_teams" := He.noat_ok (T.says.fact 50)
theorem Txt.n_Account_known_pots (T : Txt K mg) : NoAttr K (He.ga K "Account") "known_pots" := He.noat_ok (T.says.fact 51)
theorem Txt.n_Account_many_slots (T : Txt K mg) : NoAttr K (He.ga K "Account") "many_slots" := He.noat_ok (T.says.fact 52)
theorem Txt.n_Account_cooling_rows (T : Txt K mg) : NoAttr K (He.ga K "Account") "cooling_rows" := He.noat_ok (T.says.fact 53)
theorem Txt.n_Account_made_by (T : Txt K mg) : NoAttr K (He.ga K "Account") "made_by" := He.noat_ok (T.says.fact 54)
theorem Txt.n_Account_done_rows (T : Txt K mg) : NoAttr K (He.ga K "Account") "done_rows" := He.noat_ok (T.says.fact 55)
theorem Txt.n_Account_void_rows (T : Txt K mg) : NoAttr K (He.ga K "Account") "void_rows" := He.noat_ok (T.says.fact 56)
theorem Txt.g_Entered (T : Txt K mg) : mg "Entered" = some (.ref (He.ga K "Entered")) := T.glo 57 _ rfl
theorem Txt.c_Entered (T : Txt K mg) : Cls K (He.ga K "Entered") := He.cls_ok (T.says.fact 58)
theorem Txt.k_Entered (T : Txt K mg) : Mk K (He.ga K "Entered") (He.ma K (He.ga K "Entered") "__init__") := He.mkr_ok (T.says.fact 59)
theorem Txt.n_Entered_number (T : Txt K mg) : NoAttr K (He.ga K "Entered") "number" := He.noat_ok (T.says.fact 60)
theorem Txt.n_Entered_hour (T : Txt K mg) : NoAttr K (He.ga K "Entered") "hour" := He.noat_ok (T.says.fact 61)
theorem Txt.n_Entered_deed (T : Txt K mg) : NoAttr K (He.ga K "Entered") "deed" := He.noat_ok (T.says.fact 62)
theorem Txt.g_Book (T : Txt K mg) : mg "Book" = some (.ref (He.ga K "Book")) := T.glo 63 _ rfl
theorem Txt.c_Book (T : Txt K mg) : Cls K (He.ga K "Book") := He.cls_ok (T.says.fact 64)
theorem Txt.k_Book (T : Txt K mg) : Mk K (He.ga K "Book") (He.ma K (He.ga K "Book") "__init__") := He.mkr_ok (T.says.fact 65)
theorem Txt.n_Book_palette (T : Txt K mg) : NoAttr K (He.ga K "Book") "palette" := He.noat_ok (T.says.fact 66)
theorem Txt.n_Book_kinds (T : Txt K mg) : NoAttr K (He.ga K "Book") "kinds" := He.noat_ok (T.says.fact 67)
theorem Txt.n_Book_teams (T : Txt K mg) : NoAttr K (He.ga K "Book") "teams" := He.noat_ok (T.says.fact 68)
theorem Txt.n_Book_pots (T : Txt K mg) : NoAttr K (He.ga K "Book") "pots" := He.noat_ok (T.says.fact 69)
theorem Txt.n_Book_slots (T : Txt K mg) : NoAttr K (He.ga K "Book") "slots" := He.noat_ok (T.says.fact 70)
theorem Txt.n_Book_telling (T : Txt K mg) : NoAttr K (He.ga K "Book") "telling" := He.noat_ok (T.says.fact 71)
theorem Txt.m_PotNow_is_busy (T : Txt K mg) : Meth K (He.ga K "PotNow") "is_busy" (He.ma K (He.ga K "PotNow") "is_busy") := He.meth_ok (T.says.fact 72)
theorem Txt.m_PotNow_word_of (T : Txt K mg) : Meth K (He.ga K "PotNow") "word_of" (He.ma K (He.ga K "PotNow") "word_of") := He.meth_ok (T.says.fact 73)
theorem Txt.m_PotNow_is_streaked (T : Txt K mg) : Meth K (He.ga K "PotNow") "is_streaked" (He.ma K (He.ga K "PotNow") "is_streaked") := He.meth_ok (T.says.fact 74)
theorem Txt.m_PotNow_fill (T : Txt K mg) : Meth K (He.ga K "PotNow") "fill" (He.ma K (He.ga K "PotNow") "fill") := He.meth_ok (T.says.fact 75)
theorem Txt.m_PotNow_hold (T : Txt K mg) : Meth K (He.ga K "PotNow") "hold" (He.ma K (He.ga K "PotNow") "hold") := He.meth_ok (T.says.fact 76)
theorem Txt.m_PotNow_wash (T : Txt K mg) : Meth K (He.ga K "PotNow") "wash" (He.ma K (He.ga K "PotNow") "wash") := He.meth_ok (T.says.fact 77)
theorem Txt.m_PotNow_taken (T : Txt K mg) : Meth K (He.ga K "PotNow") "taken" (He.ma K (He.ga K "PotNow") "taken") := He.meth_ok (T.says.fact 78)
theorem Txt.m_PotNow_shatter (T : Txt K mg) : Meth K (He.ga K "PotNow") "shatter" (He.ma K (He.ga K "PotNow") "shatter") := He.meth_ok (T.says.fact 79)
theorem Txt.m_PotNow_renew (T : Txt K mg) : Meth K (He.ga K "PotNow") "renew" (He.ma K (He.ga K "PotNow") "renew") := He.meth_ok (T.says.fact 80)
theorem Txt.m_Account_has_names (T : Txt K mg) : Meth K (He.ga K "Account") "has_names" (He.ma K (He.ga K "Account") "has_names") := He.meth_ok (T.says.fact 81)
theorem Txt.m_Account_pot_of (T : Txt K mg) : Meth K (He.ga K "Account") "pot_of" (He.ma K (He.ga K "Account") "pot_of") := He.meth_ok (T.says.fact 82)
theorem Txt.m_Account_free_slots (T : Txt K mg) : Meth K (He.ga K "Account") "free_slots" (He.ma K (He.ga K "Account") "free_slots") := He.meth_ok (T.says.fact 83)
theorem Txt.m_Account_gather_word (T : Txt K mg) : Meth K (He.ga K "Account") "gather_word" (He.ma K (He.ga K "Account") "gather_word") := He.meth_ok (T.says.fact 84)
theorem Txt.m_Account_void_word (T : Txt K mg) : Meth K (He.ga K "Account") "void_word" (He.ma K (He.ga K "Account") "void_word") := He.meth_ok (T.says.fact 85)
theorem Txt.m_Account_go (T : Txt K mg) : Meth K (He.ga K "Account") "go" (He.ma K (He.ga K "Account") "go") := He.meth_ok (T.says.fact 86)
theorem Txt.m_Account_done (T : Txt K mg) : Meth K (He.ga K "Account") "done" (He.ma K (He.ga K "Account") "done") := He.meth_ok (T.says.fact 87)
theorem Txt.m_Account_fill_done (T : Txt K mg) : Meth K (He.ga K "Account") "fill_done" (He.ma K (He.ga K "Account") "fill_done") := He.meth_ok (T.says.fact 88)
theorem Txt.m_Account_empty_done (T : Txt K mg) : Meth K (He.ga K "Account") "empty_done" (He.ma K (He.ga K "Account") "empty_done") := He.meth_ok (T.says.fact 89)
theorem Txt.m_Account_gather_done (T : Txt K mg) : Meth K (He.ga K "Account") "gather_done" (He.ma K (He.ga K "Account") "gather_done") := He.meth_ok (T.says.fact 90)
theorem Txt.m_Account_break_done (T : Txt K mg) : Meth K (He.ga K "Account") "break_done" (He.ma K (He.ga K "Account") "break_done") := He.meth_ok (T.says.fact 91)
theorem Txt.m_Account_look_pot (T : Txt K mg) : Meth K (He.ga K "Account") "look_pot" (He.ma K (He.ga K "Account") "look_pot") := He.meth_ok (T.says.fact 92)
theorem Txt.m_Account_rows (T : Txt K mg) : Meth K (He.ga K "Account") "rows" (He.ma K (He.ga K "Account") "rows") := He.meth_ok (T.says.fact 93)
theorem Txt.m_Account_state (T : Txt K mg) : Meth K (He.ga K "Account") "state" (He.ma K (He.ga K "Account") "state") := He.meth_ok (T.says.fact 94)
theorem Txt.m_Account_glass (T : Txt K mg) : Meth K (He.ga K "Account") "glass" (He.ma K (He.ga K "Account") "glass") := He.meth_ok (T.says.fact 95)
theorem Txt.m_Account_pieces (T : Txt K mg) : Meth K (He.ga K "Account") "pieces" (He.ma K (He.ga K "Account") "pieces") := He.meth_ok (T.says.fact 96)
theorem Txt.m_Account_tunnel (T : Txt K mg) : Meth K (He.ga K "Account") "tunnel" (He.ma K (He.ga K "Account") "tunnel") := He.meth_ok (T.says.fact 97)
theorem Txt.m_Entered_own_number (T : Txt K mg) : Meth K (He.ga K "Entered") "own_number" (He.ma K (He.ga K "Entered") "own_number") := He.meth_ok (T.says.fact 98)
theorem Txt.m_Entered_put_into (T : Txt K mg) : Meth K (He.ga K "Entered") "put_into" (He.ma K (He.ga K "Entered") "put_into") := He.meth_ok (T.says.fact 99)
theorem Txt.m_Book_enter (T : Txt K mg) : Meth K (He.ga K "Book") "enter" (He.ma K (He.ga K "Book") "enter") := He.meth_ok (T.says.fact 100)
theorem Txt.m_Book_entries (T : Txt K mg) : Meth K (He.ga K "Book") "entries" (He.ma K (He.ga K "Book") "entries") := He.meth_ok (T.says.fact 101)
theorem Txt.g_NOTHING (T : Txt K mg) : mg "NOTHING" = some (.ref (He.ga K "NOTHING")) := T.glo 102 _ rfl
theorem Txt.f_dict (T : Txt K mg) : mg "dict" = none := T.free 103 _ rfl
theorem Txt.f_sorted (T : Txt K mg) : mg "sorted" = none := T.free 104 _ rfl
theorem Txt.f_list (T : Txt K mg) : mg "list" = none := T.free 105 _ rfl
theorem Txt.f_range (T : Txt K mg) : mg "range" = none := T.free 106 _ rfl
theorem Txt.f_len (T : Txt K mg) : mg "len" = none := T.free 107 _ rfl
theorem Txt.f_max (T : Txt K mg) : mg "max" = none := T.free 108 _ rfl
theorem Txt.f_enumerate (T : Txt K mg) : mg "enumerate" = none := T.free 109 _ rfl
theorem Txt.f_abs (T : Txt K mg) : mg "abs" = none := T.free 110 _ rfl
theorem Txt.f_int (T : Txt K mg) : mg "int" = none := T.free 111 _ rfl
theorem Txt.f_divmod (T : Txt K mg) : mg "divmod" = none := T.free 112 _ rfl
theorem Txt.f_isinstance (T : Txt K mg) : mg "isinstance" = none := T.free 113 _ rfl
theorem Txt.f_tuple (T : Txt K mg) : mg "tuple" = none := T.free 114 _ rfl
theorem Txt.f_str (T : Txt K mg) : mg "str" = none := T.free 115 _ rfl
theorem Txt.f_bool (T : Txt K mg) : mg "bool" = none := T.free 116 _ rfl
theorem Txt.f_all (T : Txt K mg) : mg "all" = none := T.free 117 _ rfl
theorem Txt.f_zip (T : Txt K mg) : mg "zip" = none := T.free 118 _ rfl
theorem Txt.f_min (T : Txt K mg) : mg "min" = none := T.free 119 _ rfl
end
abbrev f_Batch : List Str := ["colour", "left", "source", "charged", "ready"]
theorem nd_Batch : f_Batch.Nodup := by decide +kernel
abbrev f_PotNow : List Str := ["whole_now", "batch", "last_colour", "washed_hours", "busy_word", "busy_until"]
theorem nd_PotNow : f_PotNow.Nodup := by decide +kernel
abbrev f_Account : List Str := ["last_hour", "palette", "known_kinds", "known_teams", "known_pots", "many_slots", "cooling_rows", "made_by", "done_rows", "void_rows"]
theorem nd_Account : f_Account.Nodup := by decide +kernel
abbrev f_Entered : List Str := ["number", "hour", "deed"]
theorem nd_Entered : f_Entered.Nodup := by decide +kernel
abbrev f_Book : List Str := ["palette", "kinds", "teams", "pots", "slots", "telling"]
theorem nd_Book : f_Book.Nodup := by decide +kernel
/-! ### scopes -/
abbrev n_colour_row : List Str := ["palette", "colour", "row"]
theorem sc_colour_row : FnScope n_colour_row ["palette", "colour"] (defScope s_colour_row) := ⟨rfl, rfl, rfl, by decide +kernel, rfl, by decide +kernel, by decide +kernel⟩
abbrev n_wash_for : List Str := ["palette", "ahead", "behind", "one", "other", "hours"]
theorem sc_wash_for : FnScope n_wash_for ["palette", "ahead", "behind"] (defScope s_wash_for) := ⟨rfl, rfl, rfl, by decide +kernel, rfl, by decide +kernel, by decide +kernel⟩
abbrev n_ready_at : List Str := ["palette", "colour", "at", "name", "charge", "melt", "gathers"]
theorem sc_ready_at : FnScope n_ready_at ["palette", "colour", "at"] (defScope s_ready_at) := ⟨rfl, rfl, rfl, by decide +kernel, rfl, by decide +kernel, by decide +kernel⟩
abbrev n_Batch_init : List Str := ["self", "colour", "left", "source", "charged", "ready"]
theorem sc_Batch_init : FnScope n_Batch_init ["self", "colour", "left", "source", "charged", "ready"] (defScope s_Batch_init) := ⟨rfl, rfl, rfl, by decide +kernel, rfl, by decide +kernel, by decide +kernel⟩
abbrev n_PotNow_init : List Str := ["self"]
theorem sc_PotNow_init : FnScope n_PotNow_init ["self"] (defScope s_PotNow_init) := ⟨rfl, rfl, rfl, by decide +kernel, rfl, by decide +kernel, by decide +kernel⟩
abbrev n_PotNow_is_busy : List Str := ["self", "hour"]
theorem sc_PotNow_is_busy : FnScope n_PotNow_is_busy ["self", "hour"] (defScope s_PotNow_is_busy) := ⟨rfl, rfl, rfl, by decide +kernel, rfl, by decide +kernel, by decide +kernel⟩
abbrev n_PotNow_word_of : List Str := ["self", "hour"]
theorem sc_PotNow_word_of : FnScope n_PotNow_word_of ["self", "hour"] (defScope s_PotNow_word_of) := ⟨rfl, rfl, rfl, by decide +kernel, rfl, by decide +kernel, by decide +kernel⟩
abbrev n_PotNow_is_streaked : List Str := ["self", "palette", "colour", "hours"]
theorem sc_PotNow_is_streaked : FnScope n_PotNow_is_streaked ["self", "palette", "colour"] (defScope s_PotNow_is_streaked) := ⟨rfl, rfl, rfl, by decide +kernel, rfl, by decide +kernel, by decide +kernel⟩
abbrev n_PotNow_fill : List Str := ["self", "palette", "colour", "hour", "number", "name", "charge", "melt", "gathers", "told_colour"]
theorem sc_PotNow_fill : FnScope n_PotNow_fill ["self", "palette", "colour", "hour", "number"] (defScope s_PotNow_fill) := ⟨rfl, rfl, rfl, by decide +kernel, rfl, by decide +kernel, by decide +kernel⟩
abbrev n_PotNow_hold : List Str := ["self", "word", "hour", "hours"]
theorem sc_PotNow_hold : FnScope n_PotNow_hold ["self", "word", "hour", "hours"] (defScope s_PotNow_hold) := ⟨rfl, rfl, rfl, by decide +kernel, rfl, by decide +kernel, by decide +kernel⟩
abbrev n_PotNow_wash : List Str := ["self", "hour", "hours"]
theorem sc_PotNow_wash : FnScope n_PotNow_wash ["self", "hour", "hours"] (defScope s_PotNow_wash) := ⟨rfl, rfl, rfl, by decide +kernel, rfl, by decide +kernel, by decide +kernel⟩
abbrev n_PotNow_taken : List Str := ["self", "many", "batch"]
theorem sc_PotNow_taken : FnScope n_PotNow_taken ["self", "many"] (defScope s_PotNow_taken) := ⟨rfl, rfl, rfl, by decide +kernel, rfl, by decide +kernel, by decide +kernel⟩
abbrev n_PotNow_shatter : List Str := ["self", "batch"]
theorem sc_PotNow_shatter : FnScope n_PotNow_shatter ["self"] (defScope s_PotNow_shatter) := ⟨rfl, rfl, rfl, by decide +kernel, rfl, by decide +kernel, by decide +kernel⟩
abbrev n_PotNow_renew : List Str := ["self", "hour", "warm"]
theorem sc_PotNow_renew : FnScope n_PotNow_renew ["self", "hour", "warm"] (defScope s_PotNow_renew) := ⟨rfl, rfl, rfl, by decide +kernel, rfl, by decide +kernel, by decide +kernel⟩
abbrev n_batch_words : List Str := ["batch"]
theorem sc_batch_words : FnScope n_batch_words ["batch"] (defScope s_batch_words) := ⟨rfl, rfl, rfl, by decide +kernel, rfl, by decide +kernel, by decide +kernel⟩
abbrev n_bare_word : List Str := ["pot", "hour"]
theorem sc_bare_word : FnScope n_bare_word ["pot", "hour"] (defScope s_bare_word) := ⟨rfl, rfl, rfl, by decide +kernel, rfl, by decide +kernel, by decide +kernel⟩
abbrev n_batch_word : List Str := ["pot"]
theorem sc_batch_word : FnScope n_batch_word ["pot"] (defScope s_batch_word) := ⟨rfl, rfl, rfl, by decide +kernel, rfl, by decide +kernel, by decide +kernel⟩
abbrev n_Account_init : List Str := ["self", "book", "hour", "when", "number", "deed", "kind", "rank", "cool", "pot"]
theorem sc_Account_init : FnScope n_Account_init ["self", "book", "hour"] (defScope s_Account_init) := ⟨rfl, rfl, rfl, by decide +kernel, rfl, by decide +kernel, by decide +kernel⟩
abbrev n_Account_has_names : List Str := ["self", "deed", "row"]
theorem sc_Account_has_names : FnScope n_Account_has_names ["self", "deed"] (defScope s_Account_has_names) := ⟨rfl, rfl, rfl, by decide +kernel, rfl, by decide +kernel, by decide +kernel⟩
abbrev n_Account_pot_of : List Str := ["self", "deed"]
theorem sc_Account_pot_of : FnScope n_Account_pot_of ["self", "deed"] (defScope s_Account_pot_of) := ⟨rfl, rfl, rfl, by decide +kernel, rfl, by decide +kernel, by decide +kernel⟩
abbrev n_Account_free_slots : List Str := ["self", "hour", "used", "slot", "kind", "colour", "out"]
theorem sc_Account_free_slots : FnScope n_Account_free_slots ["self", "hour"] (defScope s_Account_free_slots) := ⟨rfl, rfl, rfl, by decide +kernel, rfl, by decide +kernel, by decide +kernel⟩
abbrev n_Account_gather_word : List Str := ["self", "hour", "deed", "word", "team", "name", "kind", "many", "batch"]
theorem sc_Account_gather_word : FnScope n_Account_gather_word ["self", "hour", "deed"] (defScope s_Account_gather_word) := ⟨rfl, rfl, rfl, by decide +kernel, rfl, by decide +kernel, by decide +kernel⟩
abbrev n_Account_void_word : List Str := ["self", "hour", "deed", "pot", "word"]
theorem sc_Account_void_word : FnScope n_Account_void_word ["self", "hour", "deed"] (defScope s_Account_void_word) := ⟨rfl, rfl, rfl, by decide +kernel, rfl, by decide +kernel, by decide +kernel⟩
abbrev n_Account_go : List Str := ["self", "hour", "number", "deed", "word", "many", "batch", "name"]
theorem sc_Account_go : FnScope n_Account_go ["self", "hour", "number", "deed"] (defScope s_Account_go) := ⟨rfl, rfl, rfl, by decide +kernel, rfl, by decide +kernel, by decide +kernel⟩
abbrev n_Account_done : List Str := ["self", "hour", "number", "deed"]
theorem sc_Account_done : FnScope n_Account_done ["self", "hour", "number", "deed"] (defScope s_Account_done) := ⟨rfl, rfl, rfl, by decide +kernel, rfl, by decide +kernel, by decide +kernel⟩
abbrev n_Account_fill_done : List Str := ["self", "hour", "number", "deed", "pot"]
theorem sc_Account_fill_done : FnScope n_Account_fill_done ["self", "hour", "number", "deed"] (defScope s_Account_fill_done) := ⟨rfl, rfl, rfl, by decide +kernel, rfl, by decide +kernel, by decide +kernel⟩
abbrev n_Account_empty_done : List Str := ["self", "deed", "pot", "many"]
theorem sc_Account_empty_done : FnScope n_Account_empty_done ["self", "deed"] (defScope s_Account_empty_done) := ⟨rfl, rfl, rfl, by decide +kernel, rfl, by decide +kernel, by decide +kernel⟩
abbrev n_Account_gather_done : List Str := ["self", "hour", "deed", "batch", "kind", "many", "made", "slot"]
theorem sc_Account_gather_done : FnScope n_Account_gather_done ["self", "hour", "deed"] (defScope s_Account_gather_done) := ⟨rfl, rfl, rfl, by decide +kernel, rfl, by decide +kernel, by decide +kernel⟩
abbrev n_Account_break_done : List Str := ["self", "deed", "batch"]
theorem sc_Account_break_done : FnScope n_Account_break_done ["self", "deed"] (defScope s_Account_break_done) := ⟨rfl, rfl, rfl, by decide +kernel, rfl, by decide +kernel, by decide +kernel⟩
abbrev n_Account_look_pot : List Str := ["self", "name"]
theorem sc_Account_look_pot : FnScope n_Account_look_pot ["self", "name"] (defScope s_Account_look_pot) := ⟨rfl, rfl, rfl, by decide +kernel, rfl, by decide +kernel, by decide +kernel⟩
abbrev n_Account_rows : List Str := ["self"]
theorem sc_Account_rows : FnScope n_Account_rows ["self"] (defScope s_Account_rows) := ⟨rfl, rfl, rfl, by decide +kernel, rfl, by decide +kernel, by decide +kernel⟩
abbrev n_Account_state : List Str := ["self", "pot"]
theorem sc_Account_state : FnScope n_Account_state ["self", "pot"] (defScope s_Account_state) := ⟨rfl, rfl, rfl, by decide +kernel, rfl, by decide +kernel, by decide +kernel⟩
abbrev n_Account_glass : List Str := ["self", "pot", "batch"]
theorem sc_Account_glass : FnScope n_Account_glass ["self", "pot"] (defScope s_Account_glass) := ⟨rfl, rfl, rfl, by decide +kernel, rfl, by decide +kernel, by decide +kernel⟩
abbrev n_Account_pieces : List Str := ["self", "made", "many"]
theorem sc_Account_pieces : FnScope n_Account_pieces ["self"] (defScope s_Account_pieces) := ⟨rfl, rfl, rfl, by decide +kernel, rfl, by decide +kernel, by decide +kernel⟩
abbrev n_Account_tunnel : List Str := ["self", "row"]
theorem sc_Account_tunnel : FnScope n_Account_tunnel ["self"] (defScope s_Account_tunnel) := ⟨rfl, rfl, rfl, by decide +kernel, rfl, by decide +kernel, by decide +kernel⟩
abbrev n_Entered_init : List Str := ["self", "number", "hour", "deed"]
theorem sc_Entered_init : FnScope n_Entered_init ["self", "number", "hour", "deed"] (defScope s_Entered_init) := ⟨rfl, rfl, rfl, by decide +kernel, rfl, by decide +kernel, by decide +kernel⟩
abbrev n_Entered_own_number : List Str := ["self"]
theorem sc_Entered_own_number : FnScope n_Entered_own_number ["self"] (defScope s_Entered_own_number) := ⟨rfl, rfl, rfl, by decide +kernel, rfl, by decide +kernel, by decide +kernel⟩
abbrev n_Entered_put_into : List Str := ["self", "known"]
theorem sc_Entered_put_into : FnScope n_Entered_put_into ["self", "known"] (defScope s_Entered_put_into) := ⟨rfl, rfl, rfl, by decide +kernel, rfl, by decide +kernel, by decide +kernel⟩
abbrev n_known_by : List Str := ["some", "known", "one"]
theorem sc_known_by : FnScope n_known_by ["some"] (defScope s_known_by) := ⟨rfl, rfl, rfl, by decide +kernel, rfl, by decide +kernel, by decide +kernel⟩
abbrev n_next_number : List Str := ["some", "one"]
theorem sc_next_number : FnScope n_next_number ["some"] (defScope s_next_number) := ⟨rfl, rfl, rfl, by decide +kernel, rfl, by decide +kernel, by decide +kernel⟩
abbrev n_Book_init : List Str := ["self", "palette", "kinds", "teams", "pots", "slots"]
theorem sc_Book_init : FnScope n_Book_init ["self", "palette", "kinds", "teams", "pots", "slots"] (defScope s_Book_init) := ⟨rfl, rfl, rfl, by decide +kernel, rfl, by decide +kernel, by decide +kernel⟩
abbrev n_Book_enter : List Str := ["self", "deed", "hour", "number"]
theorem sc_Book_enter : FnScope n_Book_enter ["self", "deed", "hour"] (defScope s_Book_enter) := ⟨rfl, rfl, rfl, by decide +kernel, rfl, by decide +kernel, by decide +kernel⟩
abbrev n_Book_entries : List Str := ["self", "number", "hour", "deed"]
theorem sc_Book_entries : FnScope n_Book_entries ["self"] (defScope s_Book_entries) := ⟨rfl, rfl, rfl, by decide +kernel, rfl, by decide +kernel, by decide +kernel⟩
abbrev n_folded : List Str := ["_law_script", "_law_many", "_law_cells", "_law_k", "_law_cell"]
theorem sc_folded : FnScope n_folded ["_law_script", "_law_many"] (defScope s_folded) := ⟨rfl, rfl, rfl, by decide +kernel, rfl, by decide +kernel, by decide +kernel⟩
abbrev n_draws : List Str := ["_law_script", "_law_k", "_law_cell"]
theorem sc_draws : FnScope n_draws ["_law_script", "_law_k"] (defScope s_draws) := ⟨rfl, rfl, rfl, by decide +kernel, rfl, by decide +kernel, by decide +kernel⟩
abbrev n_take : List Str := ["_law_box", "_law_many", "_law_found", "_law_once", "_law_twice", "_law_wide"]
theorem sc_take : FnScope n_take ["_law_box", "_law_many"] (defScope s_take) := ⟨rfl, rfl, rfl, by decide +kernel, rfl, by decide +kernel, by decide +kernel⟩
abbrev n_pick : List Str := ["_law_box", "_law_some"]
theorem sc_pick : FnScope n_pick ["_law_box", "_law_some"] (defScope s_pick) := ⟨rfl, rfl, rfl, by decide +kernel, rfl, by decide +kernel, by decide +kernel⟩
abbrev n_some_names : List Str := ["_law_box", "_law_many", "_law_letters", "_law_found", "_law_k", "_law_rest", "_law_at", "_law_first", "_law_sign"]
theorem sc_some_names : FnScope n_some_names ["_law_box", "_law_many"] (defScope s_some_names) := ⟨rfl, rfl, rfl, by decide +kernel, rfl, by decide +kernel, by decide +kernel⟩
abbrev n_shuffled : List Str := ["_law_box", "_law_things", "_law_rest", "_law_turn"]
theorem sc_shuffled : FnScope n_shuffled ["_law_box", "_law_things"] (defScope s_shuffled) := ⟨rfl, rfl, rfl, by decide +kernel, rfl, by decide +kernel, by decide +kernel⟩
abbrev n_same : List Str := ["_law_found", "_law_due", "_law_one", "_law_two"]
theorem sc_same : FnScope n_same ["_law_found", "_law_due"] (defScope s_same) := ⟨rfl, rfl, rfl, by decide +kernel, rfl, by decide +kernel, by decide +kernel⟩
abbrev n_some_washes : List Str := ["_law_box", "_law_names", "_law_found", "_law_ahead", "_law_behind", "_law_hours"]
theorem sc_some_washes : FnScope n_some_washes ["_law_box", "_law_names"] (defScope s_some_washes) := ⟨rfl, rfl, rfl, by decide +kernel, rfl, by decide +kernel, by decide +kernel⟩
abbrev n_a_hall : List Str := ["_law_box", "_law_great", "_law_pool", "_law_sizes", "_law_first", "_law_some", "_law_colours", "_law_kinds", "_law_teams", "_law_palette", "_law_slots", "_law_k", "_law_many", "_law_name"]
theorem sc_a_hall : FnScope n_a_hall ["_law_box", "_law_great"] (defScope s_a_hall) := ⟨rfl, rfl, rfl, by decide +kernel, rfl, by decide +kernel, by decide +kernel⟩
abbrev n_a_deed : List Str := ["_law_box", "_law_hall", "_law_names", "_law_some", "_law_colour", "_law_kind", "_law_team", "_law_pot", "_law_way", "_law_many"]
theorem sc_a_deed : FnScope n_a_deed ["_law_box", "_law_hall"] (defScope s_a_deed) := ⟨rfl, rfl, rfl, by decide +kernel, rfl, by decide +kernel, by decide +kernel⟩
abbrev n_a_story : List Str := ["_law_box", "_law_hall", "_law_many", "_law_found", "_law_hour", "_law_turn"]
theorem sc_a_story : FnScope n_a_story ["_law_box", "_law_hall", "_law_many"] (defScope s_a_story) := ⟨rfl, rfl, rfl, by decide +kernel, rfl, by decide +kernel, by decide +kernel⟩
abbrev n_a_book : List Str := ["_law_hall"]
theorem sc_a_book : FnScope n_a_book ["_law_hall"] (defScope s_a_book) := ⟨rfl, rfl, rfl, by decide +kernel, rfl, by decide +kernel, by decide +kernel⟩
abbrev n_led_back : List Str := ["_law_hall", "_law_rows", "_law_fills", "_law_open_by", "_law_hour", "_law_number", "_law_word", "_law_pot", "_law_many", "_law_colour", "_law_source"]
theorem sc_led_back : FnScope n_led_back ["_law_hall", "_law_rows"] (defScope s_led_back) := ⟨rfl, rfl, rfl, by decide +kernel, rfl, by decide +kernel, by decide +kernel⟩
abbrev n_ready_right : List Str := ["_law_hall", "_law_book", "_law_rows", "_law_hour", "_law_number", "_law_deeds", "_law_begun", "_law_word", "_law_pot", "_law_many", "_law_colour", "_law_source", "_law_deed", "_law_row"]
theorem sc_ready_right : FnScope n_ready_right ["_law_hall", "_law_book", "_law_rows"] (defScope s_ready_right) := ⟨rfl, rfl, rfl, by decide +kernel, rfl, by decide +kernel, by decide +kernel⟩
abbrev n_slots_right : List Str := ["_law_hall", "_law_book", "_law_rows", "_law_last", "_law_hour", "_law_deeds", "_law_cool", "_law_kind", "_law_rank", "_law_hours", "_law_lying", "_law_slot", "_law_row", "_law_free", "_law_number", "_law_deed"]
theorem sc_slots_right : FnScope n_slots_right ["_law_hall", "_law_book", "_law_rows", "_law_last"] (defScope s_slots_right) := ⟨rfl, rfl, rfl, by decide +kernel, rfl, by decide +kernel, by decide +kernel⟩
abbrev n_left_right : List Str := ["_law_hall", "_law_account", "_law_led", "_law_fills", "_law_open_by", "_law_pot", "_law_due"]
theorem sc_left_right : FnScope n_left_right ["_law_hall", "_law_account", "_law_led"] (defScope s_left_right) := ⟨rfl, rfl, rfl, by decide +kernel, rfl, by decide +kernel, by decide +kernel⟩
abbrev n_pieces_right : List Str := ["_law_book", "_law_account", "_law_deeds", "_law_due", "_law_row", "_law_made", "_law_hour", "_law_number", "_law_deed", "_law_many"]
theorem sc_pieces_right : FnScope n_pieces_right ["_law_book", "_law_account"] (defScope s_pieces_right) := ⟨rfl, rfl, rfl, by decide +kernel, rfl, by decide +kernel, by decide +kernel⟩
abbrev n_right : List Str := ["_law_box", "_law_hall", "_law_story", "_law_book", "_law_hour", "_law_deed", "_law_last", "_law_rows", "_law_account", "_law_led", "_law_row", "_law_turn"]
theorem sc_right : FnScope n_right ["_law_box"] (defScope s_right) := ⟨rfl, rfl, rfl, by decide +kernel, rfl, by decide +kernel, by decide +kernel⟩
abbrev n_law : List Str := ["_law_script", "_law_cells", "_law_k"]
theorem sc_law : FnScope n_law ["_law_script"] (defScope s_law) := ⟨rfl, rfl, rfl, by decide +kernel, rfl, by decide +kernel, by decide +kernel⟩

end K87

namespace K87
open PySem PySem.Spec PyProof.Rows L2
--nomac
/-! ### the head: the top's run -/
abbrev R : PySem.W.OpenRow := PySem.W.OpenLaw.row PySem.Challenge.rw_potround_k87_whole_pieces_walked_back
def exN (K : PySem.W.Frag) : Bool := He.tupB K "NOTHING" [.str "", .non]
abbrev hk : PySem.W.Hook := He.hookX 4 fa fn [] [] exN
def ob (s : PySem.W.SharedT) : He.AlX := He.obsX 4 fa fn [] [] exN (HandSHeadRun.getT s)
theorem ob_eq (s : PySem.W.SharedT) : ob s = hk.obs s.abs := He.obsX_eq (HandSHeadRun.getT_eq s)
def loose0 : List Str := [("_wall" : Str), ("NoSuch" : Str), ("colour_row" : Str), ("wash_for" : Str), ("ready_at" : Str), ("Batch" : Str), ("PotNow" : Str), ("batch_words" : Str), ("bare_word" : Str), ("batch_word" : Str), ("Account" : Str), ("Entered" : Str)]
def loose1 : List Str := [("known_by" : Str), ("next_number" : Str), ("Book" : Str), ("_law_folded" : Str), ("_law_draws" : Str), ("_law_take" : Str), ("_law_pick" : Str), ("_law_some_names" : Str), ("_law_shuffled" : Str), ("_law_same" : Str), ("_law_some_washes" : Str), ("_law_a_hall" : Str)]
def loose2 : List Str := [("_law_a_deed" : Str), ("_law_a_story" : Str), ("_law_a_book" : Str), ("_law_led_back" : Str), ("_law_ready_right" : Str), ("_law_slots_right" : Str), ("_law_left_right" : Str), ("_law_pieces_right" : Str), ("_law_right" : Str), ("NOTHING" : Str)]
def loose : List Str := loose0 ++ (loose1 ++ (loose2))
theorem run (w : World) : HandSHeadRun.RunEq R (PySem.W.view R.prog [41]) hk ob 4000 loose w := by
  intro os
  kernel_rfl

end K87

namespace K87
open PySem PySem.Spec PyProof.Rows L2
--nomac
/-! ### defs, methods, classes that keep their promises: what a caller takes -/
structure Cal (P : Program) (w : World) (K : PySem.W.Frag) (mg : Str → Option Value) (base : Heap) (k : Nat) (x : Str) (ps : List Str) (sp : Sp) : Prop where
  ex : ∃ (f : Addr) (fd : FuncData), mg x = some (.ref f) ∧ PySem.W.keepIn K (.ref f) = true ∧ Binds K fd ps [] ∧ FnOk P w K mg base CX0 k f fd ps sp
structure MCal (P : Program) (w : World) (K : PySem.W.Frag) (mg : Str → Option Value) (base : Heap) (k : Nat) (C : Addr) (m : Str) (ps : List Str) (sp : Sp) : Prop where
  ex : ∃ (f : Addr) (fd : FuncData), Meth K C m f ∧ Binds K fd ps [] ∧ FnOk P w K mg base CX0 k f fd ps sp
structure KCal (P : Program) (w : World) (K : PySem.W.Frag) (mg : Str → Option Value) (base : Heap) (k : Nat) (x : Str) (C : Addr) (ps : List Str) (sp : Sp) : Prop where
  ex : ∃ (f : Addr) (fd : FuncData), mg x = some (.ref C) ∧ Mk K C f ∧ Binds K fd ps [] ∧ FnOk P w K mg base CX0 k f fd ps sp
section
variable {X : Cx} {k : Nat} {C : Addr} {ps : List Str} {sp : Sp} {x m : Str} {p pos apos : Pos} {e o : Expr} {es : List Expr} {ta : TE} {t : TA}
theorem pe_cal (c : Cal X.prog X.w X.K X.mg X.base k x ps sp) (hr : Room k X.A) (hg : Gl X x) (ha : PA X (e :: es) t) (hdb : (x == ("__debug__" : Str)) = false := by decide)
    (he : starEach (e :: es) X.env = (false, eval e X.env) :: starEach es X.env := by rfl) (hpl : (backTo pos (starEach es X.env)).any (·.1) = false := by rfl) : PE X (.Call (.Name x p) (e :: es) [] pos) (tCall sp [] E0 t) := by
  obtain ⟨f, fd, h1, h2, h3, h4⟩ := c.ex
  exact pe_call h4 hr hg h1 h2 h3 .nil pass0 ha hdb he hpl
theorem pe_mcal {pl : Sem Bool} (he : PE X o ta) (c : Cls X.K C) (M : MCal X.prog X.w X.K X.mg X.base k C m ps sp) (hr : Room k X.A) (ha : PA X (e :: es) t)
    (hst : starEach (e :: es) X.env = (false, eval e X.env) :: starEach es X.env := by rfl) (hpl : (backTo pos (starEach es X.env)).any (·.1) = false := by rfl)
    (ht : eval (.Call (.Attribute o m apos) (e :: es) [] pos) X.env = (do
      let ov ← eval o X.env
      standAt apos.atName
      let (f, first) ← holding [ov] (getMethod ov m pl)
      callWith pos f first (backTo pos (starEach (e :: es) X.env)) (backToKw pos (keywordEach [] X.env))) := by rfl) :
    PE X (.Call (.Attribute o m apos) (e :: es) [] pos) (tMeth C m sp [] E0 ta t) := by
  obtain ⟨f, fd, h1, h3, h4⟩ := M.ex
  exact pe_meth (pl := pl) he c h1 h4 hr h3 .nil pass0 ha hst hpl ht
theorem pe_mcal0 {pl : Sem Bool} (he : PE X o ta) (c : Cls X.K C) (M : MCal X.prog X.w X.K X.mg X.base k C m ps sp) (hr : Room k X.A)
    (ht : eval (.Call (.Attribute o m apos) [] [] pos) X.env = (do
      let ov ← eval o X.env
      standAt apos.atName
      let (f, first) ← holding [ov] (getMethod ov m pl)
      callWith pos f first (backTo pos (starEach [] X.env)) (backToKw pos (keywordEach [] X.env))) := by rfl) :
    PE X (.Call (.Attribute o m apos) [] [] pos) (tMeth C m sp [] E0 ta tNil) := by
  obtain ⟨f, fd, h1, h3, h4⟩ := M.ex
  exact pe_meth0 (pl := pl) he c h1 h4 hr h3 .nil pass0 ht
theorem pe_kcal (c : KCal X.prog X.w X.K X.mg X.base k x C ps sp) (hr : Room (k + 1) X.A) (hg : Gl X x) (ha : PA X (e :: es) t) (hdb : (x == ("__debug__" : Str)) = false := by decide)
    (he : starEach (e :: es) X.env = (false, eval e X.env) :: starEach es X.env := by rfl) (hpl : (backTo pos (starEach es X.env)).any (·.1) = false := by rfl) : PE X (.Call (.Name x p) (e :: es) [] pos) (tMake C sp [] E0 t) := by
  obtain ⟨f, fd, h1, h2, h3, h4⟩ := c.ex
  exact pe_make h2 h4 hr hg h1 h3 .nil pass0 ha hdb he hpl
theorem pe_kcal0 (c : KCal X.prog X.w X.K X.mg X.base k x C ps sp) (hr : Room (k + 1) X.A) (hg : Gl X x) (hdb : (x == ("__debug__" : Str)) = false := by decide) : PE X (.Call (.Name x p) [] [] pos) (tMake C sp [] E0 tNil) := by
  obtain ⟨f, fd, h1, h2, h3, h4⟩ := c.ex
  exact pe_make0 h2 h4 hr hg h1 h3 .nil pass0 hdb
end
section
variable {P : Program} {w : World} {K : PySem.W.Frag} {mg : Str → Option Value} {base : Heap}
/-- a body's duty -/
def BodyOk (P : Program) (w : World) (K : PySem.W.Frag) (mg : Str → Option Value) (base : Heap) (k : Nat) (d : He.DefD) (N : List Str) (sp : Sp) : Prop :=
  ∀ (f : Addr) (cdv : Value) (A : Around) (outer : List Env) (s : Shared) (H : Hp) (vs : List V) (Q : VK) (E : XK), Room k (A.deeper (envOfC d.qual d.scope s.heap.objs.size f cdv)) → sp vs H Q E →
    ∃ t, PSs (cxOf CX0 P w K mg base N d.qual d.scope f cdv A outer s H E).nox d.body t ∧ t { nx := fun _ H' => Q .non H', rt := Q } (start N vs) H
theorem fn_ok {d : He.DefD} {N ps : List Str} {k : Nat} {sp : Sp} {f : Addr} {fd : FuncData} (F : FunD K d.name d.qual d.params d.body d.scope (d.dvs K) (d.kws K) f fd) (S : FnScope N ps d.scope)
    (len : ∀ vs H Q E, sp vs H Q E → vs.length = ps.length) (hb : BodyOk P w K mg base k d N sp) : FnOk P w K mg base CX0 (k + 1) f fd ps sp :=
  F.ok S len fun cdv A outer s H vs Q E hr hsp => by
    obtain ⟨t, h, q⟩ := hb f cdv A outer s H vs Q E hr hsp
    exact ⟨t, h.nox, q⟩
/-- how the parameters of a def without defaults bind -/
abbrev BindN (d : He.DefD) (ps : List Str) : Prop := ∀ (kV doc pm : Value) (an : Option Addr) (cdv ct : Value) (us : List Value), us.length = ps.length → bindArgs (PySem.W.fnOf d.name d.qual d.params d.body d.scope .none kV doc pm an cdv ct) ⟨us, []⟩ = pure (ps.zip us)
theorem cal_mk {d : He.DefD} {N ps : List Str} {k : Nat} {sp : Sp} {x : Str} (T : Txt K mg) (i : Nat) (hi : fn[i]? = some d) (hx : mg x = some (.ref (He.fAd K d.at_))) (S : FnScope N ps d.scope)
    (hd : d.dvs K = []) (hk : d.kws K = []) (hbn : BindN d ps) (len : ∀ vs H Q E, sp vs H Q E → vs.length = ps.length) (hb : BodyOk P w K mg base k d N sp) : Cal P w K mg base (k + 1) x ps sp := by
  obtain ⟨fd, F⟩ := T.says.def_ i hi
  have F' := F
  rw [hd, hk] at F'
  exact ⟨_, fd, hx, F.kp, F'.bindsN hbn, fn_ok F S len hb⟩
theorem mcal_mk {d : He.DefD} {N ps : List Str} {k : Nat} {sp : Sp} {C : Addr} {m : Str} (T : Txt K mg) (i : Nat) (hi : fn[i]? = some d) (hx : Meth K C m (He.fAd K d.at_)) (S : FnScope N ps d.scope)
    (hd : d.dvs K = []) (hk : d.kws K = []) (hbn : BindN d ps) (len : ∀ vs H Q E, sp vs H Q E → vs.length = ps.length) (hb : BodyOk P w K mg base k d N sp) : MCal P w K mg base (k + 1) C m ps sp := by
  obtain ⟨fd, F⟩ := T.says.def_ i hi
  have F' := F
  rw [hd, hk] at F'
  exact ⟨_, fd, hx, F'.bindsN hbn, fn_ok F S len hb⟩
theorem kcal_mk {d : He.DefD} {N ps : List Str} {k : Nat} {sp : Sp} {C : Addr} {x : Str} (T : Txt K mg) (i : Nat) (hi : fn[i]? = some d) (hg : mg x = some (.ref C)) (hx : Mk K C (He.fAd K d.at_)) (S : FnScope N ps d.scope)
    (hd : d.dvs K = []) (hk : d.kws K = []) (hbn : BindN d ps) (len : ∀ vs H Q E, sp vs H Q E → vs.length = ps.length) (hb : BodyOk P w K mg base k d N sp) : KCal P w K mg base (k + 1) x C ps sp := by
  obtain ⟨fd, F⟩ := T.says.def_ i hi
  have F' := F
  rw [hd, hk] at F'
  exact ⟨_, fd, hg, hx, F'.bindsN hbn, fn_ok F S len hb⟩
/-- the same of a def with one default, which is always given -/
abbrev Bind1 (d : He.DefD) (ps : List Str) : Prop := ∀ (T : Addr) (kV doc pm : Value) (an : Option Addr) (cdv ct : Value) (us its : List Value), us.length = ps.length → its.length = 1 →
  ∃ k, bindArgs (PySem.W.fnOf d.name d.qual d.params d.body d.scope (.ref T) kV doc pm an cdv ct) ⟨us, []⟩ = seqItems? (.ref T) >>= k ∧ k (some its.toArray) = pure (ps.zip (us ++ its.drop 1))
theorem binds_1 {d : He.DefD} {ps : List Str} {v : V} {f : Addr} {fd : FuncData} (F : FunD K d.name d.qual d.params d.body d.scope [v] [] f fd) (hbn : Bind1 d ps) : Binds K fd ps [] := by
  obtain ⟨ds, r, b⟩ := F.binds1 ps.length 1 (by simp) (by simp) hbn
  have e : ds = [] := by cases r; rfl
  rw [e] at b
  exact b
theorem cal_mk1 {d : He.DefD} {N ps : List Str} {k : Nat} {sp : Sp} {x : Str} {v : V} (T : Txt K mg) (i : Nat) (hi : fn[i]? = some d) (hx : mg x = some (.ref (He.fAd K d.at_))) (S : FnScope N ps d.scope)
    (hd : d.dvs K = [v]) (hk : d.kws K = []) (hbn : Bind1 d ps) (len : ∀ vs H Q E, sp vs H Q E → vs.length = ps.length) (hb : BodyOk P w K mg base k d N sp) : Cal P w K mg base (k + 1) x ps sp := by
  obtain ⟨fd, F⟩ := T.says.def_ i hi
  have F' := F
  rw [hd, hk] at F'
  exact ⟨_, fd, hx, F.kp, binds_1 F' hbn, fn_ok F S len hb⟩
theorem mcal_mk1 {d : He.DefD} {N ps : List Str} {k : Nat} {sp : Sp} {C : Addr} {m : Str} {v : V} (T : Txt K mg) (i : Nat) (hi : fn[i]? = some d) (hx : Meth K C m (He.fAd K d.at_)) (S : FnScope N ps d.scope)
    (hd : d.dvs K = [v]) (hk : d.kws K = []) (hbn : Bind1 d ps) (len : ∀ vs H Q E, sp vs H Q E → vs.length = ps.length) (hb : BodyOk P w K mg base k d N sp) : MCal P w K mg base (k + 1) C m ps sp := by
  obtain ⟨fd, F⟩ := T.says.def_ i hi
  have F' := F
  rw [hd, hk] at F'
  exact ⟨_, fd, hx, binds_1 F' hbn, fn_ok F S len hb⟩
theorem kcal_mk1 {d : He.DefD} {N ps : List Str} {k : Nat} {sp : Sp} {C : Addr} {x : Str} {v : V} (T : Txt K mg) (i : Nat) (hi : fn[i]? = some d) (hg : mg x = some (.ref C)) (hx : Mk K C (He.fAd K d.at_)) (S : FnScope N ps d.scope)
    (hd : d.dvs K = [v]) (hk : d.kws K = []) (hbn : Bind1 d ps) (len : ∀ vs H Q E, sp vs H Q E → vs.length = ps.length) (hb : BodyOk P w K mg base k d N sp) : KCal P w K mg base (k + 1) x C ps sp := by
  obtain ⟨fd, F⟩ := T.says.def_ i hi
  have F' := F
  rw [hd, hk] at F'
  exact ⟨_, fd, hg, hx, binds_1 F' hbn, fn_ok F S len hb⟩
end

end K87

namespace K87
open PySem PySem.Spec PyProof.Rows L2
--nomac
/-! ### how a heap goes on: all that is tracked outside S stands as it stood; tuples always stand; nothing goes away -/
structure Kp (S : Addr → Prop) (H H' : Hp) : Prop where
  kp : ∀ b o, H b = some o → ¬ S b → H' b = some o
  tp : ∀ b xs, H b = some (.tup xs) → H' b = some (.tup xs)
  th : ∀ b, H' b = none → H b = none
def no : Addr → Prop := fun _ => False
abbrev Ex (H H' : Hp) : Prop := Kp no H H'
section
variable {S S' : Addr → Prop} {H H0 H1 H2 H' : Hp} {p a b : Addr} {o u : HO}
theorem Kp.refl : Kp S H H := ⟨fun _ _ h _ => h, fun _ _ h => h, fun _ h => h⟩
theorem Kp.trans (a : Kp S H H1) (b : Kp S H1 H2) : Kp S H H2 := ⟨fun x o h hs => b.kp x o (a.kp x o h hs) hs, fun x xs h => b.tp x xs (a.tp x xs h), fun x h => a.th x (b.th x h)⟩
theorem Kp.mono (a : Kp S H H1) (h : ∀ x, S x → S' x) : Kp S' H H1 := ⟨fun x o e hs => a.kp x o e fun q => hs (h x q), a.tp, a.th⟩
theorem Kp.ex (a : Ex H H1) : Kp S H H1 := a.mono fun _ h => h.elim
theorem Kp.new (hp : H p = none) : Kp S H (upd H p o) := ⟨fun b u h _ => by rw [upd_ne (ne_of_none h hp)]; exact h, fun b xs h => by rw [upd_ne (ne_of_none h hp)]; exact h, fun b h => by
  by_cases e : b = p
  · rw [e, upd_same] at h; cases h
  · rw [upd_ne e] at h; exact h⟩
theorem Kp.wr (hs : S p) (hp : H p = some u) (hu : ∀ xs, u ≠ .tup xs) : Kp S H (upd H p o) := ⟨fun b v h hn => by
  have e : b ≠ p := fun q => hn (by rw [q]; exact hs)
  rw [upd_ne e]; exact h, fun b xs h => by
  have e : b ≠ p := fun q => by rw [q, hp] at h; exact hu xs (Option.some.inj h)
  rw [upd_ne e]; exact h, fun b h => by
  by_cases e : b = p
  · rw [e, upd_same] at h; cases h
  · rw [upd_ne e] at h; exact h⟩
theorem Kp.wrN (k : Kp S H H1) (hn : H p = none) : Kp S H (upd H1 p o) := ⟨fun b v h hs => by rw [upd_ne (ne_of_none h hn)]; exact k.kp b v h hs, fun b xs h => by rw [upd_ne (ne_of_none h hn)]; exact k.tp b xs h, fun b h => by
  by_cases e : b = p
  · rw [e, upd_same] at h; cases h
  · rw [upd_ne e] at h; exact k.th b h⟩
theorem Kp.nn (k : Kp S H H1) (h : H1 p = none) : H p = none := k.th p h
theorem Kp.get (k : Kp S H H1) (h : H a = some o) (hs : ¬ S a) : H1 a = some o := k.kp a o h hs
theorem Kp.exget (k : Ex H H1) (h : H a = some o) : H1 a = some o := k.kp a o h fun q => q
/-- a call inside: what it changes is S' -/
theorem Kp.call (k : Kp S H0 H) (c : Kp S' H H') (h : ∀ x, S' x → S x ∨ H0 x = none) : Kp S H0 H' := ⟨fun b o e hs => c.kp b o (k.kp b o e hs) fun q => (h b q).elim hs fun z => (by rw [z] at e; cases e), fun b xs e => c.tp b xs (k.tp b xs e), fun b e => k.th b (c.th b e)⟩

/-! ### what is known of a heap: points and their contents, all apart; how it came from H0 -/
structure Cfg (S : Addr → Prop) (H0 : Hp) (D : List (Addr × HO)) (H : Hp) : Prop where
  kp : Kp S H0 H
  nd : (D.map (·.1)).Nodup
  at_ : ∀ x ∈ D, H x.1 = some x.2
variable {D : List (Addr × HO)}
theorem Cfg.start (nd : (D.map (·.1)).Nodup) (h : ∀ x ∈ D, H x.1 = some x.2) : Cfg S H D H := ⟨Kp.refl, nd, h⟩
theorem Cfg.nil : Cfg S H [] H := ⟨Kp.refl, by simp, fun x h => by cases h⟩
theorem Cfg.one (h : H a = some o) : Cfg S H [(a, o)] H := ⟨Kp.refl, by simp, fun x hx => by
  rw [List.mem_singleton] at hx; rw [hx]; exact h⟩
theorem Cfg.get (g : Cfg S H0 D H) (i : Nat) (h : D[i]? = some (a, o)) : H a = some o := g.at_ _ (List.mem_of_getElem? h)
theorem Cfg.ne (g : Cfg S H0 D H) (i j : Nat) (h : D[i]? = some (a, o)) (h' : D[j]? = some (b, u)) (hij : i ≠ j) : a ≠ b := fun e => by
  have e1 : (D.map (·.1))[i]? = some a := by rw [List.getElem?_map, h]; rfl
  have e2 : (D.map (·.1))[j]? = some a := by rw [List.getElem?_map, h', e]; rfl
  exact hij (nd_ix g.nd e1 e2)
theorem Cfg.add (g : Cfg S H0 D H) (h : H p = some o) (hn : ∀ x ∈ D, x.1 ≠ p) : Cfg S H0 ((p, o) :: D) H := ⟨g.kp, by
  show (p :: D.map (·.1)).Nodup
  refine List.nodup_cons.mpr ⟨fun m => ?_, g.nd⟩
  obtain ⟨x, hx, e⟩ := List.mem_map.mp m
  exact hn x hx e, fun x hx => by
  rcases List.mem_cons.mp hx with rfl | hx
  · exact h
  · exact g.at_ x hx⟩
theorem Cfg.new0 (g : Cfg S H0 D H) (hp : H p = none) : Cfg S H0 D (upd H p o) := ⟨g.kp.trans (Kp.new hp), g.nd, fun x hx => by
  rw [upd_ne (ne_of_none (g.at_ x hx) hp)]; exact g.at_ x hx⟩
theorem Cfg.new (g : Cfg S H0 D H) (hp : H p = none) : Cfg S H0 ((p, o) :: D) (upd H p o) := (g.new0 hp).add upd_same fun x hx e => by
  have q := g.at_ x hx
  rw [e, hp] at q; cases q
theorem Cfg.wr (g : Cfg S H0 D H) (i : Nat) (h : D[i]? = some (a, u)) (hu : ∀ xs, u ≠ .tup xs) (hs : S a ∨ H0 a = none) : Cfg S H0 (D.set i (a, o)) (upd H a o) := by
  have ha := g.get i h
  obtain ⟨hi, ei⟩ := List.getElem?_eq_some_iff.mp h
  refine ⟨?_, ?_, fun x hx => ?_⟩
  · rcases hs with hs | hs
    · exact g.kp.trans (Kp.wr hs ha hu)
    · exact g.kp.wrN hs
  · have e : (D.set i (a, o)).map (·.1) = D.map (·.1) := by
      rw [List.map_set]
      refine List.ext_getElem? fun j => ?_
      by_cases hj : i = j
      · subst hj
        rw [List.getElem?_set_self (by rw [List.length_map]; exact hi), List.getElem?_map, h]; rfl
      · rw [List.getElem?_set_ne hj]
    rw [e]; exact g.nd
  · obtain ⟨j, hj⟩ := List.mem_iff_getElem?.mp hx
    by_cases e : i = j
    · subst e
      rw [List.getElem?_set_self hi] at hj
      cases hj
      exact upd_same
    · rw [List.getElem?_set_ne e] at hj
      have ne : x.1 ≠ a := fun q => e (by
        have e1 : (D.map (·.1))[i]? = some a := by rw [List.getElem?_map, h]; rfl
        have e2 : (D.map (·.1))[j]? = some a := by rw [List.getElem?_map, hj, ← q]; rfl
        exact nd_ix g.nd e1 e2)
      rw [upd_ne ne]
      exact g.at_ x (List.mem_of_getElem? hj)
theorem Cfg.ex (g : Cfg S H0 D H) (k : Ex H H') : Cfg S H0 D H' := ⟨g.kp.trans k.ex, g.nd, fun x hx => k.exget (g.at_ x hx)⟩
/-- a call that changes the i-th thing alone -/
theorem Cfg.call1 (g : Cfg S H0 D H) (i : Nat) (h : D[i]? = some (a, u)) (k : Kp (fun b => b = a) H H') (e : H' a = some o) (hs : S a ∨ H0 a = none) : Cfg S H0 (D.set i (a, o)) H' := by
  obtain ⟨hi, ei⟩ := List.getElem?_eq_some_iff.mp h
  refine ⟨g.kp.call k fun x hx => by rw [hx]; exact hs, ?_, fun x hx => ?_⟩
  · have e : (D.set i (a, o)).map (·.1) = D.map (·.1) := by
      rw [List.map_set]
      refine List.ext_getElem? fun j => ?_
      by_cases hj : i = j
      · subst hj
        rw [List.getElem?_set_self (by rw [List.length_map]; exact hi), List.getElem?_map, h]; rfl
      · rw [List.getElem?_set_ne hj]
    rw [e]; exact g.nd
  · obtain ⟨j, hj⟩ := List.mem_iff_getElem?.mp hx
    by_cases e' : i = j
    · subst e'
      rw [List.getElem?_set_self hi] at hj
      cases hj
      exact e
    · rw [List.getElem?_set_ne e'] at hj
      have ne : x.1 ≠ a := fun q => e' (by
        have e1 : (D.map (·.1))[i]? = some a := by rw [List.getElem?_map, h]; rfl
        have e2 : (D.map (·.1))[j]? = some a := by rw [List.getElem?_map, hj, ← q]; rfl
        exact nd_ix g.nd e1 e2)
      exact k.get (g.at_ x (List.mem_of_getElem? hj)) ne
/-- a call that changes S': what of D is outside stands -/
theorem Cfg.call (g : Cfg S H0 D H) (k : Kp S' H H') (hs : ∀ x, S' x → S x ∨ H0 x = none) (hd : ∀ x ∈ D, ¬ S' x.1) : Cfg S H0 D H' := ⟨g.kp.call k hs, g.nd, fun x hx => k.get (g.at_ x hx) (hd x hx)⟩
theorem Cfg.sub {D' : List (Addr × HO)} (g : Cfg S H0 D H) (h : D'.Sublist D) : Cfg S H0 D' H := ⟨g.kp, (h.map _).nodup g.nd, fun x hx => g.at_ x (h.subset hx)⟩
/-- from here on H0 is this heap -/
theorem Cfg.rebase (g : Cfg S H0 D H) : Cfg S' H D H := ⟨Kp.refl, g.nd, g.at_⟩
theorem Cfg.hd (g : Cfg S H0 ((a, o) :: D) H) : H a = some o := g.get 0 rfl
end

/-! ### the box of draws -/
/-- the box at bx: a list of three numbers, at most n draws so far -/
def BoxAt (H : Hp) (bx : Addr) (n : Nat) : Prop := ∃ x y z : Int, H bx = some (.lst [.int x, .int y, .int z]) ∧ 0 ≤ x ∧ 0 ≤ y ∧ y < 4611686018427387904 ∧ 0 ≤ z ∧ z ≤ n
def bxS (bx : Addr) : Addr → Prop := fun b => b = bx
abbrev KB (bx : Addr) (H H' : Hp) : Prop := Kp (bxS bx) H H'
/-- .. and the box, which is none of the points -/
structure Bfg (bx : Addr) (n : Nat) (H0 : Hp) (D : List (Addr × HO)) (H : Hp) : Prop extends Cfg (bxS bx) H0 D H where
  box : BoxAt H bx n
  out : ∀ x ∈ D, x.1 ≠ bx
section
variable {bx : Addr} {n n' : Nat} {H H0 H1 H2 H' : Hp} {p a b : Addr} {o u : HO} {D : List (Addr × HO)}
theorem BoxAt.ex (h : BoxAt H bx n) (k : Ex H H') : BoxAt H' bx n := by
  obtain ⟨x, y, z, h1, h⟩ := h
  exact ⟨x, y, z, k.exget h1, h⟩
theorem BoxAt.le (h : BoxAt H bx n) (l : n ≤ n') : BoxAt H bx n' := by
  obtain ⟨x, y, z, h1, h2, h3, h4, h5, h6⟩ := h
  exact ⟨x, y, z, h1, h2, h3, h4, h5, by omega⟩
theorem BoxAt.new (h : BoxAt H bx n) (hp : H p = none) : BoxAt (upd H p o) bx n := h.ex (Kp.new hp)
theorem BoxAt.ne (h : BoxAt H bx n) (hp : H p = none) : p ≠ bx := by
  obtain ⟨x, y, z, h1, _⟩ := h
  exact (ne_of_none h1 hp).symm
theorem Bfg.start (hb : BoxAt H bx n) : Bfg bx n H [] H := ⟨Cfg.nil, hb, fun x h => by cases h⟩
theorem Bfg.new (g : Bfg bx n H0 D H) (hp : H p = none) : Bfg bx n H0 ((p, o) :: D) (upd H p o) := ⟨g.toCfg.new hp, g.box.new hp, fun x hx => by
  rcases List.mem_cons.mp hx with rfl | hx
  · exact g.box.ne hp
  · exact g.out x hx⟩
theorem Bfg.new0 (g : Bfg bx n H0 D H) (hp : H p = none) : Bfg bx n H0 D (upd H p o) := ⟨g.toCfg.new0 hp, g.box.new hp, g.out⟩
theorem Bfg.wr (g : Bfg bx n H0 D H) (i : Nat) (h : D[i]? = some (a, u)) (hu : ∀ xs, u ≠ .tup xs) (hs : H0 a = none) : Bfg bx n H0 (D.set i (a, o)) (upd H a o) := ⟨g.toCfg.wr i h hu (.inr hs), by
    obtain ⟨x, y, z, h1, h2⟩ := g.box
    exact ⟨x, y, z, by rw [upd_ne (g.out _ (List.mem_of_getElem? h)).symm]; exact h1, h2⟩, fun x hx => by
    have m := List.mem_or_eq_of_mem_set hx
    rcases m with m | rfl
    · exact g.out x m
    · exact g.out (a, u) (List.mem_of_getElem? h)⟩
theorem Bfg.ex (g : Bfg bx n H0 D H) (k : Ex H H') : Bfg bx n H0 D H' := ⟨g.toCfg.ex k, g.box.ex k, g.out⟩
theorem Bfg.draw (g : Bfg bx n H0 D H) (k : KB bx H H') (b : BoxAt H' bx n') : Bfg bx n' H0 D H' := ⟨g.toCfg.call k (fun _ h => .inl h) g.out, b, g.out⟩
theorem Bfg.rebase (g : Bfg bx n H0 D H) : Bfg bx n H D H := ⟨g.toCfg.rebase, g.box, g.out⟩
theorem Bfg.sub {D' : List (Addr × HO)} (g : Bfg bx n H0 D H) (h : D'.Sublist D) : Bfg bx n H0 D' H := ⟨g.toCfg.sub h, g.box, fun x hx => g.out x (h.subset hx)⟩
theorem Bfg.le (g : Bfg bx n H0 D H) (l : n ≤ n') : Bfg bx n' H0 D H := ⟨g.toCfg, g.box.le l, g.out⟩
end

/-! ### steps: what a reading asks, from what is known -/
/-! ### calls of built-ins, by name -/
def rDivmod : List V → Hp → VK → Prop := fun xs H Q => ∃ i j, xs = [.int i, .int j] ∧ CDiv i j ∧ ∀ p, H p = none → Q (.ref p) (upd H p (.tup [.int (i / j), .int (i % j)]))
theorem call_divmodM {X : Cx} : CallR X (.builtin "divmod") rDivmod := call_divmod
section
variable {K : PySem.W.Frag} {σ : L2.St} {H : Hp} {ta tb te : TE} {t : TT} {x y z v : V} {Q : VK} {D : Ends} {tu tw tz : TS} {i j : Nat} {k : Bool}
theorem w_var {QT : V → Hp → Prop} (h : σ[i]? = some (some v)) (q : QT v H) : tVar i σ H QT := ⟨v, h, q⟩
theorem w_c {QT : V → Hp → Prop} (q : QT v H) : tC v σ H QT := q
theorem w_op {r : R2} {QT : V → Hp → Prop} (h : ta σ H fun x H1 => tb σ H1 fun y H2 => r x y H2 QT) : tOp r ta tb σ H QT := h
theorem w_un {r : V → Hp → VK → Prop} {QT : V → Hp → Prop} (h : ta σ H fun x H1 => r x H1 QT) : tUn r ta σ H QT := h
theorem w_test {QT : Bool → Hp → Prop} (h : te σ H fun x H' => ∃ k, x = .bl k ∧ QT k H') : tTest te σ H QT := h
theorem w_tB {QT : Bool → Hp → Prop} (h : te σ H fun x H' => ∃ k, x = .bl k ∧ QT k H') : tB te σ H QT := h
theorem w_bl {R : Bool → Prop} (h : R k) : ∃ k', V.bl k = V.bl k' ∧ R k' := ⟨k, rfl, h⟩
theorem w_I0 {g : Int → Int → V} {a b : Int} {QT : V → Hp → Prop} (q : QT (g a b) H) : rI0 g (.int a) (.int b) H QT := ⟨a, b, rfl, rfl, q⟩
theorem w_I {C : Int → Int → Prop} {g : Int → Int → V} {a b : Int} {QT : V → Hp → Prop} (hc : C a b) (q : QT (g a b) H) : rI C g (.int a) (.int b) H QT := ⟨a, b, rfl, rfl, hc, q⟩
theorem w_eq {QT : V → Hp → Prop} (h : scal x y = true) (q : QT (.bl (decide (x = y))) H) : rEq x y H QT := ⟨h, q⟩
theorem w_ne {QT : V → Hp → Prop} (h : scal x y = true) (q : QT (.bl (!decide (x = y))) H) : rNe x y H QT := ⟨h, q⟩
theorem w_ixL {p : Addr} {xs : List V} {a : Int} {QT : V → Hp → Prop} (h : H p = some (.lst xs)) (ha : atI xs a = some v) (q : QT v H) : rIxL K (.ref p) (.int a) H QT := ⟨p, xs, a, v, rfl, rfl, SqL.of h, ha, q⟩
theorem w_ixT {p : Addr} {xs : List V} {a : Int} {QT : V → Hp → Prop} (h : H p = some (.tup xs)) (ha : atI xs a = some v) (q : QT v H) : rIxT K (.ref p) (.int a) H QT := ⟨p, xs, a, v, rfl, rfl, SqT.of h, ha, q⟩
theorem w_seq {QD : Ends} (h : tu { QD with nx := tz QD } σ H) : tSeq tu tz QD σ H := h
theorem w_next {QD : Ends} (h : QD.nx σ H) : tNext QD σ H := h
theorem w_asg {g : TG} {QD : Ends} (h : te σ H fun x H1 => g x σ H1 QD.nx) : tAsg te g QD σ H := h
theorem w_name {QT : L2.St → Hp → Prop} (h : QT (σ.set i (some v)) H) : gName i v σ H QT := h
theorem w_ret {QD : Ends} (h : te σ H QD.rt) : tRet te QD σ H := h
theorem w_retN {QD : Ends} (h : QD.rt .non H) : tRetN QD σ H := h
theorem w_drop {QD : Ends} (h : te σ H fun _ H1 => QD.nx σ H1) : tDrop te QD σ H := h
theorem w_ifS {QD : Ends} (h : t σ H fun b H1 => if b = true then tu QD σ H1 else tw QD σ H1) : tIfS t tu tw QD σ H := h
theorem w_ifE {QT : V → Hp → Prop} (h : t σ H fun c H1 => if c = true then ta σ H1 QT else tb σ H1 QT) : tIf t ta tb σ H QT := h
theorem w_and {t u : TT} {QT : Bool → Hp → Prop} (h : t σ H fun c H1 => if c = true then u σ H1 QT else QT false H1) : tAnd t u σ H QT := h
theorem w_or {t u : TT} {QT : Bool → Hp → Prop} (h : t σ H fun c H1 => if c = true then QT true H1 else u σ H1 QT) : tOr t u σ H QT := h
theorem w_not {QT : Bool → Hp → Prop} (h : t σ H fun c H1 => QT (!c) H1) : tNot t σ H QT := h
theorem w_andV {QT : V → Hp → Prop} (h : ta σ H fun x H1 => ∃ c, x = .bl c ∧ if c = true then tb σ H1 QT else QT (.bl false) H1) : tAndV ta tb σ H QT := h
theorem w_orV {QT : V → Hp → Prop} (h : ta σ H fun x H1 => ∃ c, x = .bl c ∧ if c = true then QT (.bl true) H1 else tb σ H1 QT) : tOrV ta tb σ H QT := h
theorem w_notV {QT : V → Hp → Prop} (h : ta σ H fun x H1 => ∃ c, x = .bl c ∧ QT (.bl (!c)) H1) : tNotV ta σ H QT := h
theorem w_nil {QT : List V → Hp → Prop} (q : QT [] H) : tNil σ H QT := q
theorem w_cons {tr : TA} {QT : List V → Hp → Prop} (h : ta σ H fun x H1 => tr σ H1 fun xs H2 => QT (x :: xs) H2) : tCons ta tr σ H QT := h
theorem w_call {sp : Sp} {dvs : List V} {E : XK} {tr : TA} {QT : V → Hp → Prop} (h : tr σ H fun vs H1 => sp (vs ++ dvs) H1 QT E) : tCall sp dvs E tr σ H QT := h
theorem w_cb {r : List V → Hp → VK → Prop} {tr : TA} {QT : V → Hp → Prop} (h : tr σ H fun vs H1 => r vs H1 QT) : tCB r tr σ H QT := h
/-- a new object o, given on -/
def New (o : HO) (QT : V → Hp → Prop) (H : Hp) : Prop := ∀ p, H p = none → QT (.ref p) (upd H p o)
theorem w_tup {tr : TA} {QT : V → Hp → Prop} (h : tr σ H fun xs H1 => xs.length ≤ sizeLine ∧ New (.tup xs) QT H1) : tTup tr σ H QT := h
theorem w_lst {tr : TA} {QT : V → Hp → Prop} (h : tr σ H fun xs H1 => xs.length ≤ sizeLine ∧ New (.lst xs) QT H1) : tLst tr σ H QT := h
theorem w_sz {n : Nat} {o : HO} {QT : V → Hp → Prop} (hn : n ≤ 100000) (h : New o QT H) : n ≤ sizeLine ∧ New o QT H := ⟨Nat.le_trans hn (by decide), h⟩
theorem w_isN {QT : V → Hp → Prop} (q : QT (.bl (decide (x = .non))) H) : (fun x y H (Q : VK) => y = V.non ∧ Q (.bl (decide (x = .non))) H) x V.non H QT := ⟨rfl, q⟩
theorem w_meth {C : Addr} {m : Str} {sp : Sp} {dvs : List V} {E : XK} {tr : TA} {QT : V → Hp → Prop} (h : ta σ H fun x H1 => ∃ a dx fs, x = .ref a ∧ H1 a = some (.ins C dx fs) ∧ fs.lookup m = none ∧ tr σ H1 fun vs H2 => sp (x :: (vs ++ dvs)) H2 QT E) :
    tMeth C m sp dvs E ta tr σ H QT := h
/-- an object newly made: it is known from here on -/
theorem w_new {S : Addr → Prop} {H0 : Hp} {DD : List (Addr × HO)} {o : HO} {QT : V → Hp → Prop} (g : Cfg S H0 DD H) (q : ∀ (p : Addr) (H' : Hp), H0 p = none → Cfg S H0 ((p, o) :: DD) H' → QT (.ref p) H') : New o QT H :=
  fun p hp => q p _ (g.kp.nn hp) (g.new hp)
theorem w_newB {bx : Addr} {n : Nat} {H0 : Hp} {DD : List (Addr × HO)} {o : HO} {QT : V → Hp → Prop} (g : Bfg bx n H0 DD H) (q : ∀ (p : Addr) (H' : Hp), H0 p = none → Bfg bx n H0 ((p, o) :: DD) H' → QT (.ref p) H') : New o QT H :=
  fun p hp => q p _ (g.kp.nn hp) (g.new hp)
theorem ite_d {c A B : Prop} [Decidable c] (h1 : c → A) (h2 : ¬ c → B) : if (decide c) = true then A else B := by
  by_cases h : c
  · rw [decide_eq_true h]; exact h1 h
  · rw [decide_eq_false h, if_neg Bool.false_ne_true]; exact h2 h
theorem ite_nd {c A B : Prop} [Decidable c] (h1 : ¬ c → A) (h2 : c → B) : if (!decide c) = true then A else B := by
  by_cases h : c
  · rw [decide_eq_true h]; exact h2 h
  · rw [decide_eq_false h]; exact h1 h
theorem w_setL {p : Addr} {xs : List V} {a : Int} {QT : Hp → Prop} (h : H p = some (.lst xs)) (hj : ixN xs.length a = some j) (q : QT (upd H p (.lst (xs.set j v)))) : rSetL (.ref p) (.int a) v H QT := ⟨p, xs, a, j, rfl, rfl, h, hj, q⟩
/-- xs[a] = v, xs the i-th of what is known -/
theorem w_setG {S : Addr → Prop} {H0 : Hp} {DD : List (Addr × HO)} {p : Addr} {xs : List V} {a : Int} {QT : Hp → Prop} (i : Nat) (g : Cfg S H0 DD H) (h : DD[i]? = some (p, .lst xs)) (hj : ixN xs.length a = some j) (hs : S p ∨ H0 p = none)
    (q : ∀ H', Cfg S H0 (DD.set i (p, .lst (xs.set j v))) H' → QT H') : rSetL (.ref p) (.int a) v H QT := ⟨p, xs, a, j, rfl, rfl, g.get i h, hj, q _ (g.wr i h (fun _ z => by cases z) hs)⟩
theorem w_sub {ti : TE} {ts : TSet} {QT : L2.St → Hp → Prop} (h : ta σ H fun o H1 => ti σ H1 fun i H2 => ts o i v H2 fun H3 => QT σ H3) : gSub ta ti ts v σ H QT := h
theorem w_gTup {n : Nat} {tg : TGs} {p : Addr} {xs : List V} {QT : L2.St → Hp → Prop} (h : H p = some (.tup xs)) (hn : xs.length = n) (q : tg xs σ H QT) : gTup K n tg (.ref p) σ H QT := ⟨p, xs, rfl, SqT.of h, hn, q⟩
theorem w_gCons {g : TG} {tg : TGs} {xs : List V} {QT : L2.St → Hp → Prop} (h : g v σ H fun σ' H' => tg xs σ' H' QT) : gCons g tg (v :: xs) σ H QT := ⟨v, xs, rfl, h⟩
theorem w_gNil {QT : L2.St → Hp → Prop} (h : QT σ H) : gNil [] σ H QT := ⟨rfl, h⟩
theorem w_divmod {a b : Int} {QT : V → Hp → Prop} (h : CDiv a b) (q : New (.tup [.int (a / b), .int (a % b)]) QT H) : rDivmod [.int a, .int b] H QT := ⟨a, b, rfl, h, q⟩
/-! loops: the turns of an iterator -/
def Lp (J : It) (g : TG) (tb : TS) (D : Ends) (σ : L2.St) (H1 : Hp) : Prop := ∃ W : Nat → Nat → L2.St → Hp → Prop, (∃ m, W 0 m σ H1) ∧ ∀ i m σ H, W i m σ H →
  (J.stop i H ∧ D.nx σ H) ∨ (J.go i H ∧ ∃ N : L2.St → Hp → Prop, (∀ σ' H', N σ' H' → ∃ m', m' < m ∧ W (i + 1) m' σ' H') ∧ ∀ x H', J.yld i H x H' → g x σ H' fun σ2 H2 => tb { D with nx := N, ct := N, bk := D.nx } σ2 H2)
theorem w_for {wi : TI} {g : TG} {QD : Ends} (h : wi σ H fun J H1 => Lp J g tu QD σ H1) : tFor wi g tu QD σ H := h
def Lc (J : It) (g : TG) (tt : TT) (te : TE) (vs : List Nat) (Q : VK) (σ : L2.St) (H1 : Hp) : Prop := ∀ D, H1 D = none → ∃ W : Nat → Nat → Hp → Prop, (∃ m, W 0 m (upd H1 D (.lst []))) ∧ ∀ i m H, W i m H →
  (J.stop i H ∧ Q (.ref D) H) ∨ (J.go i H ∧ ∃ Nx : Hp → Prop, (∀ H', Nx H' → ∃ m', m' < m ∧ W (i + 1) m' H') ∧ ∀ x H', J.yld i H x H' → g x (wipe σ vs) H' fun σ2 H2 => wipe σ2 vs = wipe σ vs ∧ tt σ2 H2 fun b H3 =>
    if b = true then te σ2 H3 fun y H4 => ∃ acc, H4 D = some (.lst acc) ∧ acc.length < sizeLine ∧ Nx (upd H4 D (.lst (acc ++ [y]))) else Nx H3)
theorem w_lc {wi : TI} {g : TG} {vs : List Nat} {QT : V → Hp → Prop} (h : wi σ H fun J H1 => Lc J g t te vs QT σ H1) : tLc wi g t te vs σ H QT := h
def rRng1 (vs : List V) (R : It → Hp → Prop) (H1 : Hp) : Prop := ∃ j : Int, vs = [.int j] ∧ -(2 ^ 62) ≤ j ∧ j < 2 ^ 62 ∧ R (Itr 0 j.toNat) H1
theorem w_rng1 {tr : TA} {R : It → Hp → Prop} (h : tr σ H fun vs H1 => rRng1 vs R H1) : iRng1 tr σ H R := h
theorem w_rng1k {a : Int} {R : It → Hp → Prop} (h0 : -1000000 ≤ a) (h1 : a ≤ 1000000) (h : R (Itr 0 a.toNat) H) : rRng1 [.int a] R H := ⟨a, rfl, by omega, by omega, h⟩
def rItL (K : PySem.W.Frag) (x : V) (R : It → Hp → Prop) (H1 : Hp) : Prop := ∃ a, x = .ref a ∧ (∃ xs, SqL K H1 a xs) ∧ R (Itl K a) H1
theorem w_itL {R : It → Hp → Prop} (h : te σ H fun x H1 => rItL K x R H1) : iList K te σ H R := h
theorem w_itLk {p : Addr} {xs : List V} {R : It → Hp → Prop} (hp : H p = some (.lst xs)) (h : R (Itl K p) H) : rItL K (.ref p) R H := ⟨p, rfl, ⟨xs, SqL.of hp⟩, h⟩
def rItT (K : PySem.W.Frag) (x : V) (R : It → Hp → Prop) (H1 : Hp) : Prop := ∃ a, x = .ref a ∧ (∃ xs, SqT K H1 a xs) ∧ R (Itt K a) H1
theorem w_itT {R : It → Hp → Prop} (h : te σ H fun x H1 => rItT K x R H1) : iTup K te σ H R := h
theorem w_itTk {p : Addr} {xs : List V} {R : It → Hp → Prop} (hp : H p = some (.tup xs)) (h : R (Itt K p) H) : rItT K (.ref p) R H := ⟨p, rfl, ⟨xs, SqT.of hp⟩, h⟩
theorem w_yes {QT : Bool → Hp → Prop} (h : QT true H) : tYes σ H QT := h
theorem w_ifT {A B : Prop} (h : A) : if true = true then A else B := by rw [if_pos rfl]; exact h
theorem w_ifF {A B : Prop} (h : B) : if false = true then A else B := by rw [if_neg Bool.false_ne_true]; exact h
/-! lists, texts: length, items, slices, methods -/
def rLenA (K : PySem.W.Frag) : List V → Hp → VK → Prop := fun xs H Q => (∃ p ys, xs = [.ref p] ∧ (SqL K H p ys ∨ SqT K H p ys) ∧ Q (.int ys.length) H) ∨ ∃ z, xs = [.str z] ∧ z.length ≤ sizeLine ∧ Q (.int z.length) H
theorem w_lenL {p : Addr} {xs : List V} {QT : V → Hp → Prop} (h : H p = some (.lst xs)) (q : QT (.int xs.length) H) : rLenA K [.ref p] H QT := .inl ⟨p, xs, rfl, .inl (SqL.of h), q⟩
theorem w_lenT {p : Addr} {xs : List V} {QT : V → Hp → Prop} (h : H p = some (.tup xs)) (q : QT (.int xs.length) H) : rLenA K [.ref p] H QT := .inl ⟨p, xs, rfl, .inr (SqT.of h), q⟩
theorem w_lenS {z : Str} {QT : V → Hp → Prop} (h : z.length ≤ 100000) (q : QT (.int z.length) H) : rLenA K [.str z] H QT := .inr ⟨z, rfl, Nat.le_trans h (by decide), q⟩
theorem w_ixaL {p : Addr} {xs : List V} {a : Int} {QT : V → Hp → Prop} (h : H p = some (.lst xs)) (ha : atI xs a = some v) (q : QT v H) : rIx K (.ref p) (.int a) H QT := .inl (w_ixL h ha q)
theorem w_ixaT {p : Addr} {xs : List V} {a : Int} {QT : V → Hp → Prop} (h : H p = some (.tup xs)) (ha : atI xs a = some v) (q : QT v H) : rIx K (.ref p) (.int a) H QT := .inr (.inl (w_ixT h ha q))
theorem w_ixaS {z : Str} {a : Int} {c : Nat} {QT : V → Hp → Prop} (hz : z.length ≤ 100000) (ha : atI z.cps.toList a = some c) (q : QT (.str ⟨#[c]⟩) H) : rIx K (.str z) (.int a) H QT := .inr (.inr ⟨z, a, c, rfl, rfl, Nat.le_trans hz (by decide), ha, q⟩)
theorem w_ixS {z : Str} {a : Int} {c : Nat} {QT : V → Hp → Prop} (hz : z.length ≤ 100000) (ha : atI z.cps.toList a = some c) (q : QT (.str ⟨#[c]⟩) H) : rIxS (.str z) (.int a) H QT := ⟨z, a, c, rfl, rfl, Nat.le_trans hz (by decide), ha, q⟩
theorem w_bm {T : String} {r : V → List V → Hp → VK → Prop} {tr : TA} {QT : V → Hp → Prop} (h : ta σ H fun x H1 => tyV K T x H1 ∧ tr σ H1 fun xs H2 => r x xs H2 QT) : tBM K T r ta tr σ H QT := h
theorem w_tyL {p : Addr} {xs : List V} {A : Prop} (h : H p = some (.lst xs)) (q : A) : tyV K "list" (.ref p) H ∧ A := ⟨.inl ⟨rfl, xs, SqL.of h⟩, q⟩
theorem w_app {S : Addr → Prop} {H0 : Hp} {DD : List (Addr × HO)} {p : Addr} {xs : List V} {QT : V → Hp → Prop} (i : Nat) (g : Cfg S H0 DD H) (h : DD[i]? = some (p, .lst xs)) (hz : xs.length < 100000) (hs : S p ∨ H0 p = none)
    (q : ∀ H', Cfg S H0 (DD.set i (p, .lst (xs ++ [v]))) H' → QT .non H') : rAppend (.ref p) [v] H QT := ⟨p, xs, v, rfl, rfl, g.get i h, Nat.lt_of_lt_of_le hz (by decide), q _ (g.wr i h (fun _ z => by cases z) hs)⟩
theorem w_appB {bx : Addr} {n : Nat} {H0 : Hp} {DD : List (Addr × HO)} {p : Addr} {xs : List V} {QT : V → Hp → Prop} (i : Nat) (g : Bfg bx n H0 DD H) (h : DD[i]? = some (p, .lst xs)) (hz : xs.length < 100000) (hs : H0 p = none)
    (q : ∀ H', Bfg bx n H0 (DD.set i (p, .lst (xs ++ [v]))) H' → QT .non H') : rAppend (.ref p) [v] H QT := ⟨p, xs, v, rfl, rfl, g.get i h, Nat.lt_of_lt_of_le hz (by decide), q _ (g.wr i h (fun _ z => by cases z) hs)⟩
def rSlL' (K : PySem.W.Frag) : V → Option Int → Option Int → Hp → VK → Prop := rSlL K
theorem w_sl {r : V → Option Int → Option Int → Hp → VK → Prop} {tl th : TO} {QT : V → Hp → Prop} (h : te σ H fun x H1 => tl σ H1 fun l H2 => th σ H2 fun u H3 => r x l u H3 QT) : tSl r te tl th σ H QT := h
theorem w_noPart {QT : Option Int → Hp → Prop} (h : QT none H) : tNoPart σ H QT := h
def rPart (x : V) (Q : Option Int → Hp → Prop) (H : Hp) : Prop := ∃ i, x = .int i ∧ Q (some i) H
theorem w_part {QT : Option Int → Hp → Prop} (h : te σ H fun x H1 => rPart x QT H1) : tPart te σ H QT := h
theorem w_partk {a : Int} {QT : Option Int → Hp → Prop} (h : QT (some a) H) : rPart (.int a) QT H := ⟨a, rfl, h⟩
theorem w_slL {p : Addr} {xs : List V} {lo hi : Option Int} {QT : V → Hp → Prop} (h : H p = some (.lst xs)) (q : New (.lst (cutV xs lo hi)) QT H) : rSlL K (.ref p) lo hi H QT := ⟨p, xs, rfl, SqL.of h, q⟩
theorem w_slS {z : Str} {lo hi : Option Int} {QT : V → Hp → Prop} (hz : z.length ≤ 100000) (q : QT (.str (cutS z lo hi)) H) : rSlS (.str z) lo hi H QT := ⟨z, rfl, Nat.le_trans hz (by decide), q⟩
def rAddStr : R2 := fun x y H Q => ∃ i j, x = .str i ∧ y = .str j ∧ i.length + j.length ≤ sizeLine ∧ Q (.str (i ++ j)) H
theorem w_addS {a b : Str} {QT : V → Hp → Prop} (hz : a.length + b.length ≤ 100000) (q : QT (.str (a ++ b)) H) : rAddStr (.str a) (.str b) H QT := ⟨a, b, rfl, rfl, Nat.le_trans hz (by decide), q⟩
theorem w_par {tr : TA} {QD : Ends} (h : tr σ H fun vs H1 => ∃ v w, vs = [v, w] ∧ QD.nx ((σ.set i (some v)).set j (some w)) H1) : tPar i j tr QD σ H := h
theorem w_par2 {QT : V → V → Prop} (h : QT x y) : ∃ v w, [x, y] = [v, w] ∧ QT v w := ⟨x, y, rfl, h⟩
def rListOf (K : PySem.W.Frag) : List V → Hp → VK → Prop := fun xs H Q => ∃ p ys, xs = [.ref p] ∧ (SqL K H p ys ∨ SqT K H p ys) ∧ ∀ l, H l = none → Q (.ref l) (upd H l (.lst ys))
theorem w_listL {p : Addr} {xs : List V} {QT : V → Hp → Prop} (h : H p = some (.lst xs)) (q : New (.lst xs) QT H) : rListOf K [.ref p] H QT := ⟨p, xs, rfl, .inl (SqL.of h), q⟩
def rTupOf (K : PySem.W.Frag) : List V → Hp → VK → Prop := fun xs H Q => ∃ p ys, xs = [.ref p] ∧ ((SqL K H p ys ∧ ∀ l, H l = none → Q (.ref l) (upd H l (.tup ys))) ∨ (SqT K H p ys ∧ Q (.ref p) H))
theorem w_tupL {p : Addr} {xs : List V} {QT : V → Hp → Prop} (h : H p = some (.lst xs)) (q : New (.tup xs) QT H) : rTupOf K [.ref p] H QT := ⟨p, xs, rfl, .inl ⟨SqL.of h, q⟩⟩
def rJoin (K : PySem.W.Frag) : V → List V → Hp → VK → Prop := fun x xs H Q => ∃ a p, ∃ ys : List Str, x = .str a ∧ xs = [.ref p] ∧ (SqL K H p (ys.map V.str) ∨ SqT K H p (ys.map V.str)) ∧
      (ys.map (·.length)).sum + ys.length * a.length ≤ 16777216 ∧ Q (.str (Txt.join a ys)) H
theorem w_m1 {r : V → List V → Hp → VK → Prop} {QT : V → Hp → Prop} (h : ta σ H fun x H1 => (∃ a, x = .str a) ∧ tb σ H1 fun y H2 => r x [y] H2 QT) : tM1 r ta tb σ H QT := h
theorem w_isS {z : Str} {A : Prop} (q : A) : (∃ a, V.str z = .str a) ∧ A := ⟨⟨z, rfl⟩, q⟩
theorem w_join {a : Str} {p : Addr} {ys : List Str} {QT : V → Hp → Prop} (h : H p = some (.lst (ys.map V.str))) (hz : (ys.map (·.length)).sum + ys.length * a.length ≤ 16777216) (q : QT (.str (Txt.join a ys)) H) : rJoin K (.str a) [.ref p] H QT :=
  ⟨a, p, ys, rfl, rfl, .inl (SqL.of h), hz, q⟩
def rInsert : V → List V → Hp → VK → Prop := fun x vs H Q => ∃ (l : Addr) (xs : List V) (i : Int) (y : V), x = .ref l ∧ vs = [.int i, y] ∧ H l = some (.lst xs) ∧ xs.length < sizeLine ∧ 0 ≤ i ∧ i < 2 ^ 63 ∧ Q .non (upd H l (.lst (xs.take i.toNat ++ [y] ++ xs.drop i.toNat)))
theorem w_insB {bx : Addr} {n : Nat} {H0 : Hp} {DD : List (Addr × HO)} {p : Addr} {xs : List V} {a : Int} {QT : V → Hp → Prop} (i : Nat) (g : Bfg bx n H0 DD H) (h : DD[i]? = some (p, .lst xs)) (hz : xs.length < 100000) (h0 : 0 ≤ a) (h1 : a < 1000000) (hs : H0 p = none)
    (q : ∀ H', Bfg bx n H0 (DD.set i (p, .lst (xs.take a.toNat ++ [v] ++ xs.drop a.toNat))) H' → QT .non H') : rInsert (.ref p) [.int a, v] H QT := ⟨p, xs, a, v, rfl, rfl, g.get i h, Nat.lt_of_lt_of_le hz (by decide), h0, by omega, q _ (g.wr i h (fun _ z => by cases z) hs)⟩
theorem w_popB {bx : Addr} {n : Nat} {H0 : Hp} {DD : List (Addr × HO)} {p : Addr} {xs : List V} {a : Nat} {QT : V → Hp → Prop} (i : Nat) (g : Bfg bx n H0 DD H) (h : DD[i]? = some (p, .lst xs)) (h1 : a < 1000000) (hk : seqIndex? (a : Int) xs.length = some a) (hv : xs[a]? = some v) (hs : H0 p = none)
    (q : ∀ H', Bfg bx n H0 (DD.set i (p, .lst (xs.eraseIdx a))) H' → QT v H') : rPopAt (.ref p) [.int (a : Int)] H QT := ⟨p, xs, a, a, v, rfl, rfl, g.get i h, by omega, by omega, hk, hv, q _ (g.wr i h (fun _ z => by cases z) hs)⟩
end
/-! the same as equations, for simp: what is behind a statement stays shut (Nx) -/
section
variable {K : PySem.W.Frag} {σ : L2.St} {H : Hp} {ta tb te : TE} {t u : TT} {x y z v : V} {D : Ends} {tu tw : TS} {i j : Nat} {tr : TA} {QT : V → Hp → Prop} {QB : Bool → Hp → Prop} {QL : List V → Hp → Prop} {QS : L2.St → Hp → Prop}
def Nx (Q : L2.St → Hp → Prop) (σ : L2.St) (H : Hp) : Prop := Q σ H
theorem w_nx (h : QS σ H) : Nx QS σ H := h
theorem u_nxE : D.nx σ H = Nx D.nx σ H := rfl
def Blk (tu : TS) (D : Ends) (σ : L2.St) (H : Hp) : Prop := tu D σ H
theorem w_blk (h : tu D σ H) : Blk tu D σ H := h
theorem u_var : tVar i σ H QT = (∃ v, σ[i]? = some (some v) ∧ QT v H) := rfl
theorem u_c : tC v σ H QT = QT v H := rfl
theorem u_op {r : R2} : tOp r ta tb σ H QT = ta σ H fun x H1 => tb σ H1 fun y H2 => r x y H2 QT := rfl
theorem u_un {r : V → Hp → VK → Prop} : tUn r ta σ H QT = ta σ H fun x H1 => r x H1 QT := rfl
theorem u_test : tTest te σ H QB = te σ H fun x H' => ∃ k, x = .bl k ∧ QB k H' := rfl
theorem u_tB : tB te σ H QB = te σ H fun x H' => ∃ k, x = .bl k ∧ QB k H' := rfl
theorem u_bl {b : Bool} {R : Bool → Prop} : (∃ k, V.bl b = V.bl k ∧ R k) = R b := propext ⟨fun ⟨k, e, h⟩ => by cases e; exact h, fun h => ⟨b, rfl, h⟩⟩
theorem u_I0 {g : Int → Int → V} {a b : Int} : rI0 g (.int a) (.int b) H QT = QT (g a b) H := propext ⟨fun ⟨i, j, e1, e2, h⟩ => by cases e1; cases e2; exact h, fun h => ⟨a, b, rfl, rfl, h⟩⟩
theorem u_eqS {a b : Str} : rEq (.str a) (.str b) H QT = QT (.bl (decide (a = b))) H := propext ⟨fun ⟨_, h⟩ => by
  have e : decide (V.str a = V.str b) = decide (a = b) := by
    by_cases q : a = b
    · subst q; simp
    · simp [q]
  rw [e] at h; exact h, fun h => ⟨rfl, by
  have e : decide (V.str a = V.str b) = decide (a = b) := by
    by_cases q : a = b
    · subst q; simp
    · simp [q]
  rw [e]; exact h⟩⟩
theorem u_eqI {a b : Int} : rEq (.int a) (.int b) H QT = QT (.bl (decide (a = b))) H := propext ⟨fun ⟨_, h⟩ => by
  have e : decide (V.int a = V.int b) = decide (a = b) := by
    by_cases q : a = b
    · subst q; simp
    · simp [q]
  rw [e] at h; exact h, fun h => ⟨rfl, by
  have e : decide (V.int a = V.int b) = decide (a = b) := by
    by_cases q : a = b
    · subst q; simp
    · simp [q]
  rw [e]; exact h⟩⟩
theorem u_neS {a b : Str} : rNe (.str a) (.str b) H QT = QT (.bl (!decide (a = b))) H := propext ⟨fun ⟨_, h⟩ => by
  have e : decide (V.str a = V.str b) = decide (a = b) := by
    by_cases q : a = b
    · subst q; simp
    · simp [q]
  rw [e] at h; exact h, fun h => ⟨rfl, by
  have e : decide (V.str a = V.str b) = decide (a = b) := by
    by_cases q : a = b
    · subst q; simp
    · simp [q]
  rw [e]; exact h⟩⟩
theorem u_neI {a b : Int} : rNe (.int a) (.int b) H QT = QT (.bl (!decide (a = b))) H := propext ⟨fun ⟨_, h⟩ => by
  have e : decide (V.int a = V.int b) = decide (a = b) := by
    by_cases q : a = b
    · subst q; simp
    · simp [q]
  rw [e] at h; exact h, fun h => ⟨rfl, by
  have e : decide (V.int a = V.int b) = decide (a = b) := by
    by_cases q : a = b
    · subst q; simp
    · simp [q]
  rw [e]; exact h⟩⟩
theorem u_seq : tSeq tu tw D σ H = tu { D with nx := tw D } σ H := rfl
theorem u_next : tNext D σ H = Nx D.nx σ H := rfl
theorem u_asg {g : TG} : tAsg te g D σ H = te σ H fun x H1 => g x σ H1 D.nx := rfl
theorem u_name : gName i v σ H QS = Nx QS (σ.set i (some v)) H := rfl
theorem u_ret : tRet te D σ H = te σ H D.rt := rfl
theorem u_retN : tRetN D σ H = D.rt .non H := rfl
theorem u_drop : tDrop te D σ H = te σ H fun _ H1 => Nx D.nx σ H1 := rfl
theorem u_ifS : tIfS t tu tw D σ H = t σ H fun b H1 => if b = true then Blk tu D σ H1 else Blk tw D σ H1 := rfl
theorem u_ifE : tIf t ta tb σ H QT = t σ H fun c H1 => if c = true then ta σ H1 QT else tb σ H1 QT := rfl
theorem u_and : tAnd t u σ H QB = t σ H fun c H1 => if c = true then u σ H1 QB else QB false H1 := rfl
theorem u_or : tOr t u σ H QB = t σ H fun c H1 => if c = true then QB true H1 else u σ H1 QB := rfl
theorem u_not : tNot t σ H QB = t σ H fun c H1 => QB (!c) H1 := rfl
theorem u_andV : tAndV ta tb σ H QT = ta σ H fun x H1 => ∃ c, x = .bl c ∧ if c = true then tb σ H1 QT else QT (.bl false) H1 := rfl
theorem u_orV : tOrV ta tb σ H QT = ta σ H fun x H1 => ∃ c, x = .bl c ∧ if c = true then QT (.bl true) H1 else tb σ H1 QT := rfl
theorem u_notV : tNotV ta σ H QT = ta σ H fun x H1 => ∃ c, x = .bl c ∧ QT (.bl (!c)) H1 := rfl
theorem u_nil : tNil σ H QL = QL [] H := rfl
theorem u_cons : tCons ta tr σ H QL = ta σ H fun x H1 => tr σ H1 fun xs H2 => QL (x :: xs) H2 := rfl
theorem u_call {sp : Sp} {E : XK} : tCall sp [] E tr σ H QT = tr σ H fun vs H1 => sp vs H1 QT E := by
  show (tr σ H fun vs H1 => sp (vs ++ []) H1 QT E) = _
  congr; funext vs H1; rw [List.append_nil]
theorem u_cb {r : List V → Hp → VK → Prop} : tCB r tr σ H QT = tr σ H fun vs H1 => r vs H1 QT := rfl
theorem u_tup : tTup tr σ H QT = tr σ H fun xs H1 => xs.length ≤ sizeLine ∧ New (.tup xs) QT H1 := rfl
theorem u_lst : tLst tr σ H QT = tr σ H fun xs H1 => xs.length ≤ sizeLine ∧ New (.lst xs) QT H1 := rfl
theorem u_sub {ti : TE} {ts : TSet} : gSub ta ti ts v σ H QS = ta σ H fun o H1 => ti σ H1 fun i H2 => ts o i v H2 fun H3 => Nx QS σ H3 := rfl
theorem u_gNil : gNil [] σ H QS = Nx QS σ H := propext ⟨fun h => h.2, fun h => ⟨rfl, h⟩⟩
theorem u_gCons {g : TG} {tg : TGs} {xs : List V} : gCons g tg (v :: xs) σ H QS = g v σ H fun σ' H' => tg xs σ' H' QS := propext ⟨fun ⟨v', r, e, h⟩ => by cases e; exact h, fun h => ⟨v, xs, rfl, h⟩⟩
theorem u_bm {T : String} {r : V → List V → Hp → VK → Prop} : tBM K T r ta tr σ H QT = ta σ H fun x H1 => tyV K T x H1 ∧ tr σ H1 fun xs H2 => r x xs H2 QT := rfl
theorem u_m1 {r : V → List V → Hp → VK → Prop} : tM1 r ta tb σ H QT = ta σ H fun x H1 => (∃ a, x = .str a) ∧ tb σ H1 fun y H2 => r x [y] H2 QT := rfl
theorem u_isS {a : Str} : (∃ z, V.str a = V.str z) = True := eq_true ⟨a, rfl⟩
theorem u_sl {r : V → Option Int → Option Int → Hp → VK → Prop} {tl th : TO} : tSl r te tl th σ H QT = te σ H fun x H1 => tl σ H1 fun l H2 => th σ H2 fun u H3 => r x l u H3 QT := rfl
theorem u_noPart {QO : Option Int → Hp → Prop} : tNoPart σ H QO = QO none H := rfl
theorem u_part {QO : Option Int → Hp → Prop} : tPart te σ H QO = te σ H fun x H1 => rPart x QO H1 := rfl
theorem u_partk {a : Int} {QO : Option Int → Hp → Prop} : rPart (.int a) QO H = QO (some a) H := propext ⟨fun ⟨i, e, h⟩ => by cases e; exact h, fun h => ⟨a, rfl, h⟩⟩
theorem u_par : tPar i j tr D σ H = tr σ H fun vs H1 => ∃ v w, vs = [v, w] ∧ Nx D.nx ((σ.set i (some v)).set j (some w)) H1 := rfl
theorem u_par2 {R : V → V → Prop} : (∃ v w, [x, y] = [v, w] ∧ R v w) = R x y := propext ⟨fun ⟨v, w, e, h⟩ => by cases e; exact h, fun h => ⟨x, y, rfl, h⟩⟩
theorem u_for {wi : TI} {g : TG} : tFor wi g tu D σ H = wi σ H fun J H1 => Lp J g tu D σ H1 := rfl
theorem u_lc {wi : TI} {g : TG} {vs : List Nat} : tLc wi g t te vs σ H QT = wi σ H fun J H1 => Lc J g t te vs QT σ H1 := rfl
theorem u_rng1 {R : It → Hp → Prop} : iRng1 tr σ H R = tr σ H fun vs H1 => rRng1 vs R H1 := rfl
theorem u_itL {R : It → Hp → Prop} : iList K te σ H R = te σ H fun x H1 => rItL K x R H1 := rfl
theorem u_itT {R : It → Hp → Prop} : iTup K te σ H R = te σ H fun x H1 => rItT K x R H1 := rfl
theorem u_yes : tYes σ H QB = QB true H := rfl
theorem u_some {α : Type} {a : α} {R : α → Prop} : (∃ v, some (some a) = some (some v) ∧ R v) = R a := propext ⟨fun ⟨v, e, h⟩ => by cases e; exact h, fun h => ⟨a, rfl, h⟩⟩
theorem u_i0 {α : Type} {a : α} {l : List α} : (a :: l)[0]? = some a := rfl
theorem u_i1 {α : Type} {a : α} {l : List α} {n : Nat} : (a :: l)[n + 1]? = l[n]? := rfl
end
theorem u_K {CX : CXT} {P : Program} {w : World} {K : PySem.W.Frag} {mg : Str → Option Value} {base : Heap} {N : List Str} {qual : Str} {scope : Scope} {f : Addr} {cd : Value} {A : Around} {outer : List Env} {s : Shared} {H : Hp} {E : XK} :
    (cxOf CX P w K mg base N qual scope f cd A outer s H E).K = K := rfl
section
variable {X : Cx}
theorem call_lenA : CallR X (.builtin "len") (rLenA X.K) := call_len_seq.or call_len_str
theorem op_addStr : OpR X (binaryOp .Add) rAddStr := op_add_str
theorem call_listM : CallR X (.type "list") (rListOf X.K) := call_list_of
theorem call_tupM : CallR X (.type "tuple") (rTupOf X.K) := call_tuple_of
theorem pe_joinM {o e : Expr} {to te : TE} {apos pos : Pos} (ho : PE X o to) (he : PE X e te) (hs : starEach [e] X.env = [(false, eval e X.env)] := by rfl) (hbase : attributeBase o "join" X.env (eval o X.env) = eval o X.env := by rfl) (hline : (apos.endLine == pos.line) = true := by rfl) :
    PE X (.Call (.Attribute o "join" apos) [e] [] pos) (tM1 (rJoin X.K) to te) := pe_join ho he hs hbase hline
theorem mt_insertM : MtR X "list.insert" rInsert := mt_insert
theorem mt_popAtM : MtR X "list.pop" rPopAt := mt_popAt
theorem mt_appendM : MtR X "list.append" rAppend := mt_append
/-! the rules with the written part K named: for use within comprehensions -/
section
variable {K : PySem.W.Frag}
theorem ix_listK (h : X.K = K) : IxR X (rIxL K) := h ▸ ix_list
theorem ix_tupK (h : X.K = K) : IxR X (rIxT K) := h ▸ ix_tup
theorem ix_seqK (h : X.K = K) : IxR X (rIx K) := h ▸ ix_seq
theorem sl_listK (h : X.K = K) : SlR X (rSlL K) := h ▸ sl_list
theorem sl_tupK (h : X.K = K) : SlR X (rSlT K) := h ▸ sl_tup
theorem op_inK (h : X.K = K) : OpR X (compareOp .In) (rIn K false) := h ▸ op_in_seq
theorem op_notInK (h : X.K = K) : OpR X (compareOp .NotIn) (rIn K true) := h ▸ op_notIn_seq
theorem op_catTK (h : X.K = K) : OpR X (binaryOp .Add) (rCatT K) := h ▸ op_catT
theorem op_eqDK (h : X.K = K) (hu : X.A.units + 64 < cLine) : OpR X (compareOp .Eq) (rEqD K) := h ▸ op_eqD hu
theorem op_neDK (h : X.K = K) (hu : X.A.units + 64 < cLine) : OpR X (compareOp .NotEq) (rNeD K) := h ▸ op_neD hu
theorem call_lenK (h : X.K = K) : CallR X (.builtin "len") (rLenA K) := h ▸ call_lenA
theorem call_listK (h : X.K = K) : CallR X (.type "list") (rListOf K) := h ▸ call_listM
theorem call_tupK (h : X.K = K) : CallR X (.type "tuple") (rTupOf K) := h ▸ call_tupM
theorem call_isiK1 (h : X.K = K) : CallR X (.builtin "isinstance") (rIsi K) := h ▸ call_isi
theorem call_isiTK (h : X.K = K) : CallR X (.builtin "isinstance") (rIsiT K) := h ▸ call_isiT
theorem cr_allK (h : X.K = K) (hc : X.calm = true) : CallR X (.builtin "all") (rAll K) := h ▸ cr_all hc
theorem cr_sortedSK (h : X.K = K) : CallR X (.builtin "sorted") (rSortedS K) := h ▸ cr_sortedS
theorem pe_joinK {o e : Expr} {to te : TE} {apos pos : Pos} (h : X.K = K) (ho : PE X o to) (he : PE X e te) (hs : starEach [e] X.env = [(false, eval e X.env)] := by rfl) (hbase : attributeBase o "join" X.env (eval o X.env) = eval o X.env := by rfl) (hline : (apos.endLine == pos.line) = true := by rfl) :
    PE X (.Call (.Attribute o "join" apos) [e] [] pos) (tM1 (rJoin K) to te) := h ▸ pe_joinM ho he hs hbase hline
theorem pe_bmK {o e : Expr} {es : List Expr} {to : TE} {t : TA} {name : Str} {apos cpos : Pos} {T id : String} {r : V → List V → Hp → VK → Prop} (h : X.K = K) (pa : PlainAttrs T) (slot : Slot T name id) (hty : typeOf (.builtin id) = pure (.type "method_descriptor")) (hm : MtR X id r) (ho : PE X o to) (ha : PA X (e :: es) t)
    (hbase : attributeBase o name X.env (eval o X.env) = eval o X.env := by rfl)
    (hfew : ((backTo cpos (starEach (e :: es) X.env)).all (fun x => !x.1) && (backToKw cpos (keywordEach [] X.env)).all (fun x => x.1.isSome)
      && decide ((e :: es).length + ([] : List Keyword).length + (if ([] : List Keyword).isEmpty then 0 else 1) < 30)) = true := by rfl)
    (hline : (apos.endLine == cpos.line) = true := by rfl) (hs : starEach (e :: es) X.env = (false, eval e X.env) :: starEach es X.env := by rfl) (hplain : (backTo cpos (starEach es X.env)).any (·.1) = false := by rfl) :
    PE X (.Call (.Attribute o name apos) (e :: es) [] cpos) (tBM K T r to t) := h ▸ pe_bm pa slot hty hm ho ha hbase hfew hline hs hplain
theorem pg_tupK {es : List Expr} {k : Nat} {pos : Pos} {t : TGs} {n : Nat} (h : X.K = K) (hc : X.calm = true) (hg : PGs X es t)
    (hn : (assignEach es X.env).length = n := by rfl) (hst : (assignEach es X.env).findIdx? (·.1) = none := by rfl) : PG X (.Tuple es k pos) (gTup K n t) := h ▸ pg_tup hc hg hn hst
theorem pg_unlK {es : List Expr} {k : Nat} {pos : Pos} {t : TGs} {n : Nat} (h : X.K = K) (hc : X.calm = true) (hg : PGs X es t)
    (hn : (assignEach es X.env).length = n := by rfl) (hst : (assignEach es X.env).findIdx? (·.1) = none := by rfl) : PG X (.Tuple es k pos) (gUnl K n t) := h ▸ pg_unl hc hg hn hst
theorem pi_listK {tg l : Expr} {tl : TE} (h : X.K = K) (hl : PE X l tl) : PI X tg l (iList K tl) := h ▸ pi_list hl
theorem pi_tupK {tg l : Expr} {tl : TE} (h : X.K = K) (hl : PE X l tl) : PI X tg l (iTup K tl) := h ▸ pi_tup hl
theorem pi_enumK {e : Expr} {ta : TA} {p pos tpos : Pos} {elts : List Expr} {kk : Nat} (h : X.K = K) (hg : Gl X "enumerate") (hm : X.mg "enumerate" = none) (ha : PA X [e] ta) (hs : starEach [e] X.env = [(false, eval e X.env)] := by rfl) :
    PI X (.Tuple elts kk tpos) (.Call (.Name "enumerate" p) [e] [] pos) (iEnum K ta) := h ▸ pi_enum hg hm ha hs
theorem pi_zipK {e e2 : Expr} {ta : TA} {p pos tpos : Pos} {elts : List Expr} {kk : Nat} (h : X.K = K) (hg : Gl X "zip") (hm : X.mg "zip" = none) (ha : PA X [e, e2] ta)
    (hs : starEach [e, e2] X.env = (false, eval e X.env) :: starEach [e2] X.env := by rfl) (hpl : (backTo pos (starEach [e2] X.env)).any (·.1) = false := by rfl) :
    PI X (.Tuple elts kk tpos) (.Call (.Name "zip" p) [e, e2] [] pos) (iZip K ta) := h ▸ pi_zip hg hm ha hs hpl
end
end
/-! ### objects of the program's classes: the names of the fields, their values in that order -/
def Ob (C dx : Addr) (ns : List Str) (vs : List V) : HO := .ins C dx (ns.zip vs)
theorem zip_look : ∀ {ns : List Str} {vs : List V} {i : Nat} {f : Str} {v : V}, ns.Nodup → ns[i]? = some f → vs[i]? = some v → (ns.zip vs).lookup f = some v
  | n :: ns, u :: vs, 0, f, v, _, h, hv => by
    cases h; cases hv
    show (match n == n with | true => some u | false => _) = some u
    rw [beq_self_eq_true]
  | n :: ns, u :: vs, i + 1, f, v, nd, h, hv => by
    have h : ns[i]? = some f := h
    have hv : vs[i]? = some v := hv
    have ne : (f == n) = false := beq_eq_false_iff_ne.mpr fun e => (List.nodup_cons.mp nd).1 (by rw [← e]; exact List.mem_of_getElem? h)
    show (match f == n with | true => some u | false => (ns.zip vs).lookup f) = some v
    rw [ne]
    exact zip_look (List.nodup_cons.mp nd).2 h hv
theorem zip_put : ∀ {ns : List Str} {vs : List V} {i : Nat} {f : Str} {v : V}, ns.Nodup → ns[i]? = some f → i < vs.length → putF f v (ns.zip vs) = ns.zip (vs.set i v)
  | n :: ns, u :: vs, 0, f, v, _, h, _ => by
    cases h
    show (if n = n then (n, v) :: ns.zip vs else _) = (n, v) :: ns.zip vs
    rw [if_pos rfl]
  | n :: ns, u :: vs, i + 1, f, v, nd, h, hv => by
    have h : ns[i]? = some f := h
    have hv : i < vs.length := Nat.lt_of_succ_lt_succ hv
    have ne : ¬ n = f := fun e => (List.nodup_cons.mp nd).1 (by rw [e]; exact List.mem_of_getElem? h)
    show (if n = f then _ else (n, u) :: putF f v (ns.zip vs)) = (n, u) :: ns.zip (vs.set i v)
    rw [if_neg ne, zip_put (List.nodup_cons.mp nd).2 h hv]
  | [], _, _, _, _, _, h, _ => by cases h
  | _ :: _, [], _, _, _, _, _, hv => by cases hv
theorem put_new : ∀ {fs : List (Str × V)} {f : Str} {v : V}, ¬ f ∈ fs.map (·.1) → putF f v fs = fs ++ [(f, v)]
  | [], _, _, _ => rfl
  | (n, u) :: r, f, v, h => by
    have ne : ¬ n = f := fun e => h (by rw [← e]; exact List.mem_cons_self ..)
    show (if n = f then _ else (n, u) :: putF f v r) = (n, u) :: (r ++ [(f, v)])
    rw [if_neg ne, put_new fun m => h (List.mem_cons_of_mem _ m)]
theorem zip_init {ns : List Str} {vs : List V} {i : Nat} {f : Str} {v : V} (nd : ns.Nodup) (h : ns[i]? = some f) (hv : vs.length = i) : putF f v ((ns.take i).zip vs) = (ns.take (i + 1)).zip (vs ++ [v]) := by
  obtain ⟨hi, e⟩ := List.getElem?_eq_some_iff.mp h
  have hl : (ns.take i).length = vs.length := by rw [List.length_take]; omega
  rw [put_new, List.take_succ_eq_append_getElem hi, List.zip_append hl, e]
  · rfl
  · rw [List.map_fst_zip (by omega)]
    intro m
    obtain ⟨j, hj, ej⟩ := List.getElem_of_mem m
    rw [List.getElem_take] at ej
    have hj' : j < i := by rw [List.length_take] at hj; omega
    exact absurd ((List.getElem_inj nd).mp (ej.trans e.symm)) (by omega)
theorem zip_none : ∀ {ns : List Str} {vs : List V} {f : Str}, ¬ f ∈ ns → (ns.zip vs).lookup f = none
  | [], _, _, _ => by simp
  | _ :: _, [], _, _ => by simp
  | n :: ns, u :: vs, f, h => by
    have ne : (f == n) = false := beq_eq_false_iff_ne.mpr fun e => h (by rw [e]; exact List.mem_cons_self ..)
    show (match f == n with | true => some u | false => (ns.zip vs).lookup f) = none
    rw [ne]
    exact zip_none fun m => h (List.mem_cons_of_mem _ m)
def rFldI (C : Addr) (ns : List Str) (i : Nat) (x : V) (H : Hp) (Q : VK) : Prop := ∃ a dx vs v, x = .ref a ∧ H a = some (Ob C dx ns vs) ∧ vs[i]? = some v ∧ Q v H
def tFldI (C : Addr) (ns : List Str) (i : Nat) (ta : TE) : TE := fun σ H Q => ta σ H fun x H1 => rFldI C ns i x H1 Q
def rPutI (C : Addr) (ns : List Str) (i : Nat) (x y : V) (H : Hp) (Q : Hp → Prop) : Prop := ∃ a dx vs, x = .ref a ∧ H a = some (Ob C dx ns vs) ∧ i < vs.length ∧ vs.length ≤ 100 ∧ Q (upd H a (Ob C dx ns (vs.set i y)))
def sPutI (C : Addr) (ns : List Str) (i : Nat) (ta tv : TE) : TS := fun D σ H => tv σ H fun y H1 => ta σ H1 fun x H2 => rPutI C ns i x y H2 fun H3 => Nx D.nx σ H3
def rNewI (C : Addr) (ns : List Str) (i : Nat) (x y : V) (H : Hp) (Q : Hp → Prop) : Prop := ∃ a dx vs, x = .ref a ∧ H a = some (Ob C dx (ns.take i) vs) ∧ vs.length = i ∧ i ≤ 100 ∧ Q (upd H a (Ob C dx (ns.take (i + 1)) (vs ++ [y])))
def sNewI (C : Addr) (ns : List Str) (i : Nat) (ta tv : TE) : TS := fun D σ H => tv σ H fun y H1 => ta σ H1 fun x H2 => rNewI C ns i x y H2 fun H3 => Nx D.nx σ H3
def rMethI (C : Addr) (ns : List Str) (x : V) (H : Hp) (R : Prop) : Prop := ∃ a dx vs, x = .ref a ∧ H a = some (Ob C dx ns vs) ∧ R
def tMethI (C : Addr) (ns : List Str) (sp : Sp) (ta : TE) (t : TA) : TE := fun σ H Q => ta σ H fun x H1 => rMethI C ns x H1 (t σ H1 fun vs H2 => sp (x :: vs) H2 Q E0)
def sAugI (C : Addr) (ns : List Str) (i : Nat) (g : Int → Int → Int) (ta tv : TE) : TS := fun D σ H => ta σ H fun x H1 => ∃ a dx vs u, x = .ref a ∧ H1 a = some (Ob C dx ns vs) ∧ vs[i]? = some (.int u) ∧
  tv σ H1 fun y H2 => ∃ w dx' vs', y = .int w ∧ H2 a = some (Ob C dx' ns vs') ∧ i < vs'.length ∧ vs'.length ≤ 100 ∧ Nx D.nx σ (upd H2 a (Ob C dx' ns (vs'.set i (.int (g u w)))))
section
variable {X : Cx} {C : Addr} {ns : List Str} {i : Nat} {f m : Str} {e o value : Expr} {es : List Expr} {ta tv : TE} {t : TA} {pos pos' apos tpos : Pos} {k : Nat} {ps : List Str} {sp : Sp}
theorem pe_fldI (c : Cls X.K C) (n : NoAttr X.K C f) (nd : ns.Nodup) (hi : ns[i]? = some f) (he : PE X e ta) (hb : attributeBase e f X.env (eval e X.env) = eval e X.env) : PE X (.Attribute e f pos) (tFldI C ns i ta) := ⟨fun pins s σ H Q I h =>
  attr_of hb (thn (he.run pins s σ H _ I h) fun u s1 ⟨x, H1, I1, rx, a, dx, vs, v, ex, ea, l, q⟩ => by
    subst ex; cases rx
    exact getattr_ok I1 ea c n (zip_look nd hi l) fun u' s2 I2 ru => ⟨v, H1, I2, ru, q⟩)⟩
theorem ps_putI (c : Cls X.K C) (n : NoAttr X.K C f) (nd : ns.Nodup) (hi : ns[i]? = some f) (ha : PE X o ta) (hv : PE X value tv) (hs : swapsWith value (some (.Attribute o f pos')) pos.line X.env = pure false) :
    PS X (.Assign [.Attribute o f pos'] value pos) (sPutI C ns i ta tv) := ⟨fun pins s σ H D I h =>
  plainObj_wpAny_Assign_Attribute (thn (hv.run pins s σ H _ I h) fun u s1 ⟨y, H1, I1, ry, q⟩ => thn (ha.run pins s1 σ H1 _ I1 q) fun ov s2 ⟨x, H2, I2, rx, a, dx, vs, ex, ea, l, l2, q2⟩ => by
    subst ex; cases rx
    refine setattr_ok I2 ea c n (by rw [List.length_zip]; omega) ry fun s3 I3 => ⟨σ, _, I3, ?_⟩
    rw [zip_put nd hi l]; exact q2) hs⟩
theorem ps_newI (c : Cls X.K C) (n : NoAttr X.K C f) (nd : ns.Nodup) (hi : ns[i]? = some f) (ha : PE X o ta) (hv : PE X value tv) (hs : swapsWith value (some (.Attribute o f pos')) pos.line X.env = pure false) :
    PS X (.Assign [.Attribute o f pos'] value pos) (sNewI C ns i ta tv) := ⟨fun pins s σ H D I h =>
  plainObj_wpAny_Assign_Attribute (thn (hv.run pins s σ H _ I h) fun u s1 ⟨y, H1, I1, ry, q⟩ => thn (ha.run pins s1 σ H1 _ I1 q) fun ov s2 ⟨x, H2, I2, rx, a, dx, vs, ex, ea, l, l2, q2⟩ => by
    subst ex; cases rx
    refine setattr_ok I2 ea c n (by rw [List.length_zip]; omega) ry fun s3 I3 => ⟨σ, _, I3, ?_⟩
    rw [zip_init nd hi l]; exact q2) hs⟩
theorem ps_augI {op : Operator} {g : Int → Int → Int} {rd : V → V → Hp → VK → Prop} (c : Cls X.K C) (n : NoAttr X.K C f) (nd : ns.Nodup) (hi : ns[i]? = some f) (ha : PE X o ta) (hv : PE X value tv) (hop : InOp X op rd) (hg : ∀ (a b : Int) (H : Hp) (Q : VK), Q (.int (g a b)) H → rd (.int a) (.int b) H Q) :
    PS X (.AugAssign (.Attribute o f tpos) op value pos) (sAugI C ns i g ta tv) := ⟨fun pins s σ H D I h =>
  wpAny_AugAssign_AttributeAny (thn (ha.run pins s σ H _ I h) fun ov s1 ⟨x, H1, I1, rx, a, dx, vs, u, ex, ea, l, q⟩ => by
    subst ex; cases rx
    refine getattr_ok I1 ea c n (zip_look nd hi l) fun u2 s2 I2 ru => thn (hv.run pins s2 σ H1 _ I2 q) fun w3 s3 ⟨y, H2, I3, ry, w', dx', vs', ey, ea', l', l2', q3⟩ => ?_
    subst ey
    refine thn (hop pins s3 σ H2 (.int u) (.int w') u2 w3 (fun z H3 => z = .int (g u w') ∧ H3 = H2) I3 ru ry (hg _ _ _ _ ⟨rfl, rfl⟩)) fun w4 s4 ⟨z, H3, I4, rz, ez, eH⟩ => ?_
    subst ez; subst eH
    refine setattr_ok I4 ea' c n (by rw [List.length_zip]; omega) rz fun s5 I5 => ⟨σ, _, I5, ?_⟩
    rw [zip_put nd hi l']; exact q3)⟩
theorem pe_mcalI {pl : Sem Bool} (hm : ¬ m ∈ ns) (he : PE X o ta) (c : Cls X.K C) (M : MCal X.prog X.w X.K X.mg X.base k C m ps sp) (hr : Room k X.A) (ha : PA X (e :: es) t)
    (hst : starEach (e :: es) X.env = (false, eval e X.env) :: starEach es X.env := by rfl) (hpl : (backTo pos (starEach es X.env)).any (·.1) = false := by rfl)
    (ht : eval (.Call (.Attribute o m apos) (e :: es) [] pos) X.env = (do
      let ov ← eval o X.env
      standAt apos.atName
      let (f, first) ← holding [ov] (getMethod ov m pl)
      callWith pos f first (backTo pos (starEach (e :: es) X.env)) (backToKw pos (keywordEach [] X.env))) := by rfl) :
    PE X (.Call (.Attribute o m apos) (e :: es) [] pos) (tMethI C ns sp ta t) := ⟨fun pins s σ H Q I h => by
  obtain ⟨f, fd, hm', hb, F⟩ := M.ex
  exact PySem.W.methodCall_KW (pl := pl) (thn (he.run pins s σ H _ I h) fun u s1 ⟨x, H1, I1, rx, a, dx, fs, ex, ea, q⟩ => by
    subst ex; cases rx
    refine getmeth_ok I1 ea c hm' (zip_none hm) ?_
    refine PySem.W.callWith_K (first := [.ref a]) (h₀ := X.base) I.ok.mod.kin hm'.kp (thn (ha.run pos pins s1 σ H1 _ I1 q) fun us s2 ⟨vs, H2, I2, r, q2⟩ => ⟨I2.kIn, ?_⟩) hst hpl
    exact run_fn (dvs := []) (us := .ref a :: us) (vs := .ref a :: vs) F hr hb .nil pass0 I2 (.cons rfl r) (by rw [List.append_nil]; exact q2)) ht⟩
theorem pe_mcalI0 {pl : Sem Bool} (hm : ¬ m ∈ ns) (he : PE X o ta) (c : Cls X.K C) (M : MCal X.prog X.w X.K X.mg X.base k C m ps sp) (hr : Room k X.A)
    (ht : eval (.Call (.Attribute o m apos) [] [] pos) X.env = (do
      let ov ← eval o X.env
      standAt apos.atName
      let (f, first) ← holding [ov] (getMethod ov m pl)
      callWith pos f first (backTo pos (starEach [] X.env)) (backToKw pos (keywordEach [] X.env))) := by rfl) :
    PE X (.Call (.Attribute o m apos) [] [] pos) (tMethI C ns sp ta tNil) := ⟨fun pins s σ H Q I h => by
  obtain ⟨f, fd, hm', hb, F⟩ := M.ex
  exact PySem.W.methodCall_KW (pl := pl) (thn (he.run pins s σ H _ I h) fun u s1 ⟨x, H1, I1, rx, a, dx, fs, ex, ea, q⟩ => by
    subst ex; cases rx
    refine getmeth_ok I1 ea c hm' (zip_none hm) ?_
    exact PySem.W.callWith_K0 (first := [.ref a]) I1.kIn hm'.kp (run_fn (dvs := []) (us := [.ref a]) (vs := [.ref a]) F hr hb .nil pass0 I1 (.cons rfl .nil) q)) ht⟩
end
section
variable {σ : L2.St} {H : Hp} {ta tb te : TE} {v x y : V} {D : Ends} {i : Nat} {QT : V → Hp → Prop} {C : Addr} {ns : List Str} {tr : TA}
theorem w_fldI {p dx : Addr} {vs : List V} (h : H p = some (Ob C dx ns vs)) (hv : vs[i]? = some v) (q : QT v H) : rFldI C ns i (.ref p) H QT := ⟨p, dx, vs, v, rfl, h, hv, q⟩
theorem u_fldI : tFldI C ns i ta σ H QT = ta σ H fun x H1 => rFldI C ns i x H1 QT := rfl
theorem u_putI : sPutI C ns i ta tb D σ H = tb σ H fun y H1 => ta σ H1 fun x H2 => rPutI C ns i x y H2 fun H3 => Nx D.nx σ H3 := rfl
theorem u_newI : sNewI C ns i ta tb D σ H = tb σ H fun y H1 => ta σ H1 fun x H2 => rNewI C ns i x y H2 fun H3 => Nx D.nx σ H3 := rfl
theorem u_methI {sp : Sp} : tMethI C ns sp ta tr σ H QT = ta σ H fun x H1 => rMethI C ns x H1 (tr σ H1 fun vs H2 => sp (x :: vs) H2 QT E0) := rfl
theorem w_methI {p dx : Addr} {vs : List V} {R : Prop} (h : H p = some (Ob C dx ns vs)) (q : R) : rMethI C ns (.ref p) H R := ⟨p, dx, vs, rfl, h, q⟩
theorem w_putI {S : Addr → Prop} {H0 : Hp} {DD : List (Addr × HO)} {p dx : Addr} {vs : List V} {QH : Hp → Prop} (j : Nat) (g : Cfg S H0 DD H) (h : DD[j]? = some (p, Ob C dx ns vs)) (hi : i < vs.length) (hl : vs.length ≤ 100) (hs : S p ∨ H0 p = none)
    (q : ∀ H', Cfg S H0 (DD.set j (p, Ob C dx ns (vs.set i y))) H' → QH H') : rPutI C ns i (.ref p) y H QH := ⟨p, dx, vs, rfl, g.get j h, hi, hl, q _ (g.wr j h (fun _ z => by cases z) hs)⟩
theorem w_newI {S : Addr → Prop} {H0 : Hp} {DD : List (Addr × HO)} {p dx : Addr} {vs : List V} {QH : Hp → Prop} (j : Nat) (g : Cfg S H0 DD H) (h : DD[j]? = some (p, Ob C dx (ns.take i) vs)) (hi : vs.length = i) (hl : i ≤ 100) (hs : S p ∨ H0 p = none)
    (q : ∀ H', Cfg S H0 (DD.set j (p, Ob C dx (ns.take (i + 1)) (vs ++ [y]))) H' → QH H') : rNewI C ns i (.ref p) y H QH := ⟨p, dx, vs, rfl, g.get j h, hi, hl, q _ (g.wr j h (fun _ z => by cases z) hs)⟩
/-- a new instance: its __init__'s promise over the bare object -/
def rMakeI (C : Addr) (sp : Sp) (vs : List V) (QT : V → Hp → Prop) (H1 : Hp) : Prop := ∀ x dx, H1 x = none → H1 dx = none → dx ≠ x → sp (.ref x :: vs) (upd (upd H1 dx (.own x)) x (.ins C dx [])) (fun v H2 => v = .non ∧ QT (.ref x) H2) E0
theorem u_make {sp : Sp} : tMake C sp [] E0 tr σ H QT = tr σ H fun vs H1 => rMakeI C sp vs QT H1 := by
  show (tr σ H fun vs H1 => ∀ x dx, H1 x = none → H1 dx = none → dx ≠ x → sp (.ref x :: (vs ++ [])) (upd (upd H1 dx (.own x)) x (.ins C dx [])) (fun v H2 => v = .non ∧ QT (.ref x) H2) E0) = _
  congr; funext vs H1; rw [List.append_nil]; rfl
theorem w_make {S : Addr → Prop} {H0 : Hp} {DD : List (Addr × HO)} {sp : Sp} {vs : List V} (g : Cfg S H0 DD H) (q : ∀ (x dx : Addr) (H' : Hp), H0 x = none → Cfg S H0 ((x, Ob C dx [] []) :: DD) H' → sp (.ref x :: vs) H' (fun v H2 => v = .non ∧ QT (.ref x) H2) E0) : rMakeI C sp vs QT H :=
  fun x dx h1 h2 h3 => q x dx _ (g.kp.nn h1) ((g.new0 h2).new (by rw [upd_ne h3.symm]; exact h1))
end
/-! ### tuples stand -/
def Tp (H H' : Hp) : Prop := ∀ b xs, H b = some (.tup xs) → H' b = some (.tup xs)
theorem Tp.refl {H : Hp} : Tp H H := fun _ _ h => h
theorem Tp.trans {H H1 H2 : Hp} (a : Tp H H1) (b : Tp H1 H2) : Tp H H2 := fun x xs h => b x xs (a x xs h)
theorem Kp.t {S : Addr → Prop} {H H' : Hp} (k : Kp S H H') : Tp H H' := k.tp
section
variable {bx : Addr} {n : Nat} {H0 H : Hp} {DD : List (Addr × HO)} {QT : V → Hp → Prop} {p : Addr} {xs : List V} {v : V} {o : HO}
theorem w_newBT (g : Bfg bx n H0 DD H) (q : ∀ (p : Addr) (H' : Hp), H0 p = none → Bfg bx n H0 ((p, o) :: DD) H' → Tp H H' → QT (.ref p) H') : New o QT H :=
  fun p hp => q p _ (g.kp.nn hp) (g.new hp) (Kp.new (S := no) hp).tp
theorem w_newT {S : Addr → Prop} (g : Cfg S H0 DD H) (q : ∀ (p : Addr) (H' : Hp), H0 p = none → Cfg S H0 ((p, o) :: DD) H' → Tp H H' → QT (.ref p) H') : New o QT H :=
  fun p hp => q p _ (g.kp.nn hp) (g.new hp) (Kp.new (S := no) hp).tp
theorem tp_wr {u : HO} (h : H p = some u) (hu : ∀ xs, u ≠ .tup xs) : Tp H (upd H p o) := fun b xs e => by
  rw [upd_ne (ne_of e h fun z => hu xs z.symm)]; exact e
theorem w_appBT (i : Nat) (g : Bfg bx n H0 DD H) (h : DD[i]? = some (p, .lst xs)) (hz : xs.length < 100000) (hs : H0 p = none)
    (q : ∀ H', Bfg bx n H0 (DD.set i (p, .lst (xs ++ [v]))) H' → Tp H H' → QT .non H') : rAppend (.ref p) [v] H QT := ⟨p, xs, v, rfl, rfl, g.get i h, Nat.lt_of_lt_of_le hz (by decide), q _ (g.wr i h (fun _ z => by cases z) hs) (tp_wr (g.get i h) fun _ z => by cases z)⟩
end


end K87

namespace K87
open PySem PySem.Spec PyProof.Rows L2
--nomac
/-- a text of real signs -/
def sOk (s : Str) : Bool := PyData.canLay0 (.str s)
theorem sOk_iff {s : Str} : sOk s = true ↔ ∀ c ∈ s.cps.toList, c < 0x110000 := by
  show s.cps.all (fun c => decide (c < 0x110000)) = true ↔ _
  rw [← Array.all_toList, List.all_eq_true]
  exact ⟨fun h c m => of_decide_eq_true (h c m), fun h c m => decide_eq_true (h c m)⟩
theorem sOk_app {a b : Str} (ha : sOk a = true) (hb : sOk b = true) : sOk (a ++ b) = true := by
  rw [sOk_iff] at *
  intro c m
  have m : c ∈ (a.cps ++ b.cps).toList := m
  rw [Array.toList_append, List.mem_append] at m
  rcases m with m | m
  · exact ha c m
  · exact hb c m
theorem sOk_join : ∀ ys : List Str, (∀ y ∈ ys, sOk y = true) → sOk (Str.join "" ys) = true
  | [], _ => by decide +kernel
  | [x], h => h x (List.mem_cons_self ..)
  | x :: y :: r, h => by
    show sOk (x ++ "" ++ Str.join "" (y :: r)) = true
    refine sOk_app (sOk_app (h x (List.mem_cons_self ..)) (by decide +kernel)) (sOk_join (y :: r) fun z m => h z (List.mem_cons_of_mem _ m))
theorem sOk_cut {s : Str} (h : sOk s = true) (lo hi : Option Int) : sOk (cutS s lo hi) = true := by
  rw [sOk_iff] at *
  intro c m
  refine h c ?_
  have m : c ∈ ((s.cps.toList.drop (HT.sIx s.length 0 lo)).take (HT.sIx s.length s.length hi - HT.sIx s.length 0 lo)).toArray.toList := m
  rw [List.toList_toArray] at m
  exact List.mem_of_mem_drop (List.mem_of_mem_take m)

end K87

namespace K87
open PySem PySem.Spec PyProof.Rows L2
local macro_rules | `(tactic| kxs_still) => `(tactic| with_unfolding_all rfl)
local macro_rules | `(tactic| lcg_sub) => `(tactic| first
  | assumption
  | (apply Cfg.get (i := 0) <;> first | assumption | kxs_still)
  | (apply Cfg.get (i := 1) <;> first | assumption | kxs_still)
  | (apply Cfg.get (i := 2) <;> first | assumption | kxs_still)
  | (apply Cfg.get (i := 3) <;> first | assumption | kxs_still)
  | (apply Cfg.get (i := 4) <;> first | assumption | kxs_still)
  | (apply Cfg.get (i := 5) <;> first | assumption | kxs_still)
  | (apply Cfg.get (i := 6) <;> first | assumption | kxs_still)
  | (apply Cfg.get (i := 7) <;> first | assumption | kxs_still)
  | (apply Cfg.get (i := 8) <;> first | assumption | kxs_still)
  | (apply Cfg.get (i := 9) <;> first | assumption | kxs_still)
  | (apply Cfg.get (i := 0) <;> first | (apply Bfg.toCfg; assumption) | kxs_still)
  | (apply Cfg.get (i := 1) <;> first | (apply Bfg.toCfg; assumption) | kxs_still)
  | (apply Cfg.get (i := 2) <;> first | (apply Bfg.toCfg; assumption) | kxs_still)
  | (apply Cfg.get (i := 3) <;> first | (apply Bfg.toCfg; assumption) | kxs_still)
  | (apply Cfg.get (i := 4) <;> first | (apply Bfg.toCfg; assumption) | kxs_still)
  | (apply Cfg.get (i := 5) <;> first | (apply Bfg.toCfg; assumption) | kxs_still)
  | (apply Cfg.get (i := 6) <;> first | (apply Bfg.toCfg; assumption) | kxs_still)
  | (apply Cfg.get (i := 7) <;> first | (apply Bfg.toCfg; assumption) | kxs_still)
  | (apply Cfg.get (i := 8) <;> first | (apply Bfg.toCfg; assumption) | kxs_still)
  | (apply Cfg.get (i := 9) <;> first | (apply Bfg.toCfg; assumption) | kxs_still))
local macro_rules | `(tactic| kas_types) => `(tactic| first
  | assumption | decide | omega | exact Or.inl (by omega) | exact Or.inr (by omega) | exact ⟨by omega, by omega⟩ | exact ⟨by omega, by omega, by omega⟩)
local macro_rules | `(tactic| keq_hits) => `(tactic| simp only [u_var, u_c, u_op, u_un, u_test, u_tB, u_bl, u_I0, u_eqS, u_eqI, u_neS, u_neI, u_seq, u_next, u_asg, u_name, u_ret, u_retN, u_drop, u_ifS, u_ifE, u_and, u_or, u_not, u_andV, u_orV, u_notV, u_nil, u_cons, u_call, u_cb, u_tup, u_lst, u_sub, u_gNil, u_gCons, u_bm, u_m1, u_isS, u_sl, u_noPart, u_part, u_partk, u_par, u_par2, u_for, u_lc, u_rng1, u_itL, u_itT, u_yes, u_fldI, u_putI, u_newI, u_methI, u_make, u_some, u_i0, u_i1, u_K, L2.start, wipe, List.map_cons, List.map_nil, List.length_cons, List.length_nil, List.replicate_succ, List.replicate_zero, List.cons_append, List.nil_append, List.set_cons_zero, List.set_cons_succ, ite_true, ite_false, if_true, if_false, Bool.false_eq_true, eq_self, true_and, and_true])
local macro_rules | `(tactic| nested_keys) => `(tactic| repeat first
  | (with_reducible apply w_nx)
  | (with_reducible apply w_blk)
  | (with_reducible apply w_I; (· with_unfolding_all kas_types))
  | (with_reducible apply w_ixT; (· lcg_sub); (· kxs_still))
  | (with_reducible apply w_ixL; (· lcg_sub); (· kxs_still))
  | (with_reducible apply w_fldI; (· lcg_sub); (· kxs_still))
  | (with_reducible apply w_methI; (· lcg_sub))
  | (with_reducible apply w_sz; (· with_unfolding_all exact Nat.le_of_ble_eq_true rfl))
  | (with_reducible apply w_gTup; (· lcg_sub); (· kxs_still))
  | (with_reducible apply w_tyL; (· lcg_sub))
  | (with_reducible apply w_rng1k; (· with_unfolding_all kas_types); (· with_unfolding_all kas_types))
  | (with_reducible apply w_itLk; (· lcg_sub))
  | (with_reducible apply w_itTk; (· lcg_sub))
  | (with_reducible apply w_lenL; (· lcg_sub))
  | (with_reducible apply w_lenT; (· lcg_sub))
  | (with_reducible apply w_lenS; (· with_unfolding_all kas_types))
  | (with_reducible apply w_ixaL; (· lcg_sub); (· kxs_still))
  | (with_reducible apply w_ixaT; (· lcg_sub); (· kxs_still))
  | (with_reducible apply w_ixaS; (· with_unfolding_all kas_types); (· kxs_still))
  | (with_reducible apply w_ixS; (· with_unfolding_all kas_types); (· kxs_still))
  | (with_reducible apply w_slL; (· lcg_sub))
  | (with_reducible apply w_slS; (· with_unfolding_all kas_types))
  | (with_reducible apply w_addS; (· with_unfolding_all kas_types))
  | (with_reducible apply w_listL; (· lcg_sub))
  | (with_reducible apply w_tupL; (· lcg_sub))
  | (with_reducible apply w_divmod; (· with_unfolding_all kas_types))
  | (simp only [u_var, u_c, u_op, u_un, u_test, u_tB, u_bl, u_I0, u_eqS, u_eqI, u_neS, u_neI, u_seq, u_next, u_asg, u_name, u_ret, u_retN, u_drop, u_ifS, u_ifE, u_and, u_or, u_not, u_andV, u_orV, u_notV, u_nil, u_cons, u_call, u_cb, u_tup, u_lst, u_sub, u_gNil, u_gCons, u_bm, u_m1, u_isS, u_sl, u_noPart, u_part, u_partk, u_par, u_par2, u_for, u_lc, u_rng1, u_itL, u_itT, u_yes, u_fldI, u_putI, u_newI, u_methI, u_make, u_some, u_i0, u_i1, u_K, L2.start, wipe, List.map_cons, List.map_nil, List.length_cons, List.length_nil, List.replicate_succ, List.replicate_zero, List.cons_append, List.nil_append, List.set_cons_zero, List.set_cons_succ, ite_true, ite_false, if_true, if_false, Bool.false_eq_true, eq_self, true_and, and_true])
  | (with_reducible apply w_eq; (· kxs_still))
  | (with_reducible apply w_ne; (· kxs_still)))
/-- a draw below m -/
def spTake : Sp := fun vs H Q _ => ∃ (bx : Addr) (n : Nat) (m : Int), vs = [.ref bx, .int m] ∧ BoxAt H bx n ∧ n ≤ 1000000 ∧ 0 < m ∧ m < 1000000 ∧ ∀ (v : Int) (H' : Hp), 0 ≤ v → v < m → BoxAt H' bx (n + 1) → KB bx H H' → Q (.int v) H'
theorem C_take {P : Program} {w : World} {K : PySem.W.Frag} {mg : Str → Option Value} {base : Heap} (T : Txt K mg) : Cal P w K mg base 1 "_law_take" ["_law_box", "_law_many"] spTake := by
  refine cal_mk T 45 rfl T.g_take sc_take rfl rfl (fun _ _ _ _ _ _ us hl => match us, hl with | [_, _], _ => rfl) (fun vs H Q E h => ?_) (fun f cdv A outer s H vs Q E hr h => ?_)
  · obtain ⟨bx, n, m, rfl, ⟨x, y, z, hb, x0, y0, y1, z0, z1⟩, hn, m0, m1, k⟩ := h
    rfl
  obtain ⟨bx, n, m, rfl, ⟨x, y, z, hb, x0, y0, y1, z0, z1⟩, hn, m0, m1, k⟩ := h
  refine ⟨_, (pss_cons (ps_if (pt_cmpR op_gt (pe_ix (ix_listK (K := K) rfl) (pv 0) pe_int (fun _ _ => rfl)) pe_int (nomark _)) (pss_cons (ps_asg (pe_callB call_divmodM (by rfl) T.f_divmod (by decide +kernel) (pa_cons (pe_ix (ix_listK (K := K) rfl) (pv 0) pe_int (fun _ _ => rfl)) (pa_cons (pv 1) pa_nil))) (pg_tupK (K := K) (n := 2) rfl rfl (pgs_cons (pg_sub (pv 0) pe_int set_list) (pgs_cons (pg_name (i := 2) sc_take.nd rfl (Or.inl rfl)) pgs_nil))))
 (pss_one (ps_ret (pv 2)))) pss_nil)
 (pss_cons (ps_asg (pe_op op_add (pe_ix (ix_listK (K := K) rfl) (pv 0) pe_int (fun _ _ => rfl)) pe_int) (pg_sub (pv 0) pe_int set_list))
 (pss_cons (ps_set (i := 3) sc_take.nd rfl (Or.inl rfl) (pe_op op_mod (pe_op op_pow (pe_op op_add (pe_ix (ix_listK (K := K) rfl) (pv 0) pe_int (fun _ _ => rfl)) (pe_op op_mul pe_int (pe_ix (ix_listK (K := K) rfl) (pv 0) pe_int (fun _ _ => rfl)))) pe_int) pe_int))
 (pss_cons (ps_set (i := 4) sc_take.nd rfl (Or.inl rfl) (pe_op op_mod (pe_op op_mul (pe_op op_add (pv 3) (pe_ix (ix_listK (K := K) rfl) (pv 0) pe_int (fun _ _ => rfl))) (pe_op op_add (pe_op op_add (pe_op op_mod (pv 3) pe_int) pe_int) (pe_ix (ix_listK (K := K) rfl) (pv 0) pe_int (fun _ _ => rfl)))) pe_int))
 (pss_cons (ps_set (i := 5) sc_take.nd rfl (Or.inl rfl) (pe_op op_mod (pe_op op_add (pe_op op_add (pe_op op_fdivW (pe_ix (ix_listK (K := K) rfl) (pv 0) pe_int (fun _ _ => rfl)) pe_int) (pe_op op_mul (pv 4) pe_int)) (pe_ix (ix_listK (K := K) rfl) (pv 0) pe_int (fun _ _ => rfl))) pe_int))
 (pss_one (ps_ret (pe_op op_mod (pe_op op_fdiv (pe_op op_mod (pe_op op_add (pe_op op_add (pe_op op_mul (pv 4) pe_int) (pe_op op_mul (pv 5) pe_int)) (pv 3)) pe_int) pe_int) (pv 1))))))))), ?_⟩
  have g : Cfg (bxS bx) H [(bx, .lst [.int x, .int y, .int z])] H := Cfg.one hb
  nested_keys
  refine ite_d (fun c => ?_) (fun c => ?_)
  · nested_keys
    refine w_new g fun p H1 p0 g => ?_
    nested_keys
    refine w_setG 1 g rfl rfl (.inl rfl) fun H2 g => ?_
    nested_keys
    exact k _ _ (Int.emod_nonneg _ (by omega)) (Int.emod_lt_of_pos _ m0) ⟨x / m, y, z, g.get 1 rfl, Int.ediv_nonneg x0 (by omega), y0, y1, z0, by omega⟩ g.kp
  · nested_keys
    refine w_setG 0 g rfl rfl (.inl rfl) fun H2 g => ?_
    nested_keys
    refine w_I (wide_div (b := 40) (by decide) (by decide) (by decide) (by decide)) ?_
    nested_keys
    exact k _ _ (Int.emod_nonneg _ (by omega)) (Int.emod_lt_of_pos _ m0) ⟨x, y, z + 1, g.get 0 rfl, x0, y0, y1, by omega, by omega⟩ g.kp
theorem w_take {bx : Addr} {n : Nat} {H0 H : Hp} {D : List (Addr × HO)} {m : Int} {QT : V → Hp → Prop} {E : XK} (g : Bfg bx n H0 D H) (hn : n ≤ 1000000) (m0 : 0 < m) (m1 : m < 1000000)
    (q : ∀ (v : Int) (H' : Hp), 0 ≤ v → v < m → Bfg bx (n + 1) H0 D H' → QT (.int v) H') : spTake [.ref bx, .int m] H QT E := ⟨bx, n, m, rfl, g.box, hn, m0, m1, fun v H' a b c d => q v H' a b (g.draw d c)⟩
/-- what may be picked of: a tuple, a text -/
def PickOf (H : Hp) (u : V) (xs : List V) : Prop := (∃ a o, u = .ref a ∧ H a = some (.frz o (.tup xs))) ∨ (∃ a, u = .ref a ∧ H a = some (.tup xs)) ∨ ∃ z : Str, u = .str z ∧ z.length ≤ 100000 ∧ xs = z.cps.toList.map fun c => V.str ⟨#[c]⟩
/-- one of some -/
def spPick : Sp := fun vs H Q _ => ∃ (bx : Addr) (n : Nat) (u : V) (xs : List V), vs = [.ref bx, u] ∧ BoxAt H bx n ∧ n ≤ 1000000 ∧ PickOf H u xs ∧ 0 < xs.length ∧ xs.length < 1000000 ∧
  ∀ (i : Nat) (v : V) (H' : Hp), xs[i]? = some v → BoxAt H' bx (n + 1) → KB bx H H' → Q v H'
theorem at_lt {α : Type} {xs : List α} {v : Int} (h0 : 0 ≤ v) (h1 : v < (xs.length : Int)) : ∃ (j : Nat) (x : α), v = j ∧ xs[j]? = some x ∧ atI xs v = some x := by
  obtain ⟨j, rfl⟩ := Int.eq_ofNat_of_zero_le h0
  have hj : j < xs.length := by omega
  exact ⟨j, xs[j], rfl, List.getElem?_eq_getElem hj, atI_nat (List.getElem?_eq_getElem hj)⟩
theorem str_len (z : Str) : z.length = z.cps.toList.length := by
  show z.cps.size = _
  simp
theorem C_pick {P : Program} {w : World} {K : PySem.W.Frag} {mg : Str → Option Value} {base : Heap} (T : Txt K mg) : Cal P w K mg base 2 "_law_pick" ["_law_box", "_law_some"] spPick := by
  have C_take := C_take (P := P) (w := w) (base := base) T
  refine cal_mk T 46 rfl T.g_pick sc_pick rfl rfl (fun _ _ _ _ _ _ us hl => match us, hl with | [_, _], _ => rfl) (fun vs H Q E h => ?_) (fun f cdv A outer s H vs Q E hr h => ?_)
  · obtain ⟨bx, n, u, xs, rfl, hb, hn, hu, l0, l1, k⟩ := h
    rfl
  obtain ⟨bx, n, u, xs, rfl, hb, hn, hu, l0, l1, k⟩ := h
  refine ⟨_, (pss_one (ps_ret (pe_ix (ix_seqK (K := K) rfl) (pv 1) (pe_cal C_take hr rfl (pa_cons (pv 0) (pa_cons (pe_callB (call_lenK (K := K) rfl) (by rfl) T.f_len (by decide +kernel) (pa_cons (pv 1) pa_nil)) pa_nil))) (fun _ _ => rfl)))), ?_⟩
  rcases hu with ⟨a, o, rfl, ha⟩ | ⟨a, rfl, ha⟩ | ⟨z, rfl, hz, rfl⟩
  · nested_keys
    refine .inl ⟨a, xs, rfl, .inr (.inl (.inr ⟨o, ha⟩)), ?_⟩
    nested_keys
    refine ⟨bx, n, _, rfl, hb, hn, by omega, by omega, fun v H' v0 v1 b1 k1 => ?_⟩
    obtain ⟨j, x, rfl, e1, e2⟩ := at_lt v0 v1
    obtain ⟨_, _, _, hbx, _⟩ := hb
    have ha' : H' a = some (.frz o (.tup xs)) := k1.get ha (ne_of ha hbx (fun z => by cases z))
    refine .inr (.inl ⟨a, xs, _, x, rfl, rfl, .inl (.inr ⟨o, ha'⟩), e2, ?_⟩)
    exact k j x H' e1 b1 k1
  · nested_keys
    refine ⟨bx, n, _, rfl, hb, hn, by omega, by omega, fun v H' v0 v1 b1 k1 => ?_⟩
    obtain ⟨j, x, rfl, e1, e2⟩ := at_lt v0 v1
    have ha' : H' a = some (.tup xs) := k1.tp _ _ ha
    nested_keys
    exact k j x H' e1 b1 k1
  · rw [List.length_map, ← str_len] at l0 l1
    nested_keys
    refine ⟨bx, n, _, rfl, hb, hn, by omega, by omega, fun v H' v0 v1 b1 k1 => ?_⟩
    rw [str_len] at v1
    obtain ⟨j, x, rfl, e1, e2⟩ := at_lt v0 v1
    nested_keys
    exact k j _ H' (by rw [List.getElem?_map, e1]; rfl) b1 k1
theorem w_pick {bx : Addr} {n : Nat} {H0 H : Hp} {D : List (Addr × HO)} {u : V} {xs : List V} {QT : V → Hp → Prop} {E : XK} (g : Bfg bx n H0 D H) (hn : n ≤ 1000000) (hu : PickOf H u xs) (l0 : 0 < xs.length) (l1 : xs.length < 1000000)
    (q : ∀ (i : Nat) (v : V) (H' : Hp), xs[i]? = some v → Bfg bx (n + 1) H0 D H' → QT v H') : spPick [.ref bx, u] H QT E := ⟨bx, n, u, xs, rfl, g.box, hn, hu, l0, l1, fun i v H' a b c => q i v H' a (g.draw c b)⟩
theorem w_takeT {bx : Addr} {n : Nat} {H0 H : Hp} {D : List (Addr × HO)} {m : Int} {QT : V → Hp → Prop} {E : XK} (g : Bfg bx n H0 D H) (hn : n ≤ 1000000) (m0 : 0 < m) (m1 : m < 1000000)
    (q : ∀ (v : Int) (H' : Hp), 0 ≤ v → v < m → Bfg bx (n + 1) H0 D H' → Tp H H' → QT (.int v) H') : spTake [.ref bx, .int m] H QT E := ⟨bx, n, m, rfl, g.box, hn, m0, m1, fun v H' a b c d => q v H' a b (g.draw d c) d.tp⟩
theorem w_pickT {bx : Addr} {n : Nat} {H0 H : Hp} {D : List (Addr × HO)} {u : V} {xs : List V} {QT : V → Hp → Prop} {E : XK} (g : Bfg bx n H0 D H) (hn : n ≤ 1000000) (hu : PickOf H u xs) (l0 : 0 < xs.length) (l1 : xs.length < 1000000)
    (q : ∀ (i : Nat) (v : V) (H' : Hp), xs[i]? = some v → Bfg bx (n + 1) H0 D H' → Tp H H' → QT v H') : spPick [.ref bx, u] H QT E := ⟨bx, n, u, xs, rfl, g.box, hn, hu, l0, l1, fun i v H' a b c => q i v H' a (g.draw c b) c.tp⟩

end K87

namespace K87
open PySem PySem.Spec PyProof.Rows L2
local macro_rules | `(tactic| kxs_still) => `(tactic| with_unfolding_all rfl)
local macro_rules | `(tactic| lcg_sub) => `(tactic| first
  | assumption
  | (apply Cfg.get (i := 0) <;> first | assumption | kxs_still)
  | (apply Cfg.get (i := 1) <;> first | assumption | kxs_still)
  | (apply Cfg.get (i := 2) <;> first | assumption | kxs_still)
  | (apply Cfg.get (i := 3) <;> first | assumption | kxs_still)
  | (apply Cfg.get (i := 4) <;> first | assumption | kxs_still)
  | (apply Cfg.get (i := 5) <;> first | assumption | kxs_still)
  | (apply Cfg.get (i := 6) <;> first | assumption | kxs_still)
  | (apply Cfg.get (i := 7) <;> first | assumption | kxs_still)
  | (apply Cfg.get (i := 8) <;> first | assumption | kxs_still)
  | (apply Cfg.get (i := 9) <;> first | assumption | kxs_still)
  | (apply Cfg.get (i := 0) <;> first | (apply Bfg.toCfg; assumption) | kxs_still)
  | (apply Cfg.get (i := 1) <;> first | (apply Bfg.toCfg; assumption) | kxs_still)
  | (apply Cfg.get (i := 2) <;> first | (apply Bfg.toCfg; assumption) | kxs_still)
  | (apply Cfg.get (i := 3) <;> first | (apply Bfg.toCfg; assumption) | kxs_still)
  | (apply Cfg.get (i := 4) <;> first | (apply Bfg.toCfg; assumption) | kxs_still)
  | (apply Cfg.get (i := 5) <;> first | (apply Bfg.toCfg; assumption) | kxs_still)
  | (apply Cfg.get (i := 6) <;> first | (apply Bfg.toCfg; assumption) | kxs_still)
  | (apply Cfg.get (i := 7) <;> first | (apply Bfg.toCfg; assumption) | kxs_still)
  | (apply Cfg.get (i := 8) <;> first | (apply Bfg.toCfg; assumption) | kxs_still)
  | (apply Cfg.get (i := 9) <;> first | (apply Bfg.toCfg; assumption) | kxs_still))
local macro_rules | `(tactic| kas_types) => `(tactic| first
  | assumption | decide | omega | exact Or.inl (by omega) | exact Or.inr (by omega) | exact ⟨by omega, by omega⟩ | exact ⟨by omega, by omega, by omega⟩)
local macro_rules | `(tactic| keq_hits) => `(tactic| simp only [u_var, u_c, u_op, u_un, u_test, u_tB, u_bl, u_I0, u_eqS, u_eqI, u_neS, u_neI, u_seq, u_next, u_asg, u_name, u_ret, u_retN, u_drop, u_ifS, u_ifE, u_and, u_or, u_not, u_andV, u_orV, u_notV, u_nil, u_cons, u_call, u_cb, u_tup, u_lst, u_sub, u_gNil, u_gCons, u_bm, u_m1, u_isS, u_sl, u_noPart, u_part, u_partk, u_par, u_par2, u_for, u_lc, u_rng1, u_itL, u_itT, u_yes, u_fldI, u_putI, u_newI, u_methI, u_make, u_some, u_i0, u_i1, u_K, L2.start, wipe, List.map_cons, List.map_nil, List.length_cons, List.length_nil, List.replicate_succ, List.replicate_zero, List.cons_append, List.nil_append, List.set_cons_zero, List.set_cons_succ, ite_true, ite_false, if_true, if_false, Bool.false_eq_true, eq_self, true_and, and_true])
local macro_rules | `(tactic| nested_keys) => `(tactic| repeat first
  | (with_reducible apply w_nx)
  | (with_reducible apply w_blk)
  | (with_reducible apply w_I; (· with_unfolding_all kas_types))
  | (with_reducible apply w_ixT; (· lcg_sub); (· kxs_still))
  | (with_reducible apply w_ixL; (· lcg_sub); (· kxs_still))
  | (with_reducible apply w_fldI; (· lcg_sub); (· kxs_still))
  | (with_reducible apply w_methI; (· lcg_sub))
  | (with_reducible apply w_sz; (· with_unfolding_all exact Nat.le_of_ble_eq_true rfl))
  | (with_reducible apply w_gTup; (· lcg_sub); (· kxs_still))
  | (with_reducible apply w_tyL; (· lcg_sub))
  | (with_reducible apply w_rng1k; (· with_unfolding_all kas_types); (· with_unfolding_all kas_types))
  | (with_reducible apply w_itLk; (· lcg_sub))
  | (with_reducible apply w_itTk; (· lcg_sub))
  | (with_reducible apply w_lenL; (· lcg_sub))
  | (with_reducible apply w_lenT; (· lcg_sub))
  | (with_reducible apply w_lenS; (· with_unfolding_all kas_types))
  | (with_reducible apply w_ixaL; (· lcg_sub); (· kxs_still))
  | (with_reducible apply w_ixaT; (· lcg_sub); (· kxs_still))
  | (with_reducible apply w_ixaS; (· with_unfolding_all kas_types); (· kxs_still))
  | (with_reducible apply w_ixS; (· with_unfolding_all kas_types); (· kxs_still))
  | (with_reducible apply w_slL; (· lcg_sub))
  | (with_reducible apply w_slS; (· with_unfolding_all kas_types))
  | (with_reducible apply w_addS; (· with_unfolding_all kas_types))
  | (with_reducible apply w_listL; (· lcg_sub))
  | (with_reducible apply w_tupL; (· lcg_sub))
  | (with_reducible apply w_divmod; (· with_unfolding_all kas_types))
  | (simp only [u_var, u_c, u_op, u_un, u_test, u_tB, u_bl, u_I0, u_eqS, u_eqI, u_neS, u_neI, u_seq, u_next, u_asg, u_name, u_ret, u_retN, u_drop, u_ifS, u_ifE, u_and, u_or, u_not, u_andV, u_orV, u_notV, u_nil, u_cons, u_call, u_cb, u_tup, u_lst, u_sub, u_gNil, u_gCons, u_bm, u_m1, u_isS, u_sl, u_noPart, u_part, u_partk, u_par, u_par2, u_for, u_lc, u_rng1, u_itL, u_itT, u_yes, u_fldI, u_putI, u_newI, u_methI, u_make, u_some, u_i0, u_i1, u_K, L2.start, wipe, List.map_cons, List.map_nil, List.length_cons, List.length_nil, List.replicate_succ, List.replicate_zero, List.cons_append, List.nil_append, List.set_cons_zero, List.set_cons_succ, ite_true, ite_false, if_true, if_false, Bool.false_eq_true, eq_self, true_and, and_true])
  | (with_reducible apply w_eq; (· kxs_still))
  | (with_reducible apply w_ne; (· kxs_still)))
/-! ### names: a list of texts -/
theorem str_app_len (a b : Str) : (a ++ b).length = a.length + b.length := by
  show (a.cps ++ b.cps).size = a.cps.size + b.cps.size
  simp
theorem one_len (c : Nat) : (⟨#[c]⟩ : Str).length = 1 := rfl
theorem sum_ones : ∀ ys : List Str, (∀ y ∈ ys, y.length = 1) → (ys.map (·.length)).sum = ys.length
  | [], _ => rfl
  | y :: r, h => by
    rw [List.map_cons, List.sum_cons, sum_ones r fun z hz => h z (List.mem_cons_of_mem _ hz), h y (List.mem_cons_self ..), List.length_cons]
    omega
theorem join_len (ys : List Str) (h : ∀ y ∈ ys, y.length = 1) : (Txt.join "" ys).length ≤ ys.length := by
  have q := PySem.StrLaws.join_length_le "" ys
  rw [sum_ones ys h] at q
  rw [show Txt.join "" ys = Str.join "" ys from PySem.StrLaws.glued_eq_join _ _]
  have e : ys.length * (("" : Str).length) = 0 := by
    have : ("" : Str).length = 0 := by decide
    rw [this]; rfl
  omega
theorem letter_ok {c : Nat} (h : c ∈ ("abcdefghijklmnopqrstuvwxyz" : Str).cps.toList) : sOk ⟨#[c]⟩ = true := by
  have q : ∀ c ∈ ("abcdefghijklmnopqrstuvwxyz" : Str).cps.toList, sOk ⟨#[c]⟩ = true := by decide +kernel
  exact q c h
def spNames : Sp := fun vs H Q _ => ∃ (bx : Addr) (n : Nat), vs = [.ref bx, .int 22] ∧ BoxAt H bx n ∧ n ≤ 900000 ∧
  ∀ (p : Addr) (xs : List Str) (H' : Hp), H p = none → xs.length = 22 → (∀ x ∈ xs, sOk x = true) → H' p = some (.lst (xs.map V.str)) → BoxAt H' bx (n + 100) → KB bx H H' → Q (.ref p) H'
theorem C_some_names {P : Program} {w : World} {K : PySem.W.Frag} {mg : Str → Option Value} {base : Heap} (T : Txt K mg) : Cal P w K mg base 3 "_law_some_names" ["_law_box", "_law_many"] spNames := by
  have C_pick := C_pick (P := P) (w := w) (base := base) T
  have C_take := C_take (P := P) (w := w) (base := base) T
  refine cal_mk T 47 rfl T.g_some_names sc_some_names rfl rfl (fun _ _ _ _ _ _ us hl => match us, hl with | [_, _], _ => rfl) (fun vs H Q E h => ?_) (fun f cdv A outer s H vs Q E hr h => ?_)
  · obtain ⟨bx, n, rfl, hb, hn, k⟩ := h
    rfl
  obtain ⟨bx, n, rfl, hb, hn, k⟩ := h
  refine ⟨_, (pss_cons (ps_asg (pe_tup (pa_cons pe_str (pa_cons (pe_lst pa_nil) pa_nil))) (pg_tupK (K := K) (n := 2) rfl rfl (pgs_cons (pg_name (i := 2) sc_some_names.nd rfl (Or.inr rfl)) (pgs_cons (pg_name (i := 3) sc_some_names.nd rfl (Or.inl rfl)) pgs_nil))))
 (pss_cons (ps_set (i := 5) sc_some_names.nd rfl (Or.inl rfl) (pe_joinK (K := K) rfl pe_str (pe_lc (own := [("_law_k", 4)]) rfl sc_some_names.nd (pi_range1 rfl T.f_range (pa_cons (pe_cal C_take (hr.mono (by decide)) rfl (pa_cons (pv 0) (pa_cons pe_int pa_nil))) pa_nil)) (blkOk_by (own := [("_law_k", 4)]) (N := n_some_names) (sc := defScope s_some_names) (by decide +kernel)) (fun _ _ _ _ _ => (pg_name (i := 4) sc_some_names.nd rfl (Or.inl rfl))) (fun _ _ _ _ _ => pts_nil) (fun _ _ _ _ _ => (pe_cal C_pick hr rfl (pa_cons (pv 0) (pa_cons (pv 2) pa_nil)))))))
 (pss_cons (ps_par (i := 6) (j := 7) rfl sc_some_names.nd rfl rfl (by decide) rfl rfl (pa_cons (pe_cal C_take (hr.mono (by decide)) rfl (pa_cons (pv 0) (pa_cons (pe_op op_add (pe_callB (call_lenK (K := K) rfl) (by rfl) T.f_len (by decide +kernel) (pa_cons (pv 5) pa_nil)) pe_int) pa_nil))) (pa_cons (pe_cal C_take (hr.mono (by decide)) rfl (pa_cons (pv 0) (pa_cons pe_int pa_nil))) pa_nil)) (by rfl))
 (pss_cons (ps_for PassesOwn.never rfl (pi_range1 rfl T.f_range (pa_cons (pv 1) pa_nil)) (pg_name (i := 4) sc_some_names.nd rfl (Or.inl rfl)) (pss_cons (ps_set (i := 8) sc_some_names.nd rfl (Or.inl rfl) (pe_ix ix_str (pv 2) (pe_op op_mod (pe_op op_add (pv 7) (pe_op op_mul pe_int (pv 4))) pe_int) (fun _ _ => rfl)))
 (pss_one (ps_expr (pe_bmK (K := K) rfl PySem.F.plainAttrs_list PySem.F.slot_list_insert PySem.F.type_list_insert mt_insertM (pv 3) (pa_cons (pe_cal C_take (hr.mono (by decide)) rfl (pa_cons (pv 0) (pa_cons (pe_op op_add (pv 4) pe_int) pa_nil))) (pa_cons (pe_ifExp (pt_cmpR op_eq (pe_op op_mod (pv 4) pe_int) pe_int (nomark _)) (pv 8) (pe_op op_addStr (pe_op op_addStr (pe_slice sl_str (pv 5) po_none (po_some (pv 6))) (pv 8)) (pe_slice sl_str (pv 5) (po_some (pv 6)) po_none))) pa_nil)))))))
 (pss_one (ps_ret (pv 3))))))), ?_⟩
  have g := Bfg.start hb
  nested_keys
  refine w_newB g fun lf H1 lf0 g => ?_
  nested_keys
  refine w_newB g fun tp H2 tp0 g => ?_
  nested_keys
  refine w_take g (by omega) (by omega) (by omega) fun m H3 m0 m1 g => ?_
  nested_keys
  intro lr hlr
  have lr0 := g.kp.nn hlr
  refine lc_range (lo := 0) (n := m.toNat) (fun i H' => ∃ ys : List Str, ys.length = i ∧ (∀ y ∈ ys, y.length = 1) ∧ (∀ y ∈ ys, sOk y = true) ∧ Bfg bx (n + 1 + i) H ((lr, .lst (ys.map V.str)) :: (tp, .tup [.str "abcdefghijklmnopqrstuvwxyz", .ref lf]) :: (lf, .lst []) :: []) H')
    ⟨[], rfl, by simp, by simp, g.new hlr⟩ ?_ ?_
  · rintro i H4 hi ⟨ys, hl, h1, h1s, g⟩
    nested_keys
    refine w_pick (xs := ("abcdefghijklmnopqrstuvwxyz" : Str).cps.toList.map fun c => V.str ⟨#[c]⟩) g (by omega) (.inr (.inr ⟨_, rfl, by decide, rfl⟩)) (by decide) (by decide) fun j v H5 hj g => ?_
    rw [List.getElem?_map] at hj
    obtain ⟨c, hc, rfl⟩ := Option.map_eq_some_iff.mp hj
    refine ⟨_, g.hd, by rw [List.length_map]; exact small1000 (by omega), ys ++ [⟨#[c]⟩], by simp [hl], ?_, ?_, by rw [List.map_append]; exact g.wr 0 rfl (fun _ z => by cases z) lr0⟩
    · intro y hy
      rcases List.mem_append.mp hy with hy | hy
      · exact h1 y hy
      · rw [List.mem_singleton.mp hy]; rfl
    · intro y hy
      rcases List.mem_append.mp hy with hy | hy
      · exact h1s y hy
      · rw [List.mem_singleton.mp hy]
        exact letter_ok (List.mem_of_getElem? hc)
  · rintro H4 ⟨ys, hl, h1, h1s, g⟩
    nested_keys
    have jl := join_len ys h1
    have js : sOk (Txt.join "" ys) = true := by
      rw [show Txt.join "" ys = Str.join "" ys from PySem.StrLaws.glued_eq_join _ _]
      exact sOk_join ys h1s
    refine w_join g.hd (by rw [sum_ones ys h1]; have : ("" : Str).length = 0 := by decide
                           rw [this]; omega) ?_
    generalize Txt.join "" ys = rest at jl js
    have jl7 : rest.length ≤ 7 := by omega
    nested_keys
    refine w_take g (by omega) (by omega) (by omega) fun at_ H5 a0 a1 g => ?_
    nested_keys
    refine w_take g (by omega) (by omega) (by omega) fun fi H6 f0 f1 g => ?_
    nested_keys
    have g := g.sub (D' := [(lf, .lst [])]) (by simp)
    have g := g.le (show n + 1 + m.toNat + 1 + 1 ≤ n + 60 by omega)
    refine for_range (lo := 0) (n := 22) (fun i σ H' => ∃ (fs : List Str) (kv sv : Option V), fs.length = i ∧ (∀ x ∈ fs, sOk x = true) ∧ σ = [some (.ref bx), some (.int 22), some (.str "abcdefghijklmnopqrstuvwxyz"), some (.ref lf), kv, some (.str rest), some (.int at_), some (.int fi), sv] ∧
      Bfg bx (n + 60 + i) H [(lf, .lst (fs.map V.str))] H') ⟨[], _, _, rfl, by simp, rfl, g⟩ ?_ ?_
    · rintro i σ H7 hi ⟨fs, kv, sv, hf, hfs, rfl, g⟩
      nested_keys
      obtain ⟨j, c, e0, e1, e2⟩ := at_lt (xs := ("abcdefghijklmnopqrstuvwxyz" : Str).cps.toList) (v := (fi + 7 * (0 + (i : Int))) % 26) (Int.emod_nonneg _ (by decide)) (Int.emod_lt_of_pos _ (by decide))
      refine w_ixS (by decide) e2 ?_
      nested_keys
      refine w_take g (by omega) (by omega) (by omega) fun pl H8 p0 p1 g => ?_
      nested_keys
      have fin : ∀ z : Str, sOk z = true → ∀ σ' : L2.St, (∃ kv sv, σ' = [some (.ref bx), some (.int 22), some (.str "abcdefghijklmnopqrstuvwxyz"), some (.ref lf), kv, some (.str rest), some (.int at_), some (.int fi), sv]) →
          ∃ (fs' : List Str) (kv sv : Option V), fs'.length = i + 1 ∧ (∀ x ∈ fs', sOk x = true) ∧ σ' = [some (.ref bx), some (.int 22), some (.str "abcdefghijklmnopqrstuvwxyz"), some (.ref lf), kv, some (.str rest), some (.int at_), some (.int fi), sv] ∧
            Bfg bx (n + 60 + (i + 1)) H [(lf, .lst (fs'.map V.str))] (upd H8 lf (.lst ((fs.map V.str).take pl.toNat ++ [.str z] ++ (fs.map V.str).drop pl.toNat))) := by
        rintro z hz σ' ⟨kv, sv, rfl⟩
        refine ⟨fs.take pl.toNat ++ [z] ++ fs.drop pl.toNat, kv, sv, ?_, fun x m => ?_, rfl, ?_⟩
        · simp only [List.length_append, List.length_take, List.length_drop, List.length_singleton]; omega
        · rcases List.mem_append.mp m with m | m
          · rcases List.mem_append.mp m with m | m
            · exact hfs x (List.mem_of_mem_take m)
            · rw [List.mem_singleton.mp m]; exact hz
          · exact hfs x (List.mem_of_mem_drop m)
        · have q := g.wr (o := .lst ((fs.map V.str).take pl.toNat ++ [.str z] ++ (fs.map V.str).drop pl.toNat)) 0 rfl (fun _ z => by cases z) lf0
          rw [List.map_append, List.map_append, List.map_take, List.map_drop]
          exact q
      refine ite_d (fun cc => ?_) (fun cc => ?_)
      · nested_keys
        exact ⟨lf, _, pl, _, rfl, rfl, g.get 0 rfl, by rw [List.length_map]; exact small1000 (by omega), p0, by omega, fin _ (letter_ok (List.mem_of_getElem? e1)) _ ⟨_, _, rfl⟩⟩
      · have c1 := cutS_length rest none (some at_)
        have c2 := cutS_length rest (some at_) none
        have c3 := str_app_len (cutS rest none (some at_)) ⟨#[c]⟩
        rw [one_len] at c3
        have c4 := one_len c
        nested_keys
        exact ⟨lf, _, pl, _, rfl, rfl, g.get 0 rfl, by rw [List.length_map]; exact small1000 (by omega), p0, by omega, fin _ (sOk_app (sOk_app (sOk_cut js _ _) (letter_ok (List.mem_of_getElem? e1))) (sOk_cut js _ _)) _ ⟨_, _, rfl⟩⟩
    · rintro σ H7 ⟨fs, kv, sv, hf, hfs, rfl, g⟩
      nested_keys
      exact k lf fs H7 lf0 hf hfs g.hd (g.box.le (by omega)) g.kp

end K87

namespace K87
open PySem PySem.Spec PyProof.Rows L2
local macro_rules | `(tactic| kxs_still) => `(tactic| with_unfolding_all rfl)
local macro_rules | `(tactic| lcg_sub) => `(tactic| first
  | assumption
  | (apply Cfg.get (i := 0) <;> first | assumption | kxs_still)
  | (apply Cfg.get (i := 1) <;> first | assumption | kxs_still)
  | (apply Cfg.get (i := 2) <;> first | assumption | kxs_still)
  | (apply Cfg.get (i := 3) <;> first | assumption | kxs_still)
  | (apply Cfg.get (i := 4) <;> first | assumption | kxs_still)
  | (apply Cfg.get (i := 5) <;> first | assumption | kxs_still)
  | (apply Cfg.get (i := 6) <;> first | assumption | kxs_still)
  | (apply Cfg.get (i := 7) <;> first | assumption | kxs_still)
  | (apply Cfg.get (i := 8) <;> first | assumption | kxs_still)
  | (apply Cfg.get (i := 9) <;> first | assumption | kxs_still)
  | (apply Cfg.get (i := 0) <;> first | (apply Bfg.toCfg; assumption) | kxs_still)
  | (apply Cfg.get (i := 1) <;> first | (apply Bfg.toCfg; assumption) | kxs_still)
  | (apply Cfg.get (i := 2) <;> first | (apply Bfg.toCfg; assumption) | kxs_still)
  | (apply Cfg.get (i := 3) <;> first | (apply Bfg.toCfg; assumption) | kxs_still)
  | (apply Cfg.get (i := 4) <;> first | (apply Bfg.toCfg; assumption) | kxs_still)
  | (apply Cfg.get (i := 5) <;> first | (apply Bfg.toCfg; assumption) | kxs_still)
  | (apply Cfg.get (i := 6) <;> first | (apply Bfg.toCfg; assumption) | kxs_still)
  | (apply Cfg.get (i := 7) <;> first | (apply Bfg.toCfg; assumption) | kxs_still)
  | (apply Cfg.get (i := 8) <;> first | (apply Bfg.toCfg; assumption) | kxs_still)
  | (apply Cfg.get (i := 9) <;> first | (apply Bfg.toCfg; assumption) | kxs_still))
local macro_rules | `(tactic| kas_types) => `(tactic| first
  | assumption | decide | omega | exact Or.inl (by omega) | exact Or.inr (by omega) | exact ⟨by omega, by omega⟩ | exact ⟨by omega, by omega, by omega⟩)
local macro_rules | `(tactic| keq_hits) => `(tactic| simp only [u_var, u_c, u_op, u_un, u_test, u_tB, u_bl, u_I0, u_eqS, u_eqI, u_neS, u_neI, u_seq, u_next, u_asg, u_name, u_ret, u_retN, u_drop, u_ifS, u_ifE, u_and, u_or, u_not, u_andV, u_orV, u_notV, u_nil, u_cons, u_call, u_cb, u_tup, u_lst, u_sub, u_gNil, u_gCons, u_bm, u_m1, u_isS, u_sl, u_noPart, u_part, u_partk, u_par, u_par2, u_for, u_lc, u_rng1, u_itL, u_itT, u_yes, u_fldI, u_putI, u_newI, u_methI, u_make, u_some, u_i0, u_i1, u_K, L2.start, wipe, List.map_cons, List.map_nil, List.length_cons, List.length_nil, List.replicate_succ, List.replicate_zero, List.cons_append, List.nil_append, List.set_cons_zero, List.set_cons_succ, ite_true, ite_false, if_true, if_false, Bool.false_eq_true, eq_self, true_and, and_true])
local macro_rules | `(tactic| nested_keys) => `(tactic| repeat first
  | (with_reducible apply w_nx)
  | (with_reducible apply w_blk)
  | (with_reducible apply w_I; (· with_unfolding_all kas_types))
  | (with_reducible apply w_ixT; (· lcg_sub); (· kxs_still))
  | (with_reducible apply w_ixL; (· lcg_sub); (· kxs_still))
  | (with_reducible apply w_fldI; (· lcg_sub); (· kxs_still))
  | (with_reducible apply w_methI; (· lcg_sub))
  | (with_reducible apply w_sz; (· with_unfolding_all exact Nat.le_of_ble_eq_true rfl))
  | (with_reducible apply w_gTup; (· lcg_sub); (· kxs_still))
  | (with_reducible apply w_tyL; (· lcg_sub))
  | (with_reducible apply w_rng1k; (· with_unfolding_all kas_types); (· with_unfolding_all kas_types))
  | (with_reducible apply w_itLk; (· lcg_sub))
  | (with_reducible apply w_itTk; (· lcg_sub))
  | (with_reducible apply w_lenL; (· lcg_sub))
  | (with_reducible apply w_lenT; (· lcg_sub))
  | (with_reducible apply w_lenS; (· with_unfolding_all kas_types))
  | (with_reducible apply w_ixaL; (· lcg_sub); (· kxs_still))
  | (with_reducible apply w_ixaT; (· lcg_sub); (· kxs_still))
  | (with_reducible apply w_ixaS; (· with_unfolding_all kas_types); (· kxs_still))
  | (with_reducible apply w_ixS; (· with_unfolding_all kas_types); (· kxs_still))
  | (with_reducible apply w_slL; (· lcg_sub))
  | (with_reducible apply w_slS; (· with_unfolding_all kas_types))
  | (with_reducible apply w_addS; (· with_unfolding_all kas_types))
  | (with_reducible apply w_listL; (· lcg_sub))
  | (with_reducible apply w_tupL; (· lcg_sub))
  | (with_reducible apply w_divmod; (· with_unfolding_all kas_types))
  | (simp only [u_var, u_c, u_op, u_un, u_test, u_tB, u_bl, u_I0, u_eqS, u_eqI, u_neS, u_neI, u_seq, u_next, u_asg, u_name, u_ret, u_retN, u_drop, u_ifS, u_ifE, u_and, u_or, u_not, u_andV, u_orV, u_notV, u_nil, u_cons, u_call, u_cb, u_tup, u_lst, u_sub, u_gNil, u_gCons, u_bm, u_m1, u_isS, u_sl, u_noPart, u_part, u_partk, u_par, u_par2, u_for, u_lc, u_rng1, u_itL, u_itT, u_yes, u_fldI, u_putI, u_newI, u_methI, u_make, u_some, u_i0, u_i1, u_K, L2.start, wipe, List.map_cons, List.map_nil, List.length_cons, List.length_nil, List.replicate_succ, List.replicate_zero, List.cons_append, List.nil_append, List.set_cons_zero, List.set_cons_succ, ite_true, ite_false, if_true, if_false, Bool.false_eq_true, eq_self, true_and, and_true])
  | (with_reducible apply w_eq; (· kxs_still))
  | (with_reducible apply w_ne; (· kxs_still)))
theorem seq_nat {n j : Nat} (h : j < n) : seqIndex? (j : Int) n = some j := (ixN_seq (Evl.ixN_nat h)).1
theorem erase_perm {α : Type} : ∀ {l : List α} {j : Nat} {x : α}, l[j]? = some x → (x :: l.eraseIdx j).Perm l
  | [], _, _, h => by simp at h
  | a :: r, 0, x, h => by
    have e : a = x := Option.some.inj h
    subst e
    exact List.Perm.refl _
  | a :: r, j + 1, x, h => by
    have h : r[j]? = some x := h
    show (x :: a :: r.eraseIdx j).Perm (a :: r)
    exact (List.Perm.swap a x _).trans ((erase_perm h).cons a)
/-- the same things in another order -/
def spShuf : Sp := fun vs H Q _ => ∃ (bx : Addr) (n : Nat) (a : Addr) (xs : List V), vs = [.ref bx, .ref a] ∧ BoxAt H bx n ∧ n ≤ 900000 ∧ H a = some (.lst xs) ∧ a ≠ bx ∧ xs.length ≤ 1000 ∧
  ∀ (p : Addr) (ys : List V) (H' : Hp), H p = none → ys.Perm xs → H' p = some (.lst ys) → BoxAt H' bx (n + 1000) → KB bx H H' → Q (.ref p) H'
theorem C_shuffled {P : Program} {w : World} {K : PySem.W.Frag} {mg : Str → Option Value} {base : Heap} (T : Txt K mg) : Cal P w K mg base 2 "_law_shuffled" ["_law_box", "_law_things"] spShuf := by
  have C_take := C_take (P := P) (w := w) (base := base) T
  refine cal_mk T 48 rfl T.g_shuffled sc_shuffled rfl rfl (fun _ _ _ _ _ _ us hl => match us, hl with | [_, _], _ => rfl) (fun vs H Q E h => ?_) (fun f cdv A outer s H vs Q E hr h => ?_)
  · obtain ⟨bx, n, a, xs, rfl, hb, hn, ha, hne, hl, k⟩ := h
    rfl
  obtain ⟨bx, n, a, xs, rfl, hb, hn, ha, hne, hl, k⟩ := h
  refine ⟨_, (pss_cons (ps_set (i := 2) sc_shuffled.nd rfl (Or.inr rfl) (pe_callTy (call_listK (K := K) rfl) (by rfl) T.f_list (by decide +kernel) (pa_cons (pv 1) pa_nil)))
 (pss_one (ps_ret (pe_lc (own := [("_law_turn", 3)]) rfl sc_shuffled.nd (pi_range1 rfl T.f_range (pa_cons (pe_callB (call_lenK (K := K) rfl) (by rfl) T.f_len (by decide +kernel) (pa_cons (pv 1) pa_nil)) pa_nil)) (blkOk_by (own := [("_law_turn", 3)]) (N := n_shuffled) (sc := defScope s_shuffled) (by decide +kernel)) (fun _ _ _ _ _ => (pg_name (i := 3) sc_shuffled.nd rfl (Or.inl rfl))) (fun _ _ _ _ _ => pts_nil) (fun _ _ _ _ _ => (pe_bmK (K := K) rfl PySem.F.plainAttrs_list PySem.F.slot_list_pop PySem.F.type_list_pop mt_popAtM (pv 2) (pa_cons (pe_cal C_take hr rfl (pa_cons (pv 0) (pa_cons (pe_callB (call_lenK (K := K) rfl) (by rfl) T.f_len (by decide +kernel) (pa_cons (pv 2) pa_nil)) pa_nil))) pa_nil))))))), ?_⟩
  have g := Bfg.start hb
  nested_keys
  refine w_newB g fun r H1 r0 g => ?_
  have ha1 : H1 a = some (.lst xs) := g.kp.kp _ _ ha hne
  nested_keys
  intro D hD
  have D0 := g.kp.nn hD
  refine lc_range (lo := 0) (n := (xs.length : Int).toNat) (fun i H' => ∃ ys zs : List V, (ys ++ zs).Perm xs ∧ ys.length = i ∧ Bfg bx (n + i) H [(D, .lst ys), (r, .lst zs)] H') ⟨[], xs, List.Perm.refl _, rfl, g.new hD⟩ ?_ ?_
  · rintro i H2 hi ⟨ys, zs, hp, hy, g⟩
    have el := hp.length_eq
    rw [List.length_append] at el
    have hi' : i < xs.length := by omega
    nested_keys
    refine w_take g (by omega) (by omega) (by omega) fun v H3 v0 v1 g => ?_
    nested_keys
    obtain ⟨j, x, rfl, e1, e2⟩ := at_lt v0 v1
    have hj : j < zs.length := by omega
    refine w_popB 1 g rfl (by omega) (seq_nat hj) e1 r0 fun H4 g => ?_
    refine ⟨_, g.hd, small1000 (by omega), ys ++ [x], zs.eraseIdx j, ?_, by simp [hy], ?_⟩
    · refine List.Perm.trans ?_ hp
      rw [List.append_assoc]
      refine List.Perm.append_left ys ?_
      exact erase_perm e1
    · exact g.wr 0 rfl (fun _ z => by cases z) D0
  · rintro H2 ⟨ys, zs, hp, hy, g⟩
    have el := hp.length_eq
    rw [List.length_append] at el
    have hz : zs = [] := List.length_eq_zero_iff.mp (by omega)
    rw [hz, List.append_nil] at hp
    exact k D ys H2 D0 hp g.hd (g.box.le (by omega)) g.kp
/-- what is washed: a tuple of rows -/
def WashV (x : V) (H : Hp) : Prop := ∃ (a : Addr) (s1 s2 : Str) (h : V), x = .ref a ∧ H a = some (.tup [.str s1, .str s2, h]) ∧ (h = .non ∨ ∃ i : Int, h = .int i)
theorem WashV.up {x : V} {H H' : Hp} (h : WashV x H) (k : Tp H H') : WashV x H' := by
  obtain ⟨a, s1, s2, u, e, h1, h2⟩ := h
  exact ⟨a, s1, s2, u, e, k _ _ h1, h2⟩
def spWashes : Sp := fun vs H Q _ => ∃ (bx : Addr) (n : Nat) (a : Addr) (xs : List Str), vs = [.ref bx, .ref a] ∧ BoxAt H bx n ∧ n ≤ 900000 ∧ H a = some (.lst (xs.map V.str)) ∧ a ≠ bx ∧ xs.length ≤ 3 ∧
  ∀ (p : Addr) (ws : List V) (H' : Hp), ws.length ≤ 60 → H' p = some (.tup ws) → (∀ x ∈ ws, WashV x H') → BoxAt H' bx (n + 100) → KB bx H H' → Q (.ref p) H'
theorem C_some_washes {P : Program} {w : World} {K : PySem.W.Frag} {mg : Str → Option Value} {base : Heap} (T : Txt K mg) : Cal P w K mg base 2 "_law_some_washes" ["_law_box", "_law_names"] spWashes := by
  have C_take := C_take (P := P) (w := w) (base := base) T
  refine cal_mk T 50 rfl T.g_some_washes sc_some_washes rfl rfl (fun _ _ _ _ _ _ us hl => match us, hl with | [_, _], _ => rfl) (fun vs H Q E h => ?_) (fun f cdv A outer s H vs Q E hr h => ?_)
  · obtain ⟨bx, n, a, xs, rfl, hb, hn, ha, hne, hl, k⟩ := h
    rfl
  obtain ⟨bx, n, a, xs, rfl, hb, hn, ha, hne, hl, k⟩ := h
  refine ⟨_, (pss_cons (ps_set (i := 2) sc_some_washes.nd rfl (Or.inl rfl) (pe_lst pa_nil))
 (pss_cons (ps_for PassesOwn.never rfl (pi_listK (K := K) rfl (pv 1)) (pg_name (i := 3) sc_some_washes.nd rfl (Or.inl rfl)) (pss_one (ps_for PassesOwn.never rfl (pi_listK (K := K) rfl (pv 1)) (pg_name (i := 4) sc_some_washes.nd rfl (Or.inl rfl)) (pss_cons (ps_set (i := 5) sc_some_washes.nd rfl (Or.inl rfl) (pe_ix (ix_listK (K := K) rfl) (pe_lst (pa_cons (pe_cal C_take hr rfl (pa_cons (pv 0) (pa_cons pe_int pa_nil))) (pa_cons pe_int (pa_cons pe_non (pa_cons (pe_cal C_take hr rfl (pa_cons (pv 0) (pa_cons pe_int pa_nil))) pa_nil))))) (pe_cal C_take hr rfl (pa_cons (pv 0) (pa_cons pe_int pa_nil))) (fun _ _ => rfl)))
 (pss_one (ps_if (PW.pt (pw_and (pt_cmpR op_ne (pv 3) (pv 4) (nomark _)) (pw_and (pt_cmpR op_eq (pe_cal C_take hr rfl (pa_cons (pv 0) (pa_cons pe_int pa_nil))) pe_int (nomark _)) (pw_and1 (pt_cmpR op_lt (pe_callB (call_lenK (K := K) rfl) (by rfl) T.f_len (by decide +kernel) (pa_cons (pv 2) pa_nil)) pe_int (nomark _)))))) (pss_one (ps_expr (pe_bmK (K := K) rfl PySem.F.plainAttrs_list PySem.F.slot_list_append PySem.F.type_list_append mt_appendM (pv 2) (pa_cons (pe_tup (pa_cons (pv 3) (pa_cons (pv 4) (pa_cons (pv 5) pa_nil)))) pa_nil)))) pss_nil))))))
 (pss_one (ps_ret (pe_callTy (call_tupK (K := K) rfl) (by rfl) T.f_tuple (by decide +kernel) (pa_cons (pv 2) pa_nil)))))), ?_⟩
  have g := Bfg.start hb
  nested_keys
  refine w_newB g fun lf H1 lf0 g => ?_
  have hin : ∀ {m : Nat} {H' : Hp} {D : List (Addr × HO)}, Bfg bx m H D H' → H' a = some (.lst (xs.map V.str)) := fun g => g.kp.kp _ _ ha hne
  have ha1 := hin g
  nested_keys
  refine for_list (K := K) (a := a) (xs := xs.map V.str) (fun i σ H' => ∃ (ws : List V) (v3 v4 v5 : Option V), ws.length ≤ 3 * i ∧ (∀ x ∈ ws, WashV x H') ∧ σ = [some (.ref bx), some (.ref a), some (.ref lf), v3, v4, v5] ∧ Bfg bx (n + 20 * i) H [(lf, .lst ws)] H')
    ⟨[], _, _, _, by simp, by simp, rfl, g⟩ (fun i σ H' _ ⟨_, _, _, _, _, _, _, g⟩ => SqL.of (hin g)) ?_ ?_
  · rintro i x σ H2 hi ⟨ws, v3, v4, v5, hw, hW, rfl, g⟩
    have hi3 : i < 3 := by
      have q := (List.getElem?_eq_some_iff.mp hi).1
      rw [List.length_map] at q
      omega
    rw [List.getElem?_map] at hi
    obtain ⟨x, hx, rfl⟩ := Option.map_eq_some_iff.mp hi
    have ha1 := hin g
    nested_keys
    refine for_list (K := K) (a := a) (xs := xs.map V.str) (fun j σ H' => ∃ (ws : List V) (v4 v5 : Option V), ws.length ≤ 3 * i + j ∧ (∀ x ∈ ws, WashV x H') ∧ σ = [some (.ref bx), some (.ref a), some (.ref lf), some (.str x), v4, v5] ∧ Bfg bx (n + 20 * i + 4 * j) H [(lf, .lst ws)] H')
      ⟨ws, _, _, by omega, hW, rfl, g⟩ (fun i σ H' _ ⟨_, _, _, _, _, _, g⟩ => SqL.of (hin g)) ?_ ?_
    · rintro j y σ H3 hj ⟨ws, v4, v5, hw, hW, rfl, g⟩
      have hj3 : j < 3 := by
        have q := (List.getElem?_eq_some_iff.mp hj).1
        rw [List.length_map] at q
        omega
      rw [List.getElem?_map] at hj
      obtain ⟨y, hy, rfl⟩ := Option.map_eq_some_iff.mp hj
      nested_keys
      refine w_takeT g (by omega) (by omega) (by omega) fun c1 H4 _ _ g4 t4 => ?_
      nested_keys
      refine w_takeT g4 (by omega) (by omega) (by omega) fun c2 H5 _ _ g5 t5 => ?_
      nested_keys
      refine w_newBT g5 fun lt H6 lt0 g6 t6 => ?_
      nested_keys
      refine w_takeT g6 (by omega) (by omega) (by omega) fun c3 H7 c30 c31 g7 t7 => ?_
      obtain ⟨j3, u, rfl, e1, e2⟩ := at_lt (xs := [V.int c1, .int 0, .non, .int c2]) c30 c31
      have hu : u = .non ∨ ∃ i : Int, u = .int i := by
        match j3, e1 with
        | 0, e => exact .inr ⟨_, (Option.some.inj e).symm⟩
        | 1, e => exact .inr ⟨_, (Option.some.inj e).symm⟩
        | 2, e => exact .inl (Option.some.inj e).symm
        | 3, e => exact .inr ⟨_, (Option.some.inj e).symm⟩
        | k + 4, e => simp at e
      nested_keys
      have g7 := g7.sub (D' := [(lf, .lst ws)]) (by simp)
      have t37 := ((t4.trans t5).trans t6).trans t7
      refine ite_nd (fun _ => ?_) (fun _ => ?_)
      · refine w_takeT g7 (by omega) (by omega) (by omega) fun c4 H8 _ _ g8 t8 => ?_
        nested_keys
        refine ite_d (fun _ => ?_) (fun _ => ?_)
        · nested_keys
          refine ite_d (fun _ => ?_) (fun _ => ?_)
          · nested_keys
            refine w_newBT g8 fun tp H9 tp0 g9 t9 => ?_
            nested_keys
            refine w_appBT 1 g9 rfl (by omega) lf0 fun H10 g10 t10 => ?_
            nested_keys
            refine ⟨ws ++ [.ref tp], _, _, by simp; omega, fun z hz => ?_, rfl, (g10.sub (D' := [(lf, .lst (ws ++ [.ref tp]))]) (List.sublist_cons_self _ _)).le (by omega)⟩
            rcases List.mem_append.mp hz with hz | hz
            · exact (hW z hz).up (((t37.trans t8).trans t9).trans t10)
            · rw [List.mem_singleton.mp hz]
              exact ⟨tp, x, y, u, rfl, g10.get 0 rfl, hu⟩
          · nested_keys
            exact ⟨ws, _, _, by omega, fun z hz => (hW z hz).up (t37.trans t8), rfl, g8.le (by omega)⟩
        · nested_keys
          exact ⟨ws, _, _, by omega, fun z hz => (hW z hz).up (t37.trans t8), rfl, g8.le (by omega)⟩
      · nested_keys
        exact ⟨ws, _, _, by omega, fun z hz => (hW z hz).up t37, rfl, g7.le (by omega)⟩
    · rintro σ H3 ⟨ws, v4, v5, hw, hW, rfl, g⟩
      rw [List.length_map] at hw
      exact ⟨ws, _, _, _, by omega, hW, rfl, g.le (by rw [List.length_map]; omega)⟩
  · rintro σ H2 ⟨ws, v3, v4, v5, hw, hW, rfl, g⟩
    rw [List.length_map] at hw
    nested_keys
    refine w_newBT g fun p H3 p0 g t => ?_
    exact k p ws H3 (by omega) g.hd (fun x hx => (hW x hx).up t) (g.box.le (by rw [List.length_map]; omega)) g.kp

end K87

namespace K87
open PySem PySem.Spec PyProof.Rows L2
--nomac
/-! ### sorted of tuples that begin with unlike keys of whole numbers and texts -/
namespace SK
open PySem PyProof.Rows PySem.W
def encK : Key → List Int
  | .inl i => [i]
  | .inr s => s.cps.toList.map (fun c : Nat => (c : Int) + 1) ++ [0]
def encs : List Key → List Int
  | [] => []
  | k :: r => encK k ++ encs r
def alk : Key → Key → Bool
  | .inl _, .inl _ => true
  | .inr _, .inr _ => true
  | _, _ => false
def alks : List Key → List Key → Bool
  | [], [] => true
  | k :: r, l :: t => alk k l && alks r t
  | _, _ => false
def kLt (x y : List Key) : Bool := HT.lexLt (encs x) (encs y)
def ltK : Key → Key → Bool
  | .inl i, .inl j => decide (i < j)
  | .inr s, .inr t => decide (s.cps.toList < t.cps.toList)
  | _, _ => false
theorem str_lex : ∀ (a b : List Nat) (X Y : List Int), HT.lexLt ((a.map (fun c : Nat => (c : Int) + 1) ++ [0]) ++ X) ((b.map (fun c : Nat => (c : Int) + 1) ++ [0]) ++ Y) = if a = b then HT.lexLt X Y else decide (a < b)
  | [], [], X, Y => by
    show HT.lexLt (0 :: X) (0 :: Y) = _
    rw [HT.lexLt_cons, if_pos rfl, if_pos rfl]
  | [], c :: r, X, Y => by
    show HT.lexLt (0 :: X) (((c : Int) + 1) :: _) = _
    rw [HT.lexLt_cons, if_neg (by omega), if_neg (by simp)]
    rw [decide_eq_true (by omega : (0 : Int) < (c : Int) + 1)]
    exact (decide_eq_true (List.nil_lt_cons c r)).symm
  | c :: r, [], X, Y => by
    show HT.lexLt (((c : Int) + 1) :: _) (0 :: Y) = _
    rw [HT.lexLt_cons, if_neg (by omega), if_neg (by simp)]
    rw [decide_eq_false (by omega : ¬ (c : Int) + 1 < 0)]
    exact (decide_eq_false (List.not_lt_nil _)).symm
  | c :: r, d :: t, X, Y => by
    show HT.lexLt (((c : Int) + 1) :: ((r.map (fun c : Nat => (c : Int) + 1) ++ [0]) ++ X)) (((d : Int) + 1) :: ((t.map (fun c : Nat => (c : Int) + 1) ++ [0]) ++ Y)) = _
    rw [HT.lexLt_cons]
    by_cases e : c = d
    · subst e
      rw [if_pos rfl, str_lex r t X Y]
      by_cases e2 : r = t
      · rw [if_pos e2, if_pos (by rw [e2])]
      · rw [if_neg e2, if_neg (by simpa using e2)]
        exact decide_eq_decide.mpr (by simp [List.cons_lt_cons_iff])
    · rw [if_neg (by omega), if_neg (by simp [e])]
      exact decide_eq_decide.mpr (by rw [List.cons_lt_cons_iff]; omega)
theorem enc_lex {k l : Key} (h : alk k l = true) (X Y : List Int) : HT.lexLt (encK k ++ X) (encK l ++ Y) = if k = l then HT.lexLt X Y else ltK k l := by
  cases k with
  | inl i =>
    cases l with
    | inl j =>
      show HT.lexLt (i :: X) (j :: Y) = _
      rw [HT.lexLt_cons]
      by_cases e : i = j
      · rw [if_pos e, if_pos (by rw [e])]
      · rw [if_neg e, if_neg (by simpa using e)]; rfl
    | inr _ => cases h
  | inr s =>
    cases l with
    | inl _ => cases h
    | inr t =>
      refine (str_lex s.cps.toList t.cps.toList X Y).trans ?_
      have q : s.cps.toList = t.cps.toList ↔ s = t := ⟨fun e => by
        cases s with | mk a => cases t with | mk b => exact congrArg _ (Array.toList_inj.mp e), fun e => by rw [e]⟩
      by_cases e : s = t
      · rw [if_pos (q.mpr e), if_pos (by rw [e])]
      · rw [if_neg (fun z => e (q.mp z)), if_neg (by simpa using e)]; rfl
section
variable {prog : Program} {w : World} {A : Around} {E : Value → Shared → Prop} {s : Shared} {b fin : Bool} {Q : Bool → Shared → Prop}
theorem lex_same : ∀ (l : List Value) (i : Nat), Q fin s → KatLex prog w A b fin Q (l.zip l) i s
  | [], i, h => kat_nil h
  | v :: r, i, h => by
    rw [List.zip_cons_cons]
    refine kat_cons (SeqAt.EqAt.same v prog w _ _ ?_)
    exact kat_yes (lex_same r (i + 1) h)
theorem lex_keys : ∀ (ks ls : List Key) (pre pre' X Y : List Value) (i : Nat), L2.Vals (ks.map L2.kV) pre → L2.Vals (ls.map L2.kV) pre' → alks ks ls = true → ks ≠ ls → Q (kLt ks ls) s → KatLex prog w A b fin Q ((pre ++ X).zip (pre' ++ Y)) i s
  | [], [], _, _, _, _, _, _, _, _, hne, _ => absurd rfl hne
  | [], _ :: _, _, _, _, _, _, _, _, h, _, _ => by cases h
  | _ :: _, [], _, _, _, _, _, _, _, h, _, _ => by cases h
  | k :: ks, l :: ls, pre, pre', X, Y, i, v1, v2, h, hne, hQ => by
    have h : (alk k l && alks ks ls) = true := h
    rw [Bool.and_eq_true] at h
    have v1 : L2.Vals (L2.kV k :: ks.map L2.kV) pre := v1
    have v2 : L2.Vals (L2.kV l :: ls.map L2.kV) pre' := v2
    have hQ : Q (HT.lexLt (encK k ++ encs ks) (encK l ++ encs ls)) s := hQ
    rw [enc_lex h.1] at hQ
    cases v1 with
    | @cons _ p _ pr r1 t1 =>
      cases v2 with
      | @cons _ q _ qr r2 t2 =>
        rw [List.cons_append, List.cons_append, List.zip_cons_cons]
        have rec_ : k = l → KatLex prog w A b fin Q ((pr ++ X).zip (qr ++ Y)) (i + 1) s := fun e => by
          rw [if_pos e] at hQ
          exact lex_keys ks ls pr qr X Y (i + 1) t1 t2 h.2 (fun z => hne (by rw [e, z])) hQ
        cases k with
        | inl a =>
          cases l with
          | inr _ => cases h.1
          | inl c =>
            obtain ⟨t, rfl⟩ := r1
            obtain ⟨u, rfl⟩ := r2
            refine kat_cons (SeqAt.EqAt.int_int a t c u prog w _ _ ?_)
            refine kat_go (fun e => kat_yes (rec_ (by rw [beq_iff_eq.mp e]))) (fun e => ?_)
            have ne : ¬ a = c := fun z => by rw [z, beq_self_eq_true] at e; cases e
            rw [if_neg (fun z => ne (Sum.inl.inj z))] at hQ
            exact kat_no (oneLt_any_int hQ)
        | inr a =>
          cases l with
          | inl _ => cases h.1
          | inr c =>
            obtain ⟨t, rfl⟩ := r1
            obtain ⟨u, rfl⟩ := r2
            refine kat_cons (SeqAt.EqAt.str_str a t c u prog w _ _ ?_)
            refine kat_go (fun e => kat_yes (rec_ (by rw [beq_iff_eq.mp e]))) (fun e => ?_)
            have ne : ¬ a = c := fun z => by rw [z, beq_self_eq_true] at e; cases e
            rw [if_neg (fun z => ne (Sum.inr.inj z))] at hQ
            exact kat_no (oneLt_any_str hQ)
/-- v is a tuple that begins with the keys -/
def IsX (h : Heap) (v : Value) (ks : List Key) : Prop := ∃ a o pre X n, v = .ref a ∧ h.get? a = some o ∧ o.cls = .type "tuple" ∧ o.data = .seq (pre ++ X : List Value).toArray n ∧ L2.Vals (ks.map L2.kV) pre
theorem IsX.keeps {h h' : Heap} {v : Value} {ks : List Key} (p : IsX h v ks) (k : ∀ b o, h.get? b = some o → o.cls = .type "tuple" → h'.get? b = some o) : IsX h' v ks := by
  obtain ⟨a, o, pre, X, n, e, ho, hc, hd⟩ := p
  exact ⟨a, o, pre, X, n, e, k _ _ ho hc, hc, hd⟩
theorem x_cmp {vs : List Value} {k : Value → List Key} (hp : ∀ v ∈ vs, IsX s.heap v (k v)) (ha : ∀ v ∈ vs, ∀ u ∈ vs, alks (k v) (k u) = true) (hi : ∀ v ∈ vs, ∀ u ∈ vs, k v = k u → v = u) :
    SrtO.Cmp prog w A s (tuples' true) (fun p => p.1 ∈ vs) (SrtO.lt2 fun v u => kLt (k v) (k u)) := by
  intro p q hm hm'
  show wpAny (model prog w) A (keyLt' (tuples' true) p.1 q.1) (fun r s' => s' = s ∧ r = kLt (k p.1) (k q.1)) (fun _ _ => False) s
  obtain ⟨a, o, pre, X, n, e, ho, hc, hd, hv⟩ := hp _ hm
  obtain ⟨a', o', pre', X', n', e', ho', hc', hd', hv'⟩ := hp _ hm'
  by_cases z : p.1 = q.1
  · rw [← z, e]
    refine PySem.W.kat_lt ho hd ho hd ?_
    refine lex_same _ _ ⟨rfl, ?_⟩
    rw [show kLt (k (Value.ref a)) (k (Value.ref a)) = false from (NtL.swo_lexL (fun x : List Int => x)).refl _]
    exact decide_eq_false (Nat.lt_irrefl _)
  · have hk : k p.1 ≠ k q.1 := fun y => z (hi _ hm _ hm' y)
    have hal := ha _ hm _ hm'
    rw [e, e'] at hk hal ⊢
    rw [e] at hv
    rw [e'] at hv'
    refine PySem.W.kat_lt ho hd ho' hd' ?_
    exact lex_keys _ _ pre pre' X X' 0 hv hv' hal hk ⟨rfl, rfl⟩
theorem x_firsts {h : Heap} {k : Value → List Key} : ∀ {vs : List Value}, (∀ v ∈ vs, IsX h v (k v) ∧ k v ≠ []) → ∃ fs : List Value, PySem.W.KatTups h vs fs ∧ fs.length = vs.length ∧ ∀ f ∈ fs, ∃ v ∈ vs, ∃ x r, k v = x :: r ∧ L2.RelV (L2.kV x) f
  | [], _ => ⟨[], PySem.W.KatTups.nil, rfl, fun _ hm => by simp at hm⟩
  | v :: vs, hp => by
    obtain ⟨fs, h1, h2, h3⟩ := x_firsts (vs := vs) fun v' hm => hp v' (List.mem_cons_of_mem _ hm)
    obtain ⟨⟨a, o, pre, X, n, e, ho, hc, hd, hv⟩, hne⟩ := hp v (List.mem_cons_self ..)
    cases hk : k v with
    | nil => exact absurd hk hne
    | cons x r =>
      rw [hk] at hv
      have hv : L2.Vals (L2.kV x :: r.map L2.kV) pre := hv
      cases hv with
      | @cons _ f _ pr r1 t1 =>
        subst e
        refine ⟨f :: fs, PySem.W.KatTups.cons ho hc hd rfl h1, by rw [List.length_cons, List.length_cons, h2], fun g hm => ?_⟩
        rcases List.mem_cons.mp hm with rfl | hm
        · exact ⟨_, List.mem_cons_self .., x, r, hk, r1⟩
        · obtain ⟨v', m, q⟩ := h3 g hm
          exact ⟨v', List.mem_cons_of_mem _ m, q⟩
def tyK : Key → Value
  | .inl _ => .type "int"
  | .inr _ => .type "str"
theorem x_sortable {a : Addr} {vs : List Value} {k : Value → List Key} (h0 : 0 < vs.length) (hp : ∀ v ∈ vs, IsX s.heap v (k v) ∧ k v ≠ []) (hal : ∀ v ∈ vs, ∀ u ∈ vs, alks (k v) (k u) = true) (hi : ∀ v ∈ vs, ∀ u ∈ vs, k v = k u → v = u)
    (ha : ∀ o, s.heap.get? a = some o → o.cls ≠ .type "tuple") : SrtO.SortableO prog w A s a vs fun v u => kLt (k v) (k u) := by
  intro h' keep
  have hp' : ∀ v ∈ vs, IsX h' v (k v) ∧ k v ≠ [] := fun v hm => ⟨(hp v hm).1.keeps fun b o e c => keep b o (fun z => by subst z; exact ha o e c) e, (hp v hm).2⟩
  obtain ⟨fs, h1, h2, h3⟩ := x_firsts hp'
  refine ⟨tuples' true, fun Q E hq => ?_, x_cmp (fun v hm => (hp' v hm).1) hal hi⟩
  obtain ⟨v0, m0⟩ : ∃ v0, v0 ∈ vs := List.exists_mem_of_length_pos h0
  cases hk0 : k v0 with
  | nil => exact absurd hk0 (hp v0 m0).2
  | cons x0 r0 =>
    have e : (tyK x0 != Value.type "tuple") = true := by cases x0 <;> first | decide +kernel | rfl | decide
    refine PySem.W.kat_kind (T := tyK x0) h1 (by omega) (fun f hm => ?_) (by cases x0 <;> rfl) (by rw [e]; exact hq)
    obtain ⟨v, mv, x, r, hk, rl⟩ := h3 f hm
    have q := hal v0 m0 v mv
    rw [hk0, hk] at q
    have q : (alk x0 x && alks r0 r) = true := q
    rw [Bool.and_eq_true] at q
    cases x0 with
    | inl i =>
      cases x with
      | inr _ => cases q.1
      | inl j =>
        obtain ⟨t, rfl⟩ := rl
        exact PySem.W.Looks.now
    | inr i =>
      cases x with
      | inl _ => cases q.1
      | inr j =>
        obtain ⟨t, rfl⟩ := rl
        exact PySem.W.Looks.now
end
end SK
theorem kLt_swo {α : Type} (k : α → List Key) : SrtO.Swo fun v u : α => SK.kLt (k v) (k u) := NtL.swo_lexL fun v => SK.encs (k v)
theorem vals_split {ys zs : List V} {us : List Value} (h : Vals (ys ++ zs) us) : ∃ pre X, us = pre ++ X ∧ Vals ys pre := by
  induction ys generalizing us with
  | nil => exact ⟨[], us, rfl, .nil⟩
  | cons y r ih =>
    have h : Vals (y :: (r ++ zs)) us := h
    cases h with
    | cons h1 h2 =>
      obtain ⟨pre, X, rfl, q⟩ := ih h2
      exact ⟨_ :: pre, X, rfl, .cons h1 q⟩
/-- sorted(xs), xs tuples that begin with the keys k; no two of them alike -/
def rSortedX (K : PySem.W.Frag) : List V → Hp → VK → Prop := fun vs H Q => ∃ (a : Addr) (xs : List V) (k : V → List Key), vs = [V.ref a] ∧ SqL K H a xs ∧ (∀ x ∈ xs, k x ≠ [] ∧ ∃ t X, x = V.ref t ∧ H t = some (.tup ((k x).map kV ++ X))) ∧
  (∀ x ∈ xs, ∀ y ∈ xs, SK.alks (k x) (k y) = true) ∧ (∀ x ∈ xs, ∀ y ∈ xs, k x = k y → x = y) ∧
  ∀ ys p, ys.Pairwise (fun x y => SK.kLt (k y) (k x) = false) → ys.Perm xs → H p = none → Q (.ref p) (upd H p (.lst ys))
theorem cr_sortedX {X : Cx} : CallR X (.builtin "sorted") (rSortedX X.K) := by
  intro pins s σ H vs us Q I r h
  obtain ⟨a, xs, k, rfl, hs, hx, hal, hi, q⟩ := h
  obtain ⟨its, rv, hl, hz⟩ := I.list hs
  obtain ⟨u, rfl, ru⟩ := vals1 r
  obtain rfl : u = Value.ref a := ru
  obtain ⟨e1, e2⟩ := refs_back rv fun x m => by
    obtain ⟨_, t, _, e, _⟩ := hx x m
    exact ⟨t, e⟩
  have bm : ∀ v ∈ its, backV v ∈ xs := fun v hv => by rw [e1]; exact List.mem_map.mpr ⟨_, hv, rfl⟩
  have binj : ∀ v ∈ its, ∀ u ∈ its, backV v = backV u → v = u := fun v hv u hu e => by
    obtain ⟨t, rfl⟩ := e2 v hv
    obtain ⟨t', rfl⟩ := e2 u hu
    have e : V.ref t = V.ref t' := e
    rw [V.ref.inj e]
  have hX : ∀ v ∈ its, SK.IsX s.heap v (k (backV v)) ∧ k (backV v) ≠ [] := fun v hv => by
    have m := bm v hv
    obtain ⟨t, rfl⟩ := e2 v hv
    obtain ⟨hne, t', X, e, ht⟩ := hx _ m
    cases e
    obtain ⟨_, its2, r2, o, ho, hc, n, hd⟩ := I.hok _ _ ht
    obtain ⟨pre, X', rfl, r3⟩ := vals_split r2
    exact ⟨⟨t, o, pre, X', n, rfl, ho, hc, hd, r3⟩, hne⟩
  refine SrtO.sorted_ord (ltv := fun v u => SK.kLt (k (backV v)) (k (backV u))) (kLt_swo _) hl.isList (by rw [← rv.length]; exact hz) (fun h2 h₁ a' ha kk => ?_) fun out hso hb => ?_
  · refine SK.x_sortable (k := fun v => k (backV v)) (s := { s with heap := h₁ }) (by omega) (fun v hm => ⟨(hX v hm).1.keeps fun b o e _ => (kk b o e).2, (hX v hm).2⟩) (fun v hv u hu => hal _ (bm v hv) _ (bm u hu))
      (fun v hv u hu e => binj v hv u hu (hi _ (bm v hv) _ (bm u hu) e)) fun o e => ?_
    have e' : some o = some (seqObj "list" its.toArray 0) := e.symm.trans ha
    cases e'
    intro c
    exact absurd (Value.type.inj c) (by decide)
  · have h3 : ∀ u ∈ out, ∃ a, u = Value.ref a := fun u hu => e2 u (hb.perm.mem_iff.mp hu)
    obtain ⟨n, hn⟩ := sortedAll_at s.heap its out.toArray
    have hp : (out.map backV).Perm xs := by rw [e1]; exact hb.perm.map backV
    refine ⟨.ref _, upd H (s.heap.objs.size + 1) (.lst (out.map backV)), I.laid (t' := s.toks) (fun _ _ => sortedAll_old) (Nat.le_succ _) ⟨?_, out, n, vals_back h3, hn⟩, rfl, q _ _ (List.pairwise_map.mpr hso) hp (I.hok.fresh (Nat.le_succ _))⟩
    rw [hp.length_eq]
    exact hz
theorem cr_sortedXK {X : Cx} {K : PySem.W.Frag} (h : X.K = K) : CallR X (.builtin "sorted") (rSortedX K) := h ▸ cr_sortedX

end K87

namespace K87
open PySem PySem.Spec PyProof.Rows L2
--nomac
section
variable {X : Cx} {e : Expr} {te td : TE}
/-- a dict just given, locked from here on -/
def tLk (t : TE) : TE := fun σ H Q => t σ H fun x H1 => ∃ d u, x = .ref d ∧ H1 d = some u ∧ Mut (some u) ∧ ∀ od, Q x (upd H1 d (.frz od u))
theorem pe_lk (h : PE X e te) : PE X e (tLk te) := ⟨fun pins s σ H Q I q => thn (h.run pins s σ H _ I q) fun u s1 ⟨x, H1, I1, rx, d, o, ex, hd, mu, q1⟩ => by
  obtain ⟨od, I2⟩ := I1.lock hd mu
  exact ⟨x, _, I2, rx, q1 od⟩⟩
end
/-! ### d.items() of a dict whose keys are tuples -/
def Itit (d : Addr) (o : Obj) (kvs : List (List Key × V)) : It :=
  ⟨fun i H => H d = some (.frz o (.dT kvs)) ∧ i < kvs.length, fun i H x H' => ∃ T k v q, kvs[i]? = some (k, v) ∧ x = .ref T ∧ H q = some (.tup (k.map kV)) ∧ H T = none ∧ H' = upd H T (.tup [.ref q, v]), fun i H => H d = some (.frz o (.dT kvs)) ∧ kvs.length ≤ i⟩
section
variable {X : Cx} {pins : List (Addr × Obj)} {σ : L2.St} {H : Hp} {s : Shared} {d : Addr} {o : Obj}
theorem frzT2 {kvs : List (List Key × V)} (I : Inv X pins σ H s) (h : H d = some (.frz o (.dT kvs))) :
    (d == sysModules) = false ∧ s.heap.get? d = some o ∧ o.ExactDict ∧ ∃ (es : Array DictEntry) (ep : Nat), o.data = .dict es ep ∧ es.size = kvs.length ∧
      ∀ (i : Nat) (k : List Key) (v : V), kvs[i]? = some (k, v) → ∃ (en : DictEntry) (q : Addr), es[i]? = some en ∧ en.key = .ref q ∧ H q = some (.tup (k.map kV)) ∧ RelV v en.val := by
  obtain ⟨hd, z, hs, xs, pr, o', es, ep, ho, hx, hdt, he, _⟩ := I.hok d _ h
  rw [hd] at ho
  cases ho
  refine ⟨hs, hd, hx, es, ep, hdt, ?_, fun i k v e => ?_⟩
  · have l1 : es.size = xs.length := size_of_entries he
    have l2 : kvs.length = xs.length := Paired.length pr
    omega
  · obtain ⟨b, hb, e1, e2, e3⟩ := paired_get pr e
    have q := entry_at he i
    rw [hb] at q
    exact ⟨_, b.2.1, q, rfl, e2, e3⟩
end
section
variable {P : Program} {w : World} {K : PySem.W.Frag} {tg : Expr} {d : Addr} {o : Obj} {es : Array DictEntry} {ep : Nat}
theorem turn_itemsT {kvs : List (List Key × V)} {elts : List Expr} {kk : Nat} {tpos : Pos} (it : Addr) (hod : o.data = .dict es ep) :
    Turn P w K (.Tuple elts kk tpos) (Itit d o kvs) [it] it (fun i h => ∃ ok ov, IsItemIter h it d i kvs.length ep ok ov) where
  mem := by simp
  obj := fun i h st b hb => by
    have e : b = it := by simpa using hb
    subst e
    obtain ⟨ok, ov, e⟩ := st
    exact ⟨_, e, fun v z => nomatch z⟩
  keep := fun i h h' st k => let ⟨ok, ov, e⟩ := st; ⟨ok, ov, k it (by simp) _ e⟩
  item := by
    intro X hP hw hK hc i pins s σ H E I hf st hg
    subst hP hw hK
    obtain ⟨hd, hi⟩ := hg
    obtain ⟨hs, hgd, hx, es', ep', hdt, hsz, ent⟩ := frzT2 I hd
    obtain ⟨rfl, rfl⟩ := dict_ep hod hdt
    obtain ⟨⟨k, v⟩, hkv⟩ : ∃ p, kvs[i]? = some p := ⟨kvs[i], List.getElem?_eq_getElem hi⟩
    obtain ⟨en, q, hen, hkey, hq, hval⟩ := ent i k v hkv
    obtain ⟨ok, ov, he⟩ := st
    rw [← hsz] at he
    have hi' : i < es'.size := by omega
    have een : es'[i] = en := by
      rw [Array.getElem?_eq_getElem hi'] at hen
      exact Option.some.inj hen
    have hlt : it < s.heap.objs.size := Heap.lt_size he
    have raw : s.heap.DictRaw d es' ep' := ⟨o, hgd, hx, hdt⟩
    refine wpAny_pyNext_items_item_raw he raw hi' fun h' ho hT hz hk => ?_
    rw [een, hkey] at ho hT
    refine ⟨_, rfl, wpAny_letOwnedTupleGo_items (s := { s with heap := h' }) ho fun h'' he' sb => ?_⟩
    have hT2 : h''.get? s.heap.objs.size = some { cls := .type "tuple", data := .seq #[Value.ref q, en.val] } := (sb.2 _ (Nat.ne_of_gt hlt)).trans hT
    have new : ObjOk X.prog X.w (upd H s.heap.objs.size (.tup [.ref q, v])) h'' s.heap.objs.size (.tup [.ref q, v]) :=
      ⟨by show 2 ≤ sizeLine; decide, [Value.ref q, en.val], .cons rfl (.cons hval .nil), ⟨_, hT2, rfl, _, rfl⟩⟩
    have I1 : Inv X pins σ (upd H s.heap.objs.size (.tup [.ref q, v])) { s with heap := h'' } :=
      I.turnedNew (t' := s.toks) (ch := [it]) (fun b ob hb e => (sb.2 b (by simpa using hb)).trans (hk b ob (by simpa using hb) e)) hf (Nat.le_refl _) new
    refine ⟨.ref s.heap.objs.size, _, I1, rfl, ⟨_, k, v, q, hkv, rfl, hq, I.hok.fresh (Nat.le_refl _), rfl⟩, ⟨.ref q, en.val, ?_⟩, fun b hb => ?_⟩
    · rw [← hsz]; exact he'
    · have e : b = it := by simpa using hb
      rw [e, upd_ne (Nat.ne_of_lt hlt)]
      exact (hf it (by simp)).1
  done := by
    intro X hP hw hK hc i pins s σ H E I hf st hg
    subst hP hw hK
    obtain ⟨hd, hi⟩ := hg
    obtain ⟨f0, f1, f2, f3, f4, f5⟩ := hf it (by simp)
    obtain ⟨hs, hgd, hx, es', ep', hdt, hsz, ent⟩ := frzT2 I hd
    obtain ⟨rfl, rfl⟩ := dict_ep hod hdt
    obtain ⟨ok, ov, he⟩ := st
    rw [← hsz] at he
    have raw : s.heap.DictRaw d es' ep' := ⟨o, hgd, hx, hdt⟩
    exact wpAny_pyNext_items_end_raw (I.ok.hd hc) he raw (by omega) fun h' eb => ⟨rfl, I.turned (t' := s.toks) (fun b ob hb e => eb b ob hb e) f0 f1 f3 f4 f5⟩
  self := fun A i s Q E st h => let ⟨_, _, e⟩ := st; PySem.W.kcp_self e h
end
def iItemsT (td : TE) : TI := fun σ H R => td σ H fun x H1 => ∃ d o kvs, x = .ref d ∧ H1 d = some (.frz o (.dT kvs)) ∧ R (Itit d o kvs) H1
theorem walk_itemsT {d : Addr} {o : Obj} {kvs : List (List Key × V)} : Walk (Itit d o kvs) kvs.length (fun H => H d = some (.frz o (.dT kvs)))
    (fun i H x H' => ∃ T k v q, kvs[i]? = some (k, v) ∧ x = .ref T ∧ H q = some (.tup (k.map kV)) ∧ H T = none ∧ H' = upd H T (.tup [.ref q, v])) :=
  ⟨fun _ _ hi q => ⟨q, hi⟩, fun _ q => ⟨q, Nat.le_refl _⟩, fun _ _ _ _ _ _ y => y⟩
section
variable {X : Cx} {e : Expr} {td : TE} {apos cpos : Pos}
theorem pi_itemsT {elts : List Expr} {kk : Nat} {tpos : Pos} (he : PE X e td) (hbase : attributeBase e "items" X.env (eval e X.env) = eval e X.env := by rfl) (hline : (apos.endLine == cpos.line) = true := by rfl) :
    PI X (.Tuple elts kk tpos) (.Call (.Attribute e "items" apos) [] [] cpos) (iItemsT td) := by
  refine ⟨fun pins s σ H R I h => ?_⟩
  refine wpAny_Call_method (T := "dict") (id := "dict.items") hbase rfl hline F.plainAttrs_dict F.slot_dict_items F.type_dict_items (thn (he.run pins s σ H _ I h) fun u s1 ⟨x, H1, I1, rx, d, o, kvs, ex, hd, q⟩ => ?_)
  subst ex
  obtain rfl : u = Value.ref d := rx
  obtain ⟨hs, hgd, hx, es, ep, hdt, hsz, ent⟩ := frzT2 I1 hd
  have raw : s1.heap.DictRaw d es ep := ⟨o, hgd, hx, hdt⟩
  have nd : ∀ b, Value.ref d = .ref b → ∃ ob, s1.heap.get? b = some ob ∧ ob.dict = none := fun b e => by
    cases e
    exact ⟨o, hgd, hx.2.1⟩
  refine ⟨raw.typeIs, nd, ?_⟩
  have I2 : Inv X pins σ H1 { s1 with heap := s1.heap.push { cls := .type "dict_items", data := .fields #[.ref d] } } := I1.kept (t' := s1.toks) fun b ob q => Heap.get?_push_of_some _ q
  have fin : wpAny (model X.prog X.w) X.A (pyIter (.ref s1.heap.objs.size)) (PIE X pins σ (.Tuple elts kk tpos) R) X.xe { s1 with heap := s1.heap.push { cls := .type "dict_items", data := .fields #[.ref d] } } := by
    refine wpAny_pyIter_items_raw (d := d) (es := es) (ep := ep) ⟨_, Heap.get?_push_size _ rfl, rfl, rfl⟩ (raw.at fun _ q => Heap.get?_push_of_some _ q) (pi_one (tk := s1.toks) I2 _ (turn_itemsT _ hdt) ⟨.none, .none, ?_⟩ q)
    rw [← hsz]
    exact Heap.get?_push_size _ rfl
  show wpAny _ _ (callWith cpos (.builtin "dict.items") [.ref d] [] []) _ X.xe s1
  exact method_meetsIn F.slot_dict_items F.entry_dict_items rfl (PySem.evalArgs_none ⟨rfl, raw.typeIs, F.args_dict_items_1 _, _, meets_dict_items_raw d hs, ⟨⟨es, ep, raw⟩, fin⟩⟩)
end
/-! ### max(numbers, default=d) -/
def rMaxD (K : PySem.W.Frag) : List V → List V → Hp → VK → Prop := fun xs zs H Q => ∃ (a : Addr) (ns : List Int) (d : Int), xs = [.ref a] ∧ zs = [.int d] ∧ SqL K H a (ns.map V.int) ∧
  ∀ m : Int, (ns = [] ∧ m = d) ∨ (∃ n r, ns = n :: r ∧ m = r.foldl max n) → Q (.int m) H
theorem call_maxD {X : Cx} (hc : X.calm = true) (hu : X.A.units + 64 < cLine) : CallRK X (.builtin "max") [Str.ofString "default"] (rMaxD X.K) := by
  intro pins s σ H xs zs us ws Q I r1 r2 h
  obtain ⟨a, ns, d, rfl, rfl, hl, q⟩ := h
  obtain rfl := Vals.ref1 r1
  obtain ⟨u, rfl, t, rfl⟩ := vals1 r2
  obtain ⟨its, rv, pl, hz⟩ := I.list hl
  have hi := rv.ints
  have hd0 : ∀ l : List Int, PyData.depthAll (l.map .int) = 0 := PySem.W.depth_ints
  refine PySem.W.max_list_default (xs := ns.map .int) (I.ok.hd hc) pl.isList (IntsAre.reads s.heap hi) ⟨fun x hx y hy => ?_, fun x hx => ?_⟩ (by rw [hd0]; omega) (fun h0 h' tk k => ?_) (fun y ys i v h' tk bs e hv hr k => ?_)
  · obtain ⟨i, _, rfl⟩ := List.mem_map.mp hx
    obtain ⟨j, _, rfl⟩ := List.mem_map.mp hy
    rfl
  · obtain ⟨i, _, rfl⟩ := List.mem_map.mp hx
    exact fun z => nomatch z
  · exact ⟨.int d, H, I.kept (t' := tk) k, ⟨t, rfl⟩, q d (.inl ⟨List.map_eq_nil_iff.mp h0, rfl⟩)⟩
  · cases ns with
    | nil => cases e
    | cons n r =>
      have e : PyData.int n :: r.map .int = y :: ys := e
      cases e
      rw [PySem.W.maxD_ints] at hr
      cases hr with
      | int _ t' => exact ⟨.int (r.foldl max n), H, I.kept (t' := tk) k, ⟨t', rfl⟩, q _ (.inr ⟨n, r, rfl, rfl⟩)⟩
theorem call_maxDK {X : Cx} {K : PySem.W.Frag} (h : X.K = K) (hc : X.calm = true) (hu : X.A.units + 64 < cLine) : CallRK X (.builtin "max") [Str.ofString "default"] (rMaxD K) := h ▸ call_maxD hc hu
/-! ### dict(a tuple of pairs); the tuple is known to the object (no dict of its own) -/
def rDictT (K : PySem.W.Frag) : List V → Hp → VK → Prop := fun xs H Q => ∃ (a : Addr) (o : Obj) (ps : List Addr) (kvs : List (Key × V)), xs = [.ref a] ∧ H a = some (.frz o (.tup (ps.map V.ref))) ∧ o.dict = none ∧ Paired (fun p kv => SqT K H p [kV kv.1, kv.2]) ps kvs ∧
    ∀ p, H p = none → Q (.ref p) (upd H p (.dK (mergeK [] kvs)))
theorem call_dictTu {X : Cx} (hcalm : X.calm = true) : CallR X (.type "dict") (rDictT X.K) := by
  intro pins s σ H xs us Q I r q
  obtain ⟨a, o, ps, kvs, ex, hq, hod, hp, q⟩ := q
  subst ex
  obtain rfl := Vals.ref1 r
  obtain ⟨hda, hok⟩ := I.hok _ _ hq
  obtain ⟨its, rv, pl, hz⟩ := I.tuple (X := X) (xs := ps.map V.ref) (.inl (.inr ⟨o, hq⟩))
  have ei := refs_at rv
  subst ei
  rw [List.length_map] at hz
  obtain ⟨prs, rel, hl, hpr⟩ := pairs_of I hp
  obtain ⟨o', ho, hc, n, hd⟩ := pl
  rw [hda] at ho
  cases ho
  have key : ∀ (j : Nat) (kk : Key) (v : Value), prs[j]? = some (kk, v) → ∃ (b : Addr) (u : Value), ps[j]? = some b ∧ IsTup s.heap b #[u, v] ∧ keyIs kk u = true := fun j kk v e => hpr j (kk, v) e
  have hlen2 : prs.length = ps.length := hl
  classical
  let fk : Nat → Value := fun j => if e : ∃ u : Value, ∃ (b : Addr) (kk : Key) (v : Value), ps[j]? = some b ∧ prs[j]? = some (kk, v) ∧ IsTup s.heap b #[u, v] ∧ keyIs kk u = true then e.choose else .none
  let vps : List (Value × Value) := (List.range ps.length).map fun j => (fk j, ((prs[j]?).map Prod.snd).getD .none)
  have hv : ∀ (j : Nat) (k v : Value), vps[j]? = some (k, v) → ∃ (b : Addr) (kk : Key), ps[j]? = some b ∧ prs[j]? = some (kk, v) ∧ IsTup s.heap b #[k, v] ∧ keyIs kk k = true := by
    intro j k v e
    rw [List.getElem?_map] at e
    obtain ⟨j', hj', e⟩ := Option.map_eq_some_iff.mp e
    have hj : j < ps.length := by
      have q := (List.getElem?_eq_some_iff.mp hj').1
      rwa [List.length_range] at q
    rw [List.getElem?_range hj] at hj'
    cases hj'
    obtain ⟨⟨kk, v0⟩, e0⟩ : ∃ p, prs[j]? = some p := ⟨prs[j], List.getElem?_eq_getElem (by omega)⟩
    obtain ⟨b, u, e1, e2, e3⟩ := key j kk v0 e0
    have ex : ∃ u : Value, ∃ (b : Addr) (kk : Key) (v : Value), ps[j]? = some b ∧ prs[j]? = some (kk, v) ∧ IsTup s.heap b #[u, v] ∧ keyIs kk u = true := ⟨u, b, kk, v0, e1, e0, e2, e3⟩
    have ek : fk j = ex.choose := dif_pos ex
    obtain ⟨b', kk', v', c1, c2, c3, c4⟩ := ex.choose_spec
    rw [e0] at e
    have e : (fk j, v0) = (k, v) := e
    cases e
    rw [e0] at c2
    cases c2
    rw [ek]
    exact ⟨b', _, c1, e0, c3, c4⟩
  have vl : vps.length = ps.length := by simp [vps]
  refine PySem.call_dict_pairs (knd := mixKind X.prog X.w) (kvs := prs) (PairArg.tuple a (ps.map Value.ref).toArray (fun j => (ps[j]?).getD 0) vps) (I.ok.hd hcalm) ⟨⟨o, n, hda, hc, hod, hd⟩, ?_, fun j k v e => ?_⟩ ⟨by rw [vl]; exact hl, fun i k v e => ?_⟩ (by rw [vl]; exact hz) fun h' tk hd' k => ?_
  · rw [vl]; simp
  · obtain ⟨b, kk, e1, e2, e3, e4⟩ := hv j k v e
    refine ⟨by simp [e1], .inl ?_⟩
    show s.heap.IsTuple ((ps[j]?).getD 0) #[k, v]
    rw [e1]
    obtain ⟨o1, ho1, hc1, n1, hd1⟩ := e3
    exact ⟨o1, ho1, hc1, n1, hd1⟩
  · obtain ⟨b, kk, e1, e2, e3, e4⟩ := hv i k v e
    exact ⟨kk, e2, e4⟩
  · have hm : (s.heap.objs.size == sysModules) = false := beq_eq_false_iff_ne.mpr (Nat.ne_of_gt I.big)
    have hlen : (mergeK [] kvs).length ≤ sizeLine := by
      refine Nat.le_trans (length_mergeK kvs []) ?_
      rw [List.length_nil, Nat.zero_add, rel.length, hl]
      exact hz
    exact ⟨.ref s.heap.objs.size, upd H s.heap.objs.size (.dK (mergeK [] kvs)), I.laid (t' := tk) (fun b o e => k b o (by simp) e) (Nat.le_refl _) (show ObjOk X.prog X.w _ _ _ (.dK (mergeK [] kvs)) from ⟨hlen, hm, merged [] prs, KV.merge rel .nil, hd'⟩), rfl, q _ (I.hok.fresh (Nat.le_refl _))⟩
/-- tuple(a list): the new tuple with its object -/
def rTupF (K : PySem.W.Frag) : List V → Hp → VK → Prop := fun xs H Q => ∃ p ys, xs = [.ref p] ∧ SqL K H p ys ∧ ∀ l o, H l = none → o.dict = none → Q (.ref l) (upd H l (.frz o (.tup ys)))
theorem call_tupF {X : Cx} : CallR X (.type "tuple") (rTupF X.K) := by
  intro pins s σ H xs us Q I r h
  obtain ⟨p, ys, rfl, hq, q⟩ := h
  obtain ⟨u, rfl, rx⟩ := vals1 r
  cases rx
  obtain ⟨its, r', pl, hz⟩ := I.list hq
  have hlen := r'.length
  refine call_tuple_list pl.isList (fun h' kp => ?_) (by simp only [List.size_toArray] <;> omega)
  have I1 : Inv X pins σ H { s with heap := h' } := I.kept (t' := s.toks) kp
  have I2 : Inv X pins σ (upd H h'.objs.size (.frz { cls := .type "tuple", data := .seq its.toArray } (.tup ys))) { s with heap := h'.push { cls := .type "tuple", data := .seq its.toArray } } :=
    I1.laid (t' := s.toks) (fun b o e => Heap.get?_push_of_some _ e) (Nat.le_refl _) (show ObjOk X.prog X.w _ _ _ (.frz _ (.tup ys)) from ⟨Heap.get?_push_size _ rfl, hz, its, r', IsTup.new _ _⟩)
  exact ⟨.ref h'.objs.size, _, I2, rfl, q _ _ (I1.hok.fresh (Nat.le_refl _)) rfl⟩
theorem call_tupFK {X : Cx} {K : PySem.W.Frag} (h : X.K = K) : CallR X (.type "tuple") (rTupF K) := h ▸ call_tupF
theorem call_dictTuK {X : Cx} {K : PySem.W.Frag} (h : X.K = K) (hc : X.calm = true) : CallR X (.type "dict") (rDictT K) := h ▸ call_dictTu hc
section
variable {td : TE} {σ : L2.St} {H : Hp} {R : It → Hp → Prop}
def rItmT (x : V) (R : It → Hp → Prop) (H1 : Hp) : Prop := ∃ d o kvs, x = .ref d ∧ H1 d = some (.frz o (.dT kvs)) ∧ R (Itit d o kvs) H1
def rItmK (x : V) (R : It → Hp → Prop) (H1 : Hp) : Prop := ∃ d o kvs, x = .ref d ∧ H1 d = some (.frz o (.dK kvs)) ∧ R (Iti d o kvs) H1
def rKeys (x : V) (R : It → Hp → Prop) (H1 : Hp) : Prop := ∃ d o, x = .ref d ∧ ((∃ kvs, H1 d = some (.frz o (.dK kvs)) ∧ R (Itk d o kvs) H1) ∨ ∃ kvs, H1 d = some (.frz o (.dT kvs)) ∧ R (Itkt d o kvs) H1)
theorem u_itemsT : iItemsT td σ H R = td σ H fun x H1 => rItmT x R H1 := rfl
theorem u_itemsK : iItems td σ H R = td σ H fun x H1 => rItmK x R H1 := rfl
theorem u_keysK : iKeys td σ H R = td σ H fun x H1 => rKeys x R H1 := rfl
def rLk (x : V) (Q : VK) (H1 : Hp) : Prop := ∃ d u, x = .ref d ∧ H1 d = some u ∧ Mut (some u) ∧ ∀ od, Q x (upd H1 d (.frz od u))
theorem u_lk {Q : VK} : tLk td σ H Q = td σ H fun x H1 => rLk x Q H1 := rfl
theorem u_ckw {r : List V → List V → Hp → VK → Prop} {t tk : TA} {Q : VK} : tCKw r t tk σ H Q = t σ H fun vs H1 => tk σ H1 fun zs H2 => r vs zs H2 Q := rfl
end

end K87

namespace K87
open PySem PySem.Spec PyProof.Rows L2
--nomac
/-! ### the hall, the deeds, what an account knows: plain -/
abbrev Col := Str × Int × Int × Int
inductive Deed where
  | fill (p c : Str)
  | gather (t p k : Str) (m : Int)
  | wash (p : Str) (h : Int)
  | emp (p : Str)
  | brk (p : Str)
  | new (p : Str) (h : Int)
structure Hall where
  cols : List Col
  wash : List (Str × Str × Option Int)
  kinds : List (Str × Int × Int)
  teams : List (Str × Int)
  pots : List Str
  slots : Int
  odd : Str
structure Ent where
  hour : Int
  number : Int
  deed : Deed
structure Bat where
  colour : Str
  left : Int
  source : Int
  charged : Int
  ready : Int
structure Pot where
  whole : Bool
  bat : Option Bat
  last : Option Str
  washed : Int
  word : Str
  tills : Int
structure Cool where
  slot : Int
  kind : Str
  colour : Str
  out : Int
structure Row where
  hour : Int
  number : Int
  word : Str
  pot : Str
  many : Int
  colour : Str
  source : Option Int
structure Acc where
  pots : Str → Pot
  cool : List Cool
  made : List ((Str × Str) × Int)
  rows : List Row
@[reducible] def wFill : Str := "fill"
@[reducible] def wGather : Str := "gather"
@[reducible] def wWash : Str := "wash"
@[reducible] def wEmpty : Str := "empty"
@[reducible] def wBreak : Str := "break"
@[reducible] def wNew : Str := "new"
namespace Deed
def word : Deed → Str
  | fill _ _ => wFill
  | gather _ _ _ _ => wGather
  | wash _ _ => wWash
  | emp _ => wEmpty
  | brk _ => wBreak
  | new _ _ => wNew
def pot : Deed → Str
  | fill p _ => p
  | gather _ p _ _ => p
  | wash p _ => p
  | emp p => p
  | brk p => p
  | new p _ => p
def kind : Deed → Str
  | gather _ _ k _ => k
  | _ => ⟨#[]⟩
end Deed
/-- the last of that name -/
def lastOf {α : Type} (l : List (Str × α)) (k : Str) : Option α := l.foldl (fun o p => if k = p.1 then some p.2 else o) none
def colRow (h : Hall) (c : Str) : Option Col := h.cols.find? fun r => decide (r.1 = c)
abbrev isCol (h : Hall) (c : Str) : Prop := c ∈ h.cols.map (·.1)
def washFor (h : Hall) (a : Option Str) (b : Str) : Option Int :=
  match h.wash.find? fun r => decide (some r.1 = a) && decide (r.2.1 = b) with
  | some r => r.2.2
  | none => some 0
def readyAt (h : Hall) (c : Str) (t : Int) : Int :=
  match colRow h c with
  | some r => t + r.2.1 + r.2.2.1
  | none => 0
def kindR (h : Hall) (k : Str) : Option (Int × Int) := lastOf h.kinds k
def coolOf (h : Hall) (k : Str) : Int := ((kindR h k).getD (0, 0)).2
def rankOf (h : Hall) (k : Str) : Int := ((kindR h k).getD (0, 0)).1
def teamR (h : Hall) (t : Str) : Option Int := lastOf h.teams t
def teamOf (h : Hall) (t : Str) : Int := (teamR h t).getD 0
namespace Pot
def fresh : Pot := ⟨true, none, none, 0, "washing", 0⟩
def busy (p : Pot) (hour : Int) : Bool := decide (hour < p.tills)
def wordOf (p : Pot) (hour : Int) : Str :=
  if (!p.whole) = true then "broken" else if p.busy hour = true then p.word else
  match p.bat with
  | none => "out"
  | some b => if hour < b.charged then "filled" else if hour < b.ready then "melting" else "ready"
def bareWord (p : Pot) (hour : Int) : Str :=
  if (!p.whole) = true then "broken" else if p.busy hour = true then "busy" else
  match p.bat with
  | none => ""
  | some _ => "glass"
def batchWord (p : Pot) : Str :=
  if (!p.whole) = true then "broken" else
  match p.bat with
  | none => "none"
  | some _ => ""
def streaked (h : Hall) (p : Pot) (c : Str) : Bool :=
  match washFor h p.last c with
  | none => true
  | some hs => decide (p.washed < hs)
def taken (p : Pot) (b : Bat) (m : Int) : Pot := if b.left - m = 0 then { p with bat := none } else { p with bat := some { b with left := b.left - m } }
end Pot
def rangeI (n : Nat) : List Int := (List.range n).map fun i => ((i : Nat) : Int)
def active (cool : List Cool) (hour : Int) : List Cool := cool.filter fun c => decide (hour < c.out)
def freeOf (slots : Int) (used : List Int) : List Int := (rangeI slots.toNat).filter fun s => !decide (s ∈ used)
def free (h : Hall) (cool : List Cool) (hour : Int) : List Int := freeOf h.slots ((active cool hour).map (·.slot))
def hasNames (h : Hall) : Deed → Bool
  | .gather t p k _ => decide (t ∈ h.teams.map (·.1)) && (decide (p ∈ h.pots) && decide (k ∈ h.kinds.map (·.1)))
  | .fill p c => decide (p ∈ h.pots) && decide (isCol h c)
  | .wash p _ => decide (p ∈ h.pots)
  | .emp p => decide (p ∈ h.pots)
  | .brk p => decide (p ∈ h.pots)
  | .new p _ => decide (p ∈ h.pots)
def gatherWord (h : Hall) (a : Acc) (hour : Int) (t k : Str) (m : Int) (b : Bat) : Str :=
  if hour < b.ready then "cold" else if teamOf h t < rankOf h k then "rank" else if b.left < m then "less" else if ((free h a.cool hour).length : Int) < m then "full" else ""
def voidWord (h : Hall) (a : Acc) (hour : Int) (d : Deed) : Str :=
  if (!hasNames h d) = true then "name" else
  match d with
  | .fill p _ => (a.pots p).bareWord hour
  | .wash p _ => (a.pots p).bareWord hour
  | .brk p => if (a.pots p).whole = true then "" else "broken"
  | .new p _ => if (a.pots p).whole = true then "whole" else ""
  | .emp p => (a.pots p).batchWord
  | .gather t p k m =>
    match (a.pots p).whole, (a.pots p).bat with
    | true, some b => gatherWord h a hour t k m b
    | _, _ => (a.pots p).batchWord
def updP (f : Str → Pot) (n : Str) (p : Pot) : Str → Pot := fun m => if m = n then p else f m
def putM (l : List ((Str × Str) × Int)) (k : Str × Str) (v : Int) : List ((Str × Str) × Int) := if k ∈ l.map (·.1) then l.map fun e => if e.1 = k then (k, v) else e else l ++ [(k, v)]
def getM (l : List ((Str × Str) × Int)) (k : Str × Str) : Int := (l.lookup k).getD 0
def newCool (h : Hall) (cool : List Cool) (hour : Int) (k c : Str) (m : Int) : List Cool := ((free h cool hour).take m.toNat).map fun s => ⟨s, k, c, hour + coolOf h k⟩
/-- what a deed does that is not void: the rows are not yet told; how many, which batch -/
def midStep (h : Hall) (a : Acc) (hour number : Int) (d : Deed) : Acc × Int × Option Bat :=
  match d with
  | .fill p c =>
    match colRow h c with
    | none => (a, 0, none)
    | some r =>
      let t : Bat := ⟨(if (a.pots p).streaked h c = true then ("" : Str) else c), r.2.2.2, number, hour + r.2.1, hour + r.2.1 + r.2.2.1⟩
      ({ a with pots := updP a.pots p { a.pots p with bat := some t, last := some c, washed := 0 } }, r.2.2.2, some t)
  | .gather _ p k m =>
    match (a.pots p).bat with
    | none => (a, 0, none)
    | some b =>
      ({ a with
        pots := updP a.pots p ((a.pots p).taken b m)
        cool := a.cool ++ newCool h a.cool hour k b.colour m
        made := putM a.made (k, b.colour) (getM a.made (k, b.colour) + m) }, m, some { b with left := b.left - m })
  | .emp p =>
    match (a.pots p).bat with
    | none => (a, 0, none)
    | some b => ({ a with pots := updP a.pots p ((a.pots p).taken b b.left) }, b.left, some { b with left := b.left - b.left })
  | .brk p => ({ a with pots := updP a.pots p { a.pots p with whole := false, bat := none, tills := 0 } }, (match (a.pots p).bat with
    | none => 0
    | some b => b.left), (a.pots p).bat)
  | .wash p hs => ({ a with pots := updP a.pots p { a.pots p with word := "washing", tills := hour + hs, washed := (a.pots p).washed + hs } }, 0, none)
  | .new p hs => ({ a with pots := updP a.pots p { a.pots p with whole := true, last := none, washed := 0, word := "warming", tills := hour + hs } }, 0, none)
def rowOf (hour number : Int) (d : Deed) (many : Int) (t : Option Bat) : Row :=
  match t with
  | none => ⟨hour, number, d.word, d.pot, many, "", none⟩
  | some b => ⟨hour, number, d.word, d.pot, many, b.colour, some b.source⟩
def doneStep (h : Hall) (a : Acc) (hour number : Int) (d : Deed) : Acc :=
  let m := midStep h a hour number d
  { m.1 with rows := a.rows ++ [rowOf hour number d m.2.1 m.2.2] }
def step (h : Hall) (a : Acc) (e : Ent) : Acc := if voidWord h a e.hour e.deed = "" then doneStep h a e.hour e.number e.deed else a
def acc0 : Acc := ⟨fun _ => Pot.fresh, [], [], []⟩
def run_ (h : Hall) (es : List Ent) : Acc := es.foldl (step h) acc0
/-! ### as values -/
@[reducible] def deedV : Deed → List V
  | .fill p c => [.str wFill, .str p, .str c]
  | .gather t p k m => [.str wGather, .str t, .str p, .str k, .int m]
  | .wash p h => [.str wWash, .str p, .int h]
  | .emp p => [.str wEmpty, .str p]
  | .brk p => [.str wBreak, .str p]
  | .new p h => [.str wNew, .str p, .int h]
@[reducible] def optV : Option Int → V
  | none => .non
  | some i => .int i
@[reducible] def optS : Option Str → V
  | none => .non
  | some i => .str i
@[reducible] def colV (r : Col) : List V := [.str r.1, .int r.2.1, .int r.2.2.1, .int r.2.2.2]
@[reducible] def washV (r : Str × Str × Option Int) : List V := [.str r.1, .str r.2.1, optV r.2.2]
@[reducible] def kindV (r : Str × Int × Int) : List V := [.str r.1, .int r.2.1, .int r.2.2]
@[reducible] def teamV (r : Str × Int) : List V := [.str r.1, .int r.2]
@[reducible] def rowV (r : Row) : List V := [.int r.hour, .int r.number, .str r.word, .str r.pot, .int r.many, .str r.colour, optV r.source]
@[reducible] def coolV (c : Cool) : List V := [.int c.slot, .str c.kind, .str c.colour, .int c.out]
@[reducible] def batRef (p : Pot) (b : Addr) : V := match p.bat with
  | none => .non
  | some _ => .ref b
@[reducible] def potVs (p : Pot) (b : Addr) : List V := [.bl p.whole, batRef p b, optS p.last, .int p.washed, .str p.word, .int p.tills]
@[reducible] def batVs (b : Bat) : List V := [.str b.colour, .int b.left, .int b.source, .int b.charged, .int b.ready]
theorem batRef_none {w : Bool} {l : Option Str} {ws : Int} {wd : Str} {tl : Int} {b : Addr} : batRef ⟨w, none, l, ws, wd, tl⟩ b = .non := rfl
theorem batRef_some {w : Bool} {t : Bat} {l : Option Str} {ws : Int} {wd : Str} {tl : Int} {b : Addr} : batRef ⟨w, some t, l, ws, wd, tl⟩ b = .ref b := rfl
/-- refs to tuples -/
def Ts {α : Type} (H : Hp) (f : α → List V) (vs : List V) (xs : List α) : Prop := Paired (fun v x => ∃ a, v = V.ref a ∧ H a = some (.tup (f x))) vs xs
section
variable {α : Type} {H H' : Hp} {f : α → List V} {vs ws : List V} {xs ys : List α} {i : Nat} {v : V} {x : α}
theorem paired_mono {α β : Type} {F G : α → β → Prop} {l₁ : List α} {l₂ : List β} (h : Paired F l₁ l₂) (m : ∀ a b, F a b → G a b) : Paired G l₁ l₂ := by
  induction h with
  | nil => exact .nil
  | cons a _ ih => exact .cons (m _ _ a) ih
theorem paired_app {α β : Type} {F : α → β → Prop} {l₁ k₁ : List α} {l₂ k₂ : List β} (h : Paired F l₁ l₂) (k : Paired F k₁ k₂) : Paired F (l₁ ++ k₁) (l₂ ++ k₂) := by
  induction h with
  | nil => exact k
  | cons a _ ih => exact .cons a ih
theorem Ts.nil : Ts H f [] [] := Paired.nil
theorem Ts.app (h : Ts H f vs xs) (k : Ts H f ws ys) : Ts H f (vs ++ ws) (xs ++ ys) := paired_app h k
theorem Ts.one {a : Addr} (h : H a = some (.tup (f x))) : Ts H f [.ref a] [x] := Paired.cons ⟨a, rfl, h⟩ .nil
theorem Ts.snoc {a : Addr} (h : Ts H f vs xs) (k : H a = some (.tup (f x))) : Ts H f (vs ++ [.ref a]) (xs ++ [x]) := h.app (Ts.one k)
theorem Ts.len (h : Ts H f vs xs) : vs.length = xs.length := Paired.length h
theorem Ts.mono (h : Ts H f vs xs) (t : ∀ b us, H b = some (.tup us) → H' b = some (.tup us)) : Ts H' f vs xs := paired_mono h fun _ _ ⟨a, e, q⟩ => ⟨a, e, t _ _ q⟩
theorem Ts.get (h : Ts H f vs xs) (e : vs[i]? = some v) : ∃ x a, xs[i]? = some x ∧ v = .ref a ∧ H a = some (.tup (f x)) := by
  obtain ⟨x, e2, a, e3, q⟩ := paired_get h e
  exact ⟨x, a, e2, e3, q⟩
theorem Ts.get' (h : Ts H f vs xs) (e : xs[i]? = some x) : ∃ a, vs[i]? = some (.ref a) ∧ H a = some (.tup (f x)) := by
  obtain ⟨v, e2, a, e3, q⟩ := DX.pget h e
  exact ⟨a, by rw [e2, e3], q⟩
end

end K87

namespace K87
open PySem PySem.Spec PyProof.Rows L2
--nomac
/-! ### sorted lists of keyed things: there is one -/
theorem lex_tot : ∀ {a b : List Int}, HT.lexLt a b = false → HT.lexLt b a = false → a = b
  | [], [], _, _ => rfl
  | [], y :: ys, h, _ => by rw [HT.lexLt_nil_cons] at h; cases h
  | x :: xs, [], _, h => by rw [HT.lexLt_nil_cons] at h; cases h
  | x :: xs, y :: ys, h1, h2 => by
    rw [HT.lexLt_cons] at h1 h2
    by_cases e : x = y
    · subst e
      rw [if_pos rfl] at h1 h2
      rw [lex_tot h1 h2]
    · rw [if_neg e] at h1
      rw [if_neg (Ne.symm e)] at h2
      have a := of_decide_eq_false h1
      have b := of_decide_eq_false h2
      exact absurd (by omega) e
theorem strs_inj : ∀ {a b : List Nat} {X Y : List Int}, (a.map (fun c : Nat => (c : Int) + 1) ++ [0]) ++ X = (b.map (fun c : Nat => (c : Int) + 1) ++ [0]) ++ Y → a = b ∧ X = Y
  | [], [], X, Y, h => ⟨rfl, (List.cons.inj h).2⟩
  | [], c :: r, X, Y, h => by
    have q : (0 : Int) = (c : Int) + 1 := (List.cons.inj h).1
    omega
  | c :: r, [], X, Y, h => by
    have q : (c : Int) + 1 = (0 : Int) := (List.cons.inj h).1
    omega
  | c :: r, d :: t, X, Y, h => by
    have q : (c : Int) + 1 = (d : Int) + 1 := (List.cons.inj h).1
    have q2 := strs_inj (a := r) (b := t) (List.cons.inj h).2
    exact ⟨by rw [q2.1, show c = d by omega], q2.2⟩
theorem encs_inj : ∀ {k l : List Key}, SK.alks k l = true → SK.encs k = SK.encs l → k = l
  | [], [], _, _ => rfl
  | [], _ :: _, h, _ => by cases h
  | _ :: _, [], h, _ => by cases h
  | a :: r, b :: t, h, e => by
    have h : (SK.alk a b && SK.alks r t) = true := h
    rw [Bool.and_eq_true] at h
    have e : SK.encK a ++ SK.encs r = SK.encK b ++ SK.encs t := e
    cases a with
    | inl i =>
      cases b with
      | inr _ => cases h.1
      | inl j =>
        have e : i :: SK.encs r = j :: SK.encs t := e
        rw [encs_inj h.2 (List.cons.inj e).2, (List.cons.inj e).1]
    | inr s =>
      cases b with
      | inl _ => cases h.1
      | inr u =>
        obtain ⟨e1, e2⟩ := strs_inj e
        have q : s = u := by
          cases s with | mk a => cases u with | mk b => exact congrArg _ (Array.toList_inj.mp e1)
        rw [encs_inj h.2 e2, q]
section
variable {α : Type} {κ : α → List Key}
noncomputable def srt (κ : α → List Key) (l : List α) : List α := l.mergeSort fun x y => !SK.kLt (κ y) (κ x)
theorem srt_perm (l : List α) : (srt κ l).Perm l := List.mergeSort_perm _ _
theorem srt_sorted (l : List α) : (srt κ l).Pairwise fun x y => SK.kLt (κ y) (κ x) = false := by
  have O := kLt_swo κ
  have q := List.pairwise_mergeSort (le := fun x y => !SK.kLt (κ y) (κ x)) (fun a b c h1 h2 => by
    have h1 : SK.kLt (κ b) (κ a) = false := by simpa using h1
    have h2 : SK.kLt (κ c) (κ b) = false := by simpa using h2
    have := O.tr a b c h1 h2
    simpa using this) (fun a b => by
    cases h : SK.kLt (κ b) (κ a) with
    | false => rfl
    | true =>
      have := O.asym b a h
      simp [this]) l
  exact q.imp fun h => by simpa using h
theorem sorted_one : ∀ {l m : List α}, l.Perm m → (l.Pairwise fun x y => SK.kLt (κ y) (κ x) = false) → (m.Pairwise fun x y => SK.kLt (κ y) (κ x) = false) → (∀ x ∈ l, ∀ y ∈ l, SK.alks (κ x) (κ y) = true) → (∀ x ∈ l, ∀ y ∈ l, κ x = κ y → x = y) → l = m
  | [], m, p, _, _, _, _ => (List.Perm.eq_nil p.symm).symm
  | x :: l, [], p, _, _, _, _ => absurd p.length_eq (by simp)
  | x :: l, y :: m, p, hl, hm, ha, hi => by
    have hy : y ∈ x :: l := p.mem_iff.mpr (List.mem_cons_self ..)
    have hx : x ∈ y :: m := p.mem_iff.mp (List.mem_cons_self ..)
    have O := kLt_swo κ
    have h1 : SK.kLt (κ y) (κ x) = false := by
      rcases List.mem_cons.mp hy with e | hy
      · rw [e]; exact O.refl x
      · exact (List.pairwise_cons.mp hl).1 y hy
    have h2 : SK.kLt (κ x) (κ y) = false := by
      rcases List.mem_cons.mp hx with e | hx
      · rw [e]; exact O.refl y
      · exact (List.pairwise_cons.mp hm).1 x hx
    have e : x = y := hi x (List.mem_cons_self ..) y hy (encs_inj (ha x (List.mem_cons_self ..) y hy) (lex_tot h2 h1))
    subst e
    rw [sorted_one p.cons_inv (List.pairwise_cons.mp hl).2 (List.pairwise_cons.mp hm).2 (fun a ma b mb => ha a (List.mem_cons_of_mem _ ma) b (List.mem_cons_of_mem _ mb)) fun a ma b mb => hi a (List.mem_cons_of_mem _ ma) b (List.mem_cons_of_mem _ mb)]
theorem paired_perm {β : Type} {R : α → β → Prop} : ∀ {l l' : List α}, l'.Perm l → ∀ {m : List β}, Paired R l m → ∃ m', m'.Perm m ∧ Paired R l' m' := by
  intro l l' p
  induction p with
  | nil => intro m h; exact ⟨m, List.Perm.refl _, h⟩
  | cons x _ ih =>
    intro m h
    cases h with
    | cons a t =>
      obtain ⟨m', p', t'⟩ := ih t
      exact ⟨_ :: m', p'.cons _, .cons a t'⟩
  | swap x y l =>
    intro m h
    cases h with
    | cons a t =>
      cases t with
      | cons b t => exact ⟨_, List.Perm.swap .., .cons b (.cons a t)⟩
  | trans _ _ ih1 ih2 =>
    intro m h
    obtain ⟨m1, p1, t1⟩ := ih2 h
    obtain ⟨m2, p2, t2⟩ := ih1 t1
    exact ⟨m2, p2.trans p1, t2⟩
end
theorem kV_inj {a b : Key} (h : kV a = kV b) : a = b := by
  cases a <;> cases b <;> cases h <;> rfl
theorem keys_inj : ∀ {k l : List Key} {X Y : List V}, SK.alks k l = true → k.map kV ++ X = l.map kV ++ Y → k = l
  | [], [], _, _, _, _ => rfl
  | [], _ :: _, _, _, h, _ => by cases h
  | _ :: _, [], _, _, h, _ => by cases h
  | a :: r, b :: t, X, Y, h, e => by
    have h : (SK.alk a b && SK.alks r t) = true := h
    rw [Bool.and_eq_true] at h
    have e : kV a :: (r.map kV ++ X) = kV b :: (t.map kV ++ Y) := e
    rw [keys_inj h.2 (List.cons.inj e).2, kV_inj (List.cons.inj e).1]
/-- sorted of tuples that stand for keyed things -/
theorem w_sortX {α : Type} {K : PySem.W.Frag} {f : α → List V} {κ : α → List Key} {rest : α → List V} {xs : List α} {vs : List V} {H : Hp} {p : Addr} {QT : V → Hp → Prop} (hp : H p = some (.lst vs)) (ht : Ts H f vs xs) (hf : ∀ x, f x = (κ x).map kV ++ rest x) (hne : ∀ x, κ x ≠ [])
    (hal : ∀ x y, SK.alks (κ x) (κ y) = true) (nd : (xs.map κ).Nodup)
    (q : ∀ ys p', H p' = none → Ts (upd H p' (.lst ys)) f ys (srt κ xs) → ys.length = xs.length → QT (.ref p') (upd H p' (.lst ys))) : rSortedX K [.ref p] H QT := by
  have hi : ∀ x ∈ xs, ∀ y ∈ xs, κ x = κ y → x = y := fun x mx y my e => by
    obtain ⟨i, hi⟩ := List.mem_iff_getElem?.mp mx
    obtain ⟨j, hj⟩ := List.mem_iff_getElem?.mp my
    have e1 : (xs.map κ)[i]? = some (κ x) := by rw [List.getElem?_map, hi]; rfl
    have e2 : (xs.map κ)[j]? = some (κ x) := by rw [List.getElem?_map, hj, e]; rfl
    have q := nd_ix nd e1 e2
    subst q
    rw [hi] at hj
    exact Option.some.inj hj
  have hv : ∀ x ∈ xs, ∀ a b, H a = some (.tup (f x)) → H b = some (.tup (f x)) → V.ref a ∈ vs → V.ref b ∈ vs → a = b := fun x mx a b ha hb ma mb => by
    obtain ⟨i, hi⟩ := List.mem_iff_getElem?.mp ma
    obtain ⟨j, hj⟩ := List.mem_iff_getElem?.mp mb
    obtain ⟨x1, a1, h1, h2, h3⟩ := ht.get hi
    obtain ⟨x2, a2, g1, g2, g3⟩ := ht.get hj
    cases h2
    cases g2
    have ee : ∀ z, f z = f x → κ z = κ x := fun z e => by
      rw [hf, hf] at e
      exact keys_inj (hal _ _) e
    have k1 : κ x1 = κ x := ee x1 (by rw [ha] at h3; exact (HO.tup.inj (Option.some.inj h3)).symm)
    have k2 : κ x2 = κ x := ee x2 (by rw [hb] at g3; exact (HO.tup.inj (Option.some.inj g3)).symm)
    have e1 : (xs.map κ)[i]? = some (κ x) := by rw [List.getElem?_map, h1]; exact congrArg some k1
    have e2 : (xs.map κ)[j]? = some (κ x) := by rw [List.getElem?_map, g1]; exact congrArg some k2
    have q := nd_ix nd e1 e2
    subst q
    rw [hi] at hj
    exact V.ref.inj (Option.some.inj hj)
  classical
  let k : V → List Key := fun v => if e : ∃ x : α, ∃ a : Addr, v = .ref a ∧ H a = some (.tup (f x)) then κ e.choose else []
  have hk : ∀ (a : Addr) (x : α), H a = some (.tup (f x)) → k (.ref a) = κ x := fun a x h => by
    have e : ∃ y : α, ∃ b : Addr, V.ref a = .ref b ∧ H b = some (.tup (f y)) := ⟨x, a, rfl, h⟩
    have e1 : k (.ref a) = κ e.choose := dif_pos e
    obtain ⟨b, e2, e3⟩ := e.choose_spec
    cases e2
    rw [h] at e3
    have e4 := HO.tup.inj (Option.some.inj e3)
    rw [hf, hf] at e4
    rw [e1]
    exact (keys_inj (hal _ _) e4).symm
  have mem : ∀ v ∈ vs, ∃ x a, x ∈ xs ∧ v = .ref a ∧ H a = some (.tup (f x)) := fun v m => by
    obtain ⟨j, hj⟩ := List.mem_iff_getElem?.mp m
    obtain ⟨x, a, h1, h2, h3⟩ := ht.get hj
    exact ⟨x, a, List.mem_of_getElem? h1, h2, h3⟩
  refine ⟨p, vs, k, rfl, SqL.of hp, fun v m => ?_, fun v m u m' => ?_, fun v m u m' e => ?_, fun ys p' hs hperm hp' => ?_⟩
  · obtain ⟨x, a, h1, rfl, h3⟩ := mem v m
    rw [hk a x h3]
    exact ⟨hne x, a, rest x, rfl, by rw [h3, hf]⟩
  · obtain ⟨x, a, h1, rfl, h3⟩ := mem v m
    obtain ⟨y, b, g1, rfl, g3⟩ := mem u m'
    rw [hk a x h3, hk b y g3]
    exact hal x y
  · obtain ⟨x, a, h1, rfl, h3⟩ := mem v m
    obtain ⟨y, b, g1, rfl, g3⟩ := mem u m'
    rw [hk a x h3, hk b y g3] at e
    have exy := hi x h1 y g1 e
    subst exy
    rw [hv x h1 a b h3 g3 m m']
  · obtain ⟨xs', px, ht'⟩ := paired_perm hperm ht
    have ht' : Ts H f ys xs' := ht'
    have hs' : xs'.Pairwise fun x y => SK.kLt (κ y) (κ x) = false := by
      clear q hperm px
      induction ht' with
      | nil => exact .nil
      | @cons v x ys xs' h1 t ih =>
        obtain ⟨a, rfl, ha⟩ := h1
        have hs := List.pairwise_cons.mp hs
        refine List.pairwise_cons.mpr ⟨fun y my => ?_, ih hs.2 t⟩
        obtain ⟨j, hj⟩ := List.mem_iff_getElem?.mp my
        obtain ⟨b, hb, hb2⟩ := Ts.get' t hj
        have z := hs.1 (.ref b) (List.mem_of_getElem? hb)
        rw [hk a x ha, hk b y hb2] at z
        exact z
    have e : xs' = srt κ xs := by
      refine sorted_one (px.trans (srt_perm xs).symm) hs' (srt_sorted xs) (fun x _ y _ => hal x y) fun x mx y my e => hi x (px.mem_iff.mp mx) y (px.mem_iff.mp my) e
    subst e
    refine q ys p' hp' (ht'.mono fun b us hb => ?_) (by rw [ht'.len, px.length_eq])
    rw [upd_ne (ne_of_none hb hp')]; exact hb
theorem nd_map {α β : Type} {f : α → β} (inj : ∀ a b, f a = f b → a = b) {l : List α} (h : l.Nodup) : (l.map f).Nodup := List.pairwise_map.mpr (h.imp fun hne e => hne (inj _ _ e))

end K87

namespace K87
open PySem PySem.Spec PyProof.Rows L2
--nomac
/-! ### dicts: what a reading asks -/
section
variable {K : PySem.W.Frag} {σ : L2.St} {H : Hp} {ta tb td ty tx : TE} {x y z v : V} {D : Ends} {QT : V → Hp → Prop} {QH : Hp → Prop}
def rDGet (x y : V) (Q : VK) (H : Hp) : Prop := ∃ a v, x = .ref a ∧ DGet H a y (some v) ∧ Q v H
def rDIn (neg : Bool) (x y : V) (Q : VK) (H : Hp) : Prop := ∃ a o, x = .ref a ∧ DGet H a y o ∧ Q (.bl (if neg then !o.isSome else o.isSome)) H
def rIsD (x : V) (H : Hp) (R : Addr → Prop) : Prop := ∃ a, x = .ref a ∧ IsD H a ∧ R a
def rDGetO (a : Addr) (y z : V) (Q : VK) (H : Hp) : Prop := ∃ o, DGet H a y o ∧ Q (o.getD z) H
def rDPop (a : Addr) (y : V) (Q : VK) (H : Hp) : Prop := ∃ kvs k v, H a = some (.dK kvs) ∧ y = kV k ∧ valV kvs k = some v ∧ Q v (upd H a (.dK (dropK kvs k)))
def rDPut (x y v : V) (H : Hp) (Q : Hp → Prop) : Prop := ∃ a H4, x = .ref a ∧ DPut H a y v H4 ∧ Q H4
theorem u_dget : tDGet td ty σ H QT = td σ H fun x H1 => ty σ H1 fun y H2 => rDGet x y QT H2 := rfl
theorem u_din : tDIn ty td σ H QT = ty σ H fun y H1 => td σ H1 fun x H2 => rDIn false x y QT H2 := rfl
theorem u_dnotin : tDNotIn ty td σ H QT = ty σ H fun y H1 => td σ H1 fun x H2 => rDIn true x y QT H2 := rfl
theorem u_dget2 : tDGet2 td ty tx σ H QT = td σ H fun x H1 => rIsD x H1 fun a => ty σ H1 fun y H2 => tx σ H2 fun z H3 => rDGetO a y z QT H3 := rfl
theorem u_dget1 : tDGet1 td ty σ H QT = td σ H fun x H1 => rIsD x H1 fun a => ty σ H1 fun y H2 => rDGetO a y .non QT H2 := rfl
theorem u_dpop1 : tDPop1 td ty σ H QT = td σ H fun x H1 => rIsD x H1 fun a => ty σ H1 fun y H2 => rDPop a y QT H2 := rfl
theorem u_dput : sDPut td ty ta D σ H = ta σ H fun v H1 => td σ H1 fun x H2 => ty σ H2 fun y H3 => rDPut x y v H3 fun H4 => Nx D.nx σ H4 := rfl
theorem u_setD : rSetD x y v H QH = rDPut x y v H QH := rfl
theorem u_dnewK : tDNewK σ H QT = New (.dK []) QT H := rfl
theorem u_dnewT : tDNewT σ H QT = New (.dT []) QT H := rfl
theorem w_dgetS {a : Addr} {kvs : List (Key × V)} {s : Str} (h : H a = some (.dK kvs)) (e : valV kvs (.inr s) = some v) (q : QT v H) : rDGet (.ref a) (.str s) QT H := ⟨a, v, rfl, .inl ⟨kvs, .inr s, .inl h, rfl, e.symm⟩, q⟩
theorem w_dgetN {a : Addr} {kvs : List (Key × V)} {s : Int} (h : H a = some (.dK kvs)) (e : valV kvs (.inl s) = some v) (q : QT v H) : rDGet (.ref a) (.int s) QT H := ⟨a, v, rfl, .inl ⟨kvs, .inl s, .inl h, rfl, e.symm⟩, q⟩
theorem w_dinS {a : Addr} {kvs : List (Key × V)} {s : Str} (h : H a = some (.dK kvs)) (q : QT (.bl (valV kvs (.inr s)).isSome) H) : rDIn false (.ref a) (.str s) QT H := ⟨a, _, rfl, .inl ⟨kvs, .inr s, .inl h, rfl, rfl⟩, q⟩
theorem w_dinN {a : Addr} {kvs : List (Key × V)} {s : Int} (h : H a = some (.dK kvs)) (q : QT (.bl (valV kvs (.inl s)).isSome) H) : rDIn false (.ref a) (.int s) QT H := ⟨a, _, rfl, .inl ⟨kvs, .inl s, .inl h, rfl, rfl⟩, q⟩
theorem w_dnotinS {a : Addr} {kvs : List (Key × V)} {s : Str} (h : H a = some (.dK kvs)) (q : QT (.bl (!(valV kvs (.inr s)).isSome)) H) : rDIn true (.ref a) (.str s) QT H := ⟨a, _, rfl, .inl ⟨kvs, .inr s, .inl h, rfl, rfl⟩, q⟩
theorem w_dnotinN {a : Addr} {kvs : List (Key × V)} {s : Int} (h : H a = some (.dK kvs)) (q : QT (.bl (!(valV kvs (.inl s)).isSome)) H) : rDIn true (.ref a) (.int s) QT H := ⟨a, _, rfl, .inl ⟨kvs, .inl s, .inl h, rfl, rfl⟩, q⟩
theorem w_isD {a : Addr} {kvs : List (Key × V)} {R : Addr → Prop} (h : H a = some (.dK kvs)) (q : R a) : rIsD (.ref a) H R := ⟨a, rfl, .inl ⟨kvs, .inl h⟩, q⟩
theorem w_isDT {a : Addr} {kvs : List (List Key × V)} {R : Addr → Prop} (h : H a = some (.dT kvs)) (q : R a) : rIsD (.ref a) H R := ⟨a, rfl, .inr ⟨kvs, .inl h⟩, q⟩
theorem w_getOS {a : Addr} {kvs : List (Key × V)} {s : Str} (h : H a = some (.dK kvs)) (q : QT ((valV kvs (.inr s)).getD z) H) : rDGetO a (.str s) z QT H := ⟨_, .inl ⟨kvs, .inr s, .inl h, rfl, rfl⟩, q⟩
theorem w_getOT {a b : Addr} {kvs : List (List Key × V)} {k : List Key} (h : H a = some (.dT kvs)) (hb : H b = some (.tup (k.map kV))) (q : QT ((valV kvs k).getD z) H) : rDGetO a (.ref b) z QT H := ⟨_, .inr ⟨kvs, k, b, .inl h, rfl, hb, rfl⟩, q⟩
theorem w_popS {a : Addr} {kvs : List (Key × V)} {s : Str} (h : H a = some (.dK kvs)) (e : valV kvs (.inr s) = some v) (q : QT v (upd H a (.dK (dropK kvs (.inr s))))) : rDPop a (.str s) QT H := ⟨kvs, .inr s, v, h, rfl, e, q⟩
section
variable {S : Addr → Prop} {H0 : Hp} {DD : List (Addr × HO)} {p b : Addr} {kvs : List (Key × V)} {kvt : List (List Key × V)}
theorem w_putS (j : Nat) {s : Str} (g : Cfg S H0 DD H) (h : DD[j]? = some (p, .dK kvs)) (hl : kvs.length < 100000) (hs : S p ∨ H0 p = none) (q : ∀ H', Cfg S H0 (DD.set j (p, .dK (putK kvs (.inr s) v))) H' → QH H') : rDPut (.ref p) (.str s) v H QH :=
  ⟨p, _, rfl, .inl ⟨kvs, .inr s, g.get j h, rfl, Nat.lt_of_lt_of_le hl (by decide), rfl⟩, q _ (g.wr j h (fun _ z => by cases z) hs)⟩
theorem w_putN (j : Nat) {s : Int} (g : Cfg S H0 DD H) (h : DD[j]? = some (p, .dK kvs)) (hl : kvs.length < 100000) (hs : S p ∨ H0 p = none) (q : ∀ H', Cfg S H0 (DD.set j (p, .dK (putK kvs (.inl s) v))) H' → QH H') : rDPut (.ref p) (.int s) v H QH :=
  ⟨p, _, rfl, .inl ⟨kvs, .inl s, g.get j h, rfl, Nat.lt_of_lt_of_le hl (by decide), rfl⟩, q _ (g.wr j h (fun _ z => by cases z) hs)⟩
theorem w_putT (j : Nat) {k : List Key} (g : Cfg S H0 DD H) (h : DD[j]? = some (p, .dT kvt)) (hb : H b = some (.tup (k.map kV))) (hl : kvt.length < 100000) (hs : S p ∨ H0 p = none) (q : ∀ H', Cfg S H0 (DD.set j (p, .dT (putK kvt k v))) H' → QH H') : rDPut (.ref p) (.ref b) v H QH :=
  ⟨p, _, rfl, .inr ⟨kvt, k, b, g.get j h, rfl, hb, Nat.lt_of_lt_of_le hl (by decide), rfl⟩, q _ (g.wr j h (fun _ z => by cases z) hs)⟩
theorem w_popG (j : Nat) {s : Str} (g : Cfg S H0 DD H) (h : DD[j]? = some (p, .dK kvs)) (e : valV kvs (.inr s) = some v) (hs : S p ∨ H0 p = none) (q : ∀ H', Cfg S H0 (DD.set j (p, .dK (dropK kvs (.inr s)))) H' → QT v H') : rDPop p (.str s) QT H :=
  ⟨kvs, .inr s, v, g.get j h, rfl, e, q _ (g.wr j h (fun _ z => by cases z) hs)⟩
end
end
/-! ### words that are unlike -/
theorem wd_fill_fill : decide (("fill" : Str) = "fill") = true := by decide +kernel
theorem wd_fill_gather : decide (("fill" : Str) = "gather") = false := by decide +kernel
theorem wd_fill_wash : decide (("fill" : Str) = "wash") = false := by decide +kernel
theorem wd_fill_empty : decide (("fill" : Str) = "empty") = false := by decide +kernel
theorem wd_fill_break : decide (("fill" : Str) = "break") = false := by decide +kernel
theorem wd_fill_new : decide (("fill" : Str) = "new") = false := by decide +kernel
theorem wd_gather_fill : decide (("gather" : Str) = "fill") = false := by decide +kernel
theorem wd_gather_gather : decide (("gather" : Str) = "gather") = true := by decide +kernel
theorem wd_gather_wash : decide (("gather" : Str) = "wash") = false := by decide +kernel
theorem wd_gather_empty : decide (("gather" : Str) = "empty") = false := by decide +kernel
theorem wd_gather_break : decide (("gather" : Str) = "break") = false := by decide +kernel
theorem wd_gather_new : decide (("gather" : Str) = "new") = false := by decide +kernel
theorem wd_wash_fill : decide (("wash" : Str) = "fill") = false := by decide +kernel
theorem wd_wash_gather : decide (("wash" : Str) = "gather") = false := by decide +kernel
theorem wd_wash_wash : decide (("wash" : Str) = "wash") = true := by decide +kernel
theorem wd_wash_empty : decide (("wash" : Str) = "empty") = false := by decide +kernel
theorem wd_wash_break : decide (("wash" : Str) = "break") = false := by decide +kernel
theorem wd_wash_new : decide (("wash" : Str) = "new") = false := by decide +kernel
theorem wd_empty_fill : decide (("empty" : Str) = "fill") = false := by decide +kernel
theorem wd_empty_gather : decide (("empty" : Str) = "gather") = false := by decide +kernel
theorem wd_empty_wash : decide (("empty" : Str) = "wash") = false := by decide +kernel
theorem wd_empty_empty : decide (("empty" : Str) = "empty") = true := by decide +kernel
theorem wd_empty_break : decide (("empty" : Str) = "break") = false := by decide +kernel
theorem wd_empty_new : decide (("empty" : Str) = "new") = false := by decide +kernel
theorem wd_break_fill : decide (("break" : Str) = "fill") = false := by decide +kernel
theorem wd_break_gather : decide (("break" : Str) = "gather") = false := by decide +kernel
theorem wd_break_wash : decide (("break" : Str) = "wash") = false := by decide +kernel
theorem wd_break_empty : decide (("break" : Str) = "empty") = false := by decide +kernel
theorem wd_break_break : decide (("break" : Str) = "break") = true := by decide +kernel
theorem wd_break_new : decide (("break" : Str) = "new") = false := by decide +kernel
theorem wd_new_fill : decide (("new" : Str) = "fill") = false := by decide +kernel
theorem wd_new_gather : decide (("new" : Str) = "gather") = false := by decide +kernel
theorem wd_new_wash : decide (("new" : Str) = "wash") = false := by decide +kernel
theorem wd_new_empty : decide (("new" : Str) = "empty") = false := by decide +kernel
theorem wd_new_break : decide (("new" : Str) = "break") = false := by decide +kernel
theorem wd_new_new : decide (("new" : Str) = "new") = true := by decide +kernel
theorem wd_nil : decide (("" : Str) = "") = true := by decide +kernel
theorem wd_none : decide (("none" : Str) = "") = false := by decide +kernel
theorem wd_broken : decide (("broken" : Str) = "") = false := by decide +kernel
theorem wd_busy : decide (("busy" : Str) = "") = false := by decide +kernel
theorem wd_glass : decide (("glass" : Str) = "") = false := by decide +kernel
theorem wd_name : decide (("name" : Str) = "") = false := by decide +kernel
theorem wd_cold : decide (("cold" : Str) = "") = false := by decide +kernel
theorem wd_rank : decide (("rank" : Str) = "") = false := by decide +kernel
theorem wd_less : decide (("less" : Str) = "") = false := by decide +kernel
theorem wd_full : decide (("full" : Str) = "") = false := by decide +kernel
theorem wd_whole : decide (("whole" : Str) = "") = false := by decide +kernel
theorem vn_non : decide (V.non = V.non) = true := by decide
theorem vn_ref (a : Addr) : decide (V.ref a = V.non) = false := by simp
theorem vn_str (a : Str) : decide (V.str a = V.non) = false := by simp
theorem vn_int (a : Int) : decide (V.int a = V.non) = false := by simp
theorem w_put {C : Addr} {ns : List Str} {i : Nat} {y : V} {S : Addr → Prop} {H0 H : Hp} {DD : List (Addr × HO)} {p dx : Addr} {vs : List V} {QH : Hp → Prop} (j : Nat) (g : Cfg S H0 DD H) (h : DD[j]? = some (p, Ob C dx ns vs)) (hs : S p ∨ H0 p = none)
    (q : ∀ H', Cfg S H0 (DD.set j (p, Ob C dx ns (vs.set i y))) H' → QH H') (hb : (Nat.ble (i + 1) vs.length && Nat.ble vs.length 100) = true := by with_unfolding_all rfl) : rPutI C ns i (.ref p) y H QH := by
  rw [Bool.and_eq_true] at hb
  exact w_putI j g h (Nat.le_of_ble_eq_true hb.1) (Nat.le_of_ble_eq_true hb.2) hs q
/-- objects of field lists of other lengths stand apart -/
theorem ob_apart {C C' dx dx' : Addr} {ns ns' : List Str} {vs vs' : List V} {H : Hp} {a b : Addr} (ha : H a = some (Ob C dx ns vs)) (hb : H b = some (Ob C' dx' ns' vs')) (h : (Nat.beq (min ns.length vs.length) (min ns'.length vs'.length)) = false := by with_unfolding_all rfl) : a ≠ b := fun z => by
  rw [z, hb] at ha
  have q := HO.ins.inj (Option.some.inj ha)
  have q2 := congrArg List.length q.2.2
  rw [List.length_zip, List.length_zip] at q2
  rw [← q2] at h
  rw [Nat.beq_refl] at h
  cases h
theorem ob_fs {C C' dx dx' : Addr} {ns : List Str} {vs : List V} (h : vs.length = ns.length) : Ob C dx ns vs = Ob C dx ns vs := rfl
def rAugO (C : Addr) (ns : List Str) (i : Nat) (x : V) (H1 : Hp) (R : Addr → Int → Prop) : Prop := ∃ a dx vs u, x = .ref a ∧ H1 a = some (Ob C dx ns vs) ∧ vs[i]? = some (.int u) ∧ R a u
def rAugP (C : Addr) (ns : List Str) (i : Nat) (g : Int → Int → Int) (a : Addr) (u : Int) (y : V) (H2 : Hp) (Q : Hp → Prop) : Prop := ∃ w dx' vs', y = .int w ∧ H2 a = some (Ob C dx' ns vs') ∧ i < vs'.length ∧ vs'.length ≤ 100 ∧ Q (upd H2 a (Ob C dx' ns (vs'.set i (.int (g u w)))))
theorem u_augI {C : Addr} {ns : List Str} {i : Nat} {gg : Int → Int → Int} {ta tv : TE} {D : Ends} {σ : L2.St} {H : Hp} : sAugI C ns i gg ta tv D σ H = ta σ H fun x H1 => rAugO C ns i x H1 fun a u => tv σ H1 fun y H2 => rAugP C ns i gg a u y H2 fun H3 => Nx D.nx σ H3 := rfl
theorem w_augO {C : Addr} {ns : List Str} {i : Nat} {H : Hp} {p dx : Addr} {vs : List V} {u : Int} {R : Addr → Int → Prop} (h : H p = some (Ob C dx ns vs)) (hv : vs[i]? = some (.int u)) (q : R p u) : rAugO C ns i (.ref p) H R := ⟨p, dx, vs, u, rfl, h, hv, q⟩
theorem w_aug {C : Addr} {ns : List Str} {i : Nat} {gg : Int → Int → Int} {u w : Int} {S : Addr → Prop} {H0 H : Hp} {DD : List (Addr × HO)} {p dx : Addr} {vs : List V} {QH : Hp → Prop} (j : Nat) (g : Cfg S H0 DD H) (h : DD[j]? = some (p, Ob C dx ns vs)) (hs : S p ∨ H0 p = none)
    (q : ∀ H', Cfg S H0 (DD.set j (p, Ob C dx ns (vs.set i (.int (gg u w))))) H' → QH H') (hb : (Nat.ble (i + 1) vs.length && Nat.ble vs.length 100) = true := by with_unfolding_all rfl) : rAugP C ns i gg p u (.int w) H QH := by
  rw [Bool.and_eq_true] at hb
  exact ⟨w, dx, vs, rfl, g.get j h, Nat.le_of_ble_eq_true hb.1, Nat.le_of_ble_eq_true hb.2, q _ (g.wr j h (fun _ z => by cases z) hs)⟩
theorem u_par3 {i j l : Nat} {tr : TA} {D : Ends} {σ : L2.St} {H : Hp} : tPar3 i j l tr D σ H = tr σ H fun vs H1 => ∃ v w u, vs = [v, w, u] ∧ Nx D.nx (((σ.set i (some v)).set j (some w)).set l (some u)) H1 := rfl
theorem u_par33 {x y z : V} {R : V → V → V → Prop} : (∃ v w u, [x, y, z] = [v, w, u] ∧ R v w u) = R x y z := propext ⟨fun ⟨v, w, u, e, h⟩ => by cases e; exact h, fun h => ⟨x, y, z, rfl, h⟩⟩

end K87

namespace K87
open PySem PySem.Spec PyProof.Rows L2
--nomac
section
variable {K : PySem.W.Frag} {H : Hp} {x v : V} {QT : V → Hp → Prop}
theorem w_inT {p : Addr} {xs : List V} (h : H p = some (.tup xs)) (f : (flatV x && xs.all flatV) = true) (q : QT (.bl (inV x xs)) H) : rIn K false x (.ref p) H QT := by
  rw [Bool.and_eq_true] at f
  exact ⟨p, xs, rfl, .inr (SqT.of h), f.1, f.2, q⟩
theorem w_inL {p : Addr} {xs : List V} (h : H p = some (.lst xs)) (f : (flatV x && xs.all flatV) = true) (q : QT (.bl (inV x xs)) H) : rIn K false x (.ref p) H QT := by
  rw [Bool.and_eq_true] at f
  exact ⟨p, xs, rfl, .inl (SqL.of h), f.1, f.2, q⟩
theorem w_ninL {p : Addr} {xs : List V} (h : H p = some (.lst xs)) (f : (flatV x && xs.all flatV) = true) (q : QT (.bl (!inV x xs)) H) : rIn K true x (.ref p) H QT := by
  rw [Bool.and_eq_true] at f
  exact ⟨p, xs, rfl, .inl (SqL.of h), f.1, f.2, q⟩
end
theorem flat_ints (xs : List Int) : (xs.map V.int).all flatV = true := by
  rw [List.all_map, List.all_eq_true]; intro _ _; rfl
theorem flat_strs (xs : List Str) : (xs.map V.str).all flatV = true := by
  rw [List.all_map, List.all_eq_true]; intro _ _; rfl
theorem in_ints (s : Int) (xs : List Int) : inV (.int s) (xs.map V.int) = decide (s ∈ xs) := by
  induction xs with
  | nil => rfl
  | cons a r ih =>
    have e : inV (.int s) ((a :: r).map V.int) = ((a == s) || inV (.int s) (r.map V.int)) := rfl
    rw [e, ih]
    by_cases h : a = s
    · subst h; simp
    · have h' : ¬ s = a := fun z => h z.symm
      simp [h, h']
theorem in_strs (s : Str) (xs : List Str) : inV (.str s) (xs.map V.str) = decide (s ∈ xs) := by
  induction xs with
  | nil => rfl
  | cons a r ih =>
    have e : inV (.str s) ((a :: r).map V.str) = ((a == s) || inV (.str s) (r.map V.str)) := rfl
    rw [e, ih]
    by_cases h : a = s
    · subst h; simp
    · have h' : ¬ s = a := fun z => h z.symm
      simp [h, h']
theorem cut_take (xs : List V) {m : Int} (h : 0 ≤ m) : cutV xs none (some m) = xs.take m.toNat := by
  obtain ⟨n, rfl⟩ := Int.eq_ofNat_of_zero_le h
  unfold cutV
  rw [HT.sIx_none, HT.sIx_nat, List.drop_zero, Int.toNat_natCast, Nat.sub_zero]
  by_cases hn : n ≤ xs.length
  · rw [Nat.min_eq_left hn]
  · rw [Nat.min_eq_right (by omega), List.take_of_length_le (Nat.le_refl _), List.take_of_length_le (by omega)]
theorem rangeI_get {n i : Nat} (h : i < n) : (rangeI n)[i]? = some (i : Int) := by
  unfold rangeI
  rw [List.getElem?_map, List.getElem?_range h]; rfl
theorem rangeI_take {n i : Nat} (h : i < n) : (rangeI n).take (i + 1) = (rangeI n).take i ++ [(i : Int)] := by
  rw [List.take_add_one, rangeI_get h]; rfl
theorem rangeI_len (n : Nat) : (rangeI n).length = n := by unfold rangeI; simp
theorem take_snoc {α : Type} {l : List α} {i : Nat} {x : α} (h : l[i]? = some x) : l.take (i + 1) = l.take i ++ [x] := by
  rw [List.take_add_one, h]; rfl
/-- a filter, one further -/
theorem filt_snoc {α : Type} {p : α → Bool} {l : List α} {i : Nat} {x : α} (h : l[i]? = some x) : (l.take (i + 1)).filter p = (l.take i).filter p ++ (if p x = true then [x] else []) := by
  rw [take_snoc h, List.filter_append]
  congr 1
  by_cases hp : p x = true
  · rw [if_pos hp, List.filter_cons_of_pos hp]; rfl
  · rw [if_neg hp, List.filter_cons_of_neg hp]; rfl
/-! ### dicts by names -/
theorem valV_merge_str {α : Type} (f : α → V) : ∀ (l : List (Str × α)) (kvs : List (Key × V)) (s : Str), valV (mergeK kvs (l.map fun p => ((.inr p.1 : Key), f p.2))) (.inr s) = l.foldl (fun o p => if s = p.1 then some (f p.2) else o) (valV kvs (.inr s))
  | [], kvs, s => rfl
  | p :: r, kvs, s => by
    show valV (mergeK (putK kvs (.inr p.1) (f p.2)) (r.map fun p => ((.inr p.1 : Key), f p.2))) (.inr s) = _
    rw [valV_merge_str f r, List.foldl_cons, valV_put]
    by_cases e : s = p.1
    · subst e; simp
    · simp [e]
theorem foldl_map_opt {α β : Type} (f : α → β) (s : Str) : ∀ (l : List (Str × α)) (o : Option α), l.foldl (fun o p => if s = p.1 then some (f p.2) else o) (o.map f) = (l.foldl (fun o p => if s = p.1 then some p.2 else o) o).map f
  | [], o => rfl
  | p :: r, o => by
    rw [List.foldl_cons, List.foldl_cons]
    by_cases e : s = p.1
    · rw [if_pos e, if_pos e]; exact foldl_map_opt f s r (some p.2)
    · rw [if_neg e, if_neg e]; exact foldl_map_opt f s r o
theorem valV_last {α : Type} (f : α → V) (l : List (Str × α)) (s : Str) : valV (mergeK [] (l.map fun p => ((.inr p.1 : Key), f p.2))) (.inr s) = (lastOf l s).map f := by
  rw [valV_merge_str]
  exact foldl_map_opt f s l none
theorem lastOf_foldl {α : Type} (s : Str) : ∀ (l : List (Str × α)) (o : Option α), (l.foldl (fun o p => if s = p.1 then some p.2 else o) o).isSome = (o.isSome || decide (s ∈ l.map (·.1)))
  | [], o => by simp
  | p :: r, o => by
    rw [List.foldl_cons, lastOf_foldl s r]
    rw [List.map_cons]
    by_cases e : s = p.1
    · subst e; simp
    · rw [if_neg e]
      have : (s ∈ p.1 :: r.map (·.1)) = (s ∈ r.map (·.1)) := by
        rw [List.mem_cons]; exact propext ⟨fun h => h.elim (fun z => absurd z e) id, .inr⟩
      simp only [this]
theorem lastOf_isSome {α : Type} (l : List (Str × α)) (s : Str) : (lastOf l s).isSome = decide (s ∈ l.map (·.1)) := by
  have q := lastOf_foldl s l (none : Option α)
  simpa [lastOf] using q
theorem lastOf_some {α : Type} {l : List (Str × α)} {s : Str} (h : s ∈ l.map (·.1)) : ∃ x, lastOf l s = some x := by
  have q := lastOf_isSome l s
  rw [decide_eq_true h] at q
  exact Option.isSome_iff_exists.mp q
theorem inw_fill : inV (.str "fill") [.str "fill", .str "wash"] = true := by decide +kernel
theorem inw_wash : inV (.str "wash") [.str "fill", .str "wash"] = true := by decide +kernel
theorem inw_gather : inV (.str "gather") [.str "fill", .str "wash"] = false := by decide +kernel
theorem inw_empty : inV (.str "empty") [.str "fill", .str "wash"] = false := by decide +kernel
theorem inw_break : inV (.str "break") [.str "fill", .str "wash"] = false := by decide +kernel
theorem inw_new : inV (.str "new") [.str "fill", .str "wash"] = false := by decide +kernel

end K87

namespace K87
open PySem PySem.Spec PyProof.Rows L2
--nomac
/-! ### what the law walks back: plain -/
structure Fill where
  hour : Int
  pot : Str
  colour : Str
  left : Int
@[reducible] def fillV (f : Fill) : List V := [.int f.hour, .str f.pot, .str f.colour, .int f.left]
structure Led where
  fills : Int → Option Fill
  opens : Str → Option Int
def led0 : Led := ⟨fun _ => none, fun _ => none⟩
def updF {α β : Type} [DecidableEq α] (f : α → β) (k : α) (v : β) : α → β := fun m => if m = k then v else f m
def ledF (L : Led) (r : Row) : Led :=
  if r.word = wFill then ⟨updF L.fills r.number (some ⟨r.hour, r.pot, r.colour, r.many⟩), updF L.opens r.pot (some r.number)⟩ else
  match r.source with
  | none => L
  | some n =>
    match L.fills n with
    | none => L
    | some f => ⟨updF L.fills n (some { f with left := f.left - r.many }), if f.left - r.many = 0 then updF L.opens r.pot none else L.opens⟩
inductive LedOk (L : Led) (r : Row) : Prop where
  | fill (w : r.word = wFill) (s : r.source = some r.number) (o : L.opens r.pot = none)
  | take (n : Int) (f : Fill) (w : r.word ≠ wFill) (s : r.source = some n) (e : L.fills n = some f) (o : L.opens r.pot = some n) (p : f.pot = r.pot) (c : f.colour = r.colour) (l : 0 ≤ f.left - r.many) (z : r.word = wGather ∨ f.left - r.many = 0)
  | none (w : r.word ≠ wFill) (w2 : r.word ≠ wGather) (w3 : r.word ≠ wEmpty) (s : r.source = none) (o : L.opens r.pot = none) (m : r.many = 0) (c : r.colour = "")
def ledOf (rows : List Row) : Led := rows.foldl ledF led0
def LedGood (rows : List Row) : Prop := ∀ (i : Nat) (r : Row), rows[i]? = some r → LedOk (ledOf (rows.take i)) r
/-- the deed of a number -/
def deedOf (es : List Ent) (n : Int) : Option Ent := es.find? fun e => decide (e.number = n)
def kd (es : List Ent) (n : Int) : Str := match deedOf es n with
  | some e => e.deed.kind
  | none => ⟨#[]⟩
def madeF (es : List Ent) (m : List ((Str × Str) × Int)) (r : Row) : List ((Str × Str) × Int) := if r.word = wGather then putM m (kd es r.number, r.colour) (getM m (kd es r.number, r.colour) + r.many) else m
def coolF (h : Hall) (es : List Ent) (c : List Cool) (r : Row) : List Cool := if r.word = wGather then c ++ newCool h c r.hour (kd es r.number) r.colour r.many else c
/-- what lies: one gather -/
def lieF (h : Hall) (es : List Ent) (hour : Int) (ly : List Cool) (r : Row) : List Cool := ly ++ ((freeOf h.slots (ly.map (·.slot))).take r.many.toNat).map fun s => ⟨s, kd es r.number, r.colour, hour + coolOf h (kd es r.number)⟩
def gAt (rows : List Row) (hour : Int) : List Row := rows.filter fun r => decide (r.hour = hour) && decide (r.word = wGather)
def lieBase (ly : List Cool) (hour : Int) : List Cool := ly.filter fun c => decide (hour < c.out)
def lyAt (h : Hall) (es : List Ent) (rows : List Row) : Nat → List Cool
  | 0 => (gAt rows 0).foldl (lieF h es 0) []
  | n + 1 => (gAt rows ((n + 1 : Nat) : Int)).foldl (lieF h es ((n + 1 : Nat) : Int)) (lieBase (lyAt h es rows n) ((n + 1 : Nat) : Int))
def lyFrom (h : Hall) (es : List Ent) (rows : List Row) (n : Nat) : List Cool := match n with
  | 0 => []
  | n + 1 => lieBase (lyAt h es rows n) ((n + 1 : Nat) : Int)
/-- a row's deed is known -/
def RowDeed (es : List Ent) (r : Row) : Prop := ∃ e ∈ es, e.number = r.number ∧ e.deed.word = r.word ∧ e.hour = r.hour
def ReadyOk (h : Hall) (es : List Ent) (rows : List Row) (r : Row) : Prop :=
  (r.word = wGather → ∃ n e p c r0, r.source = some n ∧ e ∈ es ∧ e.number = n ∧ e.deed = .fill p c ∧ isCol h c ∧ r0 ∈ rows ∧ r0.number = n ∧ r0.word = wFill ∧ readyAt h c r0.hour ≤ r.hour) ∧
  (r.word = wFill → ∃ e p c, e ∈ es ∧ e.number = r.number ∧ e.deed = .fill p c ∧ (r.colour = "" ∨ r.colour = c))

end K87

namespace K87
open PySem PySem.Spec PyProof.Rows L2
local macro_rules | `(tactic| kxs_still) => `(tactic| with_unfolding_all rfl)
local macro_rules | `(tactic| lcg_sub) => `(tactic| first
  | assumption
  | (apply Cfg.get (i := 0) <;> first | assumption | kxs_still)
  | (apply Cfg.get (i := 1) <;> first | assumption | kxs_still)
  | (apply Cfg.get (i := 2) <;> first | assumption | kxs_still)
  | (apply Cfg.get (i := 3) <;> first | assumption | kxs_still)
  | (apply Cfg.get (i := 4) <;> first | assumption | kxs_still)
  | (apply Cfg.get (i := 5) <;> first | assumption | kxs_still)
  | (apply Cfg.get (i := 6) <;> first | assumption | kxs_still)
  | (apply Cfg.get (i := 7) <;> first | assumption | kxs_still)
  | (apply Cfg.get (i := 8) <;> first | assumption | kxs_still)
  | (apply Cfg.get (i := 9) <;> first | assumption | kxs_still)
  | (apply Cfg.get (i := 0) <;> first | (apply Bfg.toCfg; assumption) | kxs_still)
  | (apply Cfg.get (i := 1) <;> first | (apply Bfg.toCfg; assumption) | kxs_still)
  | (apply Cfg.get (i := 2) <;> first | (apply Bfg.toCfg; assumption) | kxs_still)
  | (apply Cfg.get (i := 3) <;> first | (apply Bfg.toCfg; assumption) | kxs_still)
  | (apply Cfg.get (i := 4) <;> first | (apply Bfg.toCfg; assumption) | kxs_still)
  | (apply Cfg.get (i := 5) <;> first | (apply Bfg.toCfg; assumption) | kxs_still)
  | (apply Cfg.get (i := 6) <;> first | (apply Bfg.toCfg; assumption) | kxs_still)
  | (apply Cfg.get (i := 7) <;> first | (apply Bfg.toCfg; assumption) | kxs_still)
  | (apply Cfg.get (i := 8) <;> first | (apply Bfg.toCfg; assumption) | kxs_still)
  | (apply Cfg.get (i := 9) <;> first | (apply Bfg.toCfg; assumption) | kxs_still))
local macro_rules | `(tactic| kas_types) => `(tactic| first
  | assumption | decide | omega | exact Or.inl (by omega) | exact Or.inr (by omega) | exact ⟨by omega, by omega⟩ | exact ⟨by omega, by omega, by omega⟩)
local macro_rules | `(tactic| keq_hits) => `(tactic| simp only [u_var, u_c, u_op, u_un, u_test, u_tB, u_bl, u_I0, u_eqS, u_eqI, u_neS, u_neI, u_seq, u_next, u_asg, u_name, u_ret, u_retN, u_drop, u_ifS, u_ifE, u_and, u_or, u_not, u_andV, u_orV, u_notV, u_nil, u_cons, u_call, u_cb, u_tup, u_lst, u_sub, u_gNil, u_gCons, u_bm, u_m1, u_isS, u_sl, u_noPart, u_part, u_partk, u_par, u_par2, u_for, u_lc, u_rng1, u_itL, u_itT, u_yes, u_fldI, u_putI, u_newI, u_methI, u_make, u_some, u_i0, u_i1, u_K, L2.start, wipe, List.map_cons, List.map_nil, List.length_cons, List.length_nil, List.replicate_succ, List.replicate_zero, List.cons_append, List.nil_append, List.set_cons_zero, List.set_cons_succ, ite_true, ite_false, if_true, if_false, Bool.false_eq_true, colV, washV, kindV, teamV, rowV, coolV, deedV, batRef_none, batRef_some, eq_self, true_and, and_true])
local macro_rules | `(tactic| nested_keys) => `(tactic| repeat first
  | (with_reducible apply w_nx)
  | (with_reducible apply w_blk)
  | (with_reducible apply w_I; (· with_unfolding_all kas_types))
  | (with_reducible apply w_ixT; (· lcg_sub); (· kxs_still))
  | (with_reducible apply w_ixL; (· lcg_sub); (· kxs_still))
  | (with_reducible apply w_fldI; (· lcg_sub); (· kxs_still))
  | (with_reducible apply w_methI; (· lcg_sub))
  | (with_reducible apply w_sz; (· with_unfolding_all exact Nat.le_of_ble_eq_true rfl))
  | (with_reducible apply w_gTup; (· lcg_sub); (· kxs_still))
  | (with_reducible apply w_tyL; (· lcg_sub))
  | (with_reducible apply w_rng1k; (· with_unfolding_all kas_types); (· with_unfolding_all kas_types))
  | (with_reducible apply w_itLk; (· lcg_sub))
  | (with_reducible apply w_itTk; (· lcg_sub))
  | (with_reducible apply w_lenL; (· lcg_sub))
  | (with_reducible apply w_lenT; (· lcg_sub))
  | (with_reducible apply w_lenS; (· with_unfolding_all kas_types))
  | (with_reducible apply w_ixaL; (· lcg_sub); (· kxs_still))
  | (with_reducible apply w_ixaT; (· lcg_sub); (· kxs_still))
  | (with_reducible apply w_ixaS; (· with_unfolding_all kas_types); (· kxs_still))
  | (with_reducible apply w_ixS; (· with_unfolding_all kas_types); (· kxs_still))
  | (with_reducible apply w_slL; (· lcg_sub))
  | (with_reducible apply w_slS; (· with_unfolding_all kas_types))
  | (with_reducible apply w_addS; (· with_unfolding_all kas_types))
  | (with_reducible apply w_listL; (· lcg_sub))
  | (with_reducible apply w_tupL; (· lcg_sub))
  | (with_reducible apply w_divmod; (· with_unfolding_all kas_types))
  | (simp only [u_var, u_c, u_op, u_un, u_test, u_tB, u_bl, u_I0, u_eqS, u_eqI, u_neS, u_neI, u_seq, u_next, u_asg, u_name, u_ret, u_retN, u_drop, u_ifS, u_ifE, u_and, u_or, u_not, u_andV, u_orV, u_notV, u_nil, u_cons, u_call, u_cb, u_tup, u_lst, u_sub, u_gNil, u_gCons, u_bm, u_m1, u_isS, u_sl, u_noPart, u_part, u_partk, u_par, u_par2, u_for, u_lc, u_rng1, u_itL, u_itT, u_yes, u_fldI, u_putI, u_newI, u_methI, u_make, u_some, u_i0, u_i1, u_K, L2.start, wipe, List.map_cons, List.map_nil, List.length_cons, List.length_nil, List.replicate_succ, List.replicate_zero, List.cons_append, List.nil_append, List.set_cons_zero, List.set_cons_succ, ite_true, ite_false, if_true, if_false, Bool.false_eq_true, colV, washV, kindV, teamV, rowV, coolV, deedV, batRef_none, batRef_some, eq_self, true_and, and_true])
  | (with_reducible apply w_eq; (· kxs_still))
  | (with_reducible apply w_ne; (· kxs_still)))
/-! ### the palette -/
def PalAt (H : Hp) (a : Addr) (h : Hall) : Prop := ∃ (co wa : Addr) (cvs wvs : List V), H a = some (.tup [.ref co, .ref wa]) ∧ H co = some (.tup cvs) ∧ Ts H colV cvs h.cols ∧ H wa = some (.tup wvs) ∧ Ts H washV wvs h.wash
theorem PalAt.up {H H' : Hp} {a : Addr} {h : Hall} (p : PalAt H a h) (t : Tp H H') : PalAt H' a h := by
  obtain ⟨co, wa, cvs, wvs, h1, h2, h3, h4, h5⟩ := p
  exact ⟨co, wa, cvs, wvs, t _ _ h1, t _ _ h2, h3.mono t, t _ _ h4, h5.mono t⟩
theorem find_at {α : Type} {p : α → Bool} : ∀ {l : List α} {i : Nat} {x : α}, l[i]? = some x → p x = true → (∀ (j : Nat) (y : α), j < i → l[j]? = some y → p y = false) → l.find? p = some x
  | [], _, _, h, _, _ => by simp at h
  | a :: r, 0, x, h, hp, _ => by
    have e : a = x := Option.some.inj h
    subst e
    exact List.find?_cons_of_pos hp
  | a :: r, i + 1, x, h, hp, hn => by
    have h0 : p a = false := hn 0 a (Nat.succ_pos _) rfl
    rw [List.find?_cons_of_neg (by rw [h0]; decide)]
    exact find_at (i := i) h hp fun j y hj e => hn (j + 1) y (Nat.succ_lt_succ hj) e
theorem find_no {α : Type} {p : α → Bool} {l : List α} (hn : ∀ (j : Nat) (y : α), l[j]? = some y → p y = false) : l.find? p = none := by
  rw [List.find?_eq_none]
  intro x hx
  obtain ⟨j, hj⟩ := List.mem_iff_getElem?.mp hx
  rw [hn j x hj]; decide
theorem get_lt {α : Type} {l : List α} {i : Nat} {x : α} (h : l[i]? = some x) : i < l.length := (List.getElem?_eq_some_iff.mp h).1
/-- the colour's row; it stands in the palette -/
def spColRow : Sp := fun vs H Q _ => ∃ (pa : Addr) (h : Hall) (c : Str), vs = [.ref pa, .str c] ∧ PalAt H pa h ∧ isCol h c ∧ ∀ (r : Col) (t : Addr), colRow h c = some r → H t = some (.tup (colV r)) → Q (.ref t) H
theorem C_colour_row {P : Program} {w : World} {K : PySem.W.Frag} {mg : Str → Option Value} {base : Heap} (T : Txt K mg) : Cal P w K mg base 1 "colour_row" ["palette", "colour"] spColRow := by
  refine cal_mk T 0 rfl T.g_colour_row sc_colour_row rfl rfl (fun _ _ _ _ _ _ us hl => match us, hl with | [_, _], _ => rfl) (fun vs H Q E h => ?_) (fun f cdv A outer s H vs Q E hr h => ?_)
  · obtain ⟨pa, h, c, rfl, ⟨co, wa, cvs, wvs, h1, h2, h3, h4, h5⟩, hc, k⟩ := h
    rfl
  obtain ⟨pa, h, c, rfl, ⟨co, wa, cvs, wvs, h1, h2, h3, h4, h5⟩, hc, k⟩ := h
  refine ⟨_, (pss_cons (ps_for PassesOwn.never rfl (pi_tupK (K := K) rfl (pe_ix (ix_tupK (K := K) rfl) (pv 0) pe_int (fun _ _ => rfl))) (pg_name (i := 2) sc_colour_row.nd rfl (Or.inl rfl)) (pss_one (ps_if (pt_cmpR op_eq (pe_ix (ix_seqK (K := K) rfl) (pv 2) pe_int (fun _ _ => rfl)) (pv 1) (nomark _)) (pss_one (ps_ret (pv 2))) pss_nil)))
 (pss_one ps_never)), ?_⟩
  nested_keys
  refine for_tup (K := K) (a := co) (xs := cvs) (fun i σ H' => H' = H ∧ (∃ v2 : Option V, σ = [some (.ref pa), some (.str c), v2]) ∧ ∀ j y, j < i → h.cols[j]? = some y → decide (y.1 = c) = false) ⟨rfl, ⟨_, rfl⟩, fun j y hj => absurd hj (Nat.not_lt_zero _)⟩ (fun i σ H' _ ⟨e, _⟩ => by subst e; exact SqT.of h2) ?_ ?_
  · rintro i x σ H' hx ⟨rfl, ⟨v2, rfl⟩, hn⟩
    obtain ⟨r, t, hr, rfl, ht⟩ := h3.get hx
    nested_keys
    refine ite_d (fun e => ?_) (fun e => ?_)
    · nested_keys
      exact k r t (find_at hr (decide_eq_true e) hn) ht
    · nested_keys
      refine ⟨⟨_, rfl⟩, fun j y hj hy => ?_⟩
      by_cases q : j = i
      · subst q
        rw [hr] at hy
        cases hy
        exact decide_eq_false e
      · exact hn j y (by omega) hy
  · rintro σ H' ⟨rfl, ⟨v2, rfl⟩, hn⟩
    exfalso
    obtain ⟨r, hr, e⟩ := List.mem_map.mp hc
    obtain ⟨j, hj⟩ := List.mem_iff_getElem?.mp hr
    have q := hn j r (by rw [h3.len]; exact get_lt hj) hj
    exact of_decide_eq_false q e
theorem optS_scal (x : Option Str) : ∀ y : Str, scal (.str y) (optS x) = true := fun y => by cases x <;> rfl
theorem optS_some {a : Option Str} (e : ¬ optS a = .non) : ∃ x, a = some x := by
  cases a with
  | none => exact absurd rfl e
  | some x => exact ⟨x, rfl⟩
/-- how many hours of washing are asked; both colours stand in the palette -/
def spWashFor : Sp := fun vs H Q _ => ∃ (pa : Addr) (h : Hall) (a : Option Str) (c : Str), vs = [.ref pa, optS a, .str c] ∧ PalAt H pa h ∧ (∀ x, a = some x → isCol h x) ∧ isCol h c ∧ Q (optV (washFor h a c)) H
theorem C_wash_for {P : Program} {w : World} {K : PySem.W.Frag} {mg : Str → Option Value} {base : Heap} (T : Txt K mg) : Cal P w K mg base 2 "wash_for" ["palette", "ahead", "behind"] spWashFor := by
  have C_colour_row := C_colour_row (P := P) (w := w) (base := base) T
  refine cal_mk T 1 rfl T.g_wash_for sc_wash_for rfl rfl (fun _ _ _ _ _ _ us hl => match us, hl with | [_, _, _], _ => rfl) (fun vs H Q E h => ?_) (fun f cdv A outer s H vs Q E hr h => ?_)
  · obtain ⟨pa, h, a, c, rfl, hp, ha, hc, k⟩ := h
    rfl
  obtain ⟨pa, h, a, c, rfl, hp, ha, hc, k⟩ := h
  refine ⟨_, (pss_cons (ps_if (pt_cmpR op_notN (pv 1) pe_non (nomark _)) (pss_one (ps_expr (pe_cal C_colour_row hr rfl (pa_cons (pv 0) (pa_cons (pv 1) pa_nil))))) pss_nil)
 (pss_cons (ps_expr (pe_cal C_colour_row hr rfl (pa_cons (pv 0) (pa_cons (pv 2) pa_nil))))
 (pss_cons (ps_for PassesOwn.never rfl (pi_tupK (K := K) rfl (pe_ix (ix_tupK (K := K) rfl) (pv 0) pe_int (fun _ _ => rfl))) (pg_tupK (K := K) (n := 3) rfl rfl (pgs_cons (pg_name (i := 3) sc_wash_for.nd rfl (Or.inl rfl)) (pgs_cons (pg_name (i := 4) sc_wash_for.nd rfl (Or.inl rfl)) (pgs_cons (pg_name (i := 5) sc_wash_for.nd rfl (Or.inl rfl)) pgs_nil)))) (pss_one (ps_if (PW.pt (pw_and (pt_cmpR op_eq (pv 3) (pv 1) (nomark _)) (pw_and1 (pt_cmpR op_eq (pv 4) (pv 2) (nomark _))))) (pss_one (ps_ret (pv 5))) pss_nil)))
 (pss_one (ps_ret pe_int))))), ?_⟩
  obtain ⟨co, wa, cvs, wvs, h1, h2, h3, h4, h5⟩ := id hp
  nested_keys
  refine ite_nd (fun e => ?_) (fun e => ?_)
  all_goals first
    | (obtain ⟨x, hx⟩ := optS_some e
       nested_keys
       refine ⟨pa, h, x, by rw [hx], hp, ha x hx, fun r t _ _ => ?_⟩
       nested_keys)
    | nested_keys
  all_goals
    refine ⟨pa, h, c, rfl, hp, hc, fun r t _ _ => ?_⟩
    nested_keys
    refine for_tup (K := K) (a := wa) (xs := wvs) (fun i σ H' => H' = H ∧ (∃ v3 v4 v5 : Option V, σ = [some (.ref pa), some (optS a), some (.str c), v3, v4, v5]) ∧ ∀ j y, j < i → h.wash[j]? = some y → (decide (some y.1 = a) && decide (y.2.1 = c)) = false) ⟨rfl, ⟨_, _, _, rfl⟩, fun j y hj => absurd hj (Nat.not_lt_zero _)⟩ (fun i σ H' _ ⟨e, _⟩ => by subst e; exact SqT.of h4) ?_ ?_
    · rintro i x σ H' hx ⟨rfl, ⟨v3, v4, v5, rfl⟩, hn⟩
      obtain ⟨r, t, hr, rfl, ht⟩ := h5.get hx
      nested_keys
      refine w_eq (optS_scal a r.1) ?_
      nested_keys
      have ea : (V.str r.1 = optS a) = (some r.1 = a) := by cases a <;> simp [optS]
      have next : (decide (some r.1 = a) && decide (r.2.1 = c)) = false → ∀ j y, j < i + 1 → h.wash[j]? = some y → (decide (some y.1 = a) && decide (y.2.1 = c)) = false := fun e j y hj hy => by
        by_cases q : j = i
        · subst q
          rw [hr] at hy
          cases hy
          exact e
        · exact hn j y (by omega) hy
      refine ite_d (fun e1 => ?_) (fun e1 => ?_)
      · rw [ea] at e1
        nested_keys
        refine ite_d (fun e2 => ?_) (fun e2 => ?_)
        · nested_keys
          have q := find_at (p := fun r : Str × Str × Option Int => decide (some r.1 = a) && decide (r.2.1 = c)) hr (by simp [e1, e2]) hn
          have q2 : washFor h a c = r.2.2 := by unfold washFor; rw [q]
          rw [q2] at k
          exact k
        · nested_keys
          exact ⟨⟨_, _, _, rfl⟩, next (by simp [e2])⟩
      · rw [ea] at e1
        nested_keys
        exact ⟨⟨_, _, _, rfl⟩, next (by simp [e1])⟩
    · rintro σ H' ⟨rfl, ⟨v3, v4, v5, rfl⟩, hn⟩
      nested_keys
      have q := find_no (p := fun r : Str × Str × Option Int => decide (some r.1 = a) && decide (r.2.1 = c)) fun j y hy => hn j y (by rw [h5.len]; exact get_lt hy) hy
      have q2 : washFor h a c = some 0 := by unfold washFor; rw [q]
      rw [q2] at k
      exact k
/-- when a charge is ready -/
def spReady : Sp := fun vs H Q _ => ∃ (pa : Addr) (h : Hall) (c : Str) (at_ : Int), vs = [.ref pa, .str c, .int at_] ∧ PalAt H pa h ∧ isCol h c ∧ Q (.int (readyAt h c at_)) H
theorem C_ready_at {P : Program} {w : World} {K : PySem.W.Frag} {mg : Str → Option Value} {base : Heap} (T : Txt K mg) : Cal P w K mg base 2 "ready_at" ["palette", "colour", "at"] spReady := by
  have C_colour_row := C_colour_row (P := P) (w := w) (base := base) T
  refine cal_mk1 T 2 rfl T.g_ready_at sc_ready_at rfl rfl (fun _ _ _ _ _ _ _ us its hl hi => match us, its, hl, hi with | [_, _, _], [_], _, _ => ⟨_, rfl, rfl⟩) (fun vs H Q E h => ?_) (fun f cdv A outer s H vs Q E hr h => ?_)
  · obtain ⟨pa, h, c, at_, rfl, hp, hc, k⟩ := h
    rfl
  obtain ⟨pa, h, c, at_, rfl, hp, hc, k⟩ := h
  refine ⟨_, (pss_cons (ps_asg (pe_cal C_colour_row hr rfl (pa_cons (pv 0) (pa_cons (pv 1) pa_nil))) (pg_tupK (K := K) (n := 4) rfl rfl (pgs_cons (pg_name (i := 3) sc_ready_at.nd rfl (Or.inl rfl)) (pgs_cons (pg_name (i := 4) sc_ready_at.nd rfl (Or.inl rfl)) (pgs_cons (pg_name (i := 5) sc_ready_at.nd rfl (Or.inl rfl)) (pgs_cons (pg_name (i := 6) sc_ready_at.nd rfl (Or.inl rfl)) pgs_nil))))))
 (pss_one (ps_ret (pe_op op_add (pe_op op_add (pv 2) (pv 4)) (pv 5))))), ?_⟩
  nested_keys
  refine ⟨pa, h, c, rfl, hp, hc, fun r t e ht => ?_⟩
  have q : readyAt h c at_ = at_ + r.2.1 + r.2.2.1 := by unfold readyAt; rw [e]
  rw [q] at k
  nested_keys
  exact k

end K87

namespace K87
open PySem PySem.Spec PyProof.Rows L2
local macro_rules | `(tactic| kxs_still) => `(tactic| with_unfolding_all rfl)
local macro_rules | `(tactic| lcg_sub) => `(tactic| first
  | assumption
  | (apply Cfg.get (i := 0) <;> first | assumption | kxs_still)
  | (apply Cfg.get (i := 1) <;> first | assumption | kxs_still)
  | (apply Cfg.get (i := 2) <;> first | assumption | kxs_still)
  | (apply Cfg.get (i := 3) <;> first | assumption | kxs_still)
  | (apply Cfg.get (i := 4) <;> first | assumption | kxs_still)
  | (apply Cfg.get (i := 5) <;> first | assumption | kxs_still)
  | (apply Cfg.get (i := 6) <;> first | assumption | kxs_still)
  | (apply Cfg.get (i := 7) <;> first | assumption | kxs_still)
  | (apply Cfg.get (i := 8) <;> first | assumption | kxs_still)
  | (apply Cfg.get (i := 9) <;> first | assumption | kxs_still)
  | (apply Cfg.get (i := 0) <;> first | (apply Bfg.toCfg; assumption) | kxs_still)
  | (apply Cfg.get (i := 1) <;> first | (apply Bfg.toCfg; assumption) | kxs_still)
  | (apply Cfg.get (i := 2) <;> first | (apply Bfg.toCfg; assumption) | kxs_still)
  | (apply Cfg.get (i := 3) <;> first | (apply Bfg.toCfg; assumption) | kxs_still)
  | (apply Cfg.get (i := 4) <;> first | (apply Bfg.toCfg; assumption) | kxs_still)
  | (apply Cfg.get (i := 5) <;> first | (apply Bfg.toCfg; assumption) | kxs_still)
  | (apply Cfg.get (i := 6) <;> first | (apply Bfg.toCfg; assumption) | kxs_still)
  | (apply Cfg.get (i := 7) <;> first | (apply Bfg.toCfg; assumption) | kxs_still)
  | (apply Cfg.get (i := 8) <;> first | (apply Bfg.toCfg; assumption) | kxs_still)
  | (apply Cfg.get (i := 9) <;> first | (apply Bfg.toCfg; assumption) | kxs_still))
local macro_rules | `(tactic| kas_types) => `(tactic| first
  | assumption | decide | omega | exact Or.inl (by omega) | exact Or.inr (by omega) | exact ⟨by omega, by omega⟩ | exact ⟨by omega, by omega, by omega⟩)
local macro_rules | `(tactic| keq_hits) => `(tactic| simp only [u_var, u_c, u_op, u_un, u_test, u_tB, u_bl, u_I0, u_eqS, u_eqI, u_neS, u_neI, u_seq, u_next, u_asg, u_name, u_ret, u_retN, u_drop, u_ifS, u_ifE, u_and, u_or, u_not, u_andV, u_orV, u_notV, u_nil, u_cons, u_call, u_cb, u_tup, u_lst, u_sub, u_gNil, u_gCons, u_bm, u_m1, u_isS, u_sl, u_noPart, u_part, u_partk, u_par, u_par2, u_for, u_lc, u_rng1, u_itL, u_itT, u_yes, u_fldI, u_putI, u_newI, u_methI, u_make, u_some, u_i0, u_i1, u_K, L2.start, wipe, List.map_cons, List.map_nil, List.length_cons, List.length_nil, List.replicate_succ, List.replicate_zero, List.cons_append, List.nil_append, List.set_cons_zero, List.set_cons_succ, ite_true, ite_false, if_true, if_false, Bool.false_eq_true, colV, washV, kindV, teamV, rowV, coolV, deedV, batRef_none, batRef_some, u_par3, u_par33, u_augI, u_dget, u_din, u_dnotin, u_dget2, u_dget1, u_dpop1, u_dput, u_setD, u_dnewK, u_dnewT, decide_true, decide_false, Bool.not_true, Bool.not_false, Option.map_none, Option.map_some, Option.isSome_none, Option.isSome_some, Option.getD_some, Option.getD_none, vn_non, vn_ref, vn_str, vn_int, wd_fill_fill, wd_fill_gather, wd_fill_wash, wd_fill_empty, wd_fill_break, wd_fill_new, wd_gather_fill, wd_gather_gather, wd_gather_wash, wd_gather_empty, wd_gather_break, wd_gather_new, wd_wash_fill, wd_wash_gather, wd_wash_wash, wd_wash_empty, wd_wash_break, wd_wash_new, wd_empty_fill, wd_empty_gather, wd_empty_wash, wd_empty_empty, wd_empty_break, wd_empty_new, wd_break_fill, wd_break_gather, wd_break_wash, wd_break_empty, wd_break_break, wd_break_new, wd_new_fill, wd_new_gather, wd_new_wash, wd_new_empty, wd_new_break, wd_new_new, wd_nil, wd_none, wd_broken, wd_busy, wd_glass, wd_name, wd_cold, wd_rank, wd_less, wd_full, wd_whole, eq_self, true_and, and_true])
local macro_rules | `(tactic| nested_keys) => `(tactic| repeat first
  | (with_reducible apply w_nx)
  | (with_reducible apply w_blk)
  | (with_reducible apply w_I; (· with_unfolding_all kas_types))
  | (with_reducible apply w_ixT; (· lcg_sub); (· kxs_still))
  | (with_reducible apply w_ixL; (· lcg_sub); (· kxs_still))
  | (with_reducible apply w_fldI; (· lcg_sub); (· kxs_still))
  | (with_reducible apply w_methI; (· lcg_sub))
  | (with_reducible apply w_augO; (· lcg_sub); (· kxs_still))
  | (with_reducible apply w_dgetS; (· lcg_sub); (· assumption))
  | (with_reducible apply w_dinS; (· lcg_sub))
  | (with_reducible apply w_dnotinS; (· lcg_sub))
  | (with_reducible apply w_isD; (· lcg_sub))
  | (with_reducible apply w_sz; (· with_unfolding_all exact Nat.le_of_ble_eq_true rfl))
  | (with_reducible apply w_gTup; (· lcg_sub); (· kxs_still))
  | (with_reducible apply w_tyL; (· lcg_sub))
  | (with_reducible apply w_rng1k; (· with_unfolding_all kas_types); (· with_unfolding_all kas_types))
  | (with_reducible apply w_itLk; (· lcg_sub))
  | (with_reducible apply w_itTk; (· lcg_sub))
  | (with_reducible apply w_lenL; (· lcg_sub))
  | (with_reducible apply w_lenT; (· lcg_sub))
  | (with_reducible apply w_lenS; (· with_unfolding_all kas_types))
  | (with_reducible apply w_ixaL; (· lcg_sub); (· kxs_still))
  | (with_reducible apply w_ixaT; (· lcg_sub); (· kxs_still))
  | (with_reducible apply w_ixaS; (· with_unfolding_all kas_types); (· kxs_still))
  | (with_reducible apply w_ixS; (· with_unfolding_all kas_types); (· kxs_still))
  | (with_reducible apply w_slL; (· lcg_sub))
  | (with_reducible apply w_slS; (· with_unfolding_all kas_types))
  | (with_reducible apply w_addS; (· with_unfolding_all kas_types))
  | (with_reducible apply w_listL; (· lcg_sub))
  | (with_reducible apply w_tupL; (· lcg_sub))
  | (with_reducible apply w_divmod; (· with_unfolding_all kas_types))
  | (simp only [u_var, u_c, u_op, u_un, u_test, u_tB, u_bl, u_I0, u_eqS, u_eqI, u_neS, u_neI, u_seq, u_next, u_asg, u_name, u_ret, u_retN, u_drop, u_ifS, u_ifE, u_and, u_or, u_not, u_andV, u_orV, u_notV, u_nil, u_cons, u_call, u_cb, u_tup, u_lst, u_sub, u_gNil, u_gCons, u_bm, u_m1, u_isS, u_sl, u_noPart, u_part, u_partk, u_par, u_par2, u_for, u_lc, u_rng1, u_itL, u_itT, u_yes, u_fldI, u_putI, u_newI, u_methI, u_make, u_some, u_i0, u_i1, u_K, L2.start, wipe, List.map_cons, List.map_nil, List.length_cons, List.length_nil, List.replicate_succ, List.replicate_zero, List.cons_append, List.nil_append, List.set_cons_zero, List.set_cons_succ, ite_true, ite_false, if_true, if_false, Bool.false_eq_true, colV, washV, kindV, teamV, rowV, coolV, deedV, batRef_none, batRef_some, u_par3, u_par33, u_augI, u_dget, u_din, u_dnotin, u_dget2, u_dget1, u_dpop1, u_dput, u_setD, u_dnewK, u_dnewT, decide_true, decide_false, Bool.not_true, Bool.not_false, Option.map_none, Option.map_some, Option.isSome_none, Option.isSome_some, Option.getD_some, Option.getD_none, vn_non, vn_ref, vn_str, vn_int, wd_fill_fill, wd_fill_gather, wd_fill_wash, wd_fill_empty, wd_fill_break, wd_fill_new, wd_gather_fill, wd_gather_gather, wd_gather_wash, wd_gather_empty, wd_gather_break, wd_gather_new, wd_wash_fill, wd_wash_gather, wd_wash_wash, wd_wash_empty, wd_wash_break, wd_wash_new, wd_empty_fill, wd_empty_gather, wd_empty_wash, wd_empty_empty, wd_empty_break, wd_empty_new, wd_break_fill, wd_break_gather, wd_break_wash, wd_break_empty, wd_break_break, wd_break_new, wd_new_fill, wd_new_gather, wd_new_wash, wd_new_empty, wd_new_break, wd_new_new, wd_nil, wd_none, wd_broken, wd_busy, wd_glass, wd_name, wd_cold, wd_rank, wd_less, wd_full, wd_whole, eq_self, true_and, and_true])
  | (with_reducible apply w_eq; (· kxs_still))
  | (with_reducible apply w_ne; (· kxs_still)))
/-! ### pots -/
@[reducible] def potO (K : PySem.W.Frag) (dx : Addr) (p : Pot) (b : Addr) : HO := Ob (He.ga K "PotNow") dx f_PotNow (potVs p b)
@[reducible] def batO (K : PySem.W.Frag) (dx : Addr) (b : Bat) : HO := Ob (He.ga K "Batch") dx f_Batch (batVs b)
/-- a pot at a, its batch at b -/
structure PotAt (K : PySem.W.Frag) (H : Hp) (a : Addr) (p : Pot) (b : Addr) : Prop where
  pot : ∃ dx, H a = some (potO K dx p b)
  bat : ∀ t, p.bat = some t → ∃ dx, H b = some (batO K dx t)
def spBatch (K : PySem.W.Frag) : Sp := fun vs H Q _ => ∃ (a dx : Addr) (t : Bat), vs = .ref a :: batVs t ∧ H a = some (Ob (He.ga K "Batch") dx [] []) ∧ ∀ H', H' a = some (batO K dx t) → Kp (fun x => x = a) H H' → Q .non H'
theorem C_Batch_init {P : Program} {w : World} {K : PySem.W.Frag} {mg : Str → Option Value} {base : Heap} (T : Txt K mg) : KCal P w K mg base 1 "Batch" (He.ga K "Batch") ["self", "colour", "left", "source", "charged", "ready"] (spBatch K) := by
  refine kcal_mk T 3 rfl T.g_Batch T.k_Batch sc_Batch_init rfl rfl (fun _ _ _ _ _ _ us hl => match us, hl with | [_, _, _, _, _, _], _ => rfl) (fun vs H Q E h => ?_) (fun f cdv A outer s H vs Q E hr h => ?_)
  · obtain ⟨a, dx, t, rfl, ha, k⟩ := h
    rfl
  obtain ⟨a, dx, t, rfl, ha, k⟩ := h
  refine ⟨_, (pss_cons (ps_newI (i := 0) T.c_Batch T.n_Batch_colour nd_Batch rfl (pv 0) (pv 1) rfl)
 (pss_cons (ps_newI (i := 1) T.c_Batch T.n_Batch_left nd_Batch rfl (pv 0) (pv 2) rfl)
 (pss_cons (ps_newI (i := 2) T.c_Batch T.n_Batch_source nd_Batch rfl (pv 0) (pv 3) rfl)
 (pss_cons (ps_newI (i := 3) T.c_Batch T.n_Batch_charged nd_Batch rfl (pv 0) (pv 4) rfl)
 (pss_one (ps_newI (i := 4) T.c_Batch T.n_Batch_ready nd_Batch rfl (pv 0) (pv 5) rfl)))))), ?_⟩
  have g : Cfg (fun x => x = a) H [(a, Ob (He.ga K "Batch") dx [] [])] H := Cfg.one ha
  nested_keys
  refine w_newI 0 g rfl rfl (by decide) (.inl rfl) fun H1 g => ?_
  nested_keys
  refine w_newI 0 g rfl rfl (by decide) (.inl rfl) fun H2 g => ?_
  nested_keys
  refine w_newI 0 g rfl rfl (by decide) (.inl rfl) fun H3 g => ?_
  nested_keys
  refine w_newI 0 g rfl rfl (by decide) (.inl rfl) fun H4 g => ?_
  nested_keys
  refine w_newI 0 g rfl rfl (by decide) (.inl rfl) fun H5 g => ?_
  nested_keys
  exact k H5 (g.get 0 rfl) g.kp
def spPot (K : PySem.W.Frag) : Sp := fun vs H Q _ => ∃ (a dx : Addr), vs = [.ref a] ∧ H a = some (Ob (He.ga K "PotNow") dx [] []) ∧ ∀ H', H' a = some (potO K dx Pot.fresh a) → Kp (fun x => x = a) H H' → Q .non H'
theorem C_PotNow_init {P : Program} {w : World} {K : PySem.W.Frag} {mg : Str → Option Value} {base : Heap} (T : Txt K mg) : KCal P w K mg base 1 "PotNow" (He.ga K "PotNow") ["self"] (spPot K) := by
  refine kcal_mk T 4 rfl T.g_PotNow T.k_PotNow sc_PotNow_init rfl rfl (fun _ _ _ _ _ _ us hl => match us, hl with | [_], _ => rfl) (fun vs H Q E h => ?_) (fun f cdv A outer s H vs Q E hr h => ?_)
  · obtain ⟨a, dx, rfl, ha, k⟩ := h
    rfl
  obtain ⟨a, dx, rfl, ha, k⟩ := h
  refine ⟨_, (pss_cons (ps_newI (i := 0) T.c_PotNow T.n_PotNow_whole_now nd_PotNow rfl (pv 0) pe_bl rfl)
 (pss_cons (ps_newI (i := 1) T.c_PotNow T.n_PotNow_batch nd_PotNow rfl (pv 0) pe_non rfl)
 (pss_cons (ps_newI (i := 2) T.c_PotNow T.n_PotNow_last_colour nd_PotNow rfl (pv 0) pe_non rfl)
 (pss_cons (ps_newI (i := 3) T.c_PotNow T.n_PotNow_washed_hours nd_PotNow rfl (pv 0) pe_int rfl)
 (pss_cons (ps_newI (i := 4) T.c_PotNow T.n_PotNow_busy_word nd_PotNow rfl (pv 0) pe_str rfl)
 (pss_one (ps_newI (i := 5) T.c_PotNow T.n_PotNow_busy_until nd_PotNow rfl (pv 0) pe_int rfl))))))), ?_⟩
  have g : Cfg (fun x => x = a) H [(a, Ob (He.ga K "PotNow") dx [] [])] H := Cfg.one ha
  nested_keys
  refine w_newI 0 g rfl rfl (by decide) (.inl rfl) fun H1 g => ?_
  nested_keys
  refine w_newI 0 g rfl rfl (by decide) (.inl rfl) fun H2 g => ?_
  nested_keys
  refine w_newI 0 g rfl rfl (by decide) (.inl rfl) fun H3 g => ?_
  nested_keys
  refine w_newI 0 g rfl rfl (by decide) (.inl rfl) fun H4 g => ?_
  nested_keys
  refine w_newI 0 g rfl rfl (by decide) (.inl rfl) fun H5 g => ?_
  nested_keys
  refine w_newI 0 g rfl rfl (by decide) (.inl rfl) fun H6 g => ?_
  nested_keys
  exact k H6 (g.get 0 rfl) g.kp
def spBusy (K : PySem.W.Frag) : Sp := fun vs H Q _ => ∃ (a : Addr) (hour : Int) (p : Pot) (b : Addr), vs = [.ref a, .int hour] ∧ PotAt K H a p b ∧ Q (.bl (p.busy hour)) H
theorem C_PotNow_is_busy {P : Program} {w : World} {K : PySem.W.Frag} {mg : Str → Option Value} {base : Heap} (T : Txt K mg) : MCal P w K mg base 1 (He.ga K "PotNow") "is_busy" ["self", "hour"] (spBusy K) := by
  refine mcal_mk T 5 rfl T.m_PotNow_is_busy sc_PotNow_is_busy rfl rfl (fun _ _ _ _ _ _ us hl => match us, hl with | [_, _], _ => rfl) (fun vs H Q E h => ?_) (fun f cdv A outer s H vs Q E hr h => ?_)
  · obtain ⟨a, hour, p, b, rfl, ⟨⟨dx, ha⟩, hb⟩, k⟩ := h
    rfl
  obtain ⟨a, hour, p, b, rfl, ⟨⟨dx, ha⟩, hb⟩, k⟩ := h
  refine ⟨_, (pss_one (ps_ret (pe_cmpR op_lt (pv 1) (pe_fldI (i := 5) T.c_PotNow T.n_PotNow_busy_until nd_PotNow rfl (pv 0) rfl) (nomark _)))), ?_⟩
  nested_keys
  exact k
def spWordOf (K : PySem.W.Frag) : Sp := fun vs H Q _ => ∃ (a : Addr) (hour : Int) (p : Pot) (b : Addr), vs = [.ref a, .int hour] ∧ PotAt K H a p b ∧ Q (.str (p.wordOf hour)) H
theorem C_PotNow_word_of {P : Program} {w : World} {K : PySem.W.Frag} {mg : Str → Option Value} {base : Heap} (T : Txt K mg) : MCal P w K mg base 2 (He.ga K "PotNow") "word_of" ["self", "hour"] (spWordOf K) := by
  have C_PotNow_is_busy := C_PotNow_is_busy (P := P) (w := w) (base := base) T
  refine mcal_mk T 6 rfl T.m_PotNow_word_of sc_PotNow_word_of rfl rfl (fun _ _ _ _ _ _ us hl => match us, hl with | [_, _], _ => rfl) (fun vs H Q E h => ?_) (fun f cdv A outer s H vs Q E hr h => ?_)
  · obtain ⟨a, hour, p, b, rfl, hp, k⟩ := h
    rfl
  obtain ⟨a, hour, p, b, rfl, hp, k⟩ := h
  refine ⟨_, (pss_cons (ps_if (pt_not (pt_val (pe_fldI (i := 0) T.c_PotNow T.n_PotNow_whole_now nd_PotNow rfl (pv 0) rfl))) (pss_one (ps_ret pe_str)) pss_nil)
 (pss_cons (ps_if (pt_val (pe_mcalI (ns := f_PotNow) (by decide +kernel) (pv 0) T.c_PotNow C_PotNow_is_busy hr (pa_cons (pv 1) pa_nil))) (pss_one (ps_ret (pe_fldI (i := 4) T.c_PotNow T.n_PotNow_busy_word nd_PotNow rfl (pv 0) rfl))) pss_nil)
 (pss_cons (ps_if (pt_cmpR op_isN (pe_fldI (i := 1) T.c_PotNow T.n_PotNow_batch nd_PotNow rfl (pv 0) rfl) pe_non (nomark _)) (pss_one (ps_ret pe_str)) pss_nil)
 (pss_cons (ps_if (pt_cmpR op_lt (pv 1) (pe_fldI (i := 3) T.c_Batch T.n_Batch_charged nd_Batch rfl (pe_fldI (i := 1) T.c_PotNow T.n_PotNow_batch nd_PotNow rfl (pv 0) rfl) rfl) (nomark _)) (pss_one (ps_ret pe_str)) pss_nil)
 (pss_one (ps_ret (pe_ifExp (pt_cmpR op_lt (pv 1) (pe_fldI (i := 4) T.c_Batch T.n_Batch_ready nd_Batch rfl (pe_fldI (i := 1) T.c_PotNow T.n_PotNow_batch nd_PotNow rfl (pv 0) rfl) rfl) (nomark _)) pe_str pe_str))))))), ?_⟩
  obtain ⟨⟨dx, ha⟩, hb⟩ := id hp
  unfold Pot.wordOf at k
  nested_keys
  by_cases hw : (!p.whole) = true
  · rw [if_pos hw] at k ⊢
    nested_keys
    exact k
  · rw [if_neg hw] at k ⊢
    nested_keys
    refine ⟨a, hour, p, b, rfl, hp, ?_⟩
    nested_keys
    by_cases hy : p.busy hour = true
    · rw [if_pos hy] at k ⊢
      nested_keys
      exact k
    · rw [if_neg hy] at k ⊢
      nested_keys
      obtain ⟨whole, bat, last, washed, word, tills⟩ := p
      cases bat with
      | none =>
        nested_keys
        exact k
      | some t =>
        obtain ⟨dxb, hb⟩ := hb t rfl
        dsimp only at k
        nested_keys
        by_cases h1 : hour < t.charged
        · rw [if_pos h1] at k
          rw [decide_eq_true h1, if_pos rfl]
          nested_keys
          exact k
        · rw [if_neg h1] at k
          rw [decide_eq_false h1, if_neg Bool.false_ne_true]
          nested_keys
          by_cases h2 : hour < t.ready
          · rw [if_pos h2] at k
            rw [decide_eq_true h2, if_pos rfl]
            exact k
          · rw [if_neg h2] at k
            rw [decide_eq_false h2, if_neg Bool.false_ne_true]
            exact k
def spStreaked (K : PySem.W.Frag) : Sp := fun vs H Q _ => ∃ (a pa : Addr) (h : Hall) (c : Str) (p : Pot) (b : Addr), vs = [.ref a, .ref pa, .str c] ∧ PalAt H pa h ∧ isCol h c ∧ (∀ x, p.last = some x → isCol h x) ∧ PotAt K H a p b ∧ Q (.bl (p.streaked h c)) H
theorem C_PotNow_is_streaked {P : Program} {w : World} {K : PySem.W.Frag} {mg : Str → Option Value} {base : Heap} (T : Txt K mg) : MCal P w K mg base 3 (He.ga K "PotNow") "is_streaked" ["self", "palette", "colour"] (spStreaked K) := by
  have C_wash_for := C_wash_for (P := P) (w := w) (base := base) T
  refine mcal_mk T 7 rfl T.m_PotNow_is_streaked sc_PotNow_is_streaked rfl rfl (fun _ _ _ _ _ _ us hl => match us, hl with | [_, _, _], _ => rfl) (fun vs H Q E h => ?_) (fun f cdv A outer s H vs Q E hr h => ?_)
  · obtain ⟨a, pa, h, c, p, b, rfl, hpal, hc, hl, hp, k⟩ := h
    rfl
  obtain ⟨a, pa, h, c, p, b, rfl, hpal, hc, hl, hp, k⟩ := h
  refine ⟨_, (pss_cons (ps_set (i := 3) sc_PotNow_is_streaked.nd rfl (Or.inl rfl) (pe_cal C_wash_for hr rfl (pa_cons (pv 1) (pa_cons (pe_fldI (i := 2) T.c_PotNow T.n_PotNow_last_colour nd_PotNow rfl (pv 0) rfl) (pa_cons (pv 2) pa_nil)))))
 (pss_one (ps_ret (pe_or (pe_cmpR op_isN (pv 3) pe_non (nomark _)) (pe_one (pe_cmpR op_lt (pe_fldI (i := 3) T.c_PotNow T.n_PotNow_washed_hours nd_PotNow rfl (pv 0) rfl) (pv 3) (nomark _))))))), ?_⟩
  obtain ⟨⟨dx, ha⟩, hb⟩ := id hp
  nested_keys
  refine ⟨pa, h, p.last, c, rfl, hpal, hl, hc, ?_⟩
  nested_keys
  unfold Pot.streaked at k
  cases e : washFor h p.last c with
  | none =>
    rw [e] at k
    nested_keys
    exact k
  | some i =>
    rw [e] at k
    nested_keys
    exact k
theorem potAt_wr {K : PySem.W.Frag} {H H' : Hp} {a : Addr} {p p' : Pot} {b dx : Addr} (hp : PotAt K H a p b) (h : H' a = some (potO K dx p' b)) (k : Kp (fun x => x = a) H H') (e : p'.bat = p.bat) : PotAt K H' a p' b := by
  refine ⟨⟨dx, h⟩, fun t ht => ?_⟩
  obtain ⟨dxb, hb⟩ := hp.bat t (by rw [← e]; exact ht)
  obtain ⟨dxa, ha⟩ := hp.pot
  exact ⟨dxb, k.get hb (ob_apart hb ha)⟩
def spHold (K : PySem.W.Frag) : Sp := fun vs H Q _ => ∃ (a : Addr) (w : Str) (hour hours : Int) (p : Pot) (b : Addr), vs = [.ref a, .str w, .int hour, .int hours] ∧ PotAt K H a p b ∧
  ∀ H', PotAt K H' a { p with word := w, tills := hour + hours } b → Kp (fun x => x = a) H H' → Q .non H'
theorem C_PotNow_hold {P : Program} {w : World} {K : PySem.W.Frag} {mg : Str → Option Value} {base : Heap} (T : Txt K mg) : MCal P w K mg base 1 (He.ga K "PotNow") "hold" ["self", "word", "hour", "hours"] (spHold K) := by
  refine mcal_mk T 9 rfl T.m_PotNow_hold sc_PotNow_hold rfl rfl (fun _ _ _ _ _ _ us hl => match us, hl with | [_, _, _, _], _ => rfl) (fun vs H Q E h => ?_) (fun f cdv A outer s H vs Q E hr h => ?_)
  · obtain ⟨a, w, hour, hours, p, b, rfl, hp, k⟩ := h
    rfl
  obtain ⟨a, w, hour, hours, p, b, rfl, hp, k⟩ := h
  refine ⟨_, (pss_cons (ps_putI (i := 4) T.c_PotNow T.n_PotNow_busy_word nd_PotNow rfl (pv 0) (pv 1) rfl)
 (pss_one (ps_putI (i := 5) T.c_PotNow T.n_PotNow_busy_until nd_PotNow rfl (pv 0) (pe_op op_add (pv 2) (pv 3)) rfl))), ?_⟩
  obtain ⟨dx, ha⟩ := hp.pot
  have g : Cfg (fun x => x = a) H [(a, potO K dx p b)] H := Cfg.one ha
  nested_keys
  refine w_put 0 g rfl (.inl rfl) fun H1 g => ?_
  nested_keys
  refine w_put 0 g rfl (.inl rfl) fun H2 g => ?_
  nested_keys
  exact k H2 (potAt_wr (dx := dx) hp (g.get 0 rfl) g.kp rfl) g.kp
def spWashP (K : PySem.W.Frag) : Sp := fun vs H Q _ => ∃ (a : Addr) (hour hours : Int) (p : Pot) (b : Addr), vs = [.ref a, .int hour, .int hours] ∧ PotAt K H a p b ∧
  ∀ H', PotAt K H' a { p with word := "washing", tills := hour + hours, washed := p.washed + hours } b → Kp (fun x => x = a) H H' → Q .non H'
theorem C_PotNow_wash {P : Program} {w : World} {K : PySem.W.Frag} {mg : Str → Option Value} {base : Heap} (T : Txt K mg) : MCal P w K mg base 2 (He.ga K "PotNow") "wash" ["self", "hour", "hours"] (spWashP K) := by
  have C_PotNow_hold := C_PotNow_hold (P := P) (w := w) (base := base) T
  refine mcal_mk T 10 rfl T.m_PotNow_wash sc_PotNow_wash rfl rfl (fun _ _ _ _ _ _ us hl => match us, hl with | [_, _, _], _ => rfl) (fun vs H Q E h => ?_) (fun f cdv A outer s H vs Q E hr h => ?_)
  · obtain ⟨a, hour, hours, p, b, rfl, hp, k⟩ := h
    rfl
  obtain ⟨a, hour, hours, p, b, rfl, hp, k⟩ := h
  refine ⟨_, (pss_cons (ps_expr (pe_mcalI (ns := f_PotNow) (by decide +kernel) (pv 0) T.c_PotNow C_PotNow_hold hr (pa_cons pe_str (pa_cons (pv 1) (pa_cons (pv 2) pa_nil)))))
 (pss_one (ps_augI (i := 3) T.c_PotNow T.n_PotNow_washed_hours nd_PotNow rfl (pv 0) (pv 2) in_add (fun _ _ _ _ q => ⟨_, _, rfl, rfl, q⟩)))), ?_⟩
  obtain ⟨dx, ha⟩ := id hp.pot
  nested_keys
  refine ⟨a, "washing", hour, hours, p, b, rfl, hp, fun H1 hp1 k1 => ?_⟩
  obtain ⟨dx1, ha1⟩ := id hp1.pot
  have g : Cfg (fun x => x = a) H1 [(a, potO K dx1 _ b)] H1 := Cfg.one ha1
  nested_keys
  refine w_aug 0 g rfl (.inl rfl) fun H2 g => ?_
  nested_keys
  exact k _ (potAt_wr (dx := dx1) hp1 (g.get 0 rfl) g.kp rfl) (k1.trans g.kp)
def spRenew (K : PySem.W.Frag) : Sp := fun vs H Q _ => ∃ (a : Addr) (hour hours : Int) (p : Pot) (b : Addr), vs = [.ref a, .int hour, .int hours] ∧ PotAt K H a p b ∧
  ∀ H', PotAt K H' a { p with whole := true, last := none, washed := 0, word := "warming", tills := hour + hours } b → Kp (fun x => x = a) H H' → Q .non H'
theorem C_PotNow_renew {P : Program} {w : World} {K : PySem.W.Frag} {mg : Str → Option Value} {base : Heap} (T : Txt K mg) : MCal P w K mg base 2 (He.ga K "PotNow") "renew" ["self", "hour", "warm"] (spRenew K) := by
  have C_PotNow_hold := C_PotNow_hold (P := P) (w := w) (base := base) T
  refine mcal_mk T 13 rfl T.m_PotNow_renew sc_PotNow_renew rfl rfl (fun _ _ _ _ _ _ us hl => match us, hl with | [_, _, _], _ => rfl) (fun vs H Q E h => ?_) (fun f cdv A outer s H vs Q E hr h => ?_)
  · obtain ⟨a, hour, hours, p, b, rfl, hp, k⟩ := h
    rfl
  obtain ⟨a, hour, hours, p, b, rfl, hp, k⟩ := h
  refine ⟨_, (pss_cons (ps_putI (i := 0) T.c_PotNow T.n_PotNow_whole_now nd_PotNow rfl (pv 0) pe_bl rfl)
 (pss_cons (ps_putI (i := 2) T.c_PotNow T.n_PotNow_last_colour nd_PotNow rfl (pv 0) pe_non rfl)
 (pss_cons (ps_putI (i := 3) T.c_PotNow T.n_PotNow_washed_hours nd_PotNow rfl (pv 0) pe_int rfl)
 (pss_one (ps_expr (pe_mcalI (ns := f_PotNow) (by decide +kernel) (pv 0) T.c_PotNow C_PotNow_hold hr (pa_cons pe_str (pa_cons (pv 1) (pa_cons (pv 2) pa_nil))))))))), ?_⟩
  obtain ⟨dx, ha⟩ := id hp.pot
  have g : Cfg (fun x => x = a) H [(a, potO K dx p b)] H := Cfg.one ha
  nested_keys
  refine w_put 0 g rfl (.inl rfl) fun H1 g => ?_
  nested_keys
  refine w_put 0 g rfl (.inl rfl) fun H1 g => ?_
  nested_keys
  refine w_put 0 g rfl (.inl rfl) fun H1 g => ?_
  have hp1 : PotAt K H1 a { p with whole := true, last := none, washed := 0 } b := potAt_wr (dx := dx) hp (g.get 0 rfl) g.kp rfl
  nested_keys
  refine ⟨a, "warming", hour, hours, _, b, rfl, hp1, fun H2 hp2 k2 => ?_⟩
  nested_keys
  exact k _ hp2 (g.kp.trans k2)
def spShatter (K : PySem.W.Frag) : Sp := fun vs H Q _ => ∃ (a : Addr) (p : Pot) (b : Addr), vs = [.ref a] ∧ PotAt K H a p b ∧
  ∀ H', PotAt K H' a { p with whole := false, bat := none, tills := 0 } b → (∀ t, p.bat = some t → ∃ dx, H' b = some (batO K dx t)) → Kp (fun x => x = a) H H' → Q (batRef p b) H'
theorem C_PotNow_shatter {P : Program} {w : World} {K : PySem.W.Frag} {mg : Str → Option Value} {base : Heap} (T : Txt K mg) : MCal P w K mg base 1 (He.ga K "PotNow") "shatter" ["self"] (spShatter K) := by
  refine mcal_mk T 12 rfl T.m_PotNow_shatter sc_PotNow_shatter rfl rfl (fun _ _ _ _ _ _ us hl => match us, hl with | [_], _ => rfl) (fun vs H Q E h => ?_) (fun f cdv A outer s H vs Q E hr h => ?_)
  · obtain ⟨a, p, b, rfl, hp, k⟩ := h
    rfl
  obtain ⟨a, p, b, rfl, hp, k⟩ := h
  refine ⟨_, (pss_cons (ps_set (i := 1) sc_PotNow_shatter.nd rfl (Or.inl rfl) (pe_fldI (i := 1) T.c_PotNow T.n_PotNow_batch nd_PotNow rfl (pv 0) rfl))
 (pss_cons (ps_putI (i := 1) T.c_PotNow T.n_PotNow_batch nd_PotNow rfl (pv 0) pe_non rfl)
 (pss_cons (ps_putI (i := 0) T.c_PotNow T.n_PotNow_whole_now nd_PotNow rfl (pv 0) pe_bl rfl)
 (pss_cons (ps_putI (i := 5) T.c_PotNow T.n_PotNow_busy_until nd_PotNow rfl (pv 0) pe_int rfl)
 (pss_one (ps_ret (pv 1))))))), ?_⟩
  obtain ⟨dx, ha⟩ := id hp.pot
  have g : Cfg (fun x => x = a) H [(a, potO K dx p b)] H := Cfg.one ha
  nested_keys
  refine w_put 0 g rfl (.inl rfl) fun H1 g => ?_
  nested_keys
  refine w_put 0 g rfl (.inl rfl) fun H1 g => ?_
  nested_keys
  refine w_put 0 g rfl (.inl rfl) fun H1 g => ?_
  nested_keys
  refine k _ ⟨⟨dx, g.get 0 rfl⟩, fun t ht => nomatch ht⟩ (fun t ht => ?_) g.kp
  obtain ⟨dxb, hb⟩ := hp.bat t ht
  exact ⟨dxb, g.kp.get hb (ob_apart hb ha)⟩
def spTaken (K : PySem.W.Frag) : Sp := fun vs H Q _ => ∃ (a : Addr) (m : Int) (p : Pot) (b : Addr) (t : Bat), vs = [.ref a, .int m] ∧ PotAt K H a p b ∧ p.bat = some t ∧
  ∀ H', PotAt K H' a (p.taken t m) b → (∃ dx, H' b = some (batO K dx { t with left := t.left - m })) → Kp (fun x => x = a ∨ x = b) H H' → Q (.ref b) H'
theorem C_PotNow_taken {P : Program} {w : World} {K : PySem.W.Frag} {mg : Str → Option Value} {base : Heap} (T : Txt K mg) : MCal P w K mg base 1 (He.ga K "PotNow") "taken" ["self", "many"] (spTaken K) := by
  refine mcal_mk T 11 rfl T.m_PotNow_taken sc_PotNow_taken rfl rfl (fun _ _ _ _ _ _ us hl => match us, hl with | [_, _], _ => rfl) (fun vs H Q E h => ?_) (fun f cdv A outer s H vs Q E hr h => ?_)
  · obtain ⟨a, m, p, b, t, rfl, hp, ht, k⟩ := h
    rfl
  obtain ⟨a, m, p, b, t, rfl, hp, ht, k⟩ := h
  refine ⟨_, (pss_cons (ps_set (i := 2) sc_PotNow_taken.nd rfl (Or.inl rfl) (pe_fldI (i := 1) T.c_PotNow T.n_PotNow_batch nd_PotNow rfl (pv 0) rfl))
 (pss_cons (ps_augI (i := 1) T.c_Batch T.n_Batch_left nd_Batch rfl (pv 2) (pv 1) in_sub (fun _ _ _ _ q => ⟨_, _, rfl, rfl, q⟩))
 (pss_cons (ps_if (pt_cmpR op_eq (pe_fldI (i := 1) T.c_Batch T.n_Batch_left nd_Batch rfl (pv 2) rfl) pe_int (nomark _)) (pss_one (ps_putI (i := 1) T.c_PotNow T.n_PotNow_batch nd_PotNow rfl (pv 0) pe_non rfl)) pss_nil)
 (pss_one (ps_ret (pv 2)))))), ?_⟩
  obtain ⟨dx, ha⟩ := id hp.pot
  obtain ⟨dxb, hb⟩ := id (hp.bat t ht)
  have g : Cfg (fun x => x = a ∨ x = b) H [(a, potO K dx p b), (b, batO K dxb t)] H := Cfg.start (by simp [ob_apart ha hb]) (fun x hx => by
    rcases List.mem_cons.mp hx with rfl | hx
    · exact ha
    · rw [List.mem_singleton.mp hx]; exact hb)
  unfold Pot.taken at k
  obtain ⟨whole, bat, last, washed, word, tills⟩ := p
  cases ht
  nested_keys
  refine w_aug 1 g rfl (.inl (.inr rfl)) fun H1 g => ?_
  nested_keys
  refine ite_d (fun e => ?_) (fun e => ?_)
  · rw [if_pos e] at k
    nested_keys
    refine w_put 0 g rfl (.inl (.inl rfl)) fun H2 g => ?_
    nested_keys
    exact k _ ⟨⟨dx, g.get 0 rfl⟩, fun t ht => nomatch ht⟩ ⟨dxb, g.get 1 rfl⟩ g.kp
  · rw [if_neg e] at k
    nested_keys
    exact k _ ⟨⟨dx, g.get 0 rfl⟩, fun t ht => by cases ht; exact ⟨dxb, g.get 1 rfl⟩⟩ ⟨dxb, g.get 1 rfl⟩ g.kp

end K87

namespace K87
open PySem PySem.Spec PyProof.Rows L2
local macro_rules | `(tactic| kxs_still) => `(tactic| with_unfolding_all rfl)
local macro_rules | `(tactic| lcg_sub) => `(tactic| first
  | assumption
  | (apply Cfg.get (i := 0) <;> first | assumption | kxs_still)
  | (apply Cfg.get (i := 1) <;> first | assumption | kxs_still)
  | (apply Cfg.get (i := 2) <;> first | assumption | kxs_still)
  | (apply Cfg.get (i := 3) <;> first | assumption | kxs_still)
  | (apply Cfg.get (i := 4) <;> first | assumption | kxs_still)
  | (apply Cfg.get (i := 5) <;> first | assumption | kxs_still)
  | (apply Cfg.get (i := 6) <;> first | assumption | kxs_still)
  | (apply Cfg.get (i := 7) <;> first | assumption | kxs_still)
  | (apply Cfg.get (i := 8) <;> first | assumption | kxs_still)
  | (apply Cfg.get (i := 9) <;> first | assumption | kxs_still)
  | (apply Cfg.get (i := 0) <;> first | (apply Bfg.toCfg; assumption) | kxs_still)
  | (apply Cfg.get (i := 1) <;> first | (apply Bfg.toCfg; assumption) | kxs_still)
  | (apply Cfg.get (i := 2) <;> first | (apply Bfg.toCfg; assumption) | kxs_still)
  | (apply Cfg.get (i := 3) <;> first | (apply Bfg.toCfg; assumption) | kxs_still)
  | (apply Cfg.get (i := 4) <;> first | (apply Bfg.toCfg; assumption) | kxs_still)
  | (apply Cfg.get (i := 5) <;> first | (apply Bfg.toCfg; assumption) | kxs_still)
  | (apply Cfg.get (i := 6) <;> first | (apply Bfg.toCfg; assumption) | kxs_still)
  | (apply Cfg.get (i := 7) <;> first | (apply Bfg.toCfg; assumption) | kxs_still)
  | (apply Cfg.get (i := 8) <;> first | (apply Bfg.toCfg; assumption) | kxs_still)
  | (apply Cfg.get (i := 9) <;> first | (apply Bfg.toCfg; assumption) | kxs_still))
local macro_rules | `(tactic| kas_types) => `(tactic| first
  | assumption | decide | omega | exact Or.inl (by omega) | exact Or.inr (by omega) | exact ⟨by omega, by omega⟩ | exact ⟨by omega, by omega, by omega⟩)
local macro_rules | `(tactic| keq_hits) => `(tactic| simp only [u_var, u_c, u_op, u_un, u_test, u_tB, u_bl, u_I0, u_eqS, u_eqI, u_neS, u_neI, u_seq, u_next, u_asg, u_name, u_ret, u_retN, u_drop, u_ifS, u_ifE, u_and, u_or, u_not, u_andV, u_orV, u_notV, u_nil, u_cons, u_call, u_cb, u_tup, u_lst, u_sub, u_gNil, u_gCons, u_bm, u_m1, u_isS, u_sl, u_noPart, u_part, u_partk, u_par, u_par2, u_for, u_lc, u_rng1, u_itL, u_itT, u_yes, u_fldI, u_putI, u_newI, u_methI, u_make, u_some, u_i0, u_i1, u_K, L2.start, wipe, List.map_cons, List.map_nil, List.length_cons, List.length_nil, List.replicate_succ, List.replicate_zero, List.cons_append, List.nil_append, List.set_cons_zero, List.set_cons_succ, ite_true, ite_false, if_true, if_false, Bool.false_eq_true, colV, washV, kindV, teamV, rowV, coolV, deedV, batRef_none, batRef_some, u_par3, u_par33, u_augI, u_dget, u_din, u_dnotin, u_dget2, u_dget1, u_dpop1, u_dput, u_setD, u_dnewK, u_dnewT, decide_true, decide_false, Bool.not_true, Bool.not_false, Option.map_none, Option.map_some, Option.isSome_none, Option.isSome_some, Option.getD_some, Option.getD_none, vn_non, vn_ref, vn_str, vn_int, wd_fill_fill, wd_fill_gather, wd_fill_wash, wd_fill_empty, wd_fill_break, wd_fill_new, wd_gather_fill, wd_gather_gather, wd_gather_wash, wd_gather_empty, wd_gather_break, wd_gather_new, wd_wash_fill, wd_wash_gather, wd_wash_wash, wd_wash_empty, wd_wash_break, wd_wash_new, wd_empty_fill, wd_empty_gather, wd_empty_wash, wd_empty_empty, wd_empty_break, wd_empty_new, wd_break_fill, wd_break_gather, wd_break_wash, wd_break_empty, wd_break_break, wd_break_new, wd_new_fill, wd_new_gather, wd_new_wash, wd_new_empty, wd_new_break, wd_new_new, wd_nil, wd_none, wd_broken, wd_busy, wd_glass, wd_name, wd_cold, wd_rank, wd_less, wd_full, wd_whole, eq_self, true_and, and_true])
local macro_rules | `(tactic| nested_keys) => `(tactic| repeat first
  | (with_reducible apply w_nx)
  | (with_reducible apply w_blk)
  | (with_reducible apply w_I; (· with_unfolding_all kas_types))
  | (with_reducible apply w_ixT; (· lcg_sub); (· kxs_still))
  | (with_reducible apply w_ixL; (· lcg_sub); (· kxs_still))
  | (with_reducible apply w_fldI; (· lcg_sub); (· kxs_still))
  | (with_reducible apply w_methI; (· lcg_sub))
  | (with_reducible apply w_augO; (· lcg_sub); (· kxs_still))
  | (with_reducible apply w_dgetS; (· lcg_sub); (· assumption))
  | (with_reducible apply w_dinS; (· lcg_sub))
  | (with_reducible apply w_dnotinS; (· lcg_sub))
  | (with_reducible apply w_isD; (· lcg_sub))
  | (with_reducible apply w_sz; (· with_unfolding_all exact Nat.le_of_ble_eq_true rfl))
  | (with_reducible apply w_gTup; (· lcg_sub); (· kxs_still))
  | (with_reducible apply w_tyL; (· lcg_sub))
  | (with_reducible apply w_rng1k; (· with_unfolding_all kas_types); (· with_unfolding_all kas_types))
  | (with_reducible apply w_itLk; (· lcg_sub))
  | (with_reducible apply w_itTk; (· lcg_sub))
  | (with_reducible apply w_lenL; (· lcg_sub))
  | (with_reducible apply w_lenT; (· lcg_sub))
  | (with_reducible apply w_lenS; (· with_unfolding_all kas_types))
  | (with_reducible apply w_ixaL; (· lcg_sub); (· kxs_still))
  | (with_reducible apply w_ixaT; (· lcg_sub); (· kxs_still))
  | (with_reducible apply w_ixaS; (· with_unfolding_all kas_types); (· kxs_still))
  | (with_reducible apply w_ixS; (· with_unfolding_all kas_types); (· kxs_still))
  | (with_reducible apply w_slL; (· lcg_sub))
  | (with_reducible apply w_slS; (· with_unfolding_all kas_types))
  | (with_reducible apply w_addS; (· with_unfolding_all kas_types))
  | (with_reducible apply w_listL; (· lcg_sub))
  | (with_reducible apply w_tupL; (· lcg_sub))
  | (with_reducible apply w_divmod; (· with_unfolding_all kas_types))
  | (simp only [u_var, u_c, u_op, u_un, u_test, u_tB, u_bl, u_I0, u_eqS, u_eqI, u_neS, u_neI, u_seq, u_next, u_asg, u_name, u_ret, u_retN, u_drop, u_ifS, u_ifE, u_and, u_or, u_not, u_andV, u_orV, u_notV, u_nil, u_cons, u_call, u_cb, u_tup, u_lst, u_sub, u_gNil, u_gCons, u_bm, u_m1, u_isS, u_sl, u_noPart, u_part, u_partk, u_par, u_par2, u_for, u_lc, u_rng1, u_itL, u_itT, u_yes, u_fldI, u_putI, u_newI, u_methI, u_make, u_some, u_i0, u_i1, u_K, L2.start, wipe, List.map_cons, List.map_nil, List.length_cons, List.length_nil, List.replicate_succ, List.replicate_zero, List.cons_append, List.nil_append, List.set_cons_zero, List.set_cons_succ, ite_true, ite_false, if_true, if_false, Bool.false_eq_true, colV, washV, kindV, teamV, rowV, coolV, deedV, batRef_none, batRef_some, u_par3, u_par33, u_augI, u_dget, u_din, u_dnotin, u_dget2, u_dget1, u_dpop1, u_dput, u_setD, u_dnewK, u_dnewT, decide_true, decide_false, Bool.not_true, Bool.not_false, Option.map_none, Option.map_some, Option.isSome_none, Option.isSome_some, Option.getD_some, Option.getD_none, vn_non, vn_ref, vn_str, vn_int, wd_fill_fill, wd_fill_gather, wd_fill_wash, wd_fill_empty, wd_fill_break, wd_fill_new, wd_gather_fill, wd_gather_gather, wd_gather_wash, wd_gather_empty, wd_gather_break, wd_gather_new, wd_wash_fill, wd_wash_gather, wd_wash_wash, wd_wash_empty, wd_wash_break, wd_wash_new, wd_empty_fill, wd_empty_gather, wd_empty_wash, wd_empty_empty, wd_empty_break, wd_empty_new, wd_break_fill, wd_break_gather, wd_break_wash, wd_break_empty, wd_break_break, wd_break_new, wd_new_fill, wd_new_gather, wd_new_wash, wd_new_empty, wd_new_break, wd_new_new, wd_nil, wd_none, wd_broken, wd_busy, wd_glass, wd_name, wd_cold, wd_rank, wd_less, wd_full, wd_whole, eq_self, true_and, and_true])
  | (with_reducible apply w_eq; (· kxs_still))
  | (with_reducible apply w_ne; (· kxs_still)))
/-- the pot with a new charge -/
@[reducible] def filled (h : Hall) (p : Pot) (c : Str) (hour number : Int) (r : Col) : Pot := { p with bat := some ⟨(if p.streaked h c = true then "" else c), r.2.2.2, number, hour + r.2.1, hour + r.2.1 + r.2.2.1⟩, last := some c, washed := 0 }
def spFill (K : PySem.W.Frag) : Sp := fun vs H Q _ => ∃ (a pa : Addr) (h : Hall) (c : Str) (hour number : Int) (p : Pot) (b : Addr), vs = [.ref a, .ref pa, .str c, .int hour, .int number] ∧ PalAt H pa h ∧ isCol h c ∧ (∀ x, p.last = some x → isCol h x) ∧ PotAt K H a p b ∧
  ∀ H' b' r, colRow h c = some r → H b' = none → PotAt K H' a (filled h p c hour number r) b' → Kp (fun x => x = a) H H' → Q .non H'
theorem C_PotNow_fill {P : Program} {w : World} {K : PySem.W.Frag} {mg : Str → Option Value} {base : Heap} (T : Txt K mg) : MCal P w K mg base 4 (He.ga K "PotNow") "fill" ["self", "palette", "colour", "hour", "number"] (spFill K) := by
  have C_Batch_init := C_Batch_init (P := P) (w := w) (base := base) T
  have C_PotNow_is_streaked := C_PotNow_is_streaked (P := P) (w := w) (base := base) T
  have C_colour_row := C_colour_row (P := P) (w := w) (base := base) T
  have C_ready_at := C_ready_at (P := P) (w := w) (base := base) T
  refine mcal_mk T 8 rfl T.m_PotNow_fill sc_PotNow_fill rfl rfl (fun _ _ _ _ _ _ us hl => match us, hl with | [_, _, _, _, _], _ => rfl) (fun vs H Q E h => ?_) (fun f cdv A outer s H vs Q E hr h => ?_)
  · obtain ⟨a, pa, h, c, hour, number, p, b, rfl, hpal, hc, hl, hp, k⟩ := h
    rfl
  obtain ⟨a, pa, h, c, hour, number, p, b, rfl, hpal, hc, hl, hp, k⟩ := h
  refine ⟨_, (pss_cons (ps_asg (pe_cal C_colour_row (hr.mono (by decide)) rfl (pa_cons (pv 1) (pa_cons (pv 2) pa_nil))) (pg_tupK (K := K) (n := 4) rfl rfl (pgs_cons (pg_name (i := 5) sc_PotNow_fill.nd rfl (Or.inl rfl)) (pgs_cons (pg_name (i := 6) sc_PotNow_fill.nd rfl (Or.inl rfl)) (pgs_cons (pg_name (i := 7) sc_PotNow_fill.nd rfl (Or.inl rfl)) (pgs_cons (pg_name (i := 8) sc_PotNow_fill.nd rfl (Or.inl rfl)) pgs_nil))))))
 (pss_cons (ps_set (i := 9) sc_PotNow_fill.nd rfl (Or.inl rfl) (pe_ifExp (pt_val (pe_mcalI (ns := f_PotNow) (by decide +kernel) (pv 0) T.c_PotNow C_PotNow_is_streaked hr (pa_cons (pv 1) (pa_cons (pv 2) pa_nil)))) pe_str (pv 2)))
 (pss_cons (ps_putI (i := 1) T.c_PotNow T.n_PotNow_batch nd_PotNow rfl (pv 0) (pe_kcal C_Batch_init (hr.mono (by decide)) rfl (pa_cons (pv 9) (pa_cons (pv 8) (pa_cons (pv 4) (pa_cons (pe_op op_add (pv 3) (pv 6)) (pa_cons (pe_cal C_ready_at (hr.mono (by decide)) rfl (pa_cons (pv 1) (pa_cons (pv 2) (pa_cons (pv 3) pa_nil)))) pa_nil)))))) rfl)
 (pss_cons (ps_putI (i := 2) T.c_PotNow T.n_PotNow_last_colour nd_PotNow rfl (pv 0) (pv 2) rfl)
 (pss_one (ps_putI (i := 3) T.c_PotNow T.n_PotNow_washed_hours nd_PotNow rfl (pv 0) pe_int rfl)))))), ?_⟩
  obtain ⟨dx, ha⟩ := id hp.pot
  have g : Cfg (fun x => x = a) H [(a, potO K dx p b)] H := Cfg.one ha
  nested_keys
  refine ⟨pa, h, c, rfl, hpal, hc, fun r t er ht => ?_⟩
  nested_keys
  refine ⟨a, pa, h, c, p, b, rfl, hpal, hc, hl, hp, ?_⟩
  have er2 : readyAt h c hour = hour + r.2.1 + r.2.2.1 := by unfold readyAt; rw [er]
  have key : ∀ told : Str, told = (if p.streaked h c = true then ("" : Str) else c) → ∀ v1 v2 : Option V, Nx (tSeq (sPutI (He.ga K "PotNow") f_PotNow 1 (tVar 0) (tMake (He.ga K "Batch") (spBatch K) [] E0 (tCons (tVar 9) (tCons (tVar 8) (tCons (tVar 4) (tCons (tOp (rI0 fun i j => V.int (i + j)) (tVar 3) (tVar 6)) (tCons (tCall spReady [] E0 (tCons (tVar 1) (tCons (tVar 2) (tCons (tVar 3) tNil)))) tNil)))))))
      (tSeq (sPutI (He.ga K "PotNow") f_PotNow 2 (tVar 0) (tVar 2)) (sPutI (He.ga K "PotNow") f_PotNow 3 (tVar 0) (tC (V.int 0)))) { nx := fun x H' => Q V.non H', rt := Q })
      [some (.ref a), some (.ref pa), some (.str c), some (.int hour), some (.int number), v1, some (.int r.2.1), v2, some (.int r.2.2.2), some (.str told)] H := by
    rintro told rfl v1 v2
    nested_keys
    refine ⟨pa, h, c, hour, rfl, hpal, hc, ?_⟩
    rw [er2]
    nested_keys
    refine w_make g fun x dxb H1 hx g => ?_
    refine ⟨x, dxb, ⟨(if p.streaked h c = true then ("" : Str) else c), r.2.2.2, number, hour + r.2.1, hour + r.2.1 + r.2.2.1⟩, rfl, g.get 0 rfl, fun H2 hb k2 => ⟨rfl, ?_⟩⟩
    have g := g.call1 (o := batO K dxb ⟨(if p.streaked h c = true then ("" : Str) else c), r.2.2.2, number, hour + r.2.1, hour + r.2.1 + r.2.2.1⟩) 0 rfl k2 hb (.inr hx)
    nested_keys
    refine w_put 1 g rfl (.inl rfl) fun H3 g => ?_
    nested_keys
    refine w_put 1 g rfl (.inl rfl) fun H4 g => ?_
    nested_keys
    refine w_put 1 g rfl (.inl rfl) fun H5 g => ?_
    nested_keys
    refine k H5 x r er hx ⟨⟨dx, ?_⟩, fun t ht => ?_⟩ g.kp
    · exact g.get 1 rfl
    · cases ht
      exact ⟨dxb, g.get 0 rfl⟩
  nested_keys
  by_cases hs : p.streaked h c = true
  · rw [if_pos hs]
    exact key _ (by rw [if_pos hs]) _ _
  · rw [if_neg hs]
    exact key _ (by rw [if_neg hs]) _ _
theorem noth_at {K : PySem.W.Frag} {mg : Str → Option Value} (T : Txt K mg) (H : Hp) : SqT K H (He.ga K "NOTHING") [.str "", .non] := by
  rcases T.noth with h | h
  · rcases h with h | ⟨o, h⟩ <;> cases h
  · exact .inr h
def batWs : Option Bat → List V
  | none => [.str "", .non]
  | some t => [.str t.colour, .int t.source]
/-- a batch, or none -/
def BatV (K : PySem.W.Frag) (H : Hp) (v : V) (t : Option Bat) : Prop := match t with
  | none => v = .non
  | some t => ∃ b dx, v = .ref b ∧ H b = some (batO K dx t)
def spWords (K : PySem.W.Frag) : Sp := fun vs H Q _ => ∃ (v : V) (t : Option Bat), vs = [v] ∧ BatV K H v t ∧ ∀ H' q, SqT K H' q (batWs t) → Ex H H' → Q (.ref q) H'
theorem C_batch_words {P : Program} {w : World} {K : PySem.W.Frag} {mg : Str → Option Value} {base : Heap} (T : Txt K mg) : Cal P w K mg base 1 "batch_words" ["batch"] (spWords K) := by
  refine cal_mk T 14 rfl T.g_batch_words sc_batch_words rfl rfl (fun _ _ _ _ _ _ us hl => match us, hl with | [_], _ => rfl) (fun vs H Q E h => ?_) (fun f cdv A outer s H vs Q E hr h => ?_)
  · obtain ⟨v, t, rfl, hv, k⟩ := h
    rfl
  obtain ⟨v, t, rfl, hv, k⟩ := h
  refine ⟨_, (pss_one (ps_ret (pe_ifExp (pt_cmpR op_isN (pv 0) pe_non (nomark _)) (pe_glob (v := .ref (He.ga K "NOTHING")) rfl T.g_NOTHING rfl) (pe_tup (pa_cons (pe_fldI (i := 0) T.c_Batch T.n_Batch_colour nd_Batch rfl (pv 0) rfl) (pa_cons (pe_fldI (i := 2) T.c_Batch T.n_Batch_source nd_Batch rfl (pv 0) rfl) pa_nil)))))), ?_⟩
  cases t with
  | none =>
    cases (show v = .non from hv)
    nested_keys
    exact k _ _ (noth_at T _) Kp.refl
  | some t =>
    obtain ⟨b, dx, rfl, hb⟩ := hv
    have g : Cfg no H [(b, batO K dx t)] H := Cfg.one hb
    nested_keys
    refine w_new g fun q H1 hq g => ?_
    exact k _ _ (SqT.of (g.get 0 rfl)) g.kp
def spBare (K : PySem.W.Frag) : Sp := fun vs H Q _ => ∃ (a : Addr) (hour : Int) (p : Pot) (b : Addr), vs = [.ref a, .int hour] ∧ PotAt K H a p b ∧ Q (.str (p.bareWord hour)) H
theorem C_bare_word {P : Program} {w : World} {K : PySem.W.Frag} {mg : Str → Option Value} {base : Heap} (T : Txt K mg) : Cal P w K mg base 2 "bare_word" ["pot", "hour"] (spBare K) := by
  have C_PotNow_is_busy := C_PotNow_is_busy (P := P) (w := w) (base := base) T
  refine cal_mk T 15 rfl T.g_bare_word sc_bare_word rfl rfl (fun _ _ _ _ _ _ us hl => match us, hl with | [_, _], _ => rfl) (fun vs H Q E h => ?_) (fun f cdv A outer s H vs Q E hr h => ?_)
  · obtain ⟨a, hour, p, b, rfl, hp, k⟩ := h
    rfl
  obtain ⟨a, hour, p, b, rfl, hp, k⟩ := h
  refine ⟨_, (pss_cons (ps_if (pt_not (pt_val (pe_fldI (i := 0) T.c_PotNow T.n_PotNow_whole_now nd_PotNow rfl (pv 0) rfl))) (pss_one (ps_ret pe_str)) pss_nil)
 (pss_cons (ps_if (pt_val (pe_mcalI (ns := f_PotNow) (by decide +kernel) (pv 0) T.c_PotNow C_PotNow_is_busy hr (pa_cons (pv 1) pa_nil))) (pss_one (ps_ret pe_str)) pss_nil)
 (pss_one (ps_ret (pe_ifExp (pt_cmpR op_isN (pe_fldI (i := 1) T.c_PotNow T.n_PotNow_batch nd_PotNow rfl (pv 0) rfl) pe_non (nomark _)) pe_str pe_str))))), ?_⟩
  obtain ⟨⟨dx, ha⟩, hb⟩ := id hp
  unfold Pot.bareWord at k
  nested_keys
  by_cases hw : (!p.whole) = true
  · rw [if_pos hw] at k ⊢
    nested_keys
    exact k
  · rw [if_neg hw] at k ⊢
    nested_keys
    refine ⟨a, hour, p, b, rfl, hp, ?_⟩
    nested_keys
    by_cases hy : p.busy hour = true
    · rw [if_pos hy] at k ⊢
      nested_keys
      exact k
    · rw [if_neg hy] at k ⊢
      nested_keys
      obtain ⟨whole, bat, last, washed, word, tills⟩ := p
      cases bat with
      | none =>
        nested_keys
        exact k
      | some t =>
        nested_keys
        exact k
def spBatW (K : PySem.W.Frag) : Sp := fun vs H Q _ => ∃ (a : Addr) (p : Pot) (b : Addr), vs = [.ref a] ∧ PotAt K H a p b ∧ Q (.str p.batchWord) H
theorem C_batch_word {P : Program} {w : World} {K : PySem.W.Frag} {mg : Str → Option Value} {base : Heap} (T : Txt K mg) : Cal P w K mg base 1 "batch_word" ["pot"] (spBatW K) := by
  refine cal_mk T 16 rfl T.g_batch_word sc_batch_word rfl rfl (fun _ _ _ _ _ _ us hl => match us, hl with | [_], _ => rfl) (fun vs H Q E h => ?_) (fun f cdv A outer s H vs Q E hr h => ?_)
  · obtain ⟨a, p, b, rfl, hp, k⟩ := h
    rfl
  obtain ⟨a, p, b, rfl, hp, k⟩ := h
  refine ⟨_, (pss_cons (ps_if (pt_not (pt_val (pe_fldI (i := 0) T.c_PotNow T.n_PotNow_whole_now nd_PotNow rfl (pv 0) rfl))) (pss_one (ps_ret pe_str)) pss_nil)
 (pss_one (ps_ret (pe_ifExp (pt_cmpR op_isN (pe_fldI (i := 1) T.c_PotNow T.n_PotNow_batch nd_PotNow rfl (pv 0) rfl) pe_non (nomark _)) pe_str pe_str)))), ?_⟩
  obtain ⟨⟨dx, ha⟩, hb⟩ := id hp
  unfold Pot.batchWord at k
  nested_keys
  by_cases hw : (!p.whole) = true
  · rw [if_pos hw] at k ⊢
    nested_keys
    exact k
  · rw [if_neg hw] at k ⊢
    nested_keys
    obtain ⟨whole, bat, last, washed, word, tills⟩ := p
    cases bat with
    | none =>
      nested_keys
      exact k
    | some t =>
      nested_keys
      exact k

end K87

namespace K87
open PySem PySem.Spec PyProof.Rows L2
local macro_rules | `(tactic| kxs_still) => `(tactic| with_unfolding_all rfl)
local macro_rules | `(tactic| lcg_sub) => `(tactic| first
  | assumption
  | (apply Cfg.get (i := 0) <;> first | assumption | kxs_still)
  | (apply Cfg.get (i := 1) <;> first | assumption | kxs_still)
  | (apply Cfg.get (i := 2) <;> first | assumption | kxs_still)
  | (apply Cfg.get (i := 3) <;> first | assumption | kxs_still)
  | (apply Cfg.get (i := 4) <;> first | assumption | kxs_still)
  | (apply Cfg.get (i := 5) <;> first | assumption | kxs_still)
  | (apply Cfg.get (i := 6) <;> first | assumption | kxs_still)
  | (apply Cfg.get (i := 7) <;> first | assumption | kxs_still)
  | (apply Cfg.get (i := 8) <;> first | assumption | kxs_still)
  | (apply Cfg.get (i := 9) <;> first | assumption | kxs_still)
  | (apply Cfg.get (i := 0) <;> first | (apply Bfg.toCfg; assumption) | kxs_still)
  | (apply Cfg.get (i := 1) <;> first | (apply Bfg.toCfg; assumption) | kxs_still)
  | (apply Cfg.get (i := 2) <;> first | (apply Bfg.toCfg; assumption) | kxs_still)
  | (apply Cfg.get (i := 3) <;> first | (apply Bfg.toCfg; assumption) | kxs_still)
  | (apply Cfg.get (i := 4) <;> first | (apply Bfg.toCfg; assumption) | kxs_still)
  | (apply Cfg.get (i := 5) <;> first | (apply Bfg.toCfg; assumption) | kxs_still)
  | (apply Cfg.get (i := 6) <;> first | (apply Bfg.toCfg; assumption) | kxs_still)
  | (apply Cfg.get (i := 7) <;> first | (apply Bfg.toCfg; assumption) | kxs_still)
  | (apply Cfg.get (i := 8) <;> first | (apply Bfg.toCfg; assumption) | kxs_still)
  | (apply Cfg.get (i := 9) <;> first | (apply Bfg.toCfg; assumption) | kxs_still))
local macro_rules | `(tactic| kas_types) => `(tactic| first
  | assumption | decide | omega | exact Or.inl (by omega) | exact Or.inr (by omega) | exact ⟨by omega, by omega⟩ | exact ⟨by omega, by omega, by omega⟩)
local macro_rules | `(tactic| keq_hits) => `(tactic| simp only [u_var, u_c, u_op, u_un, u_test, u_tB, u_bl, u_I0, u_eqS, u_eqI, u_neS, u_neI, u_seq, u_next, u_asg, u_name, u_ret, u_retN, u_drop, u_ifS, u_ifE, u_and, u_or, u_not, u_andV, u_orV, u_notV, u_nil, u_cons, u_call, u_cb, u_tup, u_lst, u_sub, u_gNil, u_gCons, u_bm, u_m1, u_isS, u_sl, u_noPart, u_part, u_partk, u_par, u_par2, u_for, u_lc, u_rng1, u_itL, u_itT, u_yes, u_fldI, u_putI, u_newI, u_methI, u_make, u_some, u_i0, u_i1, u_K, L2.start, wipe, List.map_cons, List.map_nil, List.length_cons, List.length_nil, List.replicate_succ, List.replicate_zero, List.cons_append, List.nil_append, List.set_cons_zero, List.set_cons_succ, ite_true, ite_false, if_true, if_false, Bool.false_eq_true, colV, washV, kindV, teamV, rowV, coolV, deedV, batRef_none, batRef_some, u_par3, u_par33, u_augI, u_dget, u_din, u_dnotin, u_dget2, u_dget1, u_dpop1, u_dput, u_setD, u_dnewK, u_dnewT, decide_true, decide_false, Bool.not_true, Bool.not_false, Option.map_none, Option.map_some, Option.isSome_none, Option.isSome_some, Option.getD_some, Option.getD_none, vn_non, vn_ref, vn_str, vn_int, wd_fill_fill, wd_fill_gather, wd_fill_wash, wd_fill_empty, wd_fill_break, wd_fill_new, wd_gather_fill, wd_gather_gather, wd_gather_wash, wd_gather_empty, wd_gather_break, wd_gather_new, wd_wash_fill, wd_wash_gather, wd_wash_wash, wd_wash_empty, wd_wash_break, wd_wash_new, wd_empty_fill, wd_empty_gather, wd_empty_wash, wd_empty_empty, wd_empty_break, wd_empty_new, wd_break_fill, wd_break_gather, wd_break_wash, wd_break_empty, wd_break_break, wd_break_new, wd_new_fill, wd_new_gather, wd_new_wash, wd_new_empty, wd_new_break, wd_new_new, wd_nil, wd_none, wd_broken, wd_busy, wd_glass, wd_name, wd_cold, wd_rank, wd_less, wd_full, wd_whole, inw_fill, inw_gather, inw_wash, inw_empty, inw_break, inw_new, eq_self, true_and, and_true])
local macro_rules | `(tactic| nested_keys) => `(tactic| repeat first
  | (with_reducible apply w_nx)
  | (with_reducible apply w_blk)
  | (with_reducible apply w_I; (· with_unfolding_all kas_types))
  | (with_reducible apply w_ixT; (· lcg_sub); (· kxs_still))
  | (with_reducible apply w_ixL; (· lcg_sub); (· kxs_still))
  | (with_reducible apply w_fldI; (· lcg_sub); (· kxs_still))
  | (with_reducible apply w_methI; (· lcg_sub))
  | (with_reducible apply w_augO; (· lcg_sub); (· kxs_still))
  | (with_reducible apply w_dgetS; (· lcg_sub); (· assumption))
  | (with_reducible apply w_dinS; (· lcg_sub))
  | (with_reducible apply w_dnotinS; (· lcg_sub))
  | (with_reducible apply w_isD; (· lcg_sub))
  | (with_reducible apply w_inT; (· lcg_sub); (· with_unfolding_all rfl))
  | (with_reducible apply w_sz; (· with_unfolding_all exact Nat.le_of_ble_eq_true rfl))
  | (with_reducible apply w_gTup; (· lcg_sub); (· kxs_still))
  | (with_reducible apply w_tyL; (· lcg_sub))
  | (with_reducible apply w_rng1k; (· with_unfolding_all kas_types); (· with_unfolding_all kas_types))
  | (with_reducible apply w_itLk; (· lcg_sub))
  | (with_reducible apply w_itTk; (· lcg_sub))
  | (with_reducible apply w_lenL; (· lcg_sub))
  | (with_reducible apply w_lenT; (· lcg_sub))
  | (with_reducible apply w_lenS; (· with_unfolding_all kas_types))
  | (with_reducible apply w_ixaL; (· lcg_sub); (· kxs_still))
  | (with_reducible apply w_ixaT; (· lcg_sub); (· kxs_still))
  | (with_reducible apply w_ixaS; (· with_unfolding_all kas_types); (· kxs_still))
  | (with_reducible apply w_ixS; (· with_unfolding_all kas_types); (· kxs_still))
  | (with_reducible apply w_slL; (· lcg_sub))
  | (with_reducible apply w_slS; (· with_unfolding_all kas_types))
  | (with_reducible apply w_addS; (· with_unfolding_all kas_types))
  | (with_reducible apply w_listL; (· lcg_sub))
  | (with_reducible apply w_tupL; (· lcg_sub))
  | (with_reducible apply w_divmod; (· with_unfolding_all kas_types))
  | (simp only [u_var, u_c, u_op, u_un, u_test, u_tB, u_bl, u_I0, u_eqS, u_eqI, u_neS, u_neI, u_seq, u_next, u_asg, u_name, u_ret, u_retN, u_drop, u_ifS, u_ifE, u_and, u_or, u_not, u_andV, u_orV, u_notV, u_nil, u_cons, u_call, u_cb, u_tup, u_lst, u_sub, u_gNil, u_gCons, u_bm, u_m1, u_isS, u_sl, u_noPart, u_part, u_partk, u_par, u_par2, u_for, u_lc, u_rng1, u_itL, u_itT, u_yes, u_fldI, u_putI, u_newI, u_methI, u_make, u_some, u_i0, u_i1, u_K, L2.start, wipe, List.map_cons, List.map_nil, List.length_cons, List.length_nil, List.replicate_succ, List.replicate_zero, List.cons_append, List.nil_append, List.set_cons_zero, List.set_cons_succ, ite_true, ite_false, if_true, if_false, Bool.false_eq_true, colV, washV, kindV, teamV, rowV, coolV, deedV, batRef_none, batRef_some, u_par3, u_par33, u_augI, u_dget, u_din, u_dnotin, u_dget2, u_dget1, u_dpop1, u_dput, u_setD, u_dnewK, u_dnewT, decide_true, decide_false, Bool.not_true, Bool.not_false, Option.map_none, Option.map_some, Option.isSome_none, Option.isSome_some, Option.getD_some, Option.getD_none, vn_non, vn_ref, vn_str, vn_int, wd_fill_fill, wd_fill_gather, wd_fill_wash, wd_fill_empty, wd_fill_break, wd_fill_new, wd_gather_fill, wd_gather_gather, wd_gather_wash, wd_gather_empty, wd_gather_break, wd_gather_new, wd_wash_fill, wd_wash_gather, wd_wash_wash, wd_wash_empty, wd_wash_break, wd_wash_new, wd_empty_fill, wd_empty_gather, wd_empty_wash, wd_empty_empty, wd_empty_break, wd_empty_new, wd_break_fill, wd_break_gather, wd_break_wash, wd_break_empty, wd_break_break, wd_break_new, wd_new_fill, wd_new_gather, wd_new_wash, wd_new_empty, wd_new_break, wd_new_new, wd_nil, wd_none, wd_broken, wd_busy, wd_glass, wd_name, wd_cold, wd_rank, wd_less, wd_full, wd_whole, inw_fill, inw_gather, inw_wash, inw_empty, inw_break, inw_new, eq_self, true_and, and_true])
  | (with_reducible apply w_eq; (· kxs_still))
  | (with_reducible apply w_ne; (· kxs_still)))
/-! ### an account in the heap -/
structure AccX where
  pa : Addr
  dx : Addr
  pal : Addr
  kk : Addr
  kt : Addr
  kp : Addr
  cl : Addr
  md : Addr
  dl : Addr
  vl : Addr
  kks : List (Key × V)
  kts : List (Key × V)
  kps : List (Key × V)
  A : Str → Addr
@[reducible] def accVs (x : AccX) (last slots : Int) : List V := [.int last, .ref x.pal, .ref x.kk, .ref x.kt, .ref x.kp, .int slots, .ref x.cl, .ref x.md, .ref x.dl, .ref x.vl]
/-- what the tables tell -/
structure KnowX (H : Hp) (h : Hall) (x : AccX) : Prop where
  kinds : ∀ s, match kindR h s with
    | none => valV x.kks (.inr s) = none
    | some rc => ∃ t, valV x.kks (.inr s) = some (.ref t) ∧ H t = some (.tup [.int rc.1, .int rc.2])
  teams : ∀ s, valV x.kts (.inr s) = (teamR h s).map V.int
  pots : ∀ s, valV x.kps (.inr s) = if s ∈ h.pots then some (.ref (x.A s)) else none
  pal : PalAt H x.pal h
  inj : ∀ s t, s ∈ h.pots → t ∈ h.pots → x.A s = x.A t → s = t
  slots : 0 ≤ h.slots ∧ h.slots ≤ 60
  fit : h.cols.length ≤ 100
def madeE (e : (Str × Str) × Int) : List Key × V := ([.inr e.1.1, .inr e.1.2], .int e.2)
@[reducible] def accO (K : PySem.W.Frag) (x : AccX) (last slots : Int) : HO := Ob (He.ga K "Account") x.dx f_Account (accVs x last slots)
@[reducible] def accD (K : PySem.W.Frag) (h : Hall) (last : Int) (x : AccX) (cls dls vls : List V) (mds : List (List Key × V)) : List (Addr × HO) :=
  [(x.pa, accO K x last h.slots), (x.kk, .dK x.kks), (x.kt, .dK x.kts), (x.kp, .dK x.kps), (x.cl, .lst cls), (x.md, .dT mds), (x.dl, .lst dls), (x.vl, .lst vls)]
structure AccIn (K : PySem.W.Frag) (h : Hall) (last : Int) (x : AccX) (S : Addr → Prop) (H0 : Hp) (n : Nat) (H : Hp) (a : Acc) (cls dls vls : List V) (B : Str → Addr) : Prop where
  cfg : Cfg S H0 (accD K h last x cls dls vls (a.made.map madeE)) H
  know : KnowX H h x
  pots : ∀ s, s ∈ h.pots → PotAt K H (x.A s) (a.pots s) (B s)
  apart : ∀ s t, s ∈ h.pots → t ∈ h.pots → (a.pots s).bat ≠ none → (a.pots t).bat ≠ none → B s = B t → s = t
  cool : Ts H coolV cls a.cool
  rows : Ts H rowV dls a.rows
  mine : (S x.cl ∨ H0 x.cl = none) ∧ (S x.md ∨ H0 x.md = none) ∧ (S x.dl ∨ H0 x.dl = none) ∧ (S x.vl ∨ H0 x.vl = none)
  minA : ∀ s, s ∈ h.pots → S (x.A s) ∨ H0 (x.A s) = none
  minB : ∀ s, s ∈ h.pots → (a.pots s).bat ≠ none → S (B s) ∨ H0 (B s) = none
  szc : cls.length ≤ 60 * n
  szd : dls.length ≤ n
  szv : vls.length ≤ n
  szm : a.made.length ≤ n
def AccAt (K : PySem.W.Frag) (h : Hall) (last : Int) (x : AccX) (S : Addr → Prop) (H0 : Hp) (n : Nat) (H : Hp) (a : Acc) : Prop := ∃ cls dls vls B, AccIn K h last x S H0 n H a cls dls vls B
theorem KnowX.up {H H' : Hp} {h : Hall} {x : AccX} (k : KnowX H h x) (t : Tp H H') : KnowX H' h x := by
  refine ⟨fun s => ?_, k.teams, k.pots, k.pal.up t, k.inj, k.slots, k.fit⟩
  have q := k.kinds s
  split
  · rename_i e; rw [e] at q; exact q
  · rename_i rc e
    rw [e] at q
    obtain ⟨a, h1, h2⟩ := q
    exact ⟨a, h1, t _ _ h2⟩
theorem PotAt.ex {K : PySem.W.Frag} {H H' : Hp} {a b : Addr} {p : Pot} (q : PotAt K H a p b) (k : Ex H H') : PotAt K H' a p b := by
  obtain ⟨dx, h1⟩ := q.pot
  exact ⟨⟨dx, k.exget h1⟩, fun t ht => by
    obtain ⟨dxb, h2⟩ := q.bat t ht
    exact ⟨dxb, k.exget h2⟩⟩
section
variable {K : PySem.W.Frag} {h : Hall} {last : Int} {x : AccX} {S : Addr → Prop} {H0 H H' : Hp} {n : Nat} {a : Acc} {cls dls vls : List V} {B : Str → Addr}
theorem AccIn.ex (i : AccIn K h last x S H0 n H a cls dls vls B) (k : Ex H H') : AccIn K h last x S H0 n H' a cls dls vls B :=
  ⟨i.cfg.ex k, i.know.up k.t, fun s m => (i.pots s m).ex k, i.apart, i.cool.mono k.t, i.rows.mono k.t, i.mine, i.minA, i.minB, i.szc, i.szd, i.szv, i.szm⟩
theorem AccAt.ex (i : AccAt K h last x S H0 n H a) (k : Ex H H') : AccAt K h last x S H0 n H' a := by
  obtain ⟨cls, dls, vls, B, i⟩ := i
  exact ⟨cls, dls, vls, B, i.ex k⟩
theorem AccIn.acc (i : AccIn K h last x S H0 n H a cls dls vls B) : H x.pa = some (accO K x last h.slots) := i.cfg.get 0 rfl
theorem AccIn.hkk (i : AccIn K h last x S H0 n H a cls dls vls B) : H x.kk = some (.dK x.kks) := i.cfg.get 1 rfl
theorem AccIn.hkt (i : AccIn K h last x S H0 n H a cls dls vls B) : H x.kt = some (.dK x.kts) := i.cfg.get 2 rfl
theorem AccIn.hkp (i : AccIn K h last x S H0 n H a cls dls vls B) : H x.kp = some (.dK x.kps) := i.cfg.get 3 rfl
theorem AccIn.hcl (i : AccIn K h last x S H0 n H a cls dls vls B) : H x.cl = some (.lst cls) := i.cfg.get 4 rfl
theorem AccIn.hdl (i : AccIn K h last x S H0 n H a cls dls vls B) : H x.dl = some (.lst dls) := i.cfg.get 6 rfl
theorem KnowX.has_team (k : KnowX H h x) (s : Str) : (valV x.kts (.inr s)).isSome = decide (s ∈ h.teams.map (·.1)) := by
  rw [k.teams, Option.isSome_map]; exact lastOf_isSome _ _
theorem KnowX.has_kind (k : KnowX H h x) (s : Str) : (valV x.kks (.inr s)).isSome = decide (s ∈ h.kinds.map (·.1)) := by
  have q := k.kinds s
  have e := lastOf_isSome h.kinds s
  cases hk : kindR h s with
  | none =>
    rw [hk] at q
    rw [q, ← e, show lastOf h.kinds s = none from hk]; rfl
  | some rc =>
    rw [hk] at q
    obtain ⟨t, q, _⟩ := q
    rw [q, ← e, show lastOf h.kinds s = some rc from hk]; rfl
theorem KnowX.has_pot (k : KnowX H h x) (s : Str) : (valV x.kps (.inr s)).isSome = decide (s ∈ h.pots) := by
  rw [k.pots]
  by_cases e : s ∈ h.pots
  · rw [if_pos e, decide_eq_true e]; rfl
  · rw [if_neg e, decide_eq_false e]; rfl
theorem KnowX.pot (k : KnowX H h x) {s : Str} (e : s ∈ h.pots) : valV x.kps (.inr s) = some (.ref (x.A s)) := by rw [k.pots, if_pos e]
end
/-- what all readings of an account ask -/
def spAcc (K : PySem.W.Frag) (args : Hall → Hp → List V → Acc → Prop) (ret : Hall → AccX → Int → Acc → List V → Hp → V → Hp → Prop) : Sp := fun vs H Q _ =>
  ∃ (h : Hall) (last : Int) (x : AccX) (S : Addr → Prop) (H0 : Hp) (n : Nat) (a : Acc) (as : List V), vs = .ref x.pa :: as ∧ AccAt K h last x S H0 n H a ∧ args h H as a ∧ ∀ v H', Ex H H' → ret h x last a as H v H' → Q v H'
def spHas (K : PySem.W.Frag) : Sp := fun vs H Q _ => ∃ (h : Hall) (last : Int) (x : AccX) (S : Addr → Prop) (H0 : Hp) (n : Nat) (a : Acc) (da : Addr) (d : Deed), vs = [.ref x.pa, .ref da] ∧ AccAt K h last x S H0 n H a ∧ H da = some (.tup (deedV d)) ∧
  ∀ H', Ex H H' → Q (.bl (hasNames h d)) H'
theorem C_Account_has_names {P : Program} {w : World} {K : PySem.W.Frag} {mg : Str → Option Value} {base : Heap} (T : Txt K mg) : MCal P w K mg base 1 (He.ga K "Account") "has_names" ["self", "deed"] (spHas K) := by
  refine mcal_mk T 18 rfl T.m_Account_has_names sc_Account_has_names rfl rfl (fun _ _ _ _ _ _ us hl => match us, hl with | [_, _], _ => rfl) (fun vs H Q E h => ?_) (fun f cdv A outer s H vs Q E hr h => ?_)
  · obtain ⟨h, last, x, S, H0, n, a, da, d, rfl, hA, hd, k⟩ := h
    rfl
  obtain ⟨h, last, x, S, H0, n, a, da, d, rfl, hA, hd, k⟩ := h
  refine ⟨_, (pss_cons (ps_if (pt_cmpR op_eq (pe_ix (ix_seqK (K := K) rfl) (pv 1) pe_int (fun _ _ => rfl)) pe_str (nomark _)) (pss_one (ps_ret (pe_and (pe_cmp (pc_din (hu_of hr) (pe_ix (ix_seqK (K := K) rfl) (pv 1) pe_int (fun _ _ => rfl)) (pe_fldI (i := 3) T.c_Account T.n_Account_known_teams nd_Account rfl (pv 0) rfl))) (pe_and (pe_cmp (pc_din (hu_of hr) (pe_ix (ix_seqK (K := K) rfl) (pv 1) pe_int (fun _ _ => rfl)) (pe_fldI (i := 4) T.c_Account T.n_Account_known_pots nd_Account rfl (pv 0) rfl))) (pe_one (pe_cmp (pc_din (hu_of hr) (pe_ix (ix_seqK (K := K) rfl) (pv 1) pe_int (fun _ _ => rfl)) (pe_fldI (i := 2) T.c_Account T.n_Account_known_kinds nd_Account rfl (pv 0) rfl)))))))) pss_nil)
 (pss_cons (ps_if (pt_cmp (pc_dnotin (hu_of hr) (pe_ix (ix_seqK (K := K) rfl) (pv 1) pe_int (fun _ _ => rfl)) (pe_fldI (i := 4) T.c_Account T.n_Account_known_pots nd_Account rfl (pv 0) rfl))) (pss_one (ps_ret pe_bl)) pss_nil)
 (pss_one (ps_ret (pe_or (pe_cmpR op_ne (pe_ix (ix_seqK (K := K) rfl) (pv 1) pe_int (fun _ _ => rfl)) pe_str (nomark _)) (pe_one (pe_cmpR (op_inK (K := K) rfl) (pe_ix (ix_seqK (K := K) rfl) (pv 1) pe_int (fun _ _ => rfl)) (pe_lc (own := [("row", 2)]) rfl sc_Account_has_names.nd (pi_tupK (K := K) rfl (pe_ix (ix_tupK (K := K) rfl) (pe_fldI (i := 1) T.c_Account T.n_Account_palette nd_Account rfl (pv 0) rfl) pe_int (fun _ _ => rfl))) (blkOk_by (own := [("row", 2)]) (N := n_Account_has_names) (sc := defScope s_Account_has_names) (by decide +kernel)) (fun _ _ _ _ _ => (pg_name (i := 2) sc_Account_has_names.nd rfl (Or.inl rfl))) (fun _ _ _ _ _ => pts_nil) (fun _ _ _ _ _ => (pe_ix (ix_seqK (K := K) rfl) (pv 2) pe_int (fun _ _ => rfl)))) (by with_unfolding_all rfl)))))))), ?_⟩
  obtain ⟨cls, dls, vls, B, hI⟩ := id hA
  have hacc := hI.acc
  have hkt := hI.hkt
  have hkp := hI.hkp
  have hkk := hI.hkk
  obtain ⟨co, wa, cvs, wvs, h1, h2, h3, h4, h5⟩ := id hI.know.pal
  have other : ∀ p : Str, Q (.bl (decide (p ∈ h.pots))) H → ∀ Z : Prop, (p ∈ h.pots → Q (.bl true) H → Z) → (¬ p ∈ h.pots → Q (.bl false) H → Z) → Z := fun p q Z z1 z2 => by
    by_cases e : p ∈ h.pots
    · rw [decide_eq_true e] at q; exact z1 e q
    · rw [decide_eq_false e] at q; exact z2 e q
  cases d with
  | gather t p kd m =>
    have k := k H Kp.refl
    rw [show hasNames h (.gather t p kd m) = (decide (t ∈ h.teams.map (·.1)) && (decide (p ∈ h.pots) && decide (kd ∈ h.kinds.map (·.1)))) from rfl] at k
    nested_keys
    rw [hI.know.has_team]
    by_cases h1 : t ∈ h.teams.map (·.1)
    · rw [decide_eq_true h1] at k ⊢
      rw [if_pos rfl]
      nested_keys
      rw [hI.know.has_pot]
      by_cases h2 : p ∈ h.pots
      · rw [decide_eq_true h2] at k ⊢
        rw [if_pos rfl]
        nested_keys
        rw [hI.know.has_kind]
        exact k
      · rw [decide_eq_false h2] at k ⊢
        rw [if_neg Bool.false_ne_true]
        exact k
    · rw [decide_eq_false h1] at k ⊢
      rw [if_neg Bool.false_ne_true]
      exact k
  | fill p c =>
    nested_keys
    rw [hI.know.has_pot]
    rw [show hasNames h (.fill p c) = (decide (p ∈ h.pots) && decide (isCol h c)) from rfl] at k
    by_cases h1 : p ∈ h.pots
    · rw [decide_eq_true h1] at k ⊢
      nested_keys
      intro D hD
      have g : Cfg no H [] H := Cfg.nil
      refine lc_tup (K := K) (a := co) (xs := cvs) (fun i H' => Cfg no H [(D, .lst (((h.cols.take i).map (·.1)).map V.str))] H') (g.new hD) (fun i H' _ g => SqT.of (g.kp.t _ _ h2)) ?_ ?_
      · intro i v H' hv g
        obtain ⟨r, t, hr, rfl, ht⟩ := h3.get hv
        have ht := g.kp.t _ _ ht
        nested_keys
        refine ⟨_, g.hd, by rw [List.length_map, List.length_map]; exact small1000 (by rw [List.length_take]; have := hI.know.fit; omega), ?_⟩
        rw [take_snoc hr, List.map_append, List.map_append]
        exact g.wr 0 rfl (fun _ z => by cases z) (.inr hD)
      · intro H' g
        rw [h3.len, List.take_length] at g
        refine w_inL (g.get 0 rfl) (by rw [flat_strs]; rfl) ?_
        rw [in_strs]
        exact k H' g.kp
    · rw [decide_eq_false h1] at k ⊢
      nested_keys
      exact k H Kp.refl
  | wash p hs =>
    refine other p (k H Kp.refl) _ (fun e q => ?_) (fun e q => ?_) <;> nested_keys <;> rw [hI.know.has_pot] <;> simp only [e, decide_true, decide_false] <;> nested_keys <;> exact q
  | emp p =>
    refine other p (k H Kp.refl) _ (fun e q => ?_) (fun e q => ?_) <;> nested_keys <;> rw [hI.know.has_pot] <;> simp only [e, decide_true, decide_false] <;> nested_keys <;> exact q
  | brk p =>
    refine other p (k H Kp.refl) _ (fun e q => ?_) (fun e q => ?_) <;> nested_keys <;> rw [hI.know.has_pot] <;> simp only [e, decide_true, decide_false] <;> nested_keys <;> exact q
  | new p hs =>
    refine other p (k H Kp.refl) _ (fun e q => ?_) (fun e q => ?_) <;> nested_keys <;> rw [hI.know.has_pot] <;> simp only [e, decide_true, decide_false] <;> nested_keys <;> exact q

end K87

namespace K87
open PySem PySem.Spec PyProof.Rows L2
local macro_rules | `(tactic| kxs_still) => `(tactic| with_unfolding_all rfl)
local macro_rules | `(tactic| lcg_sub) => `(tactic| first
  | assumption
  | (apply Cfg.get (i := 0) <;> first | assumption | kxs_still)
  | (apply Cfg.get (i := 1) <;> first | assumption | kxs_still)
  | (apply Cfg.get (i := 2) <;> first | assumption | kxs_still)
  | (apply Cfg.get (i := 3) <;> first | assumption | kxs_still)
  | (apply Cfg.get (i := 4) <;> first | assumption | kxs_still)
  | (apply Cfg.get (i := 5) <;> first | assumption | kxs_still)
  | (apply Cfg.get (i := 6) <;> first | assumption | kxs_still)
  | (apply Cfg.get (i := 7) <;> first | assumption | kxs_still)
  | (apply Cfg.get (i := 8) <;> first | assumption | kxs_still)
  | (apply Cfg.get (i := 9) <;> first | assumption | kxs_still)
  | (apply Cfg.get (i := 0) <;> first | (apply Bfg.toCfg; assumption) | kxs_still)
  | (apply Cfg.get (i := 1) <;> first | (apply Bfg.toCfg; assumption) | kxs_still)
  | (apply Cfg.get (i := 2) <;> first | (apply Bfg.toCfg; assumption) | kxs_still)
  | (apply Cfg.get (i := 3) <;> first | (apply Bfg.toCfg; assumption) | kxs_still)
  | (apply Cfg.get (i := 4) <;> first | (apply Bfg.toCfg; assumption) | kxs_still)
  | (apply Cfg.get (i := 5) <;> first | (apply Bfg.toCfg; assumption) | kxs_still)
  | (apply Cfg.get (i := 6) <;> first | (apply Bfg.toCfg; assumption) | kxs_still)
  | (apply Cfg.get (i := 7) <;> first | (apply Bfg.toCfg; assumption) | kxs_still)
  | (apply Cfg.get (i := 8) <;> first | (apply Bfg.toCfg; assumption) | kxs_still)
  | (apply Cfg.get (i := 9) <;> first | (apply Bfg.toCfg; assumption) | kxs_still))
local macro_rules | `(tactic| kas_types) => `(tactic| first
  | assumption | decide | omega | exact Or.inl (by omega) | exact Or.inr (by omega) | exact ⟨by omega, by omega⟩ | exact ⟨by omega, by omega, by omega⟩)
local macro_rules | `(tactic| keq_hits) => `(tactic| simp only [u_var, u_c, u_op, u_un, u_test, u_tB, u_bl, u_I0, u_eqS, u_eqI, u_neS, u_neI, u_seq, u_next, u_asg, u_name, u_ret, u_retN, u_drop, u_ifS, u_ifE, u_and, u_or, u_not, u_andV, u_orV, u_notV, u_nil, u_cons, u_call, u_cb, u_tup, u_lst, u_sub, u_gNil, u_gCons, u_bm, u_m1, u_isS, u_sl, u_noPart, u_part, u_partk, u_par, u_par2, u_for, u_lc, u_rng1, u_itL, u_itT, u_yes, u_fldI, u_putI, u_newI, u_methI, u_make, u_some, u_i0, u_i1, u_K, L2.start, wipe, List.map_cons, List.map_nil, List.length_cons, List.length_nil, List.replicate_succ, List.replicate_zero, List.cons_append, List.nil_append, List.set_cons_zero, List.set_cons_succ, ite_true, ite_false, if_true, if_false, Bool.false_eq_true, colV, washV, kindV, teamV, rowV, coolV, deedV, batRef_none, batRef_some, u_par3, u_par33, u_augI, u_dget, u_din, u_dnotin, u_dget2, u_dget1, u_dpop1, u_dput, u_setD, u_dnewK, u_dnewT, decide_true, decide_false, Bool.not_true, Bool.not_false, Option.map_none, Option.map_some, Option.isSome_none, Option.isSome_some, Option.getD_some, Option.getD_none, vn_non, vn_ref, vn_str, vn_int, wd_fill_fill, wd_fill_gather, wd_fill_wash, wd_fill_empty, wd_fill_break, wd_fill_new, wd_gather_fill, wd_gather_gather, wd_gather_wash, wd_gather_empty, wd_gather_break, wd_gather_new, wd_wash_fill, wd_wash_gather, wd_wash_wash, wd_wash_empty, wd_wash_break, wd_wash_new, wd_empty_fill, wd_empty_gather, wd_empty_wash, wd_empty_empty, wd_empty_break, wd_empty_new, wd_break_fill, wd_break_gather, wd_break_wash, wd_break_empty, wd_break_break, wd_break_new, wd_new_fill, wd_new_gather, wd_new_wash, wd_new_empty, wd_new_break, wd_new_new, wd_nil, wd_none, wd_broken, wd_busy, wd_glass, wd_name, wd_cold, wd_rank, wd_less, wd_full, wd_whole, inw_fill, inw_gather, inw_wash, inw_empty, inw_break, inw_new, eq_self, true_and, and_true])
local macro_rules | `(tactic| nested_keys) => `(tactic| repeat first
  | (with_reducible apply w_nx)
  | (with_reducible apply w_blk)
  | (with_reducible apply w_I; (· with_unfolding_all kas_types))
  | (with_reducible apply w_ixT; (· lcg_sub); (· kxs_still))
  | (with_reducible apply w_ixL; (· lcg_sub); (· kxs_still))
  | (with_reducible apply w_fldI; (· lcg_sub); (· kxs_still))
  | (with_reducible apply w_methI; (· lcg_sub))
  | (with_reducible apply w_augO; (· lcg_sub); (· kxs_still))
  | (with_reducible apply w_dgetS; (· lcg_sub); (· assumption))
  | (with_reducible apply w_dinS; (· lcg_sub))
  | (with_reducible apply w_dnotinS; (· lcg_sub))
  | (with_reducible apply w_isD; (· lcg_sub))
  | (with_reducible apply w_inT; (· lcg_sub); (· with_unfolding_all rfl))
  | (with_reducible apply w_sz; (· with_unfolding_all exact Nat.le_of_ble_eq_true rfl))
  | (with_reducible apply w_gTup; (· lcg_sub); (· kxs_still))
  | (with_reducible apply w_tyL; (· lcg_sub))
  | (with_reducible apply w_rng1k; (· with_unfolding_all kas_types); (· with_unfolding_all kas_types))
  | (with_reducible apply w_itLk; (· lcg_sub))
  | (with_reducible apply w_itTk; (· lcg_sub))
  | (with_reducible apply w_lenL; (· lcg_sub))
  | (with_reducible apply w_lenT; (· lcg_sub))
  | (with_reducible apply w_lenS; (· with_unfolding_all kas_types))
  | (with_reducible apply w_ixaL; (· lcg_sub); (· kxs_still))
  | (with_reducible apply w_ixaT; (· lcg_sub); (· kxs_still))
  | (with_reducible apply w_ixaS; (· with_unfolding_all kas_types); (· kxs_still))
  | (with_reducible apply w_ixS; (· with_unfolding_all kas_types); (· kxs_still))
  | (with_reducible apply w_slL; (· lcg_sub))
  | (with_reducible apply w_slS; (· with_unfolding_all kas_types))
  | (with_reducible apply w_addS; (· with_unfolding_all kas_types))
  | (with_reducible apply w_listL; (· lcg_sub))
  | (with_reducible apply w_tupL; (· lcg_sub))
  | (with_reducible apply w_divmod; (· with_unfolding_all kas_types))
  | (simp only [u_var, u_c, u_op, u_un, u_test, u_tB, u_bl, u_I0, u_eqS, u_eqI, u_neS, u_neI, u_seq, u_next, u_asg, u_name, u_ret, u_retN, u_drop, u_ifS, u_ifE, u_and, u_or, u_not, u_andV, u_orV, u_notV, u_nil, u_cons, u_call, u_cb, u_tup, u_lst, u_sub, u_gNil, u_gCons, u_bm, u_m1, u_isS, u_sl, u_noPart, u_part, u_partk, u_par, u_par2, u_for, u_lc, u_rng1, u_itL, u_itT, u_yes, u_fldI, u_putI, u_newI, u_methI, u_make, u_some, u_i0, u_i1, u_K, L2.start, wipe, List.map_cons, List.map_nil, List.length_cons, List.length_nil, List.replicate_succ, List.replicate_zero, List.cons_append, List.nil_append, List.set_cons_zero, List.set_cons_succ, ite_true, ite_false, if_true, if_false, Bool.false_eq_true, colV, washV, kindV, teamV, rowV, coolV, deedV, batRef_none, batRef_some, u_par3, u_par33, u_augI, u_dget, u_din, u_dnotin, u_dget2, u_dget1, u_dpop1, u_dput, u_setD, u_dnewK, u_dnewT, decide_true, decide_false, Bool.not_true, Bool.not_false, Option.map_none, Option.map_some, Option.isSome_none, Option.isSome_some, Option.getD_some, Option.getD_none, vn_non, vn_ref, vn_str, vn_int, wd_fill_fill, wd_fill_gather, wd_fill_wash, wd_fill_empty, wd_fill_break, wd_fill_new, wd_gather_fill, wd_gather_gather, wd_gather_wash, wd_gather_empty, wd_gather_break, wd_gather_new, wd_wash_fill, wd_wash_gather, wd_wash_wash, wd_wash_empty, wd_wash_break, wd_wash_new, wd_empty_fill, wd_empty_gather, wd_empty_wash, wd_empty_empty, wd_empty_break, wd_empty_new, wd_break_fill, wd_break_gather, wd_break_wash, wd_break_empty, wd_break_break, wd_break_new, wd_new_fill, wd_new_gather, wd_new_wash, wd_new_empty, wd_new_break, wd_new_new, wd_nil, wd_none, wd_broken, wd_busy, wd_glass, wd_name, wd_cold, wd_rank, wd_less, wd_full, wd_whole, inw_fill, inw_gather, inw_wash, inw_empty, inw_break, inw_new, eq_self, true_and, and_true])
  | (with_reducible apply w_eq; (· kxs_still))
  | (with_reducible apply w_ne; (· kxs_still)))
def spPotOf (K : PySem.W.Frag) : Sp := fun vs H Q _ => ∃ (h : Hall) (last : Int) (x : AccX) (S : Addr → Prop) (H0 : Hp) (n : Nat) (a : Acc) (da : Addr) (d : Deed), vs = [.ref x.pa, .ref da] ∧ AccAt K h last x S H0 n H a ∧ H da = some (.tup (deedV d)) ∧ d.pot ∈ h.pots ∧ Q (.ref (x.A d.pot)) H
theorem C_Account_pot_of {P : Program} {w : World} {K : PySem.W.Frag} {mg : Str → Option Value} {base : Heap} (T : Txt K mg) : MCal P w K mg base 1 (He.ga K "Account") "pot_of" ["self", "deed"] (spPotOf K) := by
  refine mcal_mk T 19 rfl T.m_Account_pot_of sc_Account_pot_of rfl rfl (fun _ _ _ _ _ _ us hl => match us, hl with | [_, _], _ => rfl) (fun vs H Q E h => ?_) (fun f cdv A outer s H vs Q E hr h => ?_)
  · obtain ⟨h, last, x, S, H0, n, a, da, d, rfl, hA, hd, hp, k⟩ := h
    rfl
  obtain ⟨h, last, x, S, H0, n, a, da, d, rfl, hA, hd, hp, k⟩ := h
  refine ⟨_, (pss_one (ps_ret (pe_dget (hu_of hr) (pe_fldI (i := 4) T.c_Account T.n_Account_known_pots nd_Account rfl (pv 0) rfl) (pe_ifExp (pt_cmpR op_eq (pe_ix (ix_seqK (K := K) rfl) (pv 1) pe_int (fun _ _ => rfl)) pe_str (nomark _)) (pe_ix (ix_seqK (K := K) rfl) (pv 1) pe_int (fun _ _ => rfl)) (pe_ix (ix_seqK (K := K) rfl) (pv 1) pe_int (fun _ _ => rfl))) (fun _ _ => rfl)))), ?_⟩
  obtain ⟨cls, dls, vls, B, hI⟩ := id hA
  have hacc := hI.acc
  have hkp := hI.hkp
  have hpot := hI.know.pot hp
  cases d <;> (dsimp only [Deed.pot] at hpot k; nested_keys; exact k)
def spFree (K : PySem.W.Frag) : Sp := fun vs H Q _ => ∃ (h : Hall) (last : Int) (x : AccX) (S : Addr → Prop) (H0 : Hp) (n : Nat) (a : Acc) (hour : Int), vs = [.ref x.pa, .int hour] ∧ AccAt K h last x S H0 n H a ∧ n ≤ 1000 ∧
  ∀ p H', H p = none → Ex H H' → H' p = some (.lst ((free h a.cool hour).map V.int)) → Q (.ref p) H'
theorem C_Account_free_slots {P : Program} {w : World} {K : PySem.W.Frag} {mg : Str → Option Value} {base : Heap} (T : Txt K mg) : MCal P w K mg base 1 (He.ga K "Account") "free_slots" ["self", "hour"] (spFree K) := by
  refine mcal_mk T 20 rfl T.m_Account_free_slots sc_Account_free_slots rfl rfl (fun _ _ _ _ _ _ us hl => match us, hl with | [_, _], _ => rfl) (fun vs H Q E h => ?_) (fun f cdv A outer s H vs Q E hr h => ?_)
  · obtain ⟨h, last, x, S, H0, n, a, hour, rfl, hA, hn, k⟩ := h
    rfl
  obtain ⟨h, last, x, S, H0, n, a, hour, rfl, hA, hn, k⟩ := h
  refine ⟨_, (pss_cons (ps_set (i := 2) sc_Account_free_slots.nd rfl (Or.inr rfl) (pe_lc (own := [("slot", 3), ("kind", 4), ("colour", 5), ("out", 6)]) rfl sc_Account_free_slots.nd (pi_listK (K := K) rfl (pe_fldI (i := 6) T.c_Account T.n_Account_cooling_rows nd_Account rfl (pv 0) rfl)) (blkOk_by (own := [("slot", 3), ("kind", 4), ("colour", 5), ("out", 6)]) (N := n_Account_free_slots) (sc := defScope s_Account_free_slots) (by decide +kernel)) (fun _ _ _ _ _ => (pg_tupK (K := K) (n := 4) rfl rfl (pgs_cons (pg_name (i := 3) sc_Account_free_slots.nd rfl (Or.inl rfl)) (pgs_cons (pg_name (i := 4) sc_Account_free_slots.nd rfl (Or.inl rfl)) (pgs_cons (pg_name (i := 5) sc_Account_free_slots.nd rfl (Or.inl rfl)) (pgs_cons (pg_name (i := 6) sc_Account_free_slots.nd rfl (Or.inl rfl)) pgs_nil)))))) (fun _ _ _ _ _ => (pts_one (pt_cmpR op_gt (pv 6) (pv 1) (nomark _)))) (fun _ _ _ _ _ => (pv 3))))
 (pss_one (ps_ret (pe_lc (own := [("slot", 3)]) rfl sc_Account_free_slots.nd (pi_range1 rfl T.f_range (pa_cons (pe_fldI (i := 5) T.c_Account T.n_Account_many_slots nd_Account rfl (pv 0) rfl) pa_nil)) (blkOk_by (own := [("slot", 3)]) (N := n_Account_free_slots) (sc := defScope s_Account_free_slots) (by decide +kernel)) (fun _ _ _ _ _ => (pg_name (i := 3) sc_Account_free_slots.nd rfl (Or.inl rfl))) (fun _ _ _ _ _ => (pts_one (pt_cmpR (op_notInK (K := K) rfl) (pv 3) (pv 2) (by with_unfolding_all rfl)))) (fun _ _ _ _ _ => (pv 3)))))), ?_⟩
  obtain ⟨cls, dls, vls, B, hI⟩ := id hA
  have hacc := hI.acc
  have hcl := hI.hcl
  obtain ⟨hsl0, hsl⟩ := hI.know.slots
  have hsz := hI.szc
  have g : Cfg no H [] H := Cfg.nil
  nested_keys
  intro U hU
  refine lc_list (K := K) (a := x.cl) (xs := cls) (fun i H' => Cfg no H [(U, .lst ((((a.cool.take i).filter fun c => decide (hour < c.out)).map (·.slot)).map V.int))] H') (g.new hU) (fun i H' _ g => SqL.of (g.kp.exget hcl)) ?_ ?_
  · intro i v H' hv g
    obtain ⟨c, t, hc, rfl, ht⟩ := hI.cool.get hv
    have ht := g.kp.t _ _ ht
    nested_keys
    rw [filt_snoc hc]
    refine ite_d (fun e => ?_) (fun e => ?_)
    · nested_keys
      refine ⟨_, g.hd, by
        rw [List.length_map, List.length_map]
        refine Nat.lt_of_le_of_lt (List.length_filter_le _ _) ?_
        rw [List.length_take]
        have q := get_lt hv
        exact Nat.lt_of_lt_of_le (show min i a.cool.length < 100000 by omega) (by decide), ?_⟩
      rw [if_pos (decide_eq_true e), List.map_append, List.map_append]
      exact g.wr 0 rfl (fun _ z => by cases z) (.inr hU)
    · rw [if_neg (by simp [e]), List.append_nil]
      exact g
  · intro H1 g
    rw [hI.cool.len, List.take_length] at g
    have hacc := g.kp.exget hacc
    nested_keys
    intro D hD
    have D0 := g.kp.nn hD
    refine lc_range (lo := 0) (n := h.slots.toNat) (fun i H' => Cfg no H [(D, .lst (((((rangeI h.slots.toNat).take i).filter fun s => !decide (s ∈ (active a.cool hour).map (·.slot)))).map V.int)), (U, .lst (((active a.cool hour).map (·.slot)).map V.int))] H') (g.new hD) ?_ ?_
    · intro i H' hi g
      nested_keys
      refine w_ninL (g.get 1 rfl) (by rw [flat_ints]; rfl) ?_
      rw [in_ints, filt_snoc (rangeI_get hi)]
      nested_keys
      rw [Int.zero_add]
      by_cases e : (!decide ((i : Int) ∈ (active a.cool hour).map (·.slot))) = true
      · rw [if_pos e, if_pos e]
        nested_keys
        refine ⟨_, g.hd, by
          rw [List.length_map]
          refine Nat.lt_of_le_of_lt (List.length_filter_le _ _) ?_
          rw [List.length_take]
          exact small1000 (by omega), ?_⟩
        rw [List.map_append]
        exact g.wr 0 rfl (fun _ z => by cases z) (.inr D0)
      · rw [if_neg e, if_neg e, List.append_nil]
        exact g
    · intro H2 g
      have e : (rangeI h.slots.toNat).take h.slots.toNat = rangeI h.slots.toNat := List.take_of_length_le (by rw [rangeI_len]; exact Nat.le_refl _)
      rw [e] at g
      exact k D H2 D0 g.kp (g.get 0 rfl)
theorem KnowX.team {H : Hp} {h : Hall} {x : AccX} (k : KnowX H h x) {s : Str} (e : s ∈ h.teams.map (·.1)) : valV x.kts (.inr s) = some (.int (teamOf h s)) := by
  rw [k.teams]
  obtain ⟨v, hv⟩ := lastOf_some e
  have q : teamR h s = some v := hv
  unfold teamOf
  rw [q]; rfl
theorem KnowX.kind {H : Hp} {h : Hall} {x : AccX} (k : KnowX H h x) {s : Str} (e : s ∈ h.kinds.map (·.1)) : ∃ t, valV x.kks (.inr s) = some (.ref t) ∧ H t = some (.tup [.int (rankOf h s), .int (coolOf h s)]) := by
  have q := k.kinds s
  obtain ⟨v, hv⟩ := lastOf_some e
  have hv : kindR h s = some v := hv
  rw [hv] at q
  unfold rankOf coolOf
  rw [hv]; exact q
def spGW (K : PySem.W.Frag) : Sp := fun vs H Q _ => ∃ (h : Hall) (last : Int) (x : AccX) (S : Addr → Prop) (H0 : Hp) (n : Nat) (a : Acc) (hour : Int) (da : Addr) (t p kd : Str) (m : Int) (b : Bat), vs = [.ref x.pa, .int hour, .ref da] ∧ AccAt K h last x S H0 n H a ∧ n ≤ 1000 ∧
  H da = some (.tup (deedV (.gather t p kd m))) ∧ hasNames h (.gather t p kd m) = true ∧ (a.pots p).bat = some b ∧ ∀ H', Ex H H' → Q (.str (gatherWord h a hour t kd m b)) H'
theorem names_gather {h : Hall} {t p kd : Str} {m : Int} (e : hasNames h (.gather t p kd m) = true) : t ∈ h.teams.map (·.1) ∧ p ∈ h.pots ∧ kd ∈ h.kinds.map (·.1) := by
  have e : (decide (t ∈ h.teams.map (·.1)) && (decide (p ∈ h.pots) && decide (kd ∈ h.kinds.map (·.1)))) = true := e
  rw [Bool.and_eq_true, Bool.and_eq_true] at e
  exact ⟨of_decide_eq_true e.1, of_decide_eq_true e.2.1, of_decide_eq_true e.2.2⟩
theorem C_Account_gather_word {P : Program} {w : World} {K : PySem.W.Frag} {mg : Str → Option Value} {base : Heap} (T : Txt K mg) : MCal P w K mg base 2 (He.ga K "Account") "gather_word" ["self", "hour", "deed"] (spGW K) := by
  have C_Account_free_slots := C_Account_free_slots (P := P) (w := w) (base := base) T
  refine mcal_mk T 21 rfl T.m_Account_gather_word sc_Account_gather_word rfl rfl (fun _ _ _ _ _ _ us hl => match us, hl with | [_, _, _], _ => rfl) (fun vs H Q E h => ?_) (fun f cdv A outer s H vs Q E hr h => ?_)
  · obtain ⟨h, last, x, S, H0, n, a, hour, da, t, p, kd, m, b, rfl, hA, hn, hd, hnm, hb, k⟩ := h
    rfl
  obtain ⟨h, last, x, S, H0, n, a, hour, da, t, p, kd, m, b, rfl, hA, hn, hd, hnm, hb, k⟩ := h
  refine ⟨_, (pss_cons (ps_asg (pv 2) (pg_tupK (K := K) (n := 5) rfl rfl (pgs_cons (pg_name (i := 3) sc_Account_gather_word.nd rfl (Or.inl rfl)) (pgs_cons (pg_name (i := 4) sc_Account_gather_word.nd rfl (Or.inl rfl)) (pgs_cons (pg_name (i := 5) sc_Account_gather_word.nd rfl (Or.inl rfl)) (pgs_cons (pg_name (i := 6) sc_Account_gather_word.nd rfl (Or.inl rfl)) (pgs_cons (pg_name (i := 7) sc_Account_gather_word.nd rfl (Or.inl rfl)) pgs_nil)))))))
 (pss_cons (ps_set (i := 8) sc_Account_gather_word.nd rfl (Or.inl rfl) (pe_fldI (i := 1) T.c_PotNow T.n_PotNow_batch nd_PotNow rfl (pe_dget (hu_of hr) (pe_fldI (i := 4) T.c_Account T.n_Account_known_pots nd_Account rfl (pv 0) rfl) (pv 5) (fun _ _ => rfl)) rfl))
 (pss_cons (ps_if (pt_cmpR op_lt (pv 1) (pe_fldI (i := 4) T.c_Batch T.n_Batch_ready nd_Batch rfl (pv 8) rfl) (nomark _)) (pss_one (ps_ret pe_str)) pss_nil)
 (pss_cons (ps_if (pt_cmpR op_gt (pe_ix (ix_tupK (K := K) rfl) (pe_dget (hu_of hr) (pe_fldI (i := 2) T.c_Account T.n_Account_known_kinds nd_Account rfl (pv 0) rfl) (pv 6) (fun _ _ => rfl)) pe_int (fun _ _ => rfl)) (pe_dget (hu_of hr) (pe_fldI (i := 3) T.c_Account T.n_Account_known_teams nd_Account rfl (pv 0) rfl) (pv 4) (fun _ _ => rfl)) (nomark _)) (pss_one (ps_ret pe_str)) pss_nil)
 (pss_cons (ps_if (pt_cmpR op_lt (pe_fldI (i := 1) T.c_Batch T.n_Batch_left nd_Batch rfl (pv 8) rfl) (pv 7) (nomark _)) (pss_one (ps_ret pe_str)) pss_nil)
 (pss_one (ps_ret (pe_ifExp (pt_cmpR op_lt (pe_callB (call_lenK (K := K) rfl) (by rfl) T.f_len (by decide +kernel) (pa_cons (pe_mcalI (ns := f_Account) (by decide +kernel) (pv 0) T.c_Account C_Account_free_slots hr (pa_cons (pv 1) pa_nil)) pa_nil)) (pv 7) (nomark _)) pe_str pe_str)))))))), ?_⟩
  obtain ⟨cls, dls, vls, B, hI⟩ := id hA
  have hacc := hI.acc
  have hkp := hI.hkp
  have hkk := hI.hkk
  have hkt := hI.hkt
  obtain ⟨n1, n2, n3⟩ := names_gather hnm
  have hpot := hI.know.pot n2
  have hteam := hI.know.team n1
  obtain ⟨tk, hkind, htk⟩ := hI.know.kind n3
  obtain ⟨⟨dxp, hpo⟩, hba⟩ := hI.pots p n2
  obtain ⟨dxb, hbo⟩ := hba b hb
  have eb : batRef (a.pots p) (B p) = .ref (B p) := by unfold batRef; rw [hb]
  have hpo' : H (x.A p) = some (Ob (He.ga K "PotNow") dxp f_PotNow [.bl (a.pots p).whole, .ref (B p), optS (a.pots p).last, .int (a.pots p).washed, .str (a.pots p).word, .int (a.pots p).tills]) := by rw [← eb]; exact hpo
  clear hpo
  unfold gatherWord at k
  nested_keys
  refine ite_d (fun e => ?_) (fun e => ?_)
  · rw [if_pos e] at k
    nested_keys
    exact k H Kp.refl
  rw [if_neg e] at k
  nested_keys
  refine ite_d (fun e => ?_) (fun e => ?_)
  · rw [if_pos e] at k
    nested_keys
    exact k H Kp.refl
  rw [if_neg e] at k
  nested_keys
  refine ite_d (fun e => ?_) (fun e => ?_)
  · rw [if_pos e] at k
    nested_keys
    exact k H Kp.refl
  rw [if_neg e] at k
  nested_keys
  refine ⟨h, last, x, S, H0, n, a, hour, rfl, hA, hn, fun q H1 hq k1 h1 => ?_⟩
  nested_keys
  rw [List.length_map]
  refine ite_d (fun e => ?_) (fun e => ?_)
  · rw [if_pos e] at k
    exact k H1 k1
  · rw [if_neg e] at k
    exact k H1 k1
def spVW (K : PySem.W.Frag) : Sp := fun vs H Q _ => ∃ (h : Hall) (last : Int) (x : AccX) (S : Addr → Prop) (H0 : Hp) (n : Nat) (a : Acc) (hour : Int) (da : Addr) (d : Deed), vs = [.ref x.pa, .int hour, .ref da] ∧ AccAt K h last x S H0 n H a ∧ n ≤ 1000 ∧
  H da = some (.tup (deedV d)) ∧ ∀ H', Ex H H' → Q (.str (voidWord h a hour d)) H'
theorem names_pot {h : Hall} {d : Deed} (e : hasNames h d = true) : d.pot ∈ h.pots := by
  cases d with
  | gather t p kd m => exact (names_gather e).2.1
  | fill p c =>
    have e : (decide (p ∈ h.pots) && decide (isCol h c)) = true := e
    rw [Bool.and_eq_true] at e
    exact of_decide_eq_true e.1
  | wash p _ => exact of_decide_eq_true e
  | emp p => exact of_decide_eq_true e
  | brk p => exact of_decide_eq_true e
  | new p _ => exact of_decide_eq_true e
theorem C_Account_void_word {P : Program} {w : World} {K : PySem.W.Frag} {mg : Str → Option Value} {base : Heap} (T : Txt K mg) : MCal P w K mg base 3 (He.ga K "Account") "void_word" ["self", "hour", "deed"] (spVW K) := by
  have C_Account_gather_word := C_Account_gather_word (P := P) (w := w) (base := base) T
  have C_Account_has_names := C_Account_has_names (P := P) (w := w) (base := base) T
  have C_Account_pot_of := C_Account_pot_of (P := P) (w := w) (base := base) T
  have C_bare_word := C_bare_word (P := P) (w := w) (base := base) T
  have C_batch_word := C_batch_word (P := P) (w := w) (base := base) T
  refine mcal_mk T 22 rfl T.m_Account_void_word sc_Account_void_word rfl rfl (fun _ _ _ _ _ _ us hl => match us, hl with | [_, _, _], _ => rfl) (fun vs H Q E h => ?_) (fun f cdv A outer s H vs Q E hr h => ?_)
  · obtain ⟨h, last, x, S, H0, n, a, hour, da, d, rfl, hA, hn, hd, k⟩ := h
    rfl
  obtain ⟨h, last, x, S, H0, n, a, hour, da, d, rfl, hA, hn, hd, k⟩ := h
  refine ⟨_, (pss_cons (ps_if (pt_not (pt_val (pe_mcalI (ns := f_Account) (by decide +kernel) (pv 0) T.c_Account C_Account_has_names (hr.mono (by decide)) (pa_cons (pv 2) pa_nil)))) (pss_one (ps_ret pe_str)) pss_nil)
 (pss_cons (ps_set (i := 3) sc_Account_void_word.nd rfl (Or.inl rfl) (pe_mcalI (ns := f_Account) (by decide +kernel) (pv 0) T.c_Account C_Account_pot_of (hr.mono (by decide)) (pa_cons (pv 2) pa_nil)))
 (pss_cons (ps_if (pt_cmpR (op_inK (K := K) rfl) (pe_ix (ix_tupK (K := K) rfl) (pv 2) pe_int (fun _ _ => rfl)) (pe_tup (pa_cons pe_str (pa_cons pe_str pa_nil))) (by with_unfolding_all rfl)) (pss_one (ps_ret (pe_cal C_bare_word hr rfl (pa_cons (pv 3) (pa_cons (pv 1) pa_nil))))) pss_nil)
 (pss_cons (ps_if (pt_cmpR op_eq (pe_ix (ix_tupK (K := K) rfl) (pv 2) pe_int (fun _ _ => rfl)) pe_str (nomark _)) (pss_one (ps_ret (pe_ifExp (pt_val (pe_fldI (i := 0) T.c_PotNow T.n_PotNow_whole_now nd_PotNow rfl (pv 3) rfl)) pe_str pe_str))) pss_nil)
 (pss_cons (ps_if (pt_cmpR op_eq (pe_ix (ix_tupK (K := K) rfl) (pv 2) pe_int (fun _ _ => rfl)) pe_str (nomark _)) (pss_one (ps_ret (pe_ifExp (pt_val (pe_fldI (i := 0) T.c_PotNow T.n_PotNow_whole_now nd_PotNow rfl (pv 3) rfl)) pe_str pe_str))) pss_nil)
 (pss_cons (ps_set (i := 4) sc_Account_void_word.nd rfl (Or.inl rfl) (pe_cal C_batch_word (hr.mono (by decide)) rfl (pa_cons (pv 3) pa_nil)))
 (pss_one (ps_ret (pe_ifExp (PW.pt (pw_and (pt_cmpR op_eq (pv 4) pe_str (nomark _)) (pw_and1 (pt_cmpR op_eq (pe_ix (ix_tupK (K := K) rfl) (pv 2) pe_int (fun _ _ => rfl)) pe_str (nomark _))))) (pe_mcalI (ns := f_Account) (by decide +kernel) (pv 0) T.c_Account C_Account_gather_word hr (pa_cons (pv 1) (pa_cons (pv 2) pa_nil))) (pv 4)))))))))), ?_⟩
  obtain ⟨cls, dls, vls, B, hI⟩ := id hA
  have hacc := hI.acc
  unfold voidWord at k
  nested_keys
  refine ⟨h, last, x, S, H0, n, a, da, d, rfl, hA, hd, fun H1 k1 => ?_⟩
  have hA1 := hA.ex k1
  have hd1 := k1.t _ _ hd
  clear hacc
  nested_keys
  by_cases e : (!hasNames h d) = true
  · rw [if_pos e] at k ⊢
    nested_keys
    exact k H1 k1
  rw [if_neg e] at k ⊢
  have e : hasNames h d = true := by simpa using e
  have hp := names_pot e
  obtain ⟨cls, dls, vls, B, hI1⟩ := id hA1
  have hacc := hI1.acc
  nested_keys
  refine ⟨h, last, x, S, H0, n, a, da, d, rfl, hA1, hd1, hp, ?_⟩
  have hpa := hI1.pots _ hp
  have g : Cfg no H1 [(x.pa, accO K x last h.slots), (da, .tup (deedV d))] H1 := Cfg.start (by simp [ne_of hacc hd1 (fun z => by cases z)]) (fun y hy => by
    rcases List.mem_cons.mp hy with rfl | hy
    · exact hacc
    · rw [List.mem_singleton.mp hy]; exact hd1)
  cases d with
  | fill p c =>
    dsimp only [Deed.pot] at hpa hp k ⊢
    nested_keys
    refine w_new g fun q H2 q0 g => ?_
    nested_keys
    refine ⟨_, hour, _, _, rfl, hpa.ex (g.kp), ?_⟩
    nested_keys
    exact k H2 (k1.trans g.kp)
  | wash p hs =>
    dsimp only [Deed.pot] at hpa hp k ⊢
    nested_keys
    refine w_new g fun q H2 q0 g => ?_
    nested_keys
    refine ⟨_, hour, _, _, rfl, hpa.ex (g.kp), ?_⟩
    nested_keys
    exact k H2 (k1.trans g.kp)
  | brk p =>
    dsimp only [Deed.pot] at hpa hp k ⊢
    nested_keys
    refine w_new g fun q H2 q0 g => ?_
    obtain ⟨⟨dxp, hpo⟩, _⟩ := id (hpa.ex g.kp)
    nested_keys
    by_cases hw : (a.pots p).whole = true
    · rw [if_pos hw] at k ⊢
      exact k H2 (k1.trans g.kp)
    · rw [if_neg hw] at k ⊢
      exact k H2 (k1.trans g.kp)
  | new p hs =>
    dsimp only [Deed.pot] at hpa hp k ⊢
    nested_keys
    refine w_new g fun q H2 q0 g => ?_
    obtain ⟨⟨dxp, hpo⟩, _⟩ := id (hpa.ex g.kp)
    nested_keys
    by_cases hw : (a.pots p).whole = true
    · rw [if_pos hw] at k ⊢
      exact k H2 (k1.trans g.kp)
    · rw [if_neg hw] at k ⊢
      exact k H2 (k1.trans g.kp)
  | emp p =>
    dsimp only [Deed.pot] at hpa hp k ⊢
    nested_keys
    refine w_new g fun q H2 q0 g => ?_
    nested_keys
    refine ⟨_, _, _, rfl, hpa.ex (g.kp), ?_⟩
    nested_keys
    by_cases hw : (a.pots p).batchWord = ""
    · rw [decide_eq_true hw, if_pos rfl]
      nested_keys
      exact k H2 (k1.trans g.kp)
    · rw [decide_eq_false hw, if_neg Bool.false_ne_true]
      nested_keys
      exact k H2 (k1.trans g.kp)
  | gather t p kd m =>
    dsimp only [Deed.pot] at hpa hp k ⊢
    nested_keys
    refine w_new g fun q H2 q0 g => ?_
    nested_keys
    refine ⟨_, _, _, rfl, hpa.ex (g.kp), ?_⟩
    nested_keys
    by_cases hw : (a.pots p).whole = true
    · cases hb : (a.pots p).bat with
      | none =>
        have ew : (a.pots p).batchWord = "none" := by unfold Pot.batchWord; rw [hw, hb]; rfl
        rw [hw, hb] at k
        rw [ew] at k ⊢
        nested_keys
        exact k H2 (k1.trans g.kp)
      | some b =>
        have ew : (a.pots p).batchWord = "" := by unfold Pot.batchWord; rw [hw, hb]; rfl
        rw [hw, hb] at k
        rw [ew]
        nested_keys
        refine ⟨h, last, x, S, H0, n, a, hour, da, t, p, kd, m, b, rfl, hA1.ex g.kp, hn, g.get 2 rfl, e, hb, fun H3 k3 => ?_⟩
        exact k H3 ((k1.trans g.kp).trans k3)
    · have hw : (a.pots p).whole = false := by simpa using hw
      have ew : (a.pots p).batchWord = "broken" := by unfold Pot.batchWord; rw [hw]; rfl
      rw [hw] at k
      rw [ew] at k ⊢
      nested_keys
      exact k H2 (k1.trans g.kp)

end K87

namespace K87
open PySem PySem.Spec PyProof.Rows L2
local macro_rules | `(tactic| kxs_still) => `(tactic| with_unfolding_all rfl)
local macro_rules | `(tactic| lcg_sub) => `(tactic| first
  | assumption
  | (apply Cfg.get (i := 0) <;> first | assumption | kxs_still)
  | (apply Cfg.get (i := 1) <;> first | assumption | kxs_still)
  | (apply Cfg.get (i := 2) <;> first | assumption | kxs_still)
  | (apply Cfg.get (i := 3) <;> first | assumption | kxs_still)
  | (apply Cfg.get (i := 4) <;> first | assumption | kxs_still)
  | (apply Cfg.get (i := 5) <;> first | assumption | kxs_still)
  | (apply Cfg.get (i := 6) <;> first | assumption | kxs_still)
  | (apply Cfg.get (i := 7) <;> first | assumption | kxs_still)
  | (apply Cfg.get (i := 8) <;> first | assumption | kxs_still)
  | (apply Cfg.get (i := 9) <;> first | assumption | kxs_still)
  | (apply Cfg.get (i := 0) <;> first | (apply Bfg.toCfg; assumption) | kxs_still)
  | (apply Cfg.get (i := 1) <;> first | (apply Bfg.toCfg; assumption) | kxs_still)
  | (apply Cfg.get (i := 2) <;> first | (apply Bfg.toCfg; assumption) | kxs_still)
  | (apply Cfg.get (i := 3) <;> first | (apply Bfg.toCfg; assumption) | kxs_still)
  | (apply Cfg.get (i := 4) <;> first | (apply Bfg.toCfg; assumption) | kxs_still)
  | (apply Cfg.get (i := 5) <;> first | (apply Bfg.toCfg; assumption) | kxs_still)
  | (apply Cfg.get (i := 6) <;> first | (apply Bfg.toCfg; assumption) | kxs_still)
  | (apply Cfg.get (i := 7) <;> first | (apply Bfg.toCfg; assumption) | kxs_still)
  | (apply Cfg.get (i := 8) <;> first | (apply Bfg.toCfg; assumption) | kxs_still)
  | (apply Cfg.get (i := 9) <;> first | (apply Bfg.toCfg; assumption) | kxs_still))
local macro_rules | `(tactic| kas_types) => `(tactic| first
  | assumption | decide | omega | exact Or.inl (by omega) | exact Or.inr (by omega) | exact ⟨by omega, by omega⟩ | exact ⟨by omega, by omega, by omega⟩)
local macro_rules | `(tactic| keq_hits) => `(tactic| simp only [u_var, u_c, u_op, u_un, u_test, u_tB, u_bl, u_I0, u_eqS, u_eqI, u_neS, u_neI, u_seq, u_next, u_asg, u_name, u_ret, u_retN, u_drop, u_ifS, u_ifE, u_and, u_or, u_not, u_andV, u_orV, u_notV, u_nil, u_cons, u_call, u_cb, u_tup, u_lst, u_sub, u_gNil, u_gCons, u_bm, u_m1, u_isS, u_sl, u_noPart, u_part, u_partk, u_par, u_par2, u_for, u_lc, u_rng1, u_itL, u_itT, u_yes, u_fldI, u_putI, u_newI, u_methI, u_make, u_some, u_i0, u_i1, u_K, L2.start, wipe, List.map_cons, List.map_nil, List.length_cons, List.length_nil, List.replicate_succ, List.replicate_zero, List.cons_append, List.nil_append, List.set_cons_zero, List.set_cons_succ, ite_true, ite_false, if_true, if_false, Bool.false_eq_true, colV, washV, kindV, teamV, rowV, coolV, deedV, batRef_none, batRef_some, u_par3, u_par33, u_augI, u_dget, u_din, u_dnotin, u_dget2, u_dget1, u_dpop1, u_dput, u_setD, u_dnewK, u_dnewT, decide_true, decide_false, Bool.not_true, Bool.not_false, Option.map_none, Option.map_some, Option.isSome_none, Option.isSome_some, Option.getD_some, Option.getD_none, vn_non, vn_ref, vn_str, vn_int, wd_fill_fill, wd_fill_gather, wd_fill_wash, wd_fill_empty, wd_fill_break, wd_fill_new, wd_gather_fill, wd_gather_gather, wd_gather_wash, wd_gather_empty, wd_gather_break, wd_gather_new, wd_wash_fill, wd_wash_gather, wd_wash_wash, wd_wash_empty, wd_wash_break, wd_wash_new, wd_empty_fill, wd_empty_gather, wd_empty_wash, wd_empty_empty, wd_empty_break, wd_empty_new, wd_break_fill, wd_break_gather, wd_break_wash, wd_break_empty, wd_break_break, wd_break_new, wd_new_fill, wd_new_gather, wd_new_wash, wd_new_empty, wd_new_break, wd_new_new, wd_nil, wd_none, wd_broken, wd_busy, wd_glass, wd_name, wd_cold, wd_rank, wd_less, wd_full, wd_whole, inw_fill, inw_gather, inw_wash, inw_empty, inw_break, inw_new, eq_self, true_and, and_true])
local macro_rules | `(tactic| nested_keys) => `(tactic| repeat first
  | (with_reducible apply w_nx)
  | (with_reducible apply w_blk)
  | (with_reducible apply w_I; (· with_unfolding_all kas_types))
  | (with_reducible apply w_ixT; (· lcg_sub); (· kxs_still))
  | (with_reducible apply w_ixL; (· lcg_sub); (· kxs_still))
  | (with_reducible apply w_fldI; (· lcg_sub); (· kxs_still))
  | (with_reducible apply w_methI; (· lcg_sub))
  | (with_reducible apply w_augO; (· lcg_sub); (· kxs_still))
  | (with_reducible apply w_dgetS; (· lcg_sub); (· assumption))
  | (with_reducible apply w_dinS; (· lcg_sub))
  | (with_reducible apply w_dnotinS; (· lcg_sub))
  | (with_reducible apply w_isD; (· lcg_sub))
  | (with_reducible apply w_inT; (· lcg_sub); (· with_unfolding_all rfl))
  | (with_reducible apply w_sz; (· with_unfolding_all exact Nat.le_of_ble_eq_true rfl))
  | (with_reducible apply w_gTup; (· lcg_sub); (· kxs_still))
  | (with_reducible apply w_tyL; (· lcg_sub))
  | (with_reducible apply w_rng1k; (· with_unfolding_all kas_types); (· with_unfolding_all kas_types))
  | (with_reducible apply w_itLk; (· lcg_sub))
  | (with_reducible apply w_itTk; (· lcg_sub))
  | (with_reducible apply w_lenL; (· lcg_sub))
  | (with_reducible apply w_lenT; (· lcg_sub))
  | (with_reducible apply w_lenS; (· with_unfolding_all kas_types))
  | (with_reducible apply w_ixaL; (· lcg_sub); (· kxs_still))
  | (with_reducible apply w_ixaT; (· lcg_sub); (· kxs_still))
  | (with_reducible apply w_ixaS; (· with_unfolding_all kas_types); (· kxs_still))
  | (with_reducible apply w_ixS; (· with_unfolding_all kas_types); (· kxs_still))
  | (with_reducible apply w_slL; (· lcg_sub))
  | (with_reducible apply w_slS; (· with_unfolding_all kas_types))
  | (with_reducible apply w_addS; (· with_unfolding_all kas_types))
  | (with_reducible apply w_listL; (· lcg_sub))
  | (with_reducible apply w_tupL; (· lcg_sub))
  | (with_reducible apply w_divmod; (· with_unfolding_all kas_types))
  | (simp only [u_var, u_c, u_op, u_un, u_test, u_tB, u_bl, u_I0, u_eqS, u_eqI, u_neS, u_neI, u_seq, u_next, u_asg, u_name, u_ret, u_retN, u_drop, u_ifS, u_ifE, u_and, u_or, u_not, u_andV, u_orV, u_notV, u_nil, u_cons, u_call, u_cb, u_tup, u_lst, u_sub, u_gNil, u_gCons, u_bm, u_m1, u_isS, u_sl, u_noPart, u_part, u_partk, u_par, u_par2, u_for, u_lc, u_rng1, u_itL, u_itT, u_yes, u_fldI, u_putI, u_newI, u_methI, u_make, u_some, u_i0, u_i1, u_K, L2.start, wipe, List.map_cons, List.map_nil, List.length_cons, List.length_nil, List.replicate_succ, List.replicate_zero, List.cons_append, List.nil_append, List.set_cons_zero, List.set_cons_succ, ite_true, ite_false, if_true, if_false, Bool.false_eq_true, colV, washV, kindV, teamV, rowV, coolV, deedV, batRef_none, batRef_some, u_par3, u_par33, u_augI, u_dget, u_din, u_dnotin, u_dget2, u_dget1, u_dpop1, u_dput, u_setD, u_dnewK, u_dnewT, decide_true, decide_false, Bool.not_true, Bool.not_false, Option.map_none, Option.map_some, Option.isSome_none, Option.isSome_some, Option.getD_some, Option.getD_none, vn_non, vn_ref, vn_str, vn_int, wd_fill_fill, wd_fill_gather, wd_fill_wash, wd_fill_empty, wd_fill_break, wd_fill_new, wd_gather_fill, wd_gather_gather, wd_gather_wash, wd_gather_empty, wd_gather_break, wd_gather_new, wd_wash_fill, wd_wash_gather, wd_wash_wash, wd_wash_empty, wd_wash_break, wd_wash_new, wd_empty_fill, wd_empty_gather, wd_empty_wash, wd_empty_empty, wd_empty_break, wd_empty_new, wd_break_fill, wd_break_gather, wd_break_wash, wd_break_empty, wd_break_break, wd_break_new, wd_new_fill, wd_new_gather, wd_new_wash, wd_new_empty, wd_new_break, wd_new_new, wd_nil, wd_none, wd_broken, wd_busy, wd_glass, wd_name, wd_cold, wd_rank, wd_less, wd_full, wd_whole, inw_fill, inw_gather, inw_wash, inw_empty, inw_break, inw_new, eq_self, true_and, and_true])
  | (with_reducible apply w_eq; (· kxs_still))
  | (with_reducible apply w_ne; (· kxs_still)))
/-! ### one pot changes -/
def tagO : HO → Bool
  | .ins _ _ fs => Nat.beq fs.length 5 || Nat.beq fs.length 6
  | _ => false
theorem tag_ne {H : Hp} {a b : Addr} {o u : HO} (h : H a = some o) (h' : H b = some u) (t : tagO o = true) (t' : tagO u = false) : b ≠ a := fun e => by
  rw [e, h] at h'
  cases h'
  rw [t] at t'
  cases t'
section
variable {K : PySem.W.Frag} {h : Hall} {last : Int} {x : AccX} {S : Addr → Prop} {H0 H H' : Hp} {n n' : Nat} {a : Acc} {cls dls vls : List V} {B : Str → Addr}
theorem AccIn.le (i : AccIn K h last x S H0 n H a cls dls vls B) (l : n ≤ n') : AccIn K h last x S H0 n' H a cls dls vls B :=
  ⟨i.cfg, i.know, i.pots, i.apart, i.cool, i.rows, i.mine, i.minA, i.minB, by have := i.szc; omega, by have := i.szd; omega, by have := i.szv; omega, by have := i.szm; omega⟩
theorem AccIn.setPot (i : AccIn K h last x S H0 n H a cls dls vls B) {s : Str} (hs : s ∈ h.pots) {p' : Pot} {b' : Addr} (k : Kp (fun y => y = x.A s ∨ ((a.pots s).bat ≠ none ∧ y = B s)) H H') (hp : PotAt K H' (x.A s) p' b')
    (hb : p'.bat ≠ none → (b' = B s ∧ (a.pots s).bat ≠ none) ∨ H b' = none) : AccIn K h last x S H0 n H' { a with pots := updP a.pots s p' } cls dls vls (fun t => if t = s then b' else B t) := by
  obtain ⟨⟨dxs, hps⟩, hbs⟩ := i.pots s hs
  have hbo : (a.pots s).bat ≠ none → ∃ dx t, H (B s) = some (batO K dx t) := fun e => by
    cases hb : (a.pots s).bat with
    | none => exact absurd hb e
    | some t =>
      obtain ⟨dx, q⟩ := hbs t hb
      exact ⟨dx, t, q⟩
  refine ⟨i.cfg.call k ?_ ?_, i.know.up k.t, fun t ht => ?_, fun t u ht hu bt bu e => ?_, i.cool.mono k.t, i.rows.mono k.t, i.mine, i.minA, fun t ht bt => ?_, i.szc, i.szd, i.szv, i.szm⟩
  · rintro y (rfl | ⟨hy, rfl⟩)
    · exact i.minA s hs
    · exact i.minB s hs hy
  · rintro y hy (e | ⟨hb, e⟩)
    · have ty : tagO y.2 = false := by
        have : (accD K h last x cls dls vls (a.made.map madeE)).all (fun y => !tagO y.2) = true := rfl
        have q := List.all_eq_true.mp this y hy
        simpa using q
      exact tag_ne hps (i.cfg.at_ y hy) rfl ty e
    · have ty : tagO y.2 = false := by
        have : (accD K h last x cls dls vls (a.made.map madeE)).all (fun y => !tagO y.2) = true := rfl
        have q := List.all_eq_true.mp this y hy
        simpa using q
      obtain ⟨dx, t, q⟩ := hbo hb
      exact tag_ne q (i.cfg.at_ y hy) rfl ty e
  · by_cases e : t = s
    · subst e
      show PotAt K H' (x.A t) (updP a.pots t p' t) (if t = t then b' else B t)
      rw [if_pos rfl]
      unfold updP
      rw [if_pos rfl]
      exact hp
    · show PotAt K H' (x.A t) (updP a.pots s p' t) (if t = s then b' else B t)
      unfold updP
      rw [if_neg e, if_neg e]
      obtain ⟨⟨dxt, hpt⟩, hbt⟩ := i.pots t ht
      refine ⟨⟨dxt, k.get hpt ?_⟩, fun z hz => ?_⟩
      · rintro (q | ⟨hb, q⟩)
        · exact e (i.know.inj t s ht hs q)
        · obtain ⟨dx, z, q2⟩ := hbo hb
          exact (ob_apart hpt q2) q
      · obtain ⟨dxz, hz2⟩ := hbt z hz
        refine ⟨dxz, k.get hz2 ?_⟩
        rintro (q | ⟨hb, q⟩)
        · exact (ob_apart hz2 hps) q
        · exact e (i.apart t s ht hs (by rw [hz]; exact fun z => nomatch z) hb q)
  · have bt : (updP a.pots s p' t).bat ≠ none := bt
    have bu : (updP a.pots s p' u).bat ≠ none := bu
    have e : (if t = s then b' else B t) = (if u = s then b' else B u) := e
    unfold updP at bt bu
    have key : ∀ u, u ∈ h.pots → ¬ u = s → p'.bat ≠ none → (a.pots u).bat ≠ none → b' = B u → False := fun u hu us hp' hbu e => by
      rcases hb hp' with ⟨e2, e3⟩ | e2
      · exact us (i.apart u s hu hs hbu e3 (by rw [← e, e2]))
      · obtain ⟨_, hbt⟩ := i.pots u hu
        cases hz : (a.pots u).bat with
        | none => exact hbu hz
        | some z =>
          obtain ⟨dx, q⟩ := hbt z hz
          rw [← e, e2] at q
          cases q
    by_cases e1 : t = s
    · by_cases e2 : u = s
      · rw [e1, e2]
      · rw [if_pos e1] at bt e
        rw [if_neg e2] at bu e
        exact (key u hu e2 bt bu e).elim
    · by_cases e2 : u = s
      · rw [if_neg e1] at bt e
        rw [if_pos e2] at bu e
        exact (key t ht e1 bu bt e.symm).elim
      · rw [if_neg e1] at bt e
        rw [if_neg e2] at bu e
        exact i.apart t u ht hu bt bu e
  · have bt : (updP a.pots s p' t).bat ≠ none := bt
    show S (if t = s then b' else B t) ∨ H0 (if t = s then b' else B t) = none
    unfold updP at bt
    by_cases e1 : t = s
    · rw [if_pos e1] at bt ⊢
      rcases hb bt with ⟨e2, e3⟩ | e2
      · rw [e2]; exact i.minB s hs e3
      · exact .inr (i.cfg.kp.nn e2)
    · rw [if_neg e1] at bt ⊢
      exact i.minB t ht bt
end
def LastOk (h : Hall) (a : Acc) : Prop := ∀ s c, (a.pots s).last = some c → isCol h c
/-- what a deed done gives: how many, which batch; the account is so far changed -/
def DoneTo (K : PySem.W.Frag) (h : Hall) (last : Int) (x : AccX) (S : Addr → Prop) (H0 : Hp) (n : Nat) (r : Acc × Int × Option Bat) (Q : VK) : Prop :=
  ∀ (q : Addr) (v : V) (H' : Hp), H' q = some (.tup [.int r.2.1, v]) → BatV K H' v r.2.2 → AccAt K h last x S H0 (n + 1) H' r.1 → Q (.ref q) H'
theorem names_fill {h : Hall} {p c : Str} (e : hasNames h (.fill p c) = true) : p ∈ h.pots ∧ isCol h c := by
  have e : (decide (p ∈ h.pots) && decide (isCol h c)) = true := e
  rw [Bool.and_eq_true] at e
  exact ⟨of_decide_eq_true e.1, of_decide_eq_true e.2⟩
section
variable {K : PySem.W.Frag} {h : Hall} {last : Int} {x : AccX} {S : Addr → Prop} {H0 H H' : Hp} {n n' : Nat} {a : Acc} {cls dls vls : List V} {B : Str → Addr}
/-- a new object in the account's heap -/
theorem AccIn.cfgNew (i : AccIn K h last x S H0 n H a cls dls vls B) {p : Addr} {o : HO} (hp : H p = none) : AccIn K h last x S H0 n (upd H p o) a cls dls vls B := i.ex (Kp.new hp)
theorem BatV.ex {v : V} {t : Option Bat} (b : BatV K H v t) (k : Ex H H') : BatV K H' v t := by
  cases t with
  | none => exact b
  | some t =>
    obtain ⟨p, dx, e, q⟩ := b
    exact ⟨p, dx, e, k.exget q⟩
end
def spFillD (K : PySem.W.Frag) : Sp := fun vs H Q _ => ∃ (h : Hall) (last : Int) (x : AccX) (S : Addr → Prop) (H0 : Hp) (n : Nat) (a : Acc) (hour number : Int) (da : Addr) (p c : Str), vs = [.ref x.pa, .int hour, .int number, .ref da] ∧ AccAt K h last x S H0 n H a ∧
  H da = some (.tup (deedV (.fill p c))) ∧ hasNames h (.fill p c) = true ∧ LastOk h a ∧ DoneTo K h last x S H0 n (midStep h a hour number (.fill p c)) Q
theorem C_Account_fill_done {P : Program} {w : World} {K : PySem.W.Frag} {mg : Str → Option Value} {base : Heap} (T : Txt K mg) : MCal P w K mg base 5 (He.ga K "Account") "fill_done" ["self", "hour", "number", "deed"] (spFillD K) := by
  have C_Account_pot_of := C_Account_pot_of (P := P) (w := w) (base := base) T
  have C_PotNow_fill := C_PotNow_fill (P := P) (w := w) (base := base) T
  refine mcal_mk T 25 rfl T.m_Account_fill_done sc_Account_fill_done rfl rfl (fun _ _ _ _ _ _ us hl => match us, hl with | [_, _, _, _], _ => rfl) (fun vs H Q E h => ?_) (fun f cdv A outer s H vs Q E hr h => ?_)
  · obtain ⟨h, last, x, S, H0, n, a, hour, number, da, p, c, rfl, hA, hd, hnm, hl, k⟩ := h
    rfl
  obtain ⟨h, last, x, S, H0, n, a, hour, number, da, p, c, rfl, hA, hd, hnm, hl, k⟩ := h
  refine ⟨_, (pss_cons (ps_set (i := 4) sc_Account_fill_done.nd rfl (Or.inl rfl) (pe_mcalI (ns := f_Account) (by decide +kernel) (pv 0) T.c_Account C_Account_pot_of (hr.mono (by decide)) (pa_cons (pv 3) pa_nil)))
 (pss_cons (ps_expr (pe_mcalI (ns := f_PotNow) (by decide +kernel) (pv 4) T.c_PotNow C_PotNow_fill hr (pa_cons (pe_fldI (i := 1) T.c_Account T.n_Account_palette nd_Account rfl (pv 0) rfl) (pa_cons (pe_ix (ix_tupK (K := K) rfl) (pv 3) pe_int (fun _ _ => rfl)) (pa_cons (pv 1) (pa_cons (pv 2) pa_nil))))))
 (pss_one (ps_ret (pe_tup (pa_cons (pe_fldI (i := 1) T.c_Batch T.n_Batch_left nd_Batch rfl (pe_fldI (i := 1) T.c_PotNow T.n_PotNow_batch nd_PotNow rfl (pv 4) rfl) rfl) (pa_cons (pe_fldI (i := 1) T.c_PotNow T.n_PotNow_batch nd_PotNow rfl (pv 4) rfl) pa_nil))))))), ?_⟩
  obtain ⟨cls, dls, vls, B, hI⟩ := id hA
  have hacc := hI.acc
  obtain ⟨hp, hc⟩ := names_fill hnm
  nested_keys
  refine ⟨h, last, x, S, H0, n, a, da, .fill p c, rfl, hA, hd, hp, ?_⟩
  dsimp only [Deed.pot]
  have hpa := hI.pots p hp
  obtain ⟨⟨dxp, hpo⟩, _⟩ := id hpa
  nested_keys
  refine ⟨x.A p, x.pal, h, c, hour, number, a.pots p, B p, rfl, hI.know.pal, hc, hl p, hpa, fun H1 b' r er hb' hp1 k1 => ?_⟩
  have hI1 := hI.setPot hp (k1.mono fun y e => .inl e) hp1 fun _ => .inr hb'
  obtain ⟨⟨dx1, hpo1⟩, hba1⟩ := id hp1
  obtain ⟨dxb, hbo1⟩ := hba1 _ rfl
  nested_keys
  intro q hq
  have em : midStep h a hour number (.fill p c) = ({ a with pots := updP a.pots p (filled h (a.pots p) c hour number r) }, r.2.2.2, some ⟨(if (a.pots p).streaked h c = true then ("" : Str) else c), r.2.2.2, number, hour + r.2.1, hour + r.2.1 + r.2.2.1⟩) := by
    show (match colRow h c with
      | none => _
      | some r => _) = _
    rw [er]
  rw [em] at k
  have kn : Ex H1 (upd H1 q (.tup [.int r.2.2.2, .ref b'])) := Kp.new hq
  refine k q _ _ upd_same ⟨b', dxb, rfl, kn.exget hbo1⟩ ⟨cls, dls, vls, _, (hI1.ex kn).le (Nat.le_succ n)⟩

end K87

namespace K87
open PySem PySem.Spec PyProof.Rows L2
local macro_rules | `(tactic| kxs_still) => `(tactic| with_unfolding_all rfl)
local macro_rules | `(tactic| lcg_sub) => `(tactic| first
  | assumption
  | (apply Cfg.get (i := 0) <;> first | assumption | kxs_still)
  | (apply Cfg.get (i := 1) <;> first | assumption | kxs_still)
  | (apply Cfg.get (i := 2) <;> first | assumption | kxs_still)
  | (apply Cfg.get (i := 3) <;> first | assumption | kxs_still)
  | (apply Cfg.get (i := 4) <;> first | assumption | kxs_still)
  | (apply Cfg.get (i := 5) <;> first | assumption | kxs_still)
  | (apply Cfg.get (i := 6) <;> first | assumption | kxs_still)
  | (apply Cfg.get (i := 7) <;> first | assumption | kxs_still)
  | (apply Cfg.get (i := 8) <;> first | assumption | kxs_still)
  | (apply Cfg.get (i := 9) <;> first | assumption | kxs_still)
  | (apply Cfg.get (i := 0) <;> first | (apply Bfg.toCfg; assumption) | kxs_still)
  | (apply Cfg.get (i := 1) <;> first | (apply Bfg.toCfg; assumption) | kxs_still)
  | (apply Cfg.get (i := 2) <;> first | (apply Bfg.toCfg; assumption) | kxs_still)
  | (apply Cfg.get (i := 3) <;> first | (apply Bfg.toCfg; assumption) | kxs_still)
  | (apply Cfg.get (i := 4) <;> first | (apply Bfg.toCfg; assumption) | kxs_still)
  | (apply Cfg.get (i := 5) <;> first | (apply Bfg.toCfg; assumption) | kxs_still)
  | (apply Cfg.get (i := 6) <;> first | (apply Bfg.toCfg; assumption) | kxs_still)
  | (apply Cfg.get (i := 7) <;> first | (apply Bfg.toCfg; assumption) | kxs_still)
  | (apply Cfg.get (i := 8) <;> first | (apply Bfg.toCfg; assumption) | kxs_still)
  | (apply Cfg.get (i := 9) <;> first | (apply Bfg.toCfg; assumption) | kxs_still))
local macro_rules | `(tactic| kas_types) => `(tactic| first
  | assumption | decide | omega | exact Or.inl (by omega) | exact Or.inr (by omega) | exact ⟨by omega, by omega⟩ | exact ⟨by omega, by omega, by omega⟩)
local macro_rules | `(tactic| keq_hits) => `(tactic| simp only [u_var, u_c, u_op, u_un, u_test, u_tB, u_bl, u_I0, u_eqS, u_eqI, u_neS, u_neI, u_seq, u_next, u_asg, u_name, u_ret, u_retN, u_drop, u_ifS, u_ifE, u_and, u_or, u_not, u_andV, u_orV, u_notV, u_nil, u_cons, u_call, u_cb, u_tup, u_lst, u_sub, u_gNil, u_gCons, u_bm, u_m1, u_isS, u_sl, u_noPart, u_part, u_partk, u_par, u_par2, u_for, u_lc, u_rng1, u_itL, u_itT, u_yes, u_fldI, u_putI, u_newI, u_methI, u_make, u_some, u_i0, u_i1, u_K, L2.start, wipe, List.map_cons, List.map_nil, List.length_cons, List.length_nil, List.replicate_succ, List.replicate_zero, List.cons_append, List.nil_append, List.set_cons_zero, List.set_cons_succ, ite_true, ite_false, if_true, if_false, Bool.false_eq_true, colV, washV, kindV, teamV, rowV, coolV, deedV, batRef_none, batRef_some, u_par3, u_par33, u_augI, u_dget, u_din, u_dnotin, u_dget2, u_dget1, u_dpop1, u_dput, u_setD, u_dnewK, u_dnewT, decide_true, decide_false, Bool.not_true, Bool.not_false, Option.map_none, Option.map_some, Option.isSome_none, Option.isSome_some, Option.getD_some, Option.getD_none, vn_non, vn_ref, vn_str, vn_int, wd_fill_fill, wd_fill_gather, wd_fill_wash, wd_fill_empty, wd_fill_break, wd_fill_new, wd_gather_fill, wd_gather_gather, wd_gather_wash, wd_gather_empty, wd_gather_break, wd_gather_new, wd_wash_fill, wd_wash_gather, wd_wash_wash, wd_wash_empty, wd_wash_break, wd_wash_new, wd_empty_fill, wd_empty_gather, wd_empty_wash, wd_empty_empty, wd_empty_break, wd_empty_new, wd_break_fill, wd_break_gather, wd_break_wash, wd_break_empty, wd_break_break, wd_break_new, wd_new_fill, wd_new_gather, wd_new_wash, wd_new_empty, wd_new_break, wd_new_new, wd_nil, wd_none, wd_broken, wd_busy, wd_glass, wd_name, wd_cold, wd_rank, wd_less, wd_full, wd_whole, inw_fill, inw_gather, inw_wash, inw_empty, inw_break, inw_new, eq_self, true_and, and_true])
local macro_rules | `(tactic| nested_keys) => `(tactic| repeat first
  | (with_reducible apply w_nx)
  | (with_reducible apply w_blk)
  | (with_reducible apply w_I; (· with_unfolding_all kas_types))
  | (with_reducible apply w_ixT; (· lcg_sub); (· kxs_still))
  | (with_reducible apply w_ixL; (· lcg_sub); (· kxs_still))
  | (with_reducible apply w_fldI; (· lcg_sub); (· kxs_still))
  | (with_reducible apply w_methI; (· lcg_sub))
  | (with_reducible apply w_augO; (· lcg_sub); (· kxs_still))
  | (with_reducible apply w_dgetS; (· lcg_sub); (· assumption))
  | (with_reducible apply w_dinS; (· lcg_sub))
  | (with_reducible apply w_dnotinS; (· lcg_sub))
  | (with_reducible apply w_isD; (· lcg_sub))
  | (with_reducible apply w_inT; (· lcg_sub); (· with_unfolding_all rfl))
  | (with_reducible apply w_sz; (· with_unfolding_all exact Nat.le_of_ble_eq_true rfl))
  | (with_reducible apply w_gTup; (· lcg_sub); (· kxs_still))
  | (with_reducible apply w_tyL; (· lcg_sub))
  | (with_reducible apply w_rng1k; (· with_unfolding_all kas_types); (· with_unfolding_all kas_types))
  | (with_reducible apply w_itLk; (· lcg_sub))
  | (with_reducible apply w_itTk; (· lcg_sub))
  | (with_reducible apply w_lenL; (· lcg_sub))
  | (with_reducible apply w_lenT; (· lcg_sub))
  | (with_reducible apply w_lenS; (· with_unfolding_all kas_types))
  | (with_reducible apply w_ixaL; (· lcg_sub); (· kxs_still))
  | (with_reducible apply w_ixaT; (· lcg_sub); (· kxs_still))
  | (with_reducible apply w_ixaS; (· with_unfolding_all kas_types); (· kxs_still))
  | (with_reducible apply w_ixS; (· with_unfolding_all kas_types); (· kxs_still))
  | (with_reducible apply w_slL; (· lcg_sub))
  | (with_reducible apply w_slS; (· with_unfolding_all kas_types))
  | (with_reducible apply w_addS; (· with_unfolding_all kas_types))
  | (with_reducible apply w_listL; (· lcg_sub))
  | (with_reducible apply w_tupL; (· lcg_sub))
  | (with_reducible apply w_divmod; (· with_unfolding_all kas_types))
  | (simp only [u_var, u_c, u_op, u_un, u_test, u_tB, u_bl, u_I0, u_eqS, u_eqI, u_neS, u_neI, u_seq, u_next, u_asg, u_name, u_ret, u_retN, u_drop, u_ifS, u_ifE, u_and, u_or, u_not, u_andV, u_orV, u_notV, u_nil, u_cons, u_call, u_cb, u_tup, u_lst, u_sub, u_gNil, u_gCons, u_bm, u_m1, u_isS, u_sl, u_noPart, u_part, u_partk, u_par, u_par2, u_for, u_lc, u_rng1, u_itL, u_itT, u_yes, u_fldI, u_putI, u_newI, u_methI, u_make, u_some, u_i0, u_i1, u_K, L2.start, wipe, List.map_cons, List.map_nil, List.length_cons, List.length_nil, List.replicate_succ, List.replicate_zero, List.cons_append, List.nil_append, List.set_cons_zero, List.set_cons_succ, ite_true, ite_false, if_true, if_false, Bool.false_eq_true, colV, washV, kindV, teamV, rowV, coolV, deedV, batRef_none, batRef_some, u_par3, u_par33, u_augI, u_dget, u_din, u_dnotin, u_dget2, u_dget1, u_dpop1, u_dput, u_setD, u_dnewK, u_dnewT, decide_true, decide_false, Bool.not_true, Bool.not_false, Option.map_none, Option.map_some, Option.isSome_none, Option.isSome_some, Option.getD_some, Option.getD_none, vn_non, vn_ref, vn_str, vn_int, wd_fill_fill, wd_fill_gather, wd_fill_wash, wd_fill_empty, wd_fill_break, wd_fill_new, wd_gather_fill, wd_gather_gather, wd_gather_wash, wd_gather_empty, wd_gather_break, wd_gather_new, wd_wash_fill, wd_wash_gather, wd_wash_wash, wd_wash_empty, wd_wash_break, wd_wash_new, wd_empty_fill, wd_empty_gather, wd_empty_wash, wd_empty_empty, wd_empty_break, wd_empty_new, wd_break_fill, wd_break_gather, wd_break_wash, wd_break_empty, wd_break_break, wd_break_new, wd_new_fill, wd_new_gather, wd_new_wash, wd_new_empty, wd_new_break, wd_new_new, wd_nil, wd_none, wd_broken, wd_busy, wd_glass, wd_name, wd_cold, wd_rank, wd_less, wd_full, wd_whole, inw_fill, inw_gather, inw_wash, inw_empty, inw_break, inw_new, eq_self, true_and, and_true])
  | (with_reducible apply w_eq; (· kxs_still))
  | (with_reducible apply w_ne; (· kxs_still)))
theorem taken_bat {p : Pot} {b : Bat} {m : Int} (h : p.bat = some b) : (p.taken b m).bat ≠ none → p.bat ≠ none := fun _ e => by rw [h] at e; cases e
def spEmptyD (K : PySem.W.Frag) : Sp := fun vs H Q _ => ∃ (h : Hall) (last : Int) (x : AccX) (S : Addr → Prop) (H0 : Hp) (n : Nat) (a : Acc) (hour number : Int) (da : Addr) (p : Str) (b : Bat), vs = [.ref x.pa, .ref da] ∧ AccAt K h last x S H0 n H a ∧
  H da = some (.tup (deedV (.emp p))) ∧ p ∈ h.pots ∧ (a.pots p).bat = some b ∧ DoneTo K h last x S H0 n (midStep h a hour number (.emp p)) Q
theorem C_Account_empty_done {P : Program} {w : World} {K : PySem.W.Frag} {mg : Str → Option Value} {base : Heap} (T : Txt K mg) : MCal P w K mg base 2 (He.ga K "Account") "empty_done" ["self", "deed"] (spEmptyD K) := by
  have C_Account_pot_of := C_Account_pot_of (P := P) (w := w) (base := base) T
  have C_PotNow_taken := C_PotNow_taken (P := P) (w := w) (base := base) T
  refine mcal_mk T 26 rfl T.m_Account_empty_done sc_Account_empty_done rfl rfl (fun _ _ _ _ _ _ us hl => match us, hl with | [_, _], _ => rfl) (fun vs H Q E h => ?_) (fun f cdv A outer s H vs Q E hr h => ?_)
  · obtain ⟨h, last, x, S, H0, n, a, hour, number, da, p, b, rfl, hA, hd, hp, hb, k⟩ := h
    rfl
  obtain ⟨h, last, x, S, H0, n, a, hour, number, da, p, b, rfl, hA, hd, hp, hb, k⟩ := h
  refine ⟨_, (pss_cons (ps_set (i := 2) sc_Account_empty_done.nd rfl (Or.inl rfl) (pe_mcalI (ns := f_Account) (by decide +kernel) (pv 0) T.c_Account C_Account_pot_of hr (pa_cons (pv 1) pa_nil)))
 (pss_cons (ps_set (i := 3) sc_Account_empty_done.nd rfl (Or.inl rfl) (pe_fldI (i := 1) T.c_Batch T.n_Batch_left nd_Batch rfl (pe_fldI (i := 1) T.c_PotNow T.n_PotNow_batch nd_PotNow rfl (pv 2) rfl) rfl))
 (pss_one (ps_ret (pe_tup (pa_cons (pv 3) (pa_cons (pe_mcalI (ns := f_PotNow) (by decide +kernel) (pv 2) T.c_PotNow C_PotNow_taken hr (pa_cons (pv 3) pa_nil)) pa_nil))))))), ?_⟩
  obtain ⟨cls, dls, vls, B, hI⟩ := id hA
  have hacc := hI.acc
  nested_keys
  refine ⟨h, last, x, S, H0, n, a, da, .emp p, rfl, hA, hd, hp, ?_⟩
  dsimp only [Deed.pot]
  have hpa := hI.pots p hp
  obtain ⟨⟨dxp, hpo⟩, hba⟩ := id hpa
  obtain ⟨dxb, hbo⟩ := hba b hb
  have eb : batRef (a.pots p) (B p) = .ref (B p) := by unfold batRef; rw [hb]
  have hpo' : H (x.A p) = some (Ob (He.ga K "PotNow") dxp f_PotNow [.bl (a.pots p).whole, .ref (B p), optS (a.pots p).last, .int (a.pots p).washed, .str (a.pots p).word, .int (a.pots p).tills]) := by rw [← eb]; exact hpo
  clear hpo
  nested_keys
  refine ⟨x.A p, b.left, a.pots p, B p, b, rfl, hpa, hb, fun H1 hp1 hb1 k1 => ?_⟩
  have hI1 := hI.setPot hp (k1.mono fun y e => e.elim .inl fun e => .inr ⟨(by rw [hb]; exact fun z => by cases z), e⟩) hp1 fun _ => .inl ⟨rfl, (by rw [hb]; exact fun z => by cases z)⟩
  obtain ⟨dx1, hb1⟩ := hb1
  nested_keys
  intro q hq
  have em : midStep h a hour number (.emp p) = ({ a with pots := updP a.pots p ((a.pots p).taken b b.left) }, b.left, some { b with left := b.left - b.left }) := by
    show (match (a.pots p).bat with
      | none => _
      | some b => _) = _
    rw [hb]
  rw [em] at k
  have kn : Ex H1 (upd H1 q (.tup [.int b.left, .ref (B p)])) := Kp.new hq
  exact k q _ _ upd_same ⟨B p, dx1, rfl, kn.exget hb1⟩ ⟨cls, dls, vls, _, (hI1.ex kn).le (Nat.le_succ n)⟩
def spBreakD (K : PySem.W.Frag) : Sp := fun vs H Q _ => ∃ (h : Hall) (last : Int) (x : AccX) (S : Addr → Prop) (H0 : Hp) (n : Nat) (a : Acc) (hour number : Int) (da : Addr) (p : Str), vs = [.ref x.pa, .ref da] ∧ AccAt K h last x S H0 n H a ∧
  H da = some (.tup (deedV (.brk p))) ∧ p ∈ h.pots ∧ DoneTo K h last x S H0 n (midStep h a hour number (.brk p)) Q
theorem C_Account_break_done {P : Program} {w : World} {K : PySem.W.Frag} {mg : Str → Option Value} {base : Heap} (T : Txt K mg) : MCal P w K mg base 2 (He.ga K "Account") "break_done" ["self", "deed"] (spBreakD K) := by
  have C_Account_pot_of := C_Account_pot_of (P := P) (w := w) (base := base) T
  have C_PotNow_shatter := C_PotNow_shatter (P := P) (w := w) (base := base) T
  refine mcal_mk T 28 rfl T.m_Account_break_done sc_Account_break_done rfl rfl (fun _ _ _ _ _ _ us hl => match us, hl with | [_, _], _ => rfl) (fun vs H Q E h => ?_) (fun f cdv A outer s H vs Q E hr h => ?_)
  · obtain ⟨h, last, x, S, H0, n, a, hour, number, da, p, rfl, hA, hd, hp, k⟩ := h
    rfl
  obtain ⟨h, last, x, S, H0, n, a, hour, number, da, p, rfl, hA, hd, hp, k⟩ := h
  refine ⟨_, (pss_cons (ps_set (i := 2) sc_Account_break_done.nd rfl (Or.inl rfl) (pe_mcalI0 (ns := f_PotNow) (by decide +kernel) (pe_mcalI (ns := f_Account) (by decide +kernel) (pv 0) T.c_Account C_Account_pot_of hr (pa_cons (pv 1) pa_nil)) T.c_PotNow C_PotNow_shatter hr))
 (pss_one (ps_ret (pe_tup (pa_cons (pe_ifExp (pt_cmpR op_isN (pv 2) pe_non (nomark _)) pe_int (pe_fldI (i := 1) T.c_Batch T.n_Batch_left nd_Batch rfl (pv 2) rfl)) (pa_cons (pv 2) pa_nil)))))), ?_⟩
  obtain ⟨cls, dls, vls, B, hI⟩ := id hA
  have hacc := hI.acc
  nested_keys
  refine ⟨h, last, x, S, H0, n, a, da, .brk p, rfl, hA, hd, hp, ?_⟩
  dsimp only [Deed.pot]
  have hpa := hI.pots p hp
  obtain ⟨⟨dxp, hpo⟩, _⟩ := id hpa
  nested_keys
  refine ⟨x.A p, a.pots p, B p, rfl, hpa, fun H1 hp1 hb1 k1 => ?_⟩
  have hI1 := hI.setPot hp (k1.mono fun y e => .inl e) hp1 fun z => absurd rfl z
  cases hb : (a.pots p).bat with
  | none =>
    have em : midStep h a hour number (.brk p) = ({ a with pots := updP a.pots p { a.pots p with whole := false, bat := none, tills := 0 } }, 0, none) := by
      show (_, (match (a.pots p).bat with
        | none => _
        | some b => _), (a.pots p).bat) = _
      rw [hb]
    rw [em] at k
    have er : batRef (a.pots p) (B p) = .non := by unfold batRef; rw [hb]
    rw [er]
    nested_keys
    intro q hq
    have kn : Ex H1 (upd H1 q (.tup [.int 0, .non])) := Kp.new hq
    exact k q _ _ upd_same rfl ⟨cls, dls, vls, _, (hI1.ex kn).le (Nat.le_succ n)⟩
  | some b =>
    have em : midStep h a hour number (.brk p) = ({ a with pots := updP a.pots p { a.pots p with whole := false, bat := none, tills := 0 } }, b.left, some b) := by
      show (_, (match (a.pots p).bat with
        | none => _
        | some b => _), (a.pots p).bat) = _
      rw [hb]
    rw [em] at k
    obtain ⟨dxb, hbo⟩ := hb1 b hb
    have er : batRef (a.pots p) (B p) = .ref (B p) := by unfold batRef; rw [hb]
    rw [er]
    nested_keys
    intro q hq
    have kn : Ex H1 (upd H1 q (.tup [.int b.left, .ref (B p)])) := Kp.new hq
    exact k q _ _ upd_same ⟨B p, dxb, rfl, kn.exget hbo⟩ ⟨cls, dls, vls, _, (hI1.ex kn).le (Nat.le_succ n)⟩
theorem made_putK (l : List ((Str × Str) × Int)) (k c : Str) (v : Int) : (putM l (k, c) v).map madeE = putK (l.map madeE) [.inr k, .inr c] (.int v) := by
  have inj : ∀ e : (Str × Str) × Int, (madeE e).1 = [.inr k, .inr c] ↔ e.1 = (k, c) := fun e => by
    obtain ⟨⟨a, b⟩, i⟩ := e
    constructor
    · intro q
      have q : ([.inr a, .inr b] : List Key) = [.inr k, .inr c] := q
      simp only [List.cons.injEq, Sum.inr.injEq, and_true] at q
      rw [q.1, q.2]
    · intro q
      have q : (a, b) = (k, c) := q
      cases q; rfl
  have hany : ((l.map madeE).any fun kv => decide (kv.1 = [.inr k, .inr c])) = decide ((k, c) ∈ l.map (·.1)) := by
    induction l with
    | nil => rfl
    | cons e r ih =>
      rw [List.map_cons, List.any_cons, ih, List.map_cons]
      by_cases q : e.1 = (k, c)
      · rw [decide_eq_true ((inj e).mpr q)]; simp [q]
      · rw [decide_eq_false (fun z => q ((inj e).mp z))]
        have : ((k, c) ∈ e.1 :: r.map (·.1)) = ((k, c) ∈ r.map (·.1)) := by
          rw [List.mem_cons]; exact propext ⟨fun h => h.elim (fun z => absurd z.symm q) id, .inr⟩
        simp only [this, Bool.false_or]
  unfold putM putK
  rw [hany]
  by_cases m : (k, c) ∈ l.map (·.1)
  · rw [if_pos m, if_pos (decide_eq_true m), List.map_map, List.map_map]
    refine List.map_congr_left fun e _ => ?_
    show madeE (if e.1 = (k, c) then ((k, c), v) else e) = if (madeE e).1 = [.inr k, .inr c] then ((madeE e).1, .int v) else madeE e
    by_cases q : e.1 = (k, c)
    · rw [if_pos q, if_pos ((inj e).mpr q), (inj e).mpr q]; rfl
    · rw [if_neg q, if_neg fun z => q ((inj e).mp z)]
  · rw [if_neg m, if_neg (by rw [decide_eq_false m]; exact Bool.false_ne_true), List.map_append]; rfl
theorem made_get (l : List ((Str × Str) × Int)) (k c : Str) : (valV (l.map madeE) [.inr k, .inr c]).getD (.int 0) = .int (getM l (k, c)) := by
  induction l with
  | nil => rfl
  | cons e r ih =>
    obtain ⟨⟨a, b⟩, i⟩ := e
    unfold getM valV at ih ⊢
    rw [List.map_cons]
    by_cases q : (a, b) = (k, c)
    · cases q
      rw [List.find?_cons_of_pos (by exact decide_eq_true rfl), List.lookup_cons]
      simp [madeE]
    · have n1 : ¬ (madeE ((a, b), i)).1 = [.inr k, .inr c] := fun z => by
        have z : ([.inr a, .inr b] : List Key) = [.inr k, .inr c] := z
        simp only [List.cons.injEq, Sum.inr.injEq, and_true] at z
        exact q (by rw [z.1, z.2])
      rw [List.find?_cons_of_neg (by simpa using n1), List.lookup_cons]
      have n2 : ((k, c) == (a, b)) = false := beq_eq_false_iff_ne.mpr fun z => q z.symm
      rw [n2]
      exact ih
theorem putM_len (l : List ((Str × Str) × Int)) (k : Str × Str) (v : Int) : (putM l k v).length ≤ l.length + 1 := by
  unfold putM
  split
  · rw [List.length_map]; omega
  · rw [List.length_append]; simp

end K87

namespace K87
open PySem PySem.Spec PyProof.Rows L2
local macro_rules | `(tactic| kxs_still) => `(tactic| with_unfolding_all rfl)
local macro_rules | `(tactic| lcg_sub) => `(tactic| first
  | assumption
  | (apply Cfg.get (i := 0) <;> first | assumption | kxs_still)
  | (apply Cfg.get (i := 1) <;> first | assumption | kxs_still)
  | (apply Cfg.get (i := 2) <;> first | assumption | kxs_still)
  | (apply Cfg.get (i := 3) <;> first | assumption | kxs_still)
  | (apply Cfg.get (i := 4) <;> first | assumption | kxs_still)
  | (apply Cfg.get (i := 5) <;> first | assumption | kxs_still)
  | (apply Cfg.get (i := 6) <;> first | assumption | kxs_still)
  | (apply Cfg.get (i := 7) <;> first | assumption | kxs_still)
  | (apply Cfg.get (i := 8) <;> first | assumption | kxs_still)
  | (apply Cfg.get (i := 9) <;> first | assumption | kxs_still)
  | (apply Cfg.get (i := 0) <;> first | (apply Bfg.toCfg; assumption) | kxs_still)
  | (apply Cfg.get (i := 1) <;> first | (apply Bfg.toCfg; assumption) | kxs_still)
  | (apply Cfg.get (i := 2) <;> first | (apply Bfg.toCfg; assumption) | kxs_still)
  | (apply Cfg.get (i := 3) <;> first | (apply Bfg.toCfg; assumption) | kxs_still)
  | (apply Cfg.get (i := 4) <;> first | (apply Bfg.toCfg; assumption) | kxs_still)
  | (apply Cfg.get (i := 5) <;> first | (apply Bfg.toCfg; assumption) | kxs_still)
  | (apply Cfg.get (i := 6) <;> first | (apply Bfg.toCfg; assumption) | kxs_still)
  | (apply Cfg.get (i := 7) <;> first | (apply Bfg.toCfg; assumption) | kxs_still)
  | (apply Cfg.get (i := 8) <;> first | (apply Bfg.toCfg; assumption) | kxs_still)
  | (apply Cfg.get (i := 9) <;> first | (apply Bfg.toCfg; assumption) | kxs_still))
local macro_rules | `(tactic| kas_types) => `(tactic| first
  | assumption | decide | omega | exact Or.inl (by omega) | exact Or.inr (by omega) | exact ⟨by omega, by omega⟩ | exact ⟨by omega, by omega, by omega⟩)
local macro_rules | `(tactic| keq_hits) => `(tactic| simp only [u_var, u_c, u_op, u_un, u_test, u_tB, u_bl, u_I0, u_eqS, u_eqI, u_neS, u_neI, u_seq, u_next, u_asg, u_name, u_ret, u_retN, u_drop, u_ifS, u_ifE, u_and, u_or, u_not, u_andV, u_orV, u_notV, u_nil, u_cons, u_call, u_cb, u_tup, u_lst, u_sub, u_gNil, u_gCons, u_bm, u_m1, u_isS, u_sl, u_noPart, u_part, u_partk, u_par, u_par2, u_for, u_lc, u_rng1, u_itL, u_itT, u_yes, u_fldI, u_putI, u_newI, u_methI, u_make, u_some, u_i0, u_i1, u_K, L2.start, wipe, List.map_cons, List.map_nil, List.length_cons, List.length_nil, List.replicate_succ, List.replicate_zero, List.cons_append, List.nil_append, List.set_cons_zero, List.set_cons_succ, ite_true, ite_false, if_true, if_false, Bool.false_eq_true, colV, washV, kindV, teamV, rowV, coolV, deedV, batRef_none, batRef_some, u_par3, u_par33, u_augI, u_dget, u_din, u_dnotin, u_dget2, u_dget1, u_dpop1, u_dput, u_setD, u_dnewK, u_dnewT, decide_true, decide_false, Bool.not_true, Bool.not_false, Option.map_none, Option.map_some, Option.isSome_none, Option.isSome_some, Option.getD_some, Option.getD_none, vn_non, vn_ref, vn_str, vn_int, wd_fill_fill, wd_fill_gather, wd_fill_wash, wd_fill_empty, wd_fill_break, wd_fill_new, wd_gather_fill, wd_gather_gather, wd_gather_wash, wd_gather_empty, wd_gather_break, wd_gather_new, wd_wash_fill, wd_wash_gather, wd_wash_wash, wd_wash_empty, wd_wash_break, wd_wash_new, wd_empty_fill, wd_empty_gather, wd_empty_wash, wd_empty_empty, wd_empty_break, wd_empty_new, wd_break_fill, wd_break_gather, wd_break_wash, wd_break_empty, wd_break_break, wd_break_new, wd_new_fill, wd_new_gather, wd_new_wash, wd_new_empty, wd_new_break, wd_new_new, wd_nil, wd_none, wd_broken, wd_busy, wd_glass, wd_name, wd_cold, wd_rank, wd_less, wd_full, wd_whole, inw_fill, inw_gather, inw_wash, inw_empty, inw_break, inw_new, eq_self, true_and, and_true])
local macro_rules | `(tactic| nested_keys) => `(tactic| repeat first
  | (with_reducible apply w_nx)
  | (with_reducible apply w_blk)
  | (with_reducible apply w_I; (· with_unfolding_all kas_types))
  | (with_reducible apply w_ixT; (· lcg_sub); (· kxs_still))
  | (with_reducible apply w_ixL; (· lcg_sub); (· kxs_still))
  | (with_reducible apply w_fldI; (· lcg_sub); (· kxs_still))
  | (with_reducible apply w_methI; (· lcg_sub))
  | (with_reducible apply w_augO; (· lcg_sub); (· kxs_still))
  | (with_reducible apply w_dgetS; (· lcg_sub); (· assumption))
  | (with_reducible apply w_dinS; (· lcg_sub))
  | (with_reducible apply w_dnotinS; (· lcg_sub))
  | (with_reducible apply w_isD; (· lcg_sub))
  | (with_reducible apply w_inT; (· lcg_sub); (· with_unfolding_all rfl))
  | (with_reducible apply w_sz; (· with_unfolding_all exact Nat.le_of_ble_eq_true rfl))
  | (with_reducible apply w_gTup; (· lcg_sub); (· kxs_still))
  | (with_reducible apply w_tyL; (· lcg_sub))
  | (with_reducible apply w_rng1k; (· with_unfolding_all kas_types); (· with_unfolding_all kas_types))
  | (with_reducible apply w_itLk; (· lcg_sub))
  | (with_reducible apply w_itTk; (· lcg_sub))
  | (with_reducible apply w_lenL; (· lcg_sub))
  | (with_reducible apply w_lenT; (· lcg_sub))
  | (with_reducible apply w_lenS; (· with_unfolding_all kas_types))
  | (with_reducible apply w_ixaL; (· lcg_sub); (· kxs_still))
  | (with_reducible apply w_ixaT; (· lcg_sub); (· kxs_still))
  | (with_reducible apply w_ixaS; (· with_unfolding_all kas_types); (· kxs_still))
  | (with_reducible apply w_ixS; (· with_unfolding_all kas_types); (· kxs_still))
  | (with_reducible apply w_slL; (· lcg_sub))
  | (with_reducible apply w_slS; (· with_unfolding_all kas_types))
  | (with_reducible apply w_addS; (· with_unfolding_all kas_types))
  | (with_reducible apply w_listL; (· lcg_sub))
  | (with_reducible apply w_tupL; (· lcg_sub))
  | (with_reducible apply w_divmod; (· with_unfolding_all kas_types))
  | (simp only [u_var, u_c, u_op, u_un, u_test, u_tB, u_bl, u_I0, u_eqS, u_eqI, u_neS, u_neI, u_seq, u_next, u_asg, u_name, u_ret, u_retN, u_drop, u_ifS, u_ifE, u_and, u_or, u_not, u_andV, u_orV, u_notV, u_nil, u_cons, u_call, u_cb, u_tup, u_lst, u_sub, u_gNil, u_gCons, u_bm, u_m1, u_isS, u_sl, u_noPart, u_part, u_partk, u_par, u_par2, u_for, u_lc, u_rng1, u_itL, u_itT, u_yes, u_fldI, u_putI, u_newI, u_methI, u_make, u_some, u_i0, u_i1, u_K, L2.start, wipe, List.map_cons, List.map_nil, List.length_cons, List.length_nil, List.replicate_succ, List.replicate_zero, List.cons_append, List.nil_append, List.set_cons_zero, List.set_cons_succ, ite_true, ite_false, if_true, if_false, Bool.false_eq_true, colV, washV, kindV, teamV, rowV, coolV, deedV, batRef_none, batRef_some, u_par3, u_par33, u_augI, u_dget, u_din, u_dnotin, u_dget2, u_dget1, u_dpop1, u_dput, u_setD, u_dnewK, u_dnewT, decide_true, decide_false, Bool.not_true, Bool.not_false, Option.map_none, Option.map_some, Option.isSome_none, Option.isSome_some, Option.getD_some, Option.getD_none, vn_non, vn_ref, vn_str, vn_int, wd_fill_fill, wd_fill_gather, wd_fill_wash, wd_fill_empty, wd_fill_break, wd_fill_new, wd_gather_fill, wd_gather_gather, wd_gather_wash, wd_gather_empty, wd_gather_break, wd_gather_new, wd_wash_fill, wd_wash_gather, wd_wash_wash, wd_wash_empty, wd_wash_break, wd_wash_new, wd_empty_fill, wd_empty_gather, wd_empty_wash, wd_empty_empty, wd_empty_break, wd_empty_new, wd_break_fill, wd_break_gather, wd_break_wash, wd_break_empty, wd_break_break, wd_break_new, wd_new_fill, wd_new_gather, wd_new_wash, wd_new_empty, wd_new_break, wd_new_new, wd_nil, wd_none, wd_broken, wd_busy, wd_glass, wd_name, wd_cold, wd_rank, wd_less, wd_full, wd_whole, inw_fill, inw_gather, inw_wash, inw_empty, inw_break, inw_new, eq_self, true_and, and_true])
  | (with_reducible apply w_eq; (· kxs_still))
  | (with_reducible apply w_ne; (· kxs_still)))
section
variable {K : PySem.W.Frag} {h : Hall} {last : Int} {x : AccX} {S : Addr → Prop} {H0 H H' : Hp} {n n' : Nat} {a : Acc} {cls dls vls : List V} {B : Str → Addr}
/-- one of the account's own lists, dicts is written -/
theorem AccIn.wrD (i : AccIn K h last x S H0 n H a cls dls vls B) (j : Nat) {p : Addr} {o o' : HO} (hj : (accD K h last x cls dls vls (a.made.map madeE))[j]? = some (p, o)) (hs : S p ∨ H0 p = none) (ht : tagO o = false) (hu : ∀ xs, o ≠ .tup xs) :
    Cfg S H0 ((accD K h last x cls dls vls (a.made.map madeE)).set j (p, o')) (upd H p o') ∧ KnowX (upd H p o') h x ∧ (∀ s, s ∈ h.pots → PotAt K (upd H p o') (x.A s) (a.pots s) (B s)) ∧ Ts (upd H p o') coolV cls a.cool ∧ Ts (upd H p o') rowV dls a.rows := by
  have hp : H p = some o := i.cfg.get j hj
  have t : Tp H (upd H p o') := tp_wr hp hu
  refine ⟨i.cfg.wr j hj hu hs, i.know.up t, fun s hs => ?_, i.cool.mono t, i.rows.mono t⟩
  obtain ⟨⟨dx, hq⟩, hb⟩ := i.pots s hs
  refine ⟨⟨dx, by rw [upd_ne (tag_ne hq hp rfl ht).symm]; exact hq⟩, fun z hz => ?_⟩
  obtain ⟨dxb, hzb⟩ := hb z hz
  exact ⟨dxb, by rw [upd_ne (tag_ne hzb hp rfl ht).symm]; exact hzb⟩
theorem AccIn.setMade (i : AccIn K h last x S H0 n H a cls dls vls B) (k : Str × Str) (v : Int) : AccIn K h last x S H0 (n + 1) (upd H x.md (.dT (putK (a.made.map madeE) [.inr k.1, .inr k.2] (.int v)))) { a with made := putM a.made k v } cls dls vls B := by
  obtain ⟨c1, c2, c3, c4, c5⟩ := i.wrD (o' := .dT (putK (a.made.map madeE) [.inr k.1, .inr k.2] (.int v))) 5 rfl i.mine.2.1 rfl (fun _ z => by cases z)
  refine ⟨?_, c2, c3, i.apart, c4, c5, i.mine, i.minA, i.minB, by have := i.szc; omega, by have := i.szd; omega, by have := i.szv; omega, by have := i.szm; have := putM_len a.made k v; show (putM a.made k v).length ≤ n + 1; omega⟩
  show Cfg S H0 (accD K h last x cls dls vls ((putM a.made k v).map madeE)) _
  rw [show putM a.made k v = putM a.made (k.1, k.2) v from rfl, made_putK]
  exact c1
theorem AccIn.addCool (i : AccIn K h last x S H0 n H a cls dls vls B) {t : Addr} {c : Cool} (ht : H t = some (.tup (coolV c))) (hz : cls.length + 1 ≤ 60 * n) : AccIn K h last x S H0 n (upd H x.cl (.lst (cls ++ [.ref t]))) { a with cool := a.cool ++ [c] } (cls ++ [.ref t]) dls vls B := by
  obtain ⟨c1, c2, c3, c4, c5⟩ := i.wrD (o' := .lst (cls ++ [.ref t])) 4 rfl i.mine.1 rfl (fun _ z => by cases z)
  refine ⟨c1, c2, c3, i.apart, c4.snoc ?_, c5, i.mine, i.minA, i.minB, by rw [List.length_append]; exact hz, i.szd, i.szv, i.szm⟩
  exact tp_wr (i.cfg.get 4 rfl) (fun _ z => by cases z) _ _ ht
theorem AccIn.addRow (i : AccIn K h last x S H0 n H a cls dls vls B) {t : Addr} {r : Row} (ht : H t = some (.tup (rowV r))) (hz : dls.length + 1 ≤ n) : AccIn K h last x S H0 n (upd H x.dl (.lst (dls ++ [.ref t]))) { a with rows := a.rows ++ [r] } cls (dls ++ [.ref t]) vls B := by
  obtain ⟨c1, c2, c3, c4, c5⟩ := i.wrD (o' := .lst (dls ++ [.ref t])) 6 rfl i.mine.2.2.1 rfl (fun _ z => by cases z)
  refine ⟨c1, c2, c3, i.apart, c4, c5.snoc ?_, i.mine, i.minA, i.minB, i.szc, by rw [List.length_append]; exact hz, i.szv, i.szm⟩
  exact tp_wr (i.cfg.get 6 rfl) (fun _ z => by cases z) _ _ ht
theorem AccIn.addVoid (i : AccIn K h last x S H0 n H a cls dls vls B) {v : V} : AccIn K h last x S H0 (n + 1) (upd H x.vl (.lst (vls ++ [v]))) a cls dls (vls ++ [v]) B := by
  obtain ⟨c1, c2, c3, c4, c5⟩ := i.wrD (o' := .lst (vls ++ [v])) 7 rfl i.mine.2.2.2 rfl (fun _ z => by cases z)
  exact ⟨c1, c2, c3, i.apart, c4, c5, i.mine, i.minA, i.minB, by have := i.szc; omega, by have := i.szd; omega, by have := i.szv; rw [List.length_append]; simp; omega, by have := i.szm; omega⟩
end
theorem w_appW {H : Hp} {p : Addr} {xs : List V} {v : V} {QT : V → Hp → Prop} (h : H p = some (.lst xs)) (hz : xs.length < 100000) (q : QT .non (upd H p (.lst (xs ++ [v])))) : rAppend (.ref p) [v] H QT := ⟨p, xs, v, rfl, rfl, h, Nat.lt_of_lt_of_le hz (by decide), q⟩
theorem w_putW {H : Hp} {p b : Addr} {kvt : List (List Key × V)} {k : List Key} {v : V} {QH : Hp → Prop} (h : H p = some (.dT kvt)) (hb : H b = some (.tup (k.map kV))) (hl : kvt.length < 100000) (q : QH (upd H p (.dT (putK kvt k v)))) : rDPut (.ref p) (.ref b) v H QH :=
  ⟨p, _, rfl, .inr ⟨kvt, k, b, h, rfl, hb, Nat.lt_of_lt_of_le hl (by decide), rfl⟩, q⟩
theorem free_len (h : Hall) (cool : List Cool) (hour : Int) : (free h cool hour).length ≤ h.slots.toNat := by
  unfold free freeOf
  refine Nat.le_trans (List.length_filter_le _ _) ?_
  rw [rangeI_len]; exact Nat.le_refl _
def spGatherD (K : PySem.W.Frag) : Sp := fun vs H Q _ => ∃ (h : Hall) (last : Int) (x : AccX) (S : Addr → Prop) (H0 : Hp) (n : Nat) (a : Acc) (hour number : Int) (da : Addr) (t p kd : Str) (m : Int) (b : Bat), vs = [.ref x.pa, .int hour, .ref da] ∧ AccAt K h last x S H0 n H a ∧
  H da = some (.tup (deedV (.gather t p kd m))) ∧ n < 1000 ∧ 0 ≤ m ∧ hasNames h (.gather t p kd m) = true ∧ (a.pots p).bat = some b ∧ DoneTo K h last x S H0 n (midStep h a hour number (.gather t p kd m)) Q
theorem C_Account_gather_done {P : Program} {w : World} {K : PySem.W.Frag} {mg : Str → Option Value} {base : Heap} (T : Txt K mg) : MCal P w K mg base 2 (He.ga K "Account") "gather_done" ["self", "hour", "deed"] (spGatherD K) := by
  have C_Account_free_slots := C_Account_free_slots (P := P) (w := w) (base := base) T
  have C_Account_pot_of := C_Account_pot_of (P := P) (w := w) (base := base) T
  have C_PotNow_taken := C_PotNow_taken (P := P) (w := w) (base := base) T
  refine mcal_mk T 27 rfl T.m_Account_gather_done sc_Account_gather_done rfl rfl (fun _ _ _ _ _ _ us hl => match us, hl with | [_, _, _], _ => rfl) (fun vs H Q E h => ?_) (fun f cdv A outer s H vs Q E hr h => ?_)
  · obtain ⟨h, last, x, S, H0, n, a, hour, number, da, t, p, kd, m, b, rfl, hA, hd, hn, m0, hnm, hb, k⟩ := h
    rfl
  obtain ⟨h, last, x, S, H0, n, a, hour, number, da, t, p, kd, m, b, rfl, hA, hd, hn, m0, hnm, hb, k⟩ := h
  refine ⟨_, (pss_cons (ps_par3 (i := 3) (j := 4) (l := 5) rfl sc_Account_gather_done.nd rfl rfl rfl (by decide) (by decide) (by decide) rfl rfl rfl (pa_cons (pe_mcalI (ns := f_PotNow) (by decide +kernel) (pe_mcalI (ns := f_Account) (by decide +kernel) (pv 0) T.c_Account C_Account_pot_of hr (pa_cons (pv 2) pa_nil)) T.c_PotNow C_PotNow_taken hr (pa_cons (pe_ix (ix_tupK (K := K) rfl) (pv 2) pe_int (fun _ _ => rfl)) pa_nil)) (pa_cons (pe_ix (ix_tupK (K := K) rfl) (pv 2) pe_int (fun _ _ => rfl)) (pa_cons (pe_ix (ix_tupK (K := K) rfl) (pv 2) pe_int (fun _ _ => rfl)) pa_nil))) (by rfl))
 (pss_cons (ps_set (i := 6) sc_Account_gather_done.nd rfl (Or.inl rfl) (pe_tup (pa_cons (pv 4) (pa_cons (pe_fldI (i := 0) T.c_Batch T.n_Batch_colour nd_Batch rfl (pv 3) rfl) pa_nil))))
 (pss_cons (ps_dput (hu_of hr) (pe_fldI (i := 7) T.c_Account T.n_Account_made_by nd_Account rfl (pv 0) rfl) (pv 6) (pe_op op_add (pe_dget2 (hu_of hr) (pe_fldI (i := 7) T.c_Account T.n_Account_made_by nd_Account rfl (pv 0) rfl) (pv 6) pe_int ⟨by rfl, by rfl, by rfl, by rfl⟩) (pv 5)) rfl)
 (pss_cons (ps_for PassesOwn.never rfl (pi_listK (K := K) rfl (pe_slice (sl_listK (K := K) rfl) (pe_mcalI (ns := f_Account) (by decide +kernel) (pv 0) T.c_Account C_Account_free_slots hr (pa_cons (pv 1) pa_nil)) po_none (po_some (pv 5)))) (pg_name (i := 7) sc_Account_gather_done.nd rfl (Or.inl rfl)) (pss_one (ps_expr (pe_bmK (K := K) rfl PySem.F.plainAttrs_list PySem.F.slot_list_append PySem.F.type_list_append mt_appendM (pe_fldI (i := 6) T.c_Account T.n_Account_cooling_rows nd_Account rfl (pv 0) rfl) (pa_cons (pe_tup (pa_cons (pv 7) (pa_cons (pv 4) (pa_cons (pe_fldI (i := 0) T.c_Batch T.n_Batch_colour nd_Batch rfl (pv 3) rfl) (pa_cons (pe_op op_add (pv 1) (pe_ix (ix_tupK (K := K) rfl) (pe_dget (hu_of hr) (pe_fldI (i := 2) T.c_Account T.n_Account_known_kinds nd_Account rfl (pv 0) rfl) (pv 4) (fun _ _ => rfl)) pe_int (fun _ _ => rfl))) pa_nil))))) pa_nil)))))
 (pss_one (ps_ret (pe_tup (pa_cons (pv 5) (pa_cons (pv 3) pa_nil))))))))), ?_⟩
  obtain ⟨cls, dls, vls, B, hI⟩ := id hA
  have hacc := hI.acc
  obtain ⟨n1, hp, n3⟩ := names_gather hnm
  nested_keys
  refine ⟨h, last, x, S, H0, n, a, da, .gather t p kd m, rfl, hA, hd, hp, ?_⟩
  dsimp only [Deed.pot]
  have hpa := hI.pots p hp
  obtain ⟨⟨dxp, hpo⟩, hba⟩ := id hpa
  nested_keys
  refine ⟨x.A p, m, a.pots p, B p, b, rfl, hpa, hb, fun H1 hp1 hb1 k1 => ?_⟩
  have hI1 := hI.setPot hp (k1.mono fun y e => e.elim .inl fun e => .inr ⟨(by rw [hb]; exact fun z => by cases z), e⟩) hp1 fun _ => .inl ⟨rfl, (by rw [hb]; exact fun z => by cases z)⟩
  obtain ⟨dx1, hbo1⟩ := hb1
  have hd1 := k1.t _ _ hd
  nested_keys
  intro q hq
  have kq : Ex H1 (upd H1 q (.tup [.str kd, .str b.colour])) := Kp.new hq
  have hI2 := hI1.ex kq
  have hbo2 := kq.exget hbo1
  have hq2 : upd H1 q (.tup [.str kd, .str b.colour]) q = some (.tup [.str kd, .str b.colour]) := upd_same
  generalize upd H1 q (.tup [.str kd, .str b.colour]) = H2 at kq hI2 hbo2 hq2
  have hacc2 := hI2.acc
  have hmd2 : H2 x.md = some (.dT (a.made.map madeE)) := hI2.cfg.get 5 rfl
  nested_keys
  refine w_isDT hmd2 ?_
  nested_keys
  refine w_getOT (k := [.inr kd, .inr b.colour]) hmd2 hq2 ?_
  rw [made_get]
  nested_keys
  refine w_putW (k := [.inr kd, .inr b.colour]) hmd2 hq2 (by rw [List.length_map]; have := hI.szm; omega) ?_
  have hI3 := hI2.setMade (kd, b.colour) (getM a.made (kd, b.colour) + m)
  have hbo3 : upd H2 x.md (.dT (putK (a.made.map madeE) [.inr kd, .inr b.colour] (.int (getM a.made (kd, b.colour) + m)))) (B p) = some (batO K dx1 { b with left := b.left - m }) := by
    rw [upd_ne (tag_ne hbo2 hmd2 rfl rfl).symm]; exact hbo2
  have hI3 : AccIn K h last x S H0 (n + 1) (upd H2 x.md (.dT (putK (a.made.map madeE) [.inr kd, .inr b.colour] (.int (getM a.made (kd, b.colour) + m))))) { a with pots := updP a.pots p ((a.pots p).taken b m), made := putM a.made (kd, b.colour) (getM a.made (kd, b.colour) + m) } cls dls vls _ := hI3
  generalize upd H2 x.md (.dT (putK (a.made.map madeE) [.inr kd, .inr b.colour] (.int (getM a.made (kd, b.colour) + m)))) = H3 at hI3 hbo3
  have hacc3 := hI3.acc
  nested_keys
  refine ⟨h, last, x, S, H0, n + 1, _, hour, rfl, ⟨_, _, _, _, hI3⟩, by omega, fun fr H4 hfr k4 h4 => ?_⟩
  have hI4 := hI3.ex k4
  have hbo4 := k4.exget hbo3
  nested_keys
  rw [cut_take _ m0, ← List.map_take]
  intro sl hsl
  have k5 : Ex H4 (upd H4 sl (.lst (((free h a.cool hour).take m.toNat).map V.int))) := Kp.new hsl
  have hI5 := hI4.ex k5
  have hbo5 := k5.exget hbo4
  have h5 : upd H4 sl (.lst (((free h a.cool hour).take m.toNat).map V.int)) sl = some (.lst (((free h a.cool hour).take m.toNat).map V.int)) := upd_same
  generalize upd H4 sl (.lst (((free h a.cool hour).take m.toNat).map V.int)) = H5 at k5 hI5 hbo5 h5
  nested_keys
  have sl_cl : sl ≠ x.cl := fun e => by
    have q : H4 x.cl = some (.lst cls) := hI4.cfg.get 4 rfl
    rw [← e, hsl] at q; cases q
  refine for_list (K := K) (a := sl) (xs := ((free h a.cool hour).take m.toNat).map V.int) (fun i σ H' => ∃ (cls' : List V) (v7 : Option V), cls'.length = cls.length + i ∧ AccIn K h last x S H0 (n + 1) H' { a with pots := updP a.pots p ((a.pots p).taken b m), made := putM a.made (kd, b.colour) (getM a.made (kd, b.colour) + m), cool := a.cool ++ (newCool h a.cool hour kd b.colour m).take i } cls' dls vls (fun t => if t = p then B p else B t) ∧
      H' (B p) = some (batO K dx1 { b with left := b.left - m }) ∧ H' sl = some (.lst (((free h a.cool hour).take m.toNat).map V.int)) ∧ σ = [some (.ref x.pa), some (.int hour), some (.ref da), some (.ref (B p)), some (.str kd), some (.int m), some (.ref q), v7])
    ⟨cls, _, rfl, by rw [List.take_zero, List.append_nil]; exact hI5, hbo5, h5, rfl⟩ (fun i σ H' _ ⟨_, _, _, _, _, z, _⟩ => SqL.of z) ?_ ?_
  · rintro i v σ H' hv ⟨cls', v7, hcl, hI6, hbo6, hsl6, rfl⟩
    rw [List.getElem?_map] at hv
    obtain ⟨s, hs, rfl⟩ := Option.map_eq_some_iff.mp hv
    have hi : i < 60 := by
      have q := get_lt hs
      rw [List.length_take] at q
      have q2 := free_len h a.cool hour
      have q3 := hI.know.slots
      omega
    have hacc6 := hI6.acc
    have hkk6 := hI6.hkk
    have hcl6 := hI6.hcl
    obtain ⟨tk, hkind, htk⟩ := hI6.know.kind n3
    nested_keys
    intro tp htp
    have k7 : Ex H' (upd H' tp (.tup [.int s, .str kd, .str b.colour, .int (hour + coolOf h kd)])) := Kp.new htp
    have hI7 := hI6.ex k7
    have hbo7 := k7.exget hbo6
    have hsl7 := k7.exget hsl6
    have htp7 : upd H' tp (.tup [.int s, .str kd, .str b.colour, .int (hour + coolOf h kd)]) tp = some (.tup (coolV ⟨s, kd, b.colour, hour + coolOf h kd⟩)) := upd_same
    generalize upd H' tp (.tup [.int s, .str kd, .str b.colour, .int (hour + coolOf h kd)]) = H7 at k7 hI7 hbo7 hsl7 htp7
    have hcl7 := hI7.hcl
    have hszc := hI.szc
    refine w_appW hcl7 (by omega) ?_
    have hI8 := hI7.addCool htp7 (by omega)
    have en : (newCool h a.cool hour kd b.colour m).take (i + 1) = (newCool h a.cool hour kd b.colour m).take i ++ [⟨s, kd, b.colour, hour + coolOf h kd⟩] := take_snoc (by
      unfold newCool
      rw [List.getElem?_map, hs]; rfl)
    nested_keys
    refine ⟨cls' ++ [.ref tp], _, by rw [List.length_append]; simp; omega, ?_, ?_, ?_, rfl⟩
    · rw [en, ← List.append_assoc]
      exact hI8
    · rw [upd_ne (tag_ne hbo7 hcl7 rfl rfl).symm]; exact hbo7
    · rw [upd_ne sl_cl]; exact hsl7
  · rintro σ H' ⟨cls', v7, hcl, hI6, hbo6, hsl6, rfl⟩
    nested_keys
    intro r hr
    have em : midStep h a hour number (.gather t p kd m) = ({ a with pots := updP a.pots p ((a.pots p).taken b m), made := putM a.made (kd, b.colour) (getM a.made (kd, b.colour) + m), cool := a.cool ++ newCool h a.cool hour kd b.colour m }, m, some { b with left := b.left - m }) := by
      show (match (a.pots p).bat with
        | none => _
        | some b => _) = _
      rw [hb]
    rw [em] at k
    have kr : Ex H' (upd H' r (.tup [.int m, .ref (B p)])) := Kp.new hr
    have e : (newCool h a.cool hour kd b.colour m).take (((free h a.cool hour).take m.toNat).map V.int).length = newCool h a.cool hour kd b.colour m := List.take_of_length_le (by unfold newCool; rw [List.length_map, List.length_map]; exact Nat.le_refl _)
    rw [e] at hI6
    exact k r _ _ upd_same ⟨B p, dx1, rfl, kr.exget hbo6⟩ ⟨_, _, _, _, hI6.ex kr⟩

end K87

namespace K87
open PySem PySem.Spec PyProof.Rows L2
local macro_rules | `(tactic| kxs_still) => `(tactic| with_unfolding_all rfl)
local macro_rules | `(tactic| lcg_sub) => `(tactic| first
  | assumption
  | (apply Cfg.get (i := 0) <;> first | assumption | kxs_still)
  | (apply Cfg.get (i := 1) <;> first | assumption | kxs_still)
  | (apply Cfg.get (i := 2) <;> first | assumption | kxs_still)
  | (apply Cfg.get (i := 3) <;> first | assumption | kxs_still)
  | (apply Cfg.get (i := 4) <;> first | assumption | kxs_still)
  | (apply Cfg.get (i := 5) <;> first | assumption | kxs_still)
  | (apply Cfg.get (i := 6) <;> first | assumption | kxs_still)
  | (apply Cfg.get (i := 7) <;> first | assumption | kxs_still)
  | (apply Cfg.get (i := 8) <;> first | assumption | kxs_still)
  | (apply Cfg.get (i := 9) <;> first | assumption | kxs_still)
  | (apply Cfg.get (i := 0) <;> first | (apply Bfg.toCfg; assumption) | kxs_still)
  | (apply Cfg.get (i := 1) <;> first | (apply Bfg.toCfg; assumption) | kxs_still)
  | (apply Cfg.get (i := 2) <;> first | (apply Bfg.toCfg; assumption) | kxs_still)
  | (apply Cfg.get (i := 3) <;> first | (apply Bfg.toCfg; assumption) | kxs_still)
  | (apply Cfg.get (i := 4) <;> first | (apply Bfg.toCfg; assumption) | kxs_still)
  | (apply Cfg.get (i := 5) <;> first | (apply Bfg.toCfg; assumption) | kxs_still)
  | (apply Cfg.get (i := 6) <;> first | (apply Bfg.toCfg; assumption) | kxs_still)
  | (apply Cfg.get (i := 7) <;> first | (apply Bfg.toCfg; assumption) | kxs_still)
  | (apply Cfg.get (i := 8) <;> first | (apply Bfg.toCfg; assumption) | kxs_still)
  | (apply Cfg.get (i := 9) <;> first | (apply Bfg.toCfg; assumption) | kxs_still))
local macro_rules | `(tactic| kas_types) => `(tactic| first
  | assumption | decide | omega | exact Or.inl (by omega) | exact Or.inr (by omega) | exact ⟨by omega, by omega⟩ | exact ⟨by omega, by omega, by omega⟩)
local macro_rules | `(tactic| keq_hits) => `(tactic| simp only [u_var, u_c, u_op, u_un, u_test, u_tB, u_bl, u_I0, u_eqS, u_eqI, u_neS, u_neI, u_seq, u_next, u_asg, u_name, u_ret, u_retN, u_drop, u_ifS, u_ifE, u_and, u_or, u_not, u_andV, u_orV, u_notV, u_nil, u_cons, u_call, u_cb, u_tup, u_lst, u_sub, u_gNil, u_gCons, u_bm, u_m1, u_isS, u_sl, u_noPart, u_part, u_partk, u_par, u_par2, u_for, u_lc, u_rng1, u_itL, u_itT, u_yes, u_fldI, u_putI, u_newI, u_methI, u_make, u_some, u_i0, u_i1, u_K, L2.start, wipe, List.map_cons, List.map_nil, List.length_cons, List.length_nil, List.replicate_succ, List.replicate_zero, List.cons_append, List.nil_append, List.set_cons_zero, List.set_cons_succ, ite_true, ite_false, if_true, if_false, Bool.false_eq_true, colV, washV, kindV, teamV, rowV, coolV, deedV, batRef_none, batRef_some, u_par3, u_par33, u_augI, u_dget, u_din, u_dnotin, u_dget2, u_dget1, u_dpop1, u_dput, u_setD, u_dnewK, u_dnewT, decide_true, decide_false, Bool.not_true, Bool.not_false, Option.map_none, Option.map_some, Option.isSome_none, Option.isSome_some, Option.getD_some, Option.getD_none, vn_non, vn_ref, vn_str, vn_int, wd_fill_fill, wd_fill_gather, wd_fill_wash, wd_fill_empty, wd_fill_break, wd_fill_new, wd_gather_fill, wd_gather_gather, wd_gather_wash, wd_gather_empty, wd_gather_break, wd_gather_new, wd_wash_fill, wd_wash_gather, wd_wash_wash, wd_wash_empty, wd_wash_break, wd_wash_new, wd_empty_fill, wd_empty_gather, wd_empty_wash, wd_empty_empty, wd_empty_break, wd_empty_new, wd_break_fill, wd_break_gather, wd_break_wash, wd_break_empty, wd_break_break, wd_break_new, wd_new_fill, wd_new_gather, wd_new_wash, wd_new_empty, wd_new_break, wd_new_new, wd_nil, wd_none, wd_broken, wd_busy, wd_glass, wd_name, wd_cold, wd_rank, wd_less, wd_full, wd_whole, inw_fill, inw_gather, inw_wash, inw_empty, inw_break, inw_new, eq_self, true_and, and_true])
local macro_rules | `(tactic| nested_keys) => `(tactic| repeat first
  | (with_reducible apply w_nx)
  | (with_reducible apply w_blk)
  | (with_reducible apply w_I; (· with_unfolding_all kas_types))
  | (with_reducible apply w_ixT; (· lcg_sub); (· kxs_still))
  | (with_reducible apply w_ixL; (· lcg_sub); (· kxs_still))
  | (with_reducible apply w_fldI; (· lcg_sub); (· kxs_still))
  | (with_reducible apply w_methI; (· lcg_sub))
  | (with_reducible apply w_augO; (· lcg_sub); (· kxs_still))
  | (with_reducible apply w_dgetS; (· lcg_sub); (· assumption))
  | (with_reducible apply w_dinS; (· lcg_sub))
  | (with_reducible apply w_dnotinS; (· lcg_sub))
  | (with_reducible apply w_isD; (· lcg_sub))
  | (with_reducible apply w_inT; (· lcg_sub); (· with_unfolding_all rfl))
  | (with_reducible apply w_sz; (· with_unfolding_all exact Nat.le_of_ble_eq_true rfl))
  | (with_reducible apply w_gTup; (· lcg_sub); (· kxs_still))
  | (with_reducible apply w_tyL; (· lcg_sub))
  | (with_reducible apply w_rng1k; (· with_unfolding_all kas_types); (· with_unfolding_all kas_types))
  | (with_reducible apply w_itLk; (· lcg_sub))
  | (with_reducible apply w_itTk; (· lcg_sub))
  | (with_reducible apply w_lenL; (· lcg_sub))
  | (with_reducible apply w_lenT; (· lcg_sub))
  | (with_reducible apply w_lenS; (· with_unfolding_all kas_types))
  | (with_reducible apply w_ixaL; (· lcg_sub); (· kxs_still))
  | (with_reducible apply w_ixaT; (· lcg_sub); (· kxs_still))
  | (with_reducible apply w_ixaS; (· with_unfolding_all kas_types); (· kxs_still))
  | (with_reducible apply w_ixS; (· with_unfolding_all kas_types); (· kxs_still))
  | (with_reducible apply w_slL; (· lcg_sub))
  | (with_reducible apply w_slS; (· with_unfolding_all kas_types))
  | (with_reducible apply w_addS; (· with_unfolding_all kas_types))
  | (with_reducible apply w_listL; (· lcg_sub))
  | (with_reducible apply w_tupL; (· lcg_sub))
  | (with_reducible apply w_divmod; (· with_unfolding_all kas_types))
  | (simp only [u_var, u_c, u_op, u_un, u_test, u_tB, u_bl, u_I0, u_eqS, u_eqI, u_neS, u_neI, u_seq, u_next, u_asg, u_name, u_ret, u_retN, u_drop, u_ifS, u_ifE, u_and, u_or, u_not, u_andV, u_orV, u_notV, u_nil, u_cons, u_call, u_cb, u_tup, u_lst, u_sub, u_gNil, u_gCons, u_bm, u_m1, u_isS, u_sl, u_noPart, u_part, u_partk, u_par, u_par2, u_for, u_lc, u_rng1, u_itL, u_itT, u_yes, u_fldI, u_putI, u_newI, u_methI, u_make, u_some, u_i0, u_i1, u_K, L2.start, wipe, List.map_cons, List.map_nil, List.length_cons, List.length_nil, List.replicate_succ, List.replicate_zero, List.cons_append, List.nil_append, List.set_cons_zero, List.set_cons_succ, ite_true, ite_false, if_true, if_false, Bool.false_eq_true, colV, washV, kindV, teamV, rowV, coolV, deedV, batRef_none, batRef_some, u_par3, u_par33, u_augI, u_dget, u_din, u_dnotin, u_dget2, u_dget1, u_dpop1, u_dput, u_setD, u_dnewK, u_dnewT, decide_true, decide_false, Bool.not_true, Bool.not_false, Option.map_none, Option.map_some, Option.isSome_none, Option.isSome_some, Option.getD_some, Option.getD_none, vn_non, vn_ref, vn_str, vn_int, wd_fill_fill, wd_fill_gather, wd_fill_wash, wd_fill_empty, wd_fill_break, wd_fill_new, wd_gather_fill, wd_gather_gather, wd_gather_wash, wd_gather_empty, wd_gather_break, wd_gather_new, wd_wash_fill, wd_wash_gather, wd_wash_wash, wd_wash_empty, wd_wash_break, wd_wash_new, wd_empty_fill, wd_empty_gather, wd_empty_wash, wd_empty_empty, wd_empty_break, wd_empty_new, wd_break_fill, wd_break_gather, wd_break_wash, wd_break_empty, wd_break_break, wd_break_new, wd_new_fill, wd_new_gather, wd_new_wash, wd_new_empty, wd_new_break, wd_new_new, wd_nil, wd_none, wd_broken, wd_busy, wd_glass, wd_name, wd_cold, wd_rank, wd_less, wd_full, wd_whole, inw_fill, inw_gather, inw_wash, inw_empty, inw_break, inw_new, eq_self, true_and, and_true])
  | (with_reducible apply w_eq; (· kxs_still))
  | (with_reducible apply w_ne; (· kxs_still)))
theorem word_ne {w : Str} (h : decide (w = "") = false) : w ≠ "" := of_decide_eq_false h
theorem void_names {h : Hall} {a : Acc} {hour : Int} {d : Deed} (e : voidWord h a hour d = "") : hasNames h d = true := by
  unfold voidWord at e
  cases hn : hasNames h d with
  | true => rfl
  | false =>
    rw [hn] at e
    exact absurd e (word_ne wd_name)
theorem batchWord_nil {p : Pot} (e : p.batchWord = "") : p.whole = true ∧ ∃ b, p.bat = some b := by
  unfold Pot.batchWord at e
  cases hw : p.whole with
  | false => rw [hw] at e; exact absurd e (word_ne wd_broken)
  | true =>
    rw [hw] at e
    cases hb : p.bat with
    | none => rw [hb] at e; exact absurd e (word_ne wd_none)
    | some b => exact ⟨rfl, b, rfl⟩
theorem void_emp {h : Hall} {a : Acc} {hour : Int} {p : Str} (e : voidWord h a hour (.emp p) = "") : ∃ b, (a.pots p).bat = some b := by
  have hn := void_names e
  unfold voidWord at e
  rw [hn] at e
  exact (batchWord_nil e).2
theorem void_gather {h : Hall} {a : Acc} {hour : Int} {t p k : Str} {m : Int} (e : voidWord h a hour (.gather t p k m) = "") : ∃ b, (a.pots p).whole = true ∧ (a.pots p).bat = some b ∧ gatherWord h a hour t k m b = "" := by
  have hn := void_names e
  unfold voidWord at e
  rw [hn] at e
  have e : (match (a.pots p).whole, (a.pots p).bat with
    | true, some b => gatherWord h a hour t k m b
    | _, _ => (a.pots p).batchWord) = ("" : Str) := e
  cases hw : (a.pots p).whole with
  | false =>
    rw [hw] at e
    have q := (batchWord_nil e).1
    rw [hw] at q; cases q
  | true =>
    cases hb : (a.pots p).bat with
    | none =>
      rw [hw, hb] at e
      obtain ⟨_, b, q⟩ := batchWord_nil e
      rw [hb] at q; cases q
    | some b =>
      rw [hw, hb] at e
      exact ⟨b, rfl, rfl, e⟩
/-- numbers that a deed may name -/
def DeedOk : Deed → Prop
  | .gather _ _ _ m => 0 ≤ m
  | _ => True
def spDone (K : PySem.W.Frag) : Sp := fun vs H Q _ => ∃ (h : Hall) (last : Int) (x : AccX) (S : Addr → Prop) (H0 : Hp) (n : Nat) (a : Acc) (hour number : Int) (da : Addr) (d : Deed), vs = [.ref x.pa, .int hour, .int number, .ref da] ∧ AccAt K h last x S H0 n H a ∧
  H da = some (.tup (deedV d)) ∧ n < 1000 ∧ DeedOk d ∧ LastOk h a ∧ voidWord h a hour d = "" ∧ DoneTo K h last x S H0 n (midStep h a hour number d) Q
theorem C_Account_done {P : Program} {w : World} {K : PySem.W.Frag} {mg : Str → Option Value} {base : Heap} (T : Txt K mg) : MCal P w K mg base 6 (He.ga K "Account") "done" ["self", "hour", "number", "deed"] (spDone K) := by
  have C_Account_break_done := C_Account_break_done (P := P) (w := w) (base := base) T
  have C_Account_empty_done := C_Account_empty_done (P := P) (w := w) (base := base) T
  have C_Account_fill_done := C_Account_fill_done (P := P) (w := w) (base := base) T
  have C_Account_gather_done := C_Account_gather_done (P := P) (w := w) (base := base) T
  have C_Account_pot_of := C_Account_pot_of (P := P) (w := w) (base := base) T
  have C_PotNow_renew := C_PotNow_renew (P := P) (w := w) (base := base) T
  have C_PotNow_wash := C_PotNow_wash (P := P) (w := w) (base := base) T
  refine mcal_mk T 24 rfl T.m_Account_done sc_Account_done rfl rfl (fun _ _ _ _ _ _ us hl => match us, hl with | [_, _, _, _], _ => rfl) (fun vs H Q E h => ?_) (fun f cdv A outer s H vs Q E hr h => ?_)
  · obtain ⟨h, last, x, S, H0, n, a, hour, number, da, d, rfl, hA, hd, hn, hok, hl, hv, k⟩ := h
    rfl
  obtain ⟨h, last, x, S, H0, n, a, hour, number, da, d, rfl, hA, hd, hn, hok, hl, hv, k⟩ := h
  refine ⟨_, (pss_cons (ps_if (pt_cmpR op_eq (pe_ix (ix_seqK (K := K) rfl) (pv 3) pe_int (fun _ _ => rfl)) pe_str (nomark _)) (pss_one (ps_ret (pe_mcalI (ns := f_Account) (by decide +kernel) (pv 0) T.c_Account C_Account_fill_done hr (pa_cons (pv 1) (pa_cons (pv 2) (pa_cons (pv 3) pa_nil)))))) pss_nil)
 (pss_cons (ps_if (pt_cmpR op_eq (pe_ix (ix_seqK (K := K) rfl) (pv 3) pe_int (fun _ _ => rfl)) pe_str (nomark _)) (pss_one (ps_ret (pe_mcalI (ns := f_Account) (by decide +kernel) (pv 0) T.c_Account C_Account_gather_done (hr.mono (by decide)) (pa_cons (pv 1) (pa_cons (pv 3) pa_nil))))) pss_nil)
 (pss_cons (ps_if (pt_cmpR op_eq (pe_ix (ix_seqK (K := K) rfl) (pv 3) pe_int (fun _ _ => rfl)) pe_str (nomark _)) (pss_one (ps_ret (pe_mcalI (ns := f_Account) (by decide +kernel) (pv 0) T.c_Account C_Account_empty_done (hr.mono (by decide)) (pa_cons (pv 3) pa_nil)))) pss_nil)
 (pss_cons (ps_if (pt_cmpR op_eq (pe_ix (ix_seqK (K := K) rfl) (pv 3) pe_int (fun _ _ => rfl)) pe_str (nomark _)) (pss_one (ps_ret (pe_mcalI (ns := f_Account) (by decide +kernel) (pv 0) T.c_Account C_Account_break_done (hr.mono (by decide)) (pa_cons (pv 3) pa_nil)))) pss_nil)
 (pss_cons (ps_if (pt_cmpR op_eq (pe_ix (ix_seqK (K := K) rfl) (pv 3) pe_int (fun _ _ => rfl)) pe_str (nomark _)) (pss_one (ps_expr (pe_mcalI (ns := f_PotNow) (by decide +kernel) (pe_mcalI (ns := f_Account) (by decide +kernel) (pv 0) T.c_Account C_Account_pot_of (hr.mono (by decide)) (pa_cons (pv 3) pa_nil)) T.c_PotNow C_PotNow_wash (hr.mono (by decide)) (pa_cons (pv 1) (pa_cons (pe_ix (ix_seqK (K := K) rfl) (pv 3) pe_int (fun _ _ => rfl)) pa_nil))))) (pss_one (ps_expr (pe_mcalI (ns := f_PotNow) (by decide +kernel) (pe_mcalI (ns := f_Account) (by decide +kernel) (pv 0) T.c_Account C_Account_pot_of (hr.mono (by decide)) (pa_cons (pv 3) pa_nil)) T.c_PotNow C_PotNow_renew (hr.mono (by decide)) (pa_cons (pv 1) (pa_cons (pe_ix (ix_seqK (K := K) rfl) (pv 3) pe_int (fun _ _ => rfl)) pa_nil))))))
 (pss_one (ps_ret (pe_tup (pa_cons pe_int (pa_cons pe_non pa_nil)))))))))), ?_⟩
  obtain ⟨cls, dls, vls, B, hI⟩ := id hA
  have hacc := hI.acc
  have hnm := void_names hv
  have hp := names_pot hnm
  have hpa := hI.pots _ hp
  cases d with
  | fill p c =>
    nested_keys
    exact ⟨h, last, x, S, H0, n, a, hour, number, da, p, c, rfl, hA, hd, hnm, hl, k⟩
  | gather t p kd m =>
    obtain ⟨b, _, hb, _⟩ := void_gather hv
    nested_keys
    exact ⟨h, last, x, S, H0, n, a, hour, number, da, t, p, kd, m, b, rfl, hA, hd, hn, hok, hnm, hb, k⟩
  | emp p =>
    obtain ⟨b, hb⟩ := void_emp hv
    nested_keys
    exact ⟨h, last, x, S, H0, n, a, hour, number, da, p, b, rfl, hA, hd, hp, hb, k⟩
  | brk p =>
    nested_keys
    exact ⟨h, last, x, S, H0, n, a, hour, number, da, p, rfl, hA, hd, hp, k⟩
  | wash p hs =>
    obtain ⟨⟨dxp, hpo⟩, _⟩ := id hpa
    dsimp only [Deed.pot] at hpo hpa
    nested_keys
    refine ⟨h, last, x, S, H0, n, a, da, .wash p hs, rfl, hA, hd, hp, ?_⟩
    dsimp only [Deed.pot]
    nested_keys
    refine ⟨x.A p, hour, hs, a.pots p, B p, rfl, hpa, fun H1 hp1 k1 => ?_⟩
    have hI1 := hI.setPot hp (k1.mono fun y e => .inl e) hp1 fun z => .inl ⟨rfl, z⟩
    nested_keys
    intro q hq
    have kn : Ex H1 (upd H1 q (.tup [.int 0, .non])) := Kp.new hq
    exact k q _ _ upd_same rfl ⟨_, _, _, _, (hI1.ex kn).le (Nat.le_succ n)⟩
  | new p hs =>
    obtain ⟨⟨dxp, hpo⟩, _⟩ := id hpa
    dsimp only [Deed.pot] at hpo hpa
    nested_keys
    refine ⟨h, last, x, S, H0, n, a, da, .new p hs, rfl, hA, hd, hp, ?_⟩
    dsimp only [Deed.pot]
    nested_keys
    refine ⟨x.A p, hour, hs, a.pots p, B p, rfl, hpa, fun H1 hp1 k1 => ?_⟩
    have hI1 := hI.setPot hp (k1.mono fun y e => .inl e) hp1 fun z => .inl ⟨rfl, z⟩
    nested_keys
    intro q hq
    have kn : Ex H1 (upd H1 q (.tup [.int 0, .non])) := Kp.new hq
    exact k q _ _ upd_same rfl ⟨_, _, _, _, (hI1.ex kn).le (Nat.le_succ n)⟩
theorem mid_rows (h : Hall) (a : Acc) (hour number : Int) (d : Deed) : (midStep h a hour number d).1.rows = a.rows := by
  cases d with
  | fill p c =>
    show (match colRow h c with
      | none => (a, 0, none)
      | some r => _ : Acc × Int × Option Bat).1.rows = _
    cases colRow h c <;> rfl
  | gather t p k m =>
    show (match (a.pots p).bat with
      | none => (a, 0, none)
      | some b => _ : Acc × Int × Option Bat).1.rows = _
    cases (a.pots p).bat <;> rfl
  | emp p =>
    show (match (a.pots p).bat with
      | none => (a, 0, none)
      | some b => _ : Acc × Int × Option Bat).1.rows = _
    cases (a.pots p).bat <;> rfl
  | brk p => rfl
  | wash p _ => rfl
  | new p _ => rfl
def spGo (K : PySem.W.Frag) : Sp := fun vs H Q _ => ∃ (h : Hall) (last : Int) (x : AccX) (S : Addr → Prop) (H0 : Hp) (n : Nat) (a : Acc) (hour number : Int) (da : Addr) (d : Deed), vs = [.ref x.pa, .int hour, .int number, .ref da] ∧ AccAt K h last x S H0 n H a ∧
  H da = some (.tup (deedV d)) ∧ H0 da = some (.tup (deedV d)) ∧ n < 1000 ∧ DeedOk d ∧ LastOk h a ∧ ∀ H', AccAt K h last x S H0 (n + 1) H' (step h a ⟨hour, number, d⟩) → Q .non H'
theorem rowV_of (hour number : Int) (d : Deed) (many : Int) (t : Option Bat) : rowV (rowOf hour number d many t) = [.int hour, .int number, .str d.word, .str d.pot, .int many] ++ batWs t := by cases t <;> rfl
theorem C_Account_go {P : Program} {w : World} {K : PySem.W.Frag} {mg : Str → Option Value} {base : Heap} (T : Txt K mg) : MCal P w K mg base 7 (He.ga K "Account") "go" ["self", "hour", "number", "deed"] (spGo K) := by
  have C_Account_done := C_Account_done (P := P) (w := w) (base := base) T
  have C_Account_void_word := C_Account_void_word (P := P) (w := w) (base := base) T
  have C_batch_words := C_batch_words (P := P) (w := w) (base := base) T
  refine mcal_mk T 23 rfl T.m_Account_go sc_Account_go rfl rfl (fun _ _ _ _ _ _ us hl => match us, hl with | [_, _, _, _], _ => rfl) (fun vs H Q E h => ?_) (fun f cdv A outer s H vs Q E hr h => ?_)
  · obtain ⟨h, last, x, S, H0, n, a, hour, number, da, d, rfl, hA, hd, hd0, hn, hok, hl, k⟩ := h
    rfl
  obtain ⟨h, last, x, S, H0, n, a, hour, number, da, d, rfl, hA, hd, hd0, hn, hok, hl, k⟩ := h
  refine ⟨_, (pss_cons (ps_set (i := 4) sc_Account_go.nd rfl (Or.inl rfl) (pe_mcalI (ns := f_Account) (by decide +kernel) (pv 0) T.c_Account C_Account_void_word (hr.mono (by decide)) (pa_cons (pv 1) (pa_cons (pv 3) pa_nil))))
 (pss_cons (ps_if (pt_cmpR op_ne (pv 4) pe_str (nomark _)) (pss_cons (ps_expr (pe_bmK (K := K) rfl PySem.F.plainAttrs_list PySem.F.slot_list_append PySem.F.type_list_append mt_appendM (pe_fldI (i := 9) T.c_Account T.n_Account_void_rows nd_Account rfl (pv 0) rfl) (pa_cons (pe_tup (pa_cons (pv 1) (pa_cons (pv 2) (pa_cons (pv 4) pa_nil)))) pa_nil)))
 (pss_one ps_retN)) pss_nil)
 (pss_cons (ps_asg (pe_mcalI (ns := f_Account) (by decide +kernel) (pv 0) T.c_Account C_Account_done hr (pa_cons (pv 1) (pa_cons (pv 2) (pa_cons (pv 3) pa_nil)))) (pg_tupK (K := K) (n := 2) rfl rfl (pgs_cons (pg_name (i := 5) sc_Account_go.nd rfl (Or.inl rfl)) (pgs_cons (pg_name (i := 6) sc_Account_go.nd rfl (Or.inl rfl)) pgs_nil))))
 (pss_cons (ps_set (i := 7) sc_Account_go.nd rfl (Or.inl rfl) (pe_ifExp (pt_cmpR op_eq (pe_ix (ix_tupK (K := K) rfl) (pv 3) pe_int (fun _ _ => rfl)) pe_str (nomark _)) (pe_ix (ix_tupK (K := K) rfl) (pv 3) pe_int (fun _ _ => rfl)) (pe_ix (ix_tupK (K := K) rfl) (pv 3) pe_int (fun _ _ => rfl))))
 (pss_one (ps_expr (pe_bmK (K := K) rfl PySem.F.plainAttrs_list PySem.F.slot_list_append PySem.F.type_list_append mt_appendM (pe_fldI (i := 8) T.c_Account T.n_Account_done_rows nd_Account rfl (pv 0) rfl) (pa_cons (pe_op (op_catTK (K := K) rfl) (pe_tup (pa_cons (pv 1) (pa_cons (pv 2) (pa_cons (pe_ix (ix_tupK (K := K) rfl) (pv 3) pe_int (fun _ _ => rfl)) (pa_cons (pv 7) (pa_cons (pv 5) pa_nil)))))) (pe_cal C_batch_words (hr.mono (by decide)) rfl (pa_cons (pv 6) pa_nil))) pa_nil)))))))), ?_⟩
  nested_keys
  obtain ⟨cls, dls, vls, B, hI⟩ := id hA
  have hacc := hI.acc
  nested_keys
  refine ⟨h, last, x, S, H0, n, a, hour, da, d, rfl, hA, by omega, hd, fun H1 k1 => ?_⟩
  have hI1 := hI.ex k1
  have hd1 := k1.t _ _ hd
  have hacc1 := hI1.acc
  clear hacc
  unfold step at k
  nested_keys
  refine ite_nd (fun e => ?_) (fun e => ?_)
  · rw [if_neg e] at k
    have hvl1 : H1 x.vl = some (.lst vls) := hI1.cfg.get 7 rfl
    nested_keys
    intro q hq
    have hI2 := hI1.ex (Kp.new (o := .tup [.int hour, .int number, .str (voidWord h a hour d)]) hq)
    refine w_appW (hI2.cfg.get 7 rfl) (by have := hI2.szv; omega) ?_
    nested_keys
    exact k _ ⟨_, _, _, _, hI2.addVoid⟩
  · rw [if_pos e] at k
    nested_keys
    refine ⟨h, last, x, S, H0, n, a, hour, number, da, d, rfl, ⟨_, _, _, _, hI1⟩, hd1, hn, hok, hl, e, fun q v H2 hq hb hA2 => ?_⟩
    obtain ⟨cls2, dls2, vls2, B2, hI2⟩ := id hA2
    have hacc2 := hI2.acc
    have hd2 : H2 da = some (.tup (deedV d)) := hI2.cfg.kp.t _ _ hd0
    have hdl2 := hI2.hdl
    have em : doneStep h a hour number d = { (midStep h a hour number d).1 with rows := a.rows ++ [rowOf hour number d (midStep h a hour number d).2.1 (midStep h a hour number d).2.2] } := rfl
    rw [em] at k
    have er := mid_rows h a hour number d
    generalize midStep h a hour number d = r at *
    obtain ⟨a2, many, bt⟩ := r
    dsimp only at *
    have tail : ∀ σ2, New (HO.tup [.int hour, .int number, .str d.word, .str d.pot, .int many]) (fun x1 H1 => spWords K [v] H1 (fun y H2 => rCatT K x1 y H2 fun x2 H1 => rAppend (.ref x.dl) [x2] H1 fun _ H1 => Nx (fun _ H' => Q V.non H') σ2 H1) E0) H2 := by
      intro σ2 q5 h5
      have k5 : Ex H2 (upd H2 q5 (.tup [.int hour, .int number, .str d.word, .str d.pot, .int many])) := Kp.new h5
      have h5' : upd H2 q5 (.tup [.int hour, .int number, .str d.word, .str d.pot, .int many]) q5 = some (.tup [.int hour, .int number, .str d.word, .str d.pot, .int many]) := upd_same
      generalize upd H2 q5 (.tup [.int hour, .int number, .str d.word, .str d.pot, .int many]) = H5 at k5 h5'
      refine ⟨v, bt, rfl, hb.ex k5, fun H6 q6 h6 k6 => ?_⟩
      refine ⟨q5, q6, _, _, rfl, rfl, SqT.of (k6.t _ _ h5'), h6, by simp, ?_, fun z => ?_, fun _ r hr => ?_⟩
      · refine Nat.le_trans ?_ (show 7 ≤ sizeLine by decide)
        cases bt <;> exact Nat.le_refl 7
      · cases bt <;> cases z
      · have k7 : Ex H6 (upd H6 r (.tup (rowV (rowOf hour number d many bt)))) := Kp.new hr
        rw [← rowV_of]
        have hI7 := hI2.ex ((k5.trans k6).trans k7)
        have hr7 : upd H6 r (.tup (rowV (rowOf hour number d many bt))) r = some (.tup (rowV (rowOf hour number d many bt))) := upd_same
        generalize upd H6 r (.tup (rowV (rowOf hour number d many bt))) = H7 at k7 hI7 hr7
        have hz : dls2.length ≤ n := by
          rw [hI7.rows.len, er, ← hI.rows.len]; exact hI.szd
        refine w_appW hI7.hdl (by omega) ?_
        have q := hI7.addRow hr7 (by omega)
        rw [er] at q
        exact k _ ⟨_, _, _, _, q⟩
    cases d <;> (nested_keys; exact tail _)

end K87

namespace K87
open PySem PySem.Spec PyProof.Rows L2
local macro_rules | `(tactic| kxs_still) => `(tactic| with_unfolding_all rfl)
local macro_rules | `(tactic| lcg_sub) => `(tactic| first
  | assumption
  | (apply Cfg.get (i := 0) <;> first | assumption | kxs_still)
  | (apply Cfg.get (i := 1) <;> first | assumption | kxs_still)
  | (apply Cfg.get (i := 2) <;> first | assumption | kxs_still)
  | (apply Cfg.get (i := 3) <;> first | assumption | kxs_still)
  | (apply Cfg.get (i := 4) <;> first | assumption | kxs_still)
  | (apply Cfg.get (i := 5) <;> first | assumption | kxs_still)
  | (apply Cfg.get (i := 6) <;> first | assumption | kxs_still)
  | (apply Cfg.get (i := 7) <;> first | assumption | kxs_still)
  | (apply Cfg.get (i := 8) <;> first | assumption | kxs_still)
  | (apply Cfg.get (i := 9) <;> first | assumption | kxs_still)
  | (apply Cfg.get (i := 0) <;> first | (apply Bfg.toCfg; assumption) | kxs_still)
  | (apply Cfg.get (i := 1) <;> first | (apply Bfg.toCfg; assumption) | kxs_still)
  | (apply Cfg.get (i := 2) <;> first | (apply Bfg.toCfg; assumption) | kxs_still)
  | (apply Cfg.get (i := 3) <;> first | (apply Bfg.toCfg; assumption) | kxs_still)
  | (apply Cfg.get (i := 4) <;> first | (apply Bfg.toCfg; assumption) | kxs_still)
  | (apply Cfg.get (i := 5) <;> first | (apply Bfg.toCfg; assumption) | kxs_still)
  | (apply Cfg.get (i := 6) <;> first | (apply Bfg.toCfg; assumption) | kxs_still)
  | (apply Cfg.get (i := 7) <;> first | (apply Bfg.toCfg; assumption) | kxs_still)
  | (apply Cfg.get (i := 8) <;> first | (apply Bfg.toCfg; assumption) | kxs_still)
  | (apply Cfg.get (i := 9) <;> first | (apply Bfg.toCfg; assumption) | kxs_still))
local macro_rules | `(tactic| kas_types) => `(tactic| first
  | assumption | decide | omega | exact Or.inl (by omega) | exact Or.inr (by omega) | exact ⟨by omega, by omega⟩ | exact ⟨by omega, by omega, by omega⟩)
local macro_rules | `(tactic| keq_hits) => `(tactic| simp only [u_var, u_c, u_op, u_un, u_test, u_tB, u_bl, u_I0, u_eqS, u_eqI, u_neS, u_neI, u_seq, u_next, u_asg, u_name, u_ret, u_retN, u_drop, u_ifS, u_ifE, u_and, u_or, u_not, u_andV, u_orV, u_notV, u_nil, u_cons, u_call, u_cb, u_tup, u_lst, u_sub, u_gNil, u_gCons, u_bm, u_m1, u_isS, u_sl, u_noPart, u_part, u_partk, u_par, u_par2, u_for, u_lc, u_rng1, u_itL, u_itT, u_yes, u_fldI, u_putI, u_newI, u_methI, u_make, u_some, u_i0, u_i1, u_K, L2.start, wipe, List.map_cons, List.map_nil, List.length_cons, List.length_nil, List.replicate_succ, List.replicate_zero, List.cons_append, List.nil_append, List.set_cons_zero, List.set_cons_succ, ite_true, ite_false, if_true, if_false, Bool.false_eq_true, colV, washV, kindV, teamV, rowV, coolV, deedV, batRef_none, batRef_some, u_par3, u_par33, u_augI, u_dget, u_din, u_dnotin, u_dget2, u_dget1, u_dpop1, u_dput, u_setD, u_dnewK, u_dnewT, decide_true, decide_false, Bool.not_true, Bool.not_false, Option.map_none, Option.map_some, Option.isSome_none, Option.isSome_some, Option.getD_some, Option.getD_none, vn_non, vn_ref, vn_str, vn_int, wd_fill_fill, wd_fill_gather, wd_fill_wash, wd_fill_empty, wd_fill_break, wd_fill_new, wd_gather_fill, wd_gather_gather, wd_gather_wash, wd_gather_empty, wd_gather_break, wd_gather_new, wd_wash_fill, wd_wash_gather, wd_wash_wash, wd_wash_empty, wd_wash_break, wd_wash_new, wd_empty_fill, wd_empty_gather, wd_empty_wash, wd_empty_empty, wd_empty_break, wd_empty_new, wd_break_fill, wd_break_gather, wd_break_wash, wd_break_empty, wd_break_break, wd_break_new, wd_new_fill, wd_new_gather, wd_new_wash, wd_new_empty, wd_new_break, wd_new_new, wd_nil, wd_none, wd_broken, wd_busy, wd_glass, wd_name, wd_cold, wd_rank, wd_less, wd_full, wd_whole, inw_fill, inw_gather, inw_wash, inw_empty, inw_break, inw_new, u_itemsT, u_itemsK, u_keysK, u_lk, u_ckw, eq_self, true_and, and_true])
local macro_rules | `(tactic| nested_keys) => `(tactic| repeat first
  | (with_reducible apply w_nx)
  | (with_reducible apply w_blk)
  | (with_reducible apply w_I; (· with_unfolding_all kas_types))
  | (with_reducible apply w_ixT; (· lcg_sub); (· kxs_still))
  | (with_reducible apply w_ixL; (· lcg_sub); (· kxs_still))
  | (with_reducible apply w_fldI; (· lcg_sub); (· kxs_still))
  | (with_reducible apply w_methI; (· lcg_sub))
  | (with_reducible apply w_augO; (· lcg_sub); (· kxs_still))
  | (with_reducible apply w_dgetS; (· lcg_sub); (· assumption))
  | (with_reducible apply w_dinS; (· lcg_sub))
  | (with_reducible apply w_dnotinS; (· lcg_sub))
  | (with_reducible apply w_isD; (· lcg_sub))
  | (with_reducible apply w_inT; (· lcg_sub); (· with_unfolding_all rfl))
  | (with_reducible apply w_sz; (· with_unfolding_all exact Nat.le_of_ble_eq_true rfl))
  | (with_reducible apply w_gTup; (· lcg_sub); (· kxs_still))
  | (with_reducible apply w_tyL; (· lcg_sub))
  | (with_reducible apply w_rng1k; (· with_unfolding_all kas_types); (· with_unfolding_all kas_types))
  | (with_reducible apply w_itLk; (· lcg_sub))
  | (with_reducible apply w_itTk; (· lcg_sub))
  | (with_reducible apply w_lenL; (· lcg_sub))
  | (with_reducible apply w_lenT; (· lcg_sub))
  | (with_reducible apply w_lenS; (· with_unfolding_all kas_types))
  | (with_reducible apply w_ixaL; (· lcg_sub); (· kxs_still))
  | (with_reducible apply w_ixaT; (· lcg_sub); (· kxs_still))
  | (with_reducible apply w_ixaS; (· with_unfolding_all kas_types); (· kxs_still))
  | (with_reducible apply w_ixS; (· with_unfolding_all kas_types); (· kxs_still))
  | (with_reducible apply w_slL; (· lcg_sub))
  | (with_reducible apply w_slS; (· with_unfolding_all kas_types))
  | (with_reducible apply w_addS; (· with_unfolding_all kas_types))
  | (with_reducible apply w_listL; (· lcg_sub))
  | (with_reducible apply w_tupL; (· lcg_sub))
  | (with_reducible apply w_divmod; (· with_unfolding_all kas_types))
  | (simp only [u_var, u_c, u_op, u_un, u_test, u_tB, u_bl, u_I0, u_eqS, u_eqI, u_neS, u_neI, u_seq, u_next, u_asg, u_name, u_ret, u_retN, u_drop, u_ifS, u_ifE, u_and, u_or, u_not, u_andV, u_orV, u_notV, u_nil, u_cons, u_call, u_cb, u_tup, u_lst, u_sub, u_gNil, u_gCons, u_bm, u_m1, u_isS, u_sl, u_noPart, u_part, u_partk, u_par, u_par2, u_for, u_lc, u_rng1, u_itL, u_itT, u_yes, u_fldI, u_putI, u_newI, u_methI, u_make, u_some, u_i0, u_i1, u_K, L2.start, wipe, List.map_cons, List.map_nil, List.length_cons, List.length_nil, List.replicate_succ, List.replicate_zero, List.cons_append, List.nil_append, List.set_cons_zero, List.set_cons_succ, ite_true, ite_false, if_true, if_false, Bool.false_eq_true, colV, washV, kindV, teamV, rowV, coolV, deedV, batRef_none, batRef_some, u_par3, u_par33, u_augI, u_dget, u_din, u_dnotin, u_dget2, u_dget1, u_dpop1, u_dput, u_setD, u_dnewK, u_dnewT, decide_true, decide_false, Bool.not_true, Bool.not_false, Option.map_none, Option.map_some, Option.isSome_none, Option.isSome_some, Option.getD_some, Option.getD_none, vn_non, vn_ref, vn_str, vn_int, wd_fill_fill, wd_fill_gather, wd_fill_wash, wd_fill_empty, wd_fill_break, wd_fill_new, wd_gather_fill, wd_gather_gather, wd_gather_wash, wd_gather_empty, wd_gather_break, wd_gather_new, wd_wash_fill, wd_wash_gather, wd_wash_wash, wd_wash_empty, wd_wash_break, wd_wash_new, wd_empty_fill, wd_empty_gather, wd_empty_wash, wd_empty_empty, wd_empty_break, wd_empty_new, wd_break_fill, wd_break_gather, wd_break_wash, wd_break_empty, wd_break_break, wd_break_new, wd_new_fill, wd_new_gather, wd_new_wash, wd_new_empty, wd_new_break, wd_new_new, wd_nil, wd_none, wd_broken, wd_busy, wd_glass, wd_name, wd_cold, wd_rank, wd_less, wd_full, wd_whole, inw_fill, inw_gather, inw_wash, inw_empty, inw_break, inw_new, u_itemsT, u_itemsK, u_keysK, u_lk, u_ckw, eq_self, true_and, and_true])
  | (with_reducible apply w_eq; (· kxs_still))
  | (with_reducible apply w_ne; (· kxs_still)))
def spRows (K : PySem.W.Frag) : Sp := fun vs H Q _ => ∃ (h : Hall) (last : Int) (x : AccX) (S : Addr → Prop) (H0 : Hp) (n : Nat) (a : Acc), vs = [.ref x.pa] ∧ AccAt K h last x S H0 n H a ∧ ∀ p dls H', H p = none → Ex H H' → H' p = some (.lst dls) → Ts H' rowV dls a.rows → Q (.ref p) H'
theorem C_Account_rows {P : Program} {w : World} {K : PySem.W.Frag} {mg : Str → Option Value} {base : Heap} (T : Txt K mg) : MCal P w K mg base 1 (He.ga K "Account") "rows" ["self"] (spRows K) := by
  refine mcal_mk T 30 rfl T.m_Account_rows sc_Account_rows rfl rfl (fun _ _ _ _ _ _ us hl => match us, hl with | [_], _ => rfl) (fun vs H Q E h => ?_) (fun f cdv A outer s H vs Q E hr h => ?_)
  · obtain ⟨h, last, x, S, H0, n, a, rfl, hA, k⟩ := h
    rfl
  obtain ⟨h, last, x, S, H0, n, a, rfl, hA, k⟩ := h
  refine ⟨_, (pss_one (ps_ret (pe_callTy (call_listK (K := K) rfl) (by rfl) T.f_list (by decide +kernel) (pa_cons (pe_fldI (i := 8) T.c_Account T.n_Account_done_rows nd_Account rfl (pv 0) rfl) pa_nil)))), ?_⟩
  obtain ⟨cls, dls, vls, B, hI⟩ := id hA
  have hacc := hI.acc
  have hdl := hI.hdl
  nested_keys
  intro p hp
  have kp : Ex H (upd H p (.lst dls)) := Kp.new hp
  exact k p dls _ hp kp upd_same (hI.rows.mono kp.t)
def spLook (K : PySem.W.Frag) : Sp := fun vs H Q _ => ∃ (h : Hall) (last : Int) (x : AccX) (S : Addr → Prop) (H0 : Hp) (n : Nat) (a : Acc) (s : Str), vs = [.ref x.pa, .str s] ∧ AccAt K h last x S H0 n H a ∧ s ∈ h.pots ∧ Q (.ref (x.A s)) H
theorem C_Account_look_pot {P : Program} {w : World} {K : PySem.W.Frag} {mg : Str → Option Value} {base : Heap} (T : Txt K mg) : MCal P w K mg base 1 (He.ga K "Account") "look_pot" ["self", "name"] (spLook K) := by
  refine mcal_mk T 29 rfl T.m_Account_look_pot sc_Account_look_pot rfl rfl (fun _ _ _ _ _ _ us hl => match us, hl with | [_, _], _ => rfl) (fun vs H Q E h => ?_) (fun f cdv A outer s H vs Q E hr h => ?_)
  · obtain ⟨h, last, x, S, H0, n, a, s, rfl, hA, hs, k⟩ := h
    rfl
  obtain ⟨h, last, x, S, H0, n, a, s, rfl, hA, hs, k⟩ := h
  refine ⟨_, (pss_cons (ps_if (pt_cmp (pc_dnotin (hu_of hr) (pv 1) (pe_fldI (i := 4) T.c_Account T.n_Account_known_pots nd_Account rfl (pv 0) rfl))) (pss_one ps_never) pss_nil)
 (pss_one (ps_ret (pe_dget (hu_of hr) (pe_fldI (i := 4) T.c_Account T.n_Account_known_pots nd_Account rfl (pv 0) rfl) (pv 1) (fun _ _ => rfl))))), ?_⟩
  obtain ⟨cls, dls, vls, B, hI⟩ := id hA
  have hacc := hI.acc
  have hkp := hI.hkp
  have hpot := hI.know.pot hs
  nested_keys
  rw [hI.know.has_pot, decide_eq_true hs]
  nested_keys
  exact k
def spState (K : PySem.W.Frag) : Sp := fun vs H Q _ => ∃ (h : Hall) (last : Int) (x : AccX) (S : Addr → Prop) (H0 : Hp) (n : Nat) (a : Acc) (s : Str), vs = [.ref x.pa, .str s] ∧ AccAt K h last x S H0 n H a ∧ s ∈ h.pots ∧ Q (.str ((a.pots s).wordOf last)) H
theorem C_Account_state {P : Program} {w : World} {K : PySem.W.Frag} {mg : Str → Option Value} {base : Heap} (T : Txt K mg) : MCal P w K mg base 3 (He.ga K "Account") "state" ["self", "pot"] (spState K) := by
  have C_Account_look_pot := C_Account_look_pot (P := P) (w := w) (base := base) T
  have C_PotNow_word_of := C_PotNow_word_of (P := P) (w := w) (base := base) T
  refine mcal_mk T 31 rfl T.m_Account_state sc_Account_state rfl rfl (fun _ _ _ _ _ _ us hl => match us, hl with | [_, _], _ => rfl) (fun vs H Q E h => ?_) (fun f cdv A outer s H vs Q E hr h => ?_)
  · obtain ⟨h, last, x, S, H0, n, a, s, rfl, hA, hs, k⟩ := h
    rfl
  obtain ⟨h, last, x, S, H0, n, a, s, rfl, hA, hs, k⟩ := h
  refine ⟨_, (pss_one (ps_ret (pe_mcalI (ns := f_PotNow) (by decide +kernel) (pe_mcalI (ns := f_Account) (by decide +kernel) (pv 0) T.c_Account C_Account_look_pot (hr.mono (by decide)) (pa_cons (pv 1) pa_nil)) T.c_PotNow C_PotNow_word_of hr (pa_cons (pe_fldI (i := 0) T.c_Account T.n_Account_last_hour nd_Account rfl (pv 0) rfl) pa_nil)))), ?_⟩
  obtain ⟨cls, dls, vls, B, hI⟩ := id hA
  have hacc := hI.acc
  have hpa := hI.pots s hs
  obtain ⟨⟨dxp, hpo⟩, _⟩ := id hpa
  nested_keys
  refine ⟨h, last, x, S, H0, n, a, s, rfl, hA, hs, ?_⟩
  nested_keys
  exact ⟨_, last, _, _, rfl, hpa, k⟩
def GlassV (H : Hp) (v : V) : Option Bat → Prop
  | none => v = .non
  | some b => ∃ q, v = .ref q ∧ H q = some (.tup [.str b.colour, .int b.left, .int b.source])
def spGlass (K : PySem.W.Frag) : Sp := fun vs H Q _ => ∃ (h : Hall) (last : Int) (x : AccX) (S : Addr → Prop) (H0 : Hp) (n : Nat) (a : Acc) (s : Str), vs = [.ref x.pa, .str s] ∧ AccAt K h last x S H0 n H a ∧ s ∈ h.pots ∧ ∀ v H', Ex H H' → GlassV H' v (a.pots s).bat → Q v H'
theorem C_Account_glass {P : Program} {w : World} {K : PySem.W.Frag} {mg : Str → Option Value} {base : Heap} (T : Txt K mg) : MCal P w K mg base 2 (He.ga K "Account") "glass" ["self", "pot"] (spGlass K) := by
  have C_Account_look_pot := C_Account_look_pot (P := P) (w := w) (base := base) T
  refine mcal_mk T 32 rfl T.m_Account_glass sc_Account_glass rfl rfl (fun _ _ _ _ _ _ us hl => match us, hl with | [_, _], _ => rfl) (fun vs H Q E h => ?_) (fun f cdv A outer s H vs Q E hr h => ?_)
  · obtain ⟨h, last, x, S, H0, n, a, s, rfl, hA, hs, k⟩ := h
    rfl
  obtain ⟨h, last, x, S, H0, n, a, s, rfl, hA, hs, k⟩ := h
  refine ⟨_, (pss_cons (ps_set (i := 2) sc_Account_glass.nd rfl (Or.inl rfl) (pe_fldI (i := 1) T.c_PotNow T.n_PotNow_batch nd_PotNow rfl (pe_mcalI (ns := f_Account) (by decide +kernel) (pv 0) T.c_Account C_Account_look_pot hr (pa_cons (pv 1) pa_nil)) rfl))
 (pss_one (ps_ret (pe_ifExp (pt_cmpR op_isN (pv 2) pe_non (nomark _)) pe_non (pe_tup (pa_cons (pe_fldI (i := 0) T.c_Batch T.n_Batch_colour nd_Batch rfl (pv 2) rfl) (pa_cons (pe_fldI (i := 1) T.c_Batch T.n_Batch_left nd_Batch rfl (pv 2) rfl) (pa_cons (pe_fldI (i := 2) T.c_Batch T.n_Batch_source nd_Batch rfl (pv 2) rfl) pa_nil)))))))), ?_⟩
  obtain ⟨cls, dls, vls, B, hI⟩ := id hA
  have hacc := hI.acc
  have hpa := hI.pots s hs
  obtain ⟨⟨dxp, hpo⟩, hba⟩ := id hpa
  nested_keys
  refine ⟨h, last, x, S, H0, n, a, s, rfl, hA, hs, ?_⟩
  nested_keys
  cases hb : (a.pots s).bat with
  | none =>
    have er : batRef (a.pots s) (B s) = .non := by unfold batRef; rw [hb]
    rw [er]
    rw [hb] at k
    nested_keys
    exact k _ _ Kp.refl rfl
  | some b =>
    obtain ⟨dxb, hbo⟩ := hba b hb
    have er : batRef (a.pots s) (B s) = .ref (B s) := by unfold batRef; rw [hb]
    rw [er]
    rw [hb] at k
    nested_keys
    intro q hq
    have kq : Ex H (upd H q (.tup [.str b.colour, .int b.left, .int b.source])) := Kp.new hq
    exact k _ _ kq ⟨q, rfl, upd_same⟩
def pieceV (e : (Str × Str) × Int) : List V := [.str e.1.1, .str e.1.2, .int e.2]
def pieceK (e : (Str × Str) × Int) : List Key := [.inr e.1.1, .inr e.1.2]
def coolK (c : Cool) : List Key := [.inl c.slot]
def spTunnel (K : PySem.W.Frag) : Sp := fun vs H Q _ => ∃ (h : Hall) (last : Int) (x : AccX) (S : Addr → Prop) (H0 : Hp) (n : Nat) (a : Acc), vs = [.ref x.pa] ∧ AccAt K h last x S H0 n H a ∧ n ≤ 1000 ∧ ((active a.cool last).map (·.slot)).Nodup ∧
  ∀ p ys H', Ex H H' → H' p = some (.lst ys) → Ts H' coolV ys (srt coolK (active a.cool last)) → Q (.ref p) H'
theorem C_Account_tunnel {P : Program} {w : World} {K : PySem.W.Frag} {mg : Str → Option Value} {base : Heap} (T : Txt K mg) : MCal P w K mg base 1 (He.ga K "Account") "tunnel" ["self"] (spTunnel K) := by
  refine mcal_mk T 34 rfl T.m_Account_tunnel sc_Account_tunnel rfl rfl (fun _ _ _ _ _ _ us hl => match us, hl with | [_], _ => rfl) (fun vs H Q E h => ?_) (fun f cdv A outer s H vs Q E hr h => ?_)
  · obtain ⟨h, last, x, S, H0, n, a, rfl, hA, hn, hnd, k⟩ := h
    rfl
  obtain ⟨h, last, x, S, H0, n, a, rfl, hA, hn, hnd, k⟩ := h
  refine ⟨_, (pss_one (ps_ret (pe_callB (cr_sortedXK (K := K) rfl) (by rfl) T.f_sorted (by decide +kernel) (pa_cons (pe_lc (own := [("row", 1)]) rfl sc_Account_tunnel.nd (pi_listK (K := K) rfl (pe_fldI (i := 6) T.c_Account T.n_Account_cooling_rows nd_Account rfl (pv 0) rfl)) (blkOk_by (own := [("row", 1)]) (N := n_Account_tunnel) (sc := defScope s_Account_tunnel) (by decide +kernel)) (fun _ _ _ _ _ => (pg_name (i := 1) sc_Account_tunnel.nd rfl (Or.inl rfl))) (fun _ _ _ _ _ => (pts_one (pt_cmpR op_gt (pe_ix (ix_tupK (K := K) rfl) (pv 1) pe_int (fun _ _ => rfl)) (pe_fldI (i := 0) T.c_Account T.n_Account_last_hour nd_Account rfl (pv 0) rfl) (nomark _)))) (fun _ _ _ _ _ => (pv 1))) pa_nil)))), ?_⟩
  obtain ⟨cls, dls, vls, B, hI⟩ := id hA
  have hacc := hI.acc
  have hcl := hI.hcl
  have hsz := hI.szc
  have g : Cfg no H [] H := Cfg.nil
  nested_keys
  intro U hU
  refine lc_list (K := K) (a := x.cl) (xs := cls) (fun i H' => ∃ us, us.length ≤ i ∧ Cfg no H [(U, .lst us)] H' ∧ Ts H' coolV us (active (a.cool.take i) last)) ⟨[], Nat.le_refl _, g.new hU, Ts.nil⟩ (fun i H' _ ⟨us, _, g, _⟩ => SqL.of (g.kp.exget hcl)) ?_ ?_
  · rintro i v H' hv ⟨us, hus, g, ht⟩
    obtain ⟨c, t, hc, rfl, hct⟩ := hI.cool.get hv
    have hct := g.kp.t _ _ hct
    have hacc' := g.kp.exget hacc
    nested_keys
    have ea : active (a.cool.take (i + 1)) last = active (a.cool.take i) last ++ (if decide (last < c.out) = true then [c] else []) := filt_snoc hc
    rw [ea]
    refine ite_d (fun e => ?_) (fun e => ?_)
    · nested_keys
      have q := get_lt hv
      have gw := g.wr (o := .lst (us ++ [.ref t])) 0 rfl (fun _ z => by cases z) (.inr hU)
      refine ⟨_, g.hd, Nat.lt_of_lt_of_le (show us.length < 100000 by omega) (by decide), us ++ [V.ref t], by rw [List.length_append]; simp; omega, gw, ?_⟩
      rw [if_pos (decide_eq_true e)]
      have tw : Tp H' (upd H' U (.lst (us ++ [.ref t]))) := tp_wr g.hd (fun _ z => by cases z)
      exact (ht.mono tw).snoc (tw _ _ hct)
    · refine ⟨us, by omega, g, ?_⟩
      rw [if_neg (by simp [e]), List.append_nil]
      exact ht
  · rintro H1 ⟨us, hus, g, ht⟩
    rw [hI.cool.len, List.take_length] at ht
    nested_keys
    refine w_sortX (κ := coolK) (rest := fun c => [.str c.kind, .str c.colour, .int c.out]) g.hd ht (fun _ => rfl) (fun _ z => by cases z) (fun _ _ => rfl) ?_ fun ys p' hp' hts hl => ?_
    · have e : (active a.cool last).map coolK = ((active a.cool last).map (·.slot)).map (fun s => [(.inl s : Key)]) := by rw [List.map_map]; rfl
      rw [e]
      exact nd_map (fun a b h => Sum.inl.inj (List.cons.inj h).1) hnd
    · exact k p' ys _ (g.kp.trans (Kp.new hp')) upd_same hts
theorem lock_back {H H' : Hp} {d : Addr} {od : Obj} {u : HO} (h : H d = some u) (k : Ex (upd H d (.frz od u)) H') : Ex H (upd H' d u) := by
  refine ⟨fun b o e _ => ?_, fun b xs e => ?_, fun b e => ?_⟩
  · by_cases q : b = d
    · rw [q, upd_same, ← h, ← q]; exact e
    · rw [upd_ne q]; exact k.exget (by rw [upd_ne q]; exact e)
  · by_cases q : b = d
    · rw [q, upd_same, ← h, ← q]; exact e
    · rw [upd_ne q]; exact k.exget (by rw [upd_ne q]; exact e)
  · by_cases q : b = d
    · rw [q, upd_same] at e; cases e
    · rw [upd_ne q] at e
      have z := k.th b e
      rw [upd_ne q] at z; exact z
def spPieces (K : PySem.W.Frag) : Sp := fun vs H Q _ => ∃ (h : Hall) (last : Int) (x : AccX) (S : Addr → Prop) (H0 : Hp) (n : Nat) (a : Acc), vs = [.ref x.pa] ∧ AccAt K h last x S H0 n H a ∧ n ≤ 1000 ∧ (a.made.map (·.1)).Nodup ∧
  ∀ p ys H', Ex H H' → H' p = some (.lst ys) → Ts H' pieceV ys (srt pieceK a.made) → Q (.ref p) H'
theorem C_Account_pieces {P : Program} {w : World} {K : PySem.W.Frag} {mg : Str → Option Value} {base : Heap} (T : Txt K mg) : MCal P w K mg base 1 (He.ga K "Account") "pieces" ["self"] (spPieces K) := by
  refine mcal_mk T 33 rfl T.m_Account_pieces sc_Account_pieces rfl rfl (fun _ _ _ _ _ _ us hl => match us, hl with | [_], _ => rfl) (fun vs H Q E h => ?_) (fun f cdv A outer s H vs Q E hr h => ?_)
  · obtain ⟨h, last, x, S, H0, n, a, rfl, hA, hn, hnd, k⟩ := h
    rfl
  obtain ⟨h, last, x, S, H0, n, a, rfl, hA, hn, hnd, k⟩ := h
  refine ⟨_, (pss_one (ps_ret (pe_callB (cr_sortedXK (K := K) rfl) (by rfl) T.f_sorted (by decide +kernel) (pa_cons (pe_lock (pe_lc (own := [("made", 1), ("many", 2)]) rfl sc_Account_pieces.nd (pi_itemsT (pe_fldI (i := 7) T.c_Account T.n_Account_made_by nd_Account rfl (pv 0) rfl)) (blkOk_by (own := [("made", 1), ("many", 2)]) (N := n_Account_pieces) (sc := defScope s_Account_pieces) (by decide +kernel)) (fun _ _ _ _ _ => (pg_tupK (K := K) (n := 2) rfl rfl (pgs_cons (pg_name (i := 1) sc_Account_pieces.nd rfl (Or.inl rfl)) (pgs_cons (pg_name (i := 2) sc_Account_pieces.nd rfl (Or.inl rfl)) pgs_nil)))) (fun _ _ _ _ _ => pts_nil) (fun _ _ _ _ _ => (pe_op (op_catTK (K := K) rfl) (pv 1) (pe_tup (pa_cons (pv 2) pa_nil)))))) pa_nil)))), ?_⟩
  obtain ⟨cls, dls, vls, B, hI⟩ := id hA
  have hacc := hI.acc
  have hsz := hI.szm
  have hmd : H x.md = some (.dT (a.made.map madeE)) := hI.cfg.get 5 rfl
  nested_keys
  refine ⟨x.md, _, hmd, trivial, fun od => ?_⟩
  have ne1 : x.pa ≠ x.md := hI.cfg.ne 0 5 rfl rfl (by decide)
  have hacc1 : upd H x.md (.frz od (.dT (a.made.map madeE))) x.pa = some (accO K x last h.slots) := by rw [upd_ne ne1]; exact hacc
  have hmd1 : upd H x.md (.frz od (.dT (a.made.map madeE))) x.md = some (.frz od (.dT (a.made.map madeE))) := upd_same
  have back : ∀ H', Ex (upd H x.md (.frz od (.dT (a.made.map madeE)))) H' → Ex H (upd H' x.md (.dT (a.made.map madeE))) := fun H' k => lock_back hmd k
  generalize upd H x.md (.frz od (.dT (a.made.map madeE))) = G at hacc1 hmd1 back
  have g : Cfg no G [] G := Cfg.nil
  clear hacc
  nested_keys
  refine ⟨x.md, od, _, rfl, hmd1, ?_⟩
  intro U hU
  refine lc_it walk_itemsT (fun i H' => ∃ us, us.length ≤ i ∧ Cfg no G [(U, .lst us)] H' ∧ Ts H' pieceV us (a.made.take i)) ⟨[], Nat.le_refl _, g.new hU, Ts.nil⟩ (fun i H' _ ⟨us, _, g, _⟩ => g.kp.exget hmd1) ?_ ?_
  · rintro i v H' H2 hi ⟨us, hus, g, ht⟩ ⟨T, ks, u, q, hk, rfl, hq, hT, rfl⟩
    rw [List.length_map] at hi
    rw [List.getElem?_map] at hk
    obtain ⟨⟨⟨kd, c⟩, m⟩, he, e2⟩ := Option.map_eq_some_iff.mp hk
    cases e2
    have kT : Ex H' (upd H' T (.tup [.ref q, .int m])) := Kp.new hT
    have g := g.ex kT
    have ht := ht.mono kT.t
    have hq := kT.t _ _ hq
    have hT2 : upd H' T (.tup [.ref q, .int m]) T = some (.tup [.ref q, .int m]) := upd_same
    generalize upd H' T (.tup [.ref q, .int m]) = H3 at kT g ht hq hT2
    nested_keys
    intro p1 hp1
    have k1 : Ex H3 (upd H3 p1 (.tup [.int m])) := Kp.new hp1
    have h1 : upd H3 p1 (.tup [.int m]) p1 = some (.tup [.int m]) := upd_same
    have g := g.ex k1
    have ht := ht.mono k1.t
    have hq := k1.t _ _ hq
    generalize upd H3 p1 (.tup [.int m]) = H4 at k1 h1 g ht hq
    refine ⟨q, p1, _, _, rfl, rfl, SqT.of hq, SqT.of h1, (fun z => by cases z), (show 3 ≤ sizeLine by decide), (fun z => by cases z), fun _ r hr => ?_⟩
    have kr : Ex H4 (upd H4 r (.tup (pieceV ((kd, c), m)))) := Kp.new hr
    have hr2 : upd H4 r (.tup (pieceV ((kd, c), m))) r = some (.tup (pieceV ((kd, c), m))) := upd_same
    have g := g.ex kr
    have ht := ht.mono kr.t
    have gw := g.wr (o := .lst (us ++ [.ref r])) 0 rfl (fun _ z => by cases z) (.inr hU)
    refine ⟨us, g.hd, Nat.lt_of_lt_of_le (show us.length < 100000 by omega) (by decide), us ++ [V.ref r], by rw [List.length_append]; simp; omega, gw, ?_⟩
    rw [take_snoc he]
    have tw : Tp _ (upd (upd H4 r (.tup (pieceV ((kd, c), m)))) U (.lst (us ++ [.ref r]))) := tp_wr g.hd (fun _ z => by cases z)
    exact (ht.mono tw).snoc (tw _ _ hr2)
  · rintro H1 ⟨us, hus, g, ht⟩
    rw [List.length_map, List.take_length] at ht
    refine ⟨g.kp.exget hmd1, ?_⟩
    have kb := back H1 g.kp
    have U_md : U ≠ x.md := fun e => by rw [e, hmd1] at hU; cases hU
    have hU1 : upd H1 x.md (.dT (a.made.map madeE)) U = some (.lst us) := by rw [upd_ne U_md]; exact g.hd
    have ht1 : Ts (upd H1 x.md (.dT (a.made.map madeE))) pieceV us a.made := ht.mono fun b ys e => by
      rw [upd_ne (ne_of e (g.kp.exget hmd1) (fun z => by cases z))]; exact e
    refine w_sortX (κ := pieceK) (rest := fun e => [.int e.2]) hU1 ht1 (fun _ => rfl) (fun _ z => by cases z) (fun _ _ => rfl) ?_ fun ys p' hp' hts hl => ?_
    · have e : a.made.map pieceK = (a.made.map (·.1)).map (fun e => [(.inr e.1 : Key), .inr e.2]) := by rw [List.map_map]; rfl
      rw [e]
      exact nd_map (fun a b h => Prod.ext (Sum.inr.inj (List.cons.inj h).1) (Sum.inr.inj (List.cons.inj (List.cons.inj h).2).1)) hnd
    · exact k p' ys _ (kb.trans (Kp.new hp')) upd_same hts

end K87

namespace K87
open PySem PySem.Spec PyProof.Rows L2
local macro_rules | `(tactic| kxs_still) => `(tactic| with_unfolding_all rfl)
local macro_rules | `(tactic| lcg_sub) => `(tactic| first
  | assumption
  | (apply Cfg.get (i := 0) <;> first | assumption | kxs_still)
  | (apply Cfg.get (i := 1) <;> first | assumption | kxs_still)
  | (apply Cfg.get (i := 2) <;> first | assumption | kxs_still)
  | (apply Cfg.get (i := 3) <;> first | assumption | kxs_still)
  | (apply Cfg.get (i := 4) <;> first | assumption | kxs_still)
  | (apply Cfg.get (i := 5) <;> first | assumption | kxs_still)
  | (apply Cfg.get (i := 6) <;> first | assumption | kxs_still)
  | (apply Cfg.get (i := 7) <;> first | assumption | kxs_still)
  | (apply Cfg.get (i := 8) <;> first | assumption | kxs_still)
  | (apply Cfg.get (i := 9) <;> first | assumption | kxs_still)
  | (apply Cfg.get (i := 0) <;> first | (apply Bfg.toCfg; assumption) | kxs_still)
  | (apply Cfg.get (i := 1) <;> first | (apply Bfg.toCfg; assumption) | kxs_still)
  | (apply Cfg.get (i := 2) <;> first | (apply Bfg.toCfg; assumption) | kxs_still)
  | (apply Cfg.get (i := 3) <;> first | (apply Bfg.toCfg; assumption) | kxs_still)
  | (apply Cfg.get (i := 4) <;> first | (apply Bfg.toCfg; assumption) | kxs_still)
  | (apply Cfg.get (i := 5) <;> first | (apply Bfg.toCfg; assumption) | kxs_still)
  | (apply Cfg.get (i := 6) <;> first | (apply Bfg.toCfg; assumption) | kxs_still)
  | (apply Cfg.get (i := 7) <;> first | (apply Bfg.toCfg; assumption) | kxs_still)
  | (apply Cfg.get (i := 8) <;> first | (apply Bfg.toCfg; assumption) | kxs_still)
  | (apply Cfg.get (i := 9) <;> first | (apply Bfg.toCfg; assumption) | kxs_still))
local macro_rules | `(tactic| kas_types) => `(tactic| first
  | assumption | decide | omega | exact Or.inl (by omega) | exact Or.inr (by omega) | exact ⟨by omega, by omega⟩ | exact ⟨by omega, by omega, by omega⟩)
local macro_rules | `(tactic| keq_hits) => `(tactic| simp only [u_var, u_c, u_op, u_un, u_test, u_tB, u_bl, u_I0, u_eqS, u_eqI, u_neS, u_neI, u_seq, u_next, u_asg, u_name, u_ret, u_retN, u_drop, u_ifS, u_ifE, u_and, u_or, u_not, u_andV, u_orV, u_notV, u_nil, u_cons, u_call, u_cb, u_tup, u_lst, u_sub, u_gNil, u_gCons, u_bm, u_m1, u_isS, u_sl, u_noPart, u_part, u_partk, u_par, u_par2, u_for, u_lc, u_rng1, u_itL, u_itT, u_yes, u_fldI, u_putI, u_newI, u_methI, u_make, u_some, u_i0, u_i1, u_K, L2.start, wipe, List.map_cons, List.map_nil, List.length_cons, List.length_nil, List.replicate_succ, List.replicate_zero, List.cons_append, List.nil_append, List.set_cons_zero, List.set_cons_succ, ite_true, ite_false, if_true, if_false, Bool.false_eq_true, colV, washV, kindV, teamV, rowV, coolV, deedV, batRef_none, batRef_some, u_par3, u_par33, u_augI, u_dget, u_din, u_dnotin, u_dget2, u_dget1, u_dpop1, u_dput, u_setD, u_dnewK, u_dnewT, decide_true, decide_false, Bool.not_true, Bool.not_false, Option.map_none, Option.map_some, Option.isSome_none, Option.isSome_some, Option.getD_some, Option.getD_none, vn_non, vn_ref, vn_str, vn_int, wd_fill_fill, wd_fill_gather, wd_fill_wash, wd_fill_empty, wd_fill_break, wd_fill_new, wd_gather_fill, wd_gather_gather, wd_gather_wash, wd_gather_empty, wd_gather_break, wd_gather_new, wd_wash_fill, wd_wash_gather, wd_wash_wash, wd_wash_empty, wd_wash_break, wd_wash_new, wd_empty_fill, wd_empty_gather, wd_empty_wash, wd_empty_empty, wd_empty_break, wd_empty_new, wd_break_fill, wd_break_gather, wd_break_wash, wd_break_empty, wd_break_break, wd_break_new, wd_new_fill, wd_new_gather, wd_new_wash, wd_new_empty, wd_new_break, wd_new_new, wd_nil, wd_none, wd_broken, wd_busy, wd_glass, wd_name, wd_cold, wd_rank, wd_less, wd_full, wd_whole, inw_fill, inw_gather, inw_wash, inw_empty, inw_break, inw_new, u_itemsT, u_itemsK, u_keysK, u_lk, u_ckw, eq_self, true_and, and_true])
local macro_rules | `(tactic| nested_keys) => `(tactic| repeat first
  | (with_reducible apply w_nx)
  | (with_reducible apply w_blk)
  | (with_reducible apply w_I; (· with_unfolding_all kas_types))
  | (with_reducible apply w_ixT; (· lcg_sub); (· kxs_still))
  | (with_reducible apply w_ixL; (· lcg_sub); (· kxs_still))
  | (with_reducible apply w_fldI; (· lcg_sub); (· kxs_still))
  | (with_reducible apply w_methI; (· lcg_sub))
  | (with_reducible apply w_augO; (· lcg_sub); (· kxs_still))
  | (with_reducible apply w_dgetS; (· lcg_sub); (· assumption))
  | (with_reducible apply w_dinS; (· lcg_sub))
  | (with_reducible apply w_dnotinS; (· lcg_sub))
  | (with_reducible apply w_isD; (· lcg_sub))
  | (with_reducible apply w_inT; (· lcg_sub); (· with_unfolding_all rfl))
  | (with_reducible apply w_sz; (· with_unfolding_all exact Nat.le_of_ble_eq_true rfl))
  | (with_reducible apply w_gTup; (· lcg_sub); (· kxs_still))
  | (with_reducible apply w_tyL; (· lcg_sub))
  | (with_reducible apply w_rng1k; (· with_unfolding_all kas_types); (· with_unfolding_all kas_types))
  | (with_reducible apply w_itLk; (· lcg_sub))
  | (with_reducible apply w_itTk; (· lcg_sub))
  | (with_reducible apply w_lenL; (· lcg_sub))
  | (with_reducible apply w_lenT; (· lcg_sub))
  | (with_reducible apply w_lenS; (· with_unfolding_all kas_types))
  | (with_reducible apply w_ixaL; (· lcg_sub); (· kxs_still))
  | (with_reducible apply w_ixaT; (· lcg_sub); (· kxs_still))
  | (with_reducible apply w_ixaS; (· with_unfolding_all kas_types); (· kxs_still))
  | (with_reducible apply w_ixS; (· with_unfolding_all kas_types); (· kxs_still))
  | (with_reducible apply w_slL; (· lcg_sub))
  | (with_reducible apply w_slS; (· with_unfolding_all kas_types))
  | (with_reducible apply w_addS; (· with_unfolding_all kas_types))
  | (with_reducible apply w_listL; (· lcg_sub))
  | (with_reducible apply w_tupL; (· lcg_sub))
  | (with_reducible apply w_divmod; (· with_unfolding_all kas_types))
  | (simp only [u_var, u_c, u_op, u_un, u_test, u_tB, u_bl, u_I0, u_eqS, u_eqI, u_neS, u_neI, u_seq, u_next, u_asg, u_name, u_ret, u_retN, u_drop, u_ifS, u_ifE, u_and, u_or, u_not, u_andV, u_orV, u_notV, u_nil, u_cons, u_call, u_cb, u_tup, u_lst, u_sub, u_gNil, u_gCons, u_bm, u_m1, u_isS, u_sl, u_noPart, u_part, u_partk, u_par, u_par2, u_for, u_lc, u_rng1, u_itL, u_itT, u_yes, u_fldI, u_putI, u_newI, u_methI, u_make, u_some, u_i0, u_i1, u_K, L2.start, wipe, List.map_cons, List.map_nil, List.length_cons, List.length_nil, List.replicate_succ, List.replicate_zero, List.cons_append, List.nil_append, List.set_cons_zero, List.set_cons_succ, ite_true, ite_false, if_true, if_false, Bool.false_eq_true, colV, washV, kindV, teamV, rowV, coolV, deedV, batRef_none, batRef_some, u_par3, u_par33, u_augI, u_dget, u_din, u_dnotin, u_dget2, u_dget1, u_dpop1, u_dput, u_setD, u_dnewK, u_dnewT, decide_true, decide_false, Bool.not_true, Bool.not_false, Option.map_none, Option.map_some, Option.isSome_none, Option.isSome_some, Option.getD_some, Option.getD_none, vn_non, vn_ref, vn_str, vn_int, wd_fill_fill, wd_fill_gather, wd_fill_wash, wd_fill_empty, wd_fill_break, wd_fill_new, wd_gather_fill, wd_gather_gather, wd_gather_wash, wd_gather_empty, wd_gather_break, wd_gather_new, wd_wash_fill, wd_wash_gather, wd_wash_wash, wd_wash_empty, wd_wash_break, wd_wash_new, wd_empty_fill, wd_empty_gather, wd_empty_wash, wd_empty_empty, wd_empty_break, wd_empty_new, wd_break_fill, wd_break_gather, wd_break_wash, wd_break_empty, wd_break_break, wd_break_new, wd_new_fill, wd_new_gather, wd_new_wash, wd_new_empty, wd_new_break, wd_new_new, wd_nil, wd_none, wd_broken, wd_busy, wd_glass, wd_name, wd_cold, wd_rank, wd_less, wd_full, wd_whole, inw_fill, inw_gather, inw_wash, inw_empty, inw_break, inw_new, u_itemsT, u_itemsK, u_keysK, u_lk, u_ckw, eq_self, true_and, and_true])
  | (with_reducible apply w_eq; (· kxs_still))
  | (with_reducible apply w_ne; (· kxs_still)))
/-! ### entries -/
@[reducible] def entVs (e : Ent) (da : Addr) : List V := [.int e.number, .int e.hour, .ref da]
@[reducible] def entO (K : PySem.W.Frag) (dx : Addr) (e : Ent) (da : Addr) : HO := Ob (He.ga K "Entered") dx f_Entered (entVs e da)
def EntAt (K : PySem.W.Frag) (H : Hp) (v : V) (e : Ent) : Prop := ∃ a dx da, v = .ref a ∧ H a = some (entO K dx e da) ∧ H da = some (.tup (deedV e.deed))
def EntsAt (K : PySem.W.Frag) (H : Hp) (vs : List V) (es : List Ent) : Prop := Paired (EntAt K H) vs es
def numbered (es : List Ent) : Prop := es.map (·.number) = rangeI es.length
theorem EntAt.kp {K : PySem.W.Frag} {S : Addr → Prop} {H H' : Hp} {v : V} {e : Ent} (h : EntAt K H v e) (k : Kp S H H') (hs : ∀ a dx da, H a = some (entO K dx e da) → ¬ S a) : EntAt K H' v e := by
  obtain ⟨a, dx, da, e1, h1, h2⟩ := h
  exact ⟨a, dx, da, e1, k.get h1 (hs a dx da h1), k.t _ _ h2⟩
theorem EntsAt.ex {K : PySem.W.Frag} {H H' : Hp} {vs : List V} {es : List Ent} (h : EntsAt K H vs es) (k : Ex H H') : EntsAt K H' vs es := paired_mono h fun _ _ q => q.kp k fun _ _ _ _ z => z
def spEntInit (K : PySem.W.Frag) : Sp := fun vs H Q _ => ∃ (a dx da : Addr) (e : Ent), vs = [.ref a, .int e.number, .int e.hour, .ref da] ∧ H a = some (Ob (He.ga K "Entered") dx [] []) ∧ ∀ H', H' a = some (entO K dx e da) → Kp (fun x => x = a) H H' → Q .non H'
theorem C_Entered_init {P : Program} {w : World} {K : PySem.W.Frag} {mg : Str → Option Value} {base : Heap} (T : Txt K mg) : KCal P w K mg base 1 "Entered" (He.ga K "Entered") ["self", "number", "hour", "deed"] (spEntInit K) := by
  refine kcal_mk T 35 rfl T.g_Entered T.k_Entered sc_Entered_init rfl rfl (fun _ _ _ _ _ _ us hl => match us, hl with | [_, _, _, _], _ => rfl) (fun vs H Q E h => ?_) (fun f cdv A outer s H vs Q E hr h => ?_)
  · obtain ⟨a, dx, da, e, rfl, ha, k⟩ := h
    rfl
  obtain ⟨a, dx, da, e, rfl, ha, k⟩ := h
  refine ⟨_, (pss_cons (ps_newI (i := 0) T.c_Entered T.n_Entered_number nd_Entered rfl (pv 0) (pv 1) rfl)
 (pss_cons (ps_newI (i := 1) T.c_Entered T.n_Entered_hour nd_Entered rfl (pv 0) (pv 2) rfl)
 (pss_one (ps_newI (i := 2) T.c_Entered T.n_Entered_deed nd_Entered rfl (pv 0) (pv 3) rfl)))), ?_⟩
  have g : Cfg (fun x => x = a) H [(a, Ob (He.ga K "Entered") dx [] [])] H := Cfg.one ha
  nested_keys
  refine w_newI 0 g rfl rfl (by decide) (.inl rfl) fun H1 g => ?_
  nested_keys
  refine w_newI 0 g rfl rfl (by decide) (.inl rfl) fun H2 g => ?_
  nested_keys
  refine w_newI 0 g rfl rfl (by decide) (.inl rfl) fun H3 g => ?_
  nested_keys
  exact k H3 (g.get 0 rfl) g.kp
def spOwn (K : PySem.W.Frag) : Sp := fun vs H Q _ => ∃ (a dx da : Addr) (e : Ent), vs = [.ref a] ∧ H a = some (entO K dx e da) ∧ Q (.int e.number) H
theorem C_Entered_own_number {P : Program} {w : World} {K : PySem.W.Frag} {mg : Str → Option Value} {base : Heap} (T : Txt K mg) : MCal P w K mg base 1 (He.ga K "Entered") "own_number" ["self"] (spOwn K) := by
  refine mcal_mk T 36 rfl T.m_Entered_own_number sc_Entered_own_number rfl rfl (fun _ _ _ _ _ _ us hl => match us, hl with | [_], _ => rfl) (fun vs H Q E h => ?_) (fun f cdv A outer s H vs Q E hr h => ?_)
  · obtain ⟨a, dx, da, e, rfl, ha, k⟩ := h
    rfl
  obtain ⟨a, dx, da, e, rfl, ha, k⟩ := h
  refine ⟨_, (pss_one (ps_ret (pe_fldI (i := 0) T.c_Entered T.n_Entered_number nd_Entered rfl (pv 0) rfl))), ?_⟩
  nested_keys
  exact k
def spPutInto (K : PySem.W.Frag) : Sp := fun vs H Q _ => ∃ (a dx da d : Addr) (e : Ent) (kvs : List (Key × V)), vs = [.ref a, .ref d] ∧ H a = some (entO K dx e da) ∧ H d = some (.dK kvs) ∧ kvs.length ≤ 1000 ∧
  ∀ t H', H t = none → H' t = some (.tup [.int e.hour, .ref da]) → H' d = some (.dK (putK kvs (.inl e.number) (.ref t))) → Kp (fun x => x = d) H H' → Q .non H'
theorem C_Entered_put_into {P : Program} {w : World} {K : PySem.W.Frag} {mg : Str → Option Value} {base : Heap} (T : Txt K mg) : MCal P w K mg base 1 (He.ga K "Entered") "put_into" ["self", "known"] (spPutInto K) := by
  refine mcal_mk T 37 rfl T.m_Entered_put_into sc_Entered_put_into rfl rfl (fun _ _ _ _ _ _ us hl => match us, hl with | [_, _], _ => rfl) (fun vs H Q E h => ?_) (fun f cdv A outer s H vs Q E hr h => ?_)
  · obtain ⟨a, dx, da, d, e, kvs, rfl, ha, hd, hl, k⟩ := h
    rfl
  obtain ⟨a, dx, da, d, e, kvs, rfl, ha, hd, hl, k⟩ := h
  refine ⟨_, (pss_one (ps_dput (hu_of hr) (pv 1) (pe_fldI (i := 0) T.c_Entered T.n_Entered_number nd_Entered rfl (pv 0) rfl) (pe_tup (pa_cons (pe_fldI (i := 1) T.c_Entered T.n_Entered_hour nd_Entered rfl (pv 0) rfl) (pa_cons (pe_fldI (i := 2) T.c_Entered T.n_Entered_deed nd_Entered rfl (pv 0) rfl) pa_nil))) rfl)), ?_⟩
  have g : Cfg (fun x => x = d) H [(d, .dK kvs)] H := Cfg.one hd
  nested_keys
  refine w_new g fun t H1 ht g => ?_
  have ha1 := g.kp.get ha (ne_of ha hd (fun z => by cases z))
  nested_keys
  refine w_putN 1 g rfl (by omega) (.inl rfl) fun H2 g => ?_
  nested_keys
  exact k t H2 ht (g.get 0 rfl) (g.get 1 rfl) g.kp
/-- the known: by number -/
def KnownV (H : Hp) (kv : Key × V) (x : Ent × Addr) : Prop := kv.1 = .inl x.1.number ∧ ∃ t, kv.2 = .ref t ∧ H t = some (.tup [.int x.1.hour, .ref x.2])
def DeedsOf (H : Hp) (xs : List (Ent × Addr)) : Prop := ∀ x ∈ xs, H x.2 = some (.tup (deedV x.1.deed))
theorem range_nodup (n : Nat) : (rangeI n).Nodup := nd_map (fun _ _ h => Int.ofNat.inj h) List.nodup_range
theorem numbered.nd {es : List Ent} (h : numbered es) : (es.map (·.number)).Nodup := by rw [show es.map (·.number) = rangeI es.length from h]; exact range_nodup _
theorem valV_no {κ : Type} [DecidableEq κ] {kvs : List (κ × V)} {k : κ} (h : ∀ kv ∈ kvs, kv.1 ≠ k) : valV kvs k = none := by
  unfold valV
  rw [List.find?_eq_none.mpr fun kv m => by simpa using h kv m]
  rfl
theorem KnownV.kp {H H' : Hp} {kv : Key × V} {x : Ent × Addr} (h : KnownV H kv x) (t : Tp H H') : KnownV H' kv x := by
  obtain ⟨h1, a, h2, h3⟩ := h
  exact ⟨h1, a, h2, t _ _ h3⟩
def spKnown (K : PySem.W.Frag) : Sp := fun vs H Q _ => ∃ (l : Addr) (evs : List V) (es : List Ent), vs = [.ref l] ∧ H l = some (.lst evs) ∧ EntsAt K H evs es ∧ (es.map (·.number)).Nodup ∧ es.length ≤ 1000 ∧
  ∀ d kvs xs H', H d = none → Ex H H' → H' d = some (.dK kvs) → Paired (KnownV H') kvs xs → xs.map (·.1) = es → DeedsOf H' xs → Q (.ref d) H'
theorem C_known_by {P : Program} {w : World} {K : PySem.W.Frag} {mg : Str → Option Value} {base : Heap} (T : Txt K mg) : Cal P w K mg base 2 "known_by" ["some"] (spKnown K) := by
  have C_Entered_put_into := C_Entered_put_into (P := P) (w := w) (base := base) T
  refine cal_mk T 38 rfl T.g_known_by sc_known_by rfl rfl (fun _ _ _ _ _ _ us hl => match us, hl with | [_], _ => rfl) (fun vs H Q E h => ?_) (fun f cdv A outer s H vs Q E hr h => ?_)
  · obtain ⟨l, evs, es, rfl, hl, he, hnd, hn, k⟩ := h
    rfl
  obtain ⟨l, evs, es, rfl, hl, he, hnd, hn, k⟩ := h
  refine ⟨_, (pss_cons (ps_set (i := 1) sc_known_by.nd rfl (Or.inl rfl) pe_dnewK)
 (pss_cons (ps_for PassesOwn.never rfl (pi_listK (K := K) rfl (pv 0)) (pg_name (i := 2) sc_known_by.nd rfl (Or.inl rfl)) (pss_one (ps_expr (pe_mcalI (ns := f_Entered) (by decide +kernel) (pv 2) T.c_Entered C_Entered_put_into hr (pa_cons (pv 1) pa_nil)))))
 (pss_one (ps_ret (pv 1))))), ?_⟩
  have g : Cfg no H [] H := Cfg.nil
  have hlen : evs.length = es.length := Paired.length he
  nested_keys
  intro d hd
  have g := g.new (o := .dK []) hd
  nested_keys
  generalize upd H d (.dK []) = H1 at g
  have hl1 := g.kp.exget hl
  nested_keys
  refine for_list (K := K) (a := l) (xs := evs) (fun i σ H' => ∃ (kvs : List (Key × V)) (xs : List (Ent × Addr)) (v2 : Option V), Cfg no H [(d, .dK kvs)] H' ∧ Paired (KnownV H') kvs xs ∧ xs.map (·.1) = es.take i ∧ DeedsOf H' xs ∧ σ = [some (.ref l), some (.ref d), v2])
    ⟨[], [], _, g, .nil, rfl, (fun x m => by cases m), rfl⟩ (fun i σ H' _ ⟨_, _, _, g, _⟩ => SqL.of (g.kp.exget hl)) ?_ ?_
  · rintro i v σ H' hv ⟨kvs, xs, v2, g, hp, hx, hD, rfl⟩
    obtain ⟨e, hev, he1⟩ := paired_get he hv
    obtain ⟨a, dx, da, rfl, ha, hda⟩ := he1.kp g.kp fun _ _ _ _ z => z
    have hi := get_lt hv
    have xl : xs.length = i := by
      have q := congrArg List.length hx
      rw [List.length_map, List.length_take] at q
      omega
    have kl : kvs.length = i := by rw [Paired.length hp]; exact xl
    nested_keys
    refine ⟨a, dx, da, d, e, kvs, rfl, ha, g.get 0 rfl, by omega, fun t H2 ht h1 h2 k2 => ?_⟩
    nested_keys
    have enew : putK kvs (.inl e.number) (.ref t) = kvs ++ [(.inl e.number, .ref t)] := putK_new _ (valV_no fun kv m z => by
      obtain ⟨j, hj⟩ := List.mem_iff_getElem?.mp m
      obtain ⟨y, hy, hk1, _⟩ := paired_get hp hj
      have q1 : (es.take i)[j]? = some y.1 := by rw [← hx, List.getElem?_map, hy]; rfl
      have hji : j < i := by have := get_lt hj; omega
      rw [List.getElem?_take_of_lt hji] at q1
      have e1 : (es.map (·.number))[j]? = some e.number := by
        rw [List.getElem?_map, q1]
        exact congrArg some (Sum.inl.inj (hk1.symm.trans z))
      have e2 : (es.map (·.number))[i]? = some e.number := by rw [List.getElem?_map, hev]; rfl
      have := nd_ix hnd e1 e2
      omega)
    rw [enew] at h2
    refine ⟨kvs ++ [(.inl e.number, .ref t)], xs ++ [(e, da)], _, g.call1 0 rfl k2 h2 (.inr hd), paired_app (paired_mono hp fun _ _ q => q.kp k2.t) (.cons ⟨rfl, t, rfl, h1⟩ .nil), ?_, fun x m => ?_, rfl⟩
    · rw [List.map_append, hx, take_snoc hev]; rfl
    · rcases List.mem_append.mp m with m | m
      · exact k2.t _ _ (hD x m)
      · rw [List.mem_singleton.mp m]; exact k2.t _ _ hda
  · rintro σ H' ⟨kvs, xs, v2, g, hp, hx, hD, rfl⟩
    rw [hlen, List.take_length] at hx
    nested_keys
    exact k d kvs xs H' hd g.kp (g.get 0 rfl) hp hx hD
/-! ### the book -/
structure BookX where
  bk : Addr
  dx : Addr
  pal : Addr
  ki : Addr
  te : Addr
  po : Addr
  tl : Addr
@[reducible] def bookVs (x : BookX) (slots : Int) : List V := [.ref x.pal, .ref x.ki, .ref x.te, .ref x.po, .int slots, .ref x.tl]
@[reducible] def bookO (K : PySem.W.Frag) (x : BookX) (slots : Int) : HO := Ob (He.ga K "Book") x.dx f_Book (bookVs x slots)
/-- the parts of a hall that a book holds -/
structure HallX (H : Hp) (h : Hall) (pal ki te po : Addr) : Prop where
  pal : PalAt H pal h
  ki : ∃ kvs, H ki = some (.tup kvs) ∧ Ts H kindV kvs h.kinds
  te : ∃ o tvs, H te = some (.frz o (.tup tvs)) ∧ o.dict = none ∧ Ts H teamV tvs h.teams
  po : H po = some (.tup (h.pots.map V.str))
structure BookAt (K : PySem.W.Frag) (H : Hp) (x : BookX) (h : Hall) (es : List Ent) : Prop where
  bk : H x.bk = some (bookO K x h.slots)
  hall : HallX H h x.pal x.ki x.te x.po
  tl : ∃ evs, H x.tl = some (.lst evs) ∧ EntsAt K H evs es
  num : numbered es
  few : es.length ≤ 100
theorem HallX.kp {S : Addr → Prop} {H H' : Hp} {h : Hall} {pal ki te po : Addr} (x : HallX H h pal ki te po) (k : Kp S H H') (hs : ∀ o tvs, H te = some (.frz o (.tup tvs)) → ¬ S te) : HallX H' h pal ki te po := by
  obtain ⟨kvs, k1, k2⟩ := x.ki
  obtain ⟨o, tvs, t1, t2, t3⟩ := x.te
  exact ⟨x.pal.up k.t, ⟨kvs, k.t _ _ k1, k2.mono k.t⟩, ⟨o, tvs, k.get t1 (hs o tvs t1), t2, t3.mono k.t⟩, k.t _ _ x.po⟩
theorem BookAt.ex {K : PySem.W.Frag} {H H' : Hp} {x : BookX} {h : Hall} {es : List Ent} (b : BookAt K H x h es) (k : Ex H H') : BookAt K H' x h es := by
  obtain ⟨evs, h1, h2⟩ := b.tl
  exact ⟨k.exget b.bk, b.hall.kp k fun _ _ _ z => z, ⟨evs, k.exget h1, h2.ex k⟩, b.num, b.few⟩
/-- the next number is how many there are -/
theorem foldl_max_range : ∀ (n : Nat) (a : Int), 0 ≤ a → (rangeI n).foldl max a = if (n : Int) - 1 < a then a else (n : Int) - 1
  | 0, a, h => by
    show a = _
    rw [if_pos (by omega)]
  | n + 1, a, h => by
    have e : rangeI (n + 1) = rangeI n ++ [(n : Int)] := by unfold rangeI; rw [List.range_succ, List.map_append]; rfl
    rw [e, List.foldl_append, foldl_max_range n a h]
    show max _ (n : Int) = _
    by_cases h1 : (n : Int) - 1 < a
    · rw [if_pos h1]
      by_cases h2 : ((n + 1 : Nat) : Int) - 1 < a
      · rw [if_pos h2]; omega
      · rw [if_neg h2]; omega
    · rw [if_neg h1, if_neg (by omega)]; omega
def spNext (K : PySem.W.Frag) : Sp := fun vs H Q _ => ∃ (l : Addr) (evs : List V) (es : List Ent), vs = [.ref l] ∧ H l = some (.lst evs) ∧ EntsAt K H evs es ∧ numbered es ∧ es.length ≤ 1000 ∧ ∀ H', Ex H H' → Q (.int es.length) H'
theorem C_next_number {P : Program} {w : World} {K : PySem.W.Frag} {mg : Str → Option Value} {base : Heap} (T : Txt K mg) : Cal P w K mg base 2 "next_number" ["some"] (spNext K) := by
  have C_Entered_own_number := C_Entered_own_number (P := P) (w := w) (base := base) T
  refine cal_mk T 39 rfl T.g_next_number sc_next_number rfl rfl (fun _ _ _ _ _ _ us hl => match us, hl with | [_], _ => rfl) (fun vs H Q E h => ?_) (fun f cdv A outer s H vs Q E hr h => ?_)
  · obtain ⟨l, evs, es, rfl, hl, he, hnum, hn, k⟩ := h
    rfl
  obtain ⟨l, evs, es, rfl, hl, he, hnum, hn, k⟩ := h
  refine ⟨_, (pss_one (ps_ret (pe_op op_add (pe_callBK (call_maxDK (K := K) rfl rfl hr.units) rfl T.f_max (by decide +kernel) (pa_cons (pe_lc (own := [("one", 1)]) rfl sc_next_number.nd (pi_listK (K := K) rfl (pv 0)) (blkOk_by (own := [("one", 1)]) (N := n_next_number) (sc := defScope s_next_number) (by decide +kernel)) (fun _ _ _ _ _ => (pg_name (i := 1) sc_next_number.nd rfl (Or.inl rfl))) (fun _ _ _ _ _ => pts_nil) (fun _ _ _ _ _ => (pe_mcalI0 (ns := f_Entered) (by decide +kernel) (pv 1) T.c_Entered C_Entered_own_number hr))) pa_nil) (pk_cons (pe_un un_neg pe_int) pk_nil)) pe_int))), ?_⟩
  have g : Cfg no H [] H := Cfg.nil
  have hlen : evs.length = es.length := Paired.length he
  nested_keys
  intro U hU
  refine lc_list (K := K) (a := l) (xs := evs) (fun i H' => Cfg no H [(U, .lst (((es.take i).map (·.number)).map V.int))] H') (g.new hU) (fun i H' _ g => SqL.of (g.kp.exget hl)) ?_ ?_
  · intro i v H' hv g
    obtain ⟨e, hev, he1⟩ := paired_get he hv
    obtain ⟨a, dx, da, rfl, ha, hda⟩ := he1.kp g.kp fun _ _ _ _ z => z
    have hi := get_lt hv
    nested_keys
    refine ⟨a, dx, da, e, rfl, ha, ?_⟩
    refine ⟨_, g.hd, by rw [List.length_map, List.length_map, List.length_take]; exact Nat.lt_of_lt_of_le (show min i es.length < 100000 by omega) (by decide), ?_⟩
    rw [take_snoc hev, List.map_append, List.map_append]
    exact g.wr 0 rfl (fun _ z => by cases z) (.inr hU)
  · intro H1 g
    rw [hlen, List.take_length] at g
    nested_keys
    refine ⟨1, rfl, ?_⟩
    nested_keys
    refine ⟨U, es.map (·.number), -1, rfl, rfl, SqL.of (g.get 0 rfl), fun m hm => ?_⟩
    nested_keys
    have e : m + 1 = (es.length : Int) := by
      rcases hm with ⟨h0, rfl⟩ | ⟨n, r, h1, rfl⟩
      · rw [List.map_eq_nil_iff.mp h0]; rfl
      · rw [show es.map (·.number) = rangeI es.length from hnum] at h1
        cases hz : es.length with
        | zero => rw [hz] at h1; cases h1
        | succ z =>
          have e2 : rangeI (z + 1) = 0 :: (rangeI z).map (· + 1) := by
            unfold rangeI
            rw [List.range_succ_eq_map, List.map_cons, List.map_map, List.map_map]
            rfl
          have h2 : (rangeI es.length).foldl max 0 = r.foldl max n := by
            rw [h1, List.foldl_cons]
            rw [hz, e2] at h1
            rw [← (List.cons.inj h1).1]
            rfl
          rw [← h2, foldl_max_range _ 0 (by omega), hz]
          by_cases q : ((z + 1 : Nat) : Int) - 1 < 0
          · omega
          · rw [if_neg q]; omega
    rw [e]
    exact k H1 g.kp

end K87

namespace K87
open PySem PySem.Spec PyProof.Rows L2
local macro_rules | `(tactic| kxs_still) => `(tactic| with_unfolding_all rfl)
local macro_rules | `(tactic| lcg_sub) => `(tactic| first
  | assumption
  | (apply Cfg.get (i := 0) <;> first | assumption | kxs_still)
  | (apply Cfg.get (i := 1) <;> first | assumption | kxs_still)
  | (apply Cfg.get (i := 2) <;> first | assumption | kxs_still)
  | (apply Cfg.get (i := 3) <;> first | assumption | kxs_still)
  | (apply Cfg.get (i := 4) <;> first | assumption | kxs_still)
  | (apply Cfg.get (i := 5) <;> first | assumption | kxs_still)
  | (apply Cfg.get (i := 6) <;> first | assumption | kxs_still)
  | (apply Cfg.get (i := 7) <;> first | assumption | kxs_still)
  | (apply Cfg.get (i := 8) <;> first | assumption | kxs_still)
  | (apply Cfg.get (i := 9) <;> first | assumption | kxs_still)
  | (apply Cfg.get (i := 0) <;> first | (apply Bfg.toCfg; assumption) | kxs_still)
  | (apply Cfg.get (i := 1) <;> first | (apply Bfg.toCfg; assumption) | kxs_still)
  | (apply Cfg.get (i := 2) <;> first | (apply Bfg.toCfg; assumption) | kxs_still)
  | (apply Cfg.get (i := 3) <;> first | (apply Bfg.toCfg; assumption) | kxs_still)
  | (apply Cfg.get (i := 4) <;> first | (apply Bfg.toCfg; assumption) | kxs_still)
  | (apply Cfg.get (i := 5) <;> first | (apply Bfg.toCfg; assumption) | kxs_still)
  | (apply Cfg.get (i := 6) <;> first | (apply Bfg.toCfg; assumption) | kxs_still)
  | (apply Cfg.get (i := 7) <;> first | (apply Bfg.toCfg; assumption) | kxs_still)
  | (apply Cfg.get (i := 8) <;> first | (apply Bfg.toCfg; assumption) | kxs_still)
  | (apply Cfg.get (i := 9) <;> first | (apply Bfg.toCfg; assumption) | kxs_still))
local macro_rules | `(tactic| kas_types) => `(tactic| first
  | assumption | decide | omega | exact Or.inl (by omega) | exact Or.inr (by omega) | exact ⟨by omega, by omega⟩ | exact ⟨by omega, by omega, by omega⟩)
local macro_rules | `(tactic| keq_hits) => `(tactic| simp only [u_var, u_c, u_op, u_un, u_test, u_tB, u_bl, u_I0, u_eqS, u_eqI, u_neS, u_neI, u_seq, u_next, u_asg, u_name, u_ret, u_retN, u_drop, u_ifS, u_ifE, u_and, u_or, u_not, u_andV, u_orV, u_notV, u_nil, u_cons, u_call, u_cb, u_tup, u_lst, u_sub, u_gNil, u_gCons, u_bm, u_m1, u_isS, u_sl, u_noPart, u_part, u_partk, u_par, u_par2, u_for, u_lc, u_rng1, u_itL, u_itT, u_yes, u_fldI, u_putI, u_newI, u_methI, u_make, u_some, u_i0, u_i1, u_K, L2.start, wipe, List.map_cons, List.map_nil, List.length_cons, List.length_nil, List.replicate_succ, List.replicate_zero, List.cons_append, List.nil_append, List.set_cons_zero, List.set_cons_succ, ite_true, ite_false, if_true, if_false, Bool.false_eq_true, colV, washV, kindV, teamV, rowV, coolV, deedV, batRef_none, batRef_some, u_par3, u_par33, u_augI, u_dget, u_din, u_dnotin, u_dget2, u_dget1, u_dpop1, u_dput, u_setD, u_dnewK, u_dnewT, decide_true, decide_false, Bool.not_true, Bool.not_false, Option.map_none, Option.map_some, Option.isSome_none, Option.isSome_some, Option.getD_some, Option.getD_none, vn_non, vn_ref, vn_str, vn_int, wd_fill_fill, wd_fill_gather, wd_fill_wash, wd_fill_empty, wd_fill_break, wd_fill_new, wd_gather_fill, wd_gather_gather, wd_gather_wash, wd_gather_empty, wd_gather_break, wd_gather_new, wd_wash_fill, wd_wash_gather, wd_wash_wash, wd_wash_empty, wd_wash_break, wd_wash_new, wd_empty_fill, wd_empty_gather, wd_empty_wash, wd_empty_empty, wd_empty_break, wd_empty_new, wd_break_fill, wd_break_gather, wd_break_wash, wd_break_empty, wd_break_break, wd_break_new, wd_new_fill, wd_new_gather, wd_new_wash, wd_new_empty, wd_new_break, wd_new_new, wd_nil, wd_none, wd_broken, wd_busy, wd_glass, wd_name, wd_cold, wd_rank, wd_less, wd_full, wd_whole, inw_fill, inw_gather, inw_wash, inw_empty, inw_break, inw_new, u_itemsT, u_itemsK, u_keysK, u_lk, u_ckw, eq_self, true_and, and_true])
local macro_rules | `(tactic| nested_keys) => `(tactic| repeat first
  | (with_reducible apply w_nx)
  | (with_reducible apply w_blk)
  | (with_reducible apply w_I; (· with_unfolding_all kas_types))
  | (with_reducible apply w_ixT; (· lcg_sub); (· kxs_still))
  | (with_reducible apply w_ixL; (· lcg_sub); (· kxs_still))
  | (with_reducible apply w_fldI; (· lcg_sub); (· kxs_still))
  | (with_reducible apply w_methI; (· lcg_sub))
  | (with_reducible apply w_augO; (· lcg_sub); (· kxs_still))
  | (with_reducible apply w_dgetS; (· lcg_sub); (· assumption))
  | (with_reducible apply w_dinS; (· lcg_sub))
  | (with_reducible apply w_dnotinS; (· lcg_sub))
  | (with_reducible apply w_isD; (· lcg_sub))
  | (with_reducible apply w_inT; (· lcg_sub); (· with_unfolding_all rfl))
  | (with_reducible apply w_sz; (· with_unfolding_all exact Nat.le_of_ble_eq_true rfl))
  | (with_reducible apply w_gTup; (· lcg_sub); (· kxs_still))
  | (with_reducible apply w_tyL; (· lcg_sub))
  | (with_reducible apply w_rng1k; (· with_unfolding_all kas_types); (· with_unfolding_all kas_types))
  | (with_reducible apply w_itLk; (· lcg_sub))
  | (with_reducible apply w_itTk; (· lcg_sub))
  | (with_reducible apply w_lenL; (· lcg_sub))
  | (with_reducible apply w_lenT; (· lcg_sub))
  | (with_reducible apply w_lenS; (· with_unfolding_all kas_types))
  | (with_reducible apply w_ixaL; (· lcg_sub); (· kxs_still))
  | (with_reducible apply w_ixaT; (· lcg_sub); (· kxs_still))
  | (with_reducible apply w_ixaS; (· with_unfolding_all kas_types); (· kxs_still))
  | (with_reducible apply w_ixS; (· with_unfolding_all kas_types); (· kxs_still))
  | (with_reducible apply w_slL; (· lcg_sub))
  | (with_reducible apply w_slS; (· with_unfolding_all kas_types))
  | (with_reducible apply w_addS; (· with_unfolding_all kas_types))
  | (with_reducible apply w_listL; (· lcg_sub))
  | (with_reducible apply w_tupL; (· lcg_sub))
  | (with_reducible apply w_divmod; (· with_unfolding_all kas_types))
  | (simp only [u_var, u_c, u_op, u_un, u_test, u_tB, u_bl, u_I0, u_eqS, u_eqI, u_neS, u_neI, u_seq, u_next, u_asg, u_name, u_ret, u_retN, u_drop, u_ifS, u_ifE, u_and, u_or, u_not, u_andV, u_orV, u_notV, u_nil, u_cons, u_call, u_cb, u_tup, u_lst, u_sub, u_gNil, u_gCons, u_bm, u_m1, u_isS, u_sl, u_noPart, u_part, u_partk, u_par, u_par2, u_for, u_lc, u_rng1, u_itL, u_itT, u_yes, u_fldI, u_putI, u_newI, u_methI, u_make, u_some, u_i0, u_i1, u_K, L2.start, wipe, List.map_cons, List.map_nil, List.length_cons, List.length_nil, List.replicate_succ, List.replicate_zero, List.cons_append, List.nil_append, List.set_cons_zero, List.set_cons_succ, ite_true, ite_false, if_true, if_false, Bool.false_eq_true, colV, washV, kindV, teamV, rowV, coolV, deedV, batRef_none, batRef_some, u_par3, u_par33, u_augI, u_dget, u_din, u_dnotin, u_dget2, u_dget1, u_dpop1, u_dput, u_setD, u_dnewK, u_dnewT, decide_true, decide_false, Bool.not_true, Bool.not_false, Option.map_none, Option.map_some, Option.isSome_none, Option.isSome_some, Option.getD_some, Option.getD_none, vn_non, vn_ref, vn_str, vn_int, wd_fill_fill, wd_fill_gather, wd_fill_wash, wd_fill_empty, wd_fill_break, wd_fill_new, wd_gather_fill, wd_gather_gather, wd_gather_wash, wd_gather_empty, wd_gather_break, wd_gather_new, wd_wash_fill, wd_wash_gather, wd_wash_wash, wd_wash_empty, wd_wash_break, wd_wash_new, wd_empty_fill, wd_empty_gather, wd_empty_wash, wd_empty_empty, wd_empty_break, wd_empty_new, wd_break_fill, wd_break_gather, wd_break_wash, wd_break_empty, wd_break_break, wd_break_new, wd_new_fill, wd_new_gather, wd_new_wash, wd_new_empty, wd_new_break, wd_new_new, wd_nil, wd_none, wd_broken, wd_busy, wd_glass, wd_name, wd_cold, wd_rank, wd_less, wd_full, wd_whole, inw_fill, inw_gather, inw_wash, inw_empty, inw_break, inw_new, u_itemsT, u_itemsK, u_keysK, u_lk, u_ckw, eq_self, true_and, and_true])
  | (with_reducible apply w_eq; (· kxs_still))
  | (with_reducible apply w_ne; (· kxs_still)))
def spBookInit (K : PySem.W.Frag) : Sp := fun vs H Q _ => ∃ (x : BookX) (slots : Int), vs = [.ref x.bk, .ref x.pal, .ref x.ki, .ref x.te, .ref x.po, .int slots] ∧ H x.bk = some (Ob (He.ga K "Book") x.dx [] []) ∧
  ∀ tl H', H tl = none → H' x.bk = some (bookO K { x with tl := tl } slots) → H' tl = some (.lst []) → Kp (fun y => y = x.bk) H H' → Q .non H'
theorem C_Book_init {P : Program} {w : World} {K : PySem.W.Frag} {mg : Str → Option Value} {base : Heap} (T : Txt K mg) : KCal P w K mg base 1 "Book" (He.ga K "Book") ["self", "palette", "kinds", "teams", "pots", "slots"] (spBookInit K) := by
  refine kcal_mk1 T 40 rfl T.g_Book T.k_Book sc_Book_init rfl rfl (fun _ _ _ _ _ _ _ us its hl hi => match us, its, hl, hi with | [_, _, _, _, _, _], [_], _, _ => ⟨_, rfl, rfl⟩) (fun vs H Q E h => ?_) (fun f cdv A outer s H vs Q E hr h => ?_)
  · obtain ⟨x, slots, rfl, ha, k⟩ := h
    rfl
  obtain ⟨x, slots, rfl, ha, k⟩ := h
  refine ⟨_, (pss_cons (ps_newI (i := 0) T.c_Book T.n_Book_palette nd_Book rfl (pv 0) (pv 1) rfl)
 (pss_cons (ps_newI (i := 1) T.c_Book T.n_Book_kinds nd_Book rfl (pv 0) (pv 2) rfl)
 (pss_cons (ps_newI (i := 2) T.c_Book T.n_Book_teams nd_Book rfl (pv 0) (pv 3) rfl)
 (pss_cons (ps_newI (i := 3) T.c_Book T.n_Book_pots nd_Book rfl (pv 0) (pv 4) rfl)
 (pss_cons (ps_newI (i := 4) T.c_Book T.n_Book_slots nd_Book rfl (pv 0) (pv 5) rfl)
 (pss_one (ps_newI (i := 5) T.c_Book T.n_Book_telling nd_Book rfl (pv 0) (pe_lst pa_nil) rfl))))))), ?_⟩
  have g : Cfg (fun y => y = x.bk) H [(x.bk, Ob (He.ga K "Book") x.dx [] [])] H := Cfg.one ha
  nested_keys
  refine w_newI 0 g rfl rfl (by decide) (.inl rfl) fun H1 g => ?_
  nested_keys
  refine w_newI 0 g rfl rfl (by decide) (.inl rfl) fun H1 g => ?_
  nested_keys
  refine w_newI 0 g rfl rfl (by decide) (.inl rfl) fun H1 g => ?_
  nested_keys
  refine w_newI 0 g rfl rfl (by decide) (.inl rfl) fun H1 g => ?_
  nested_keys
  refine w_newI 0 g rfl rfl (by decide) (.inl rfl) fun H1 g => ?_
  nested_keys
  refine w_new g fun tl H2 htl g => ?_
  nested_keys
  refine w_newI 1 g rfl rfl (by decide) (.inl rfl) fun H3 g => ?_
  nested_keys
  exact k tl H3 htl (g.get 1 rfl) (g.get 0 rfl) g.kp
def spEnter (K : PySem.W.Frag) : Sp := fun vs H Q _ => ∃ (x : BookX) (h : Hall) (es : List Ent) (da : Addr) (d : Deed) (hour : Int), vs = [.ref x.bk, .ref da, .int hour] ∧ BookAt K H x h es ∧ es.length < 100 ∧ H da = some (.tup (deedV d)) ∧
  ∀ v H', BookAt K H' x h (es ++ [⟨hour, es.length, d⟩]) → Kp (fun y => y = x.tl) H H' → Q v H'
theorem numbered.snoc {es : List Ent} (h : numbered es) (hour : Int) (d : Deed) : numbered (es ++ [⟨hour, es.length, d⟩]) := by
  unfold numbered at *
  rw [List.map_append, h, List.length_append]
  unfold rangeI
  show _ = (List.range (es.length + 1)).map _
  rw [List.range_succ, List.map_append]; rfl
theorem C_Book_enter {P : Program} {w : World} {K : PySem.W.Frag} {mg : Str → Option Value} {base : Heap} (T : Txt K mg) : MCal P w K mg base 3 (He.ga K "Book") "enter" ["self", "deed", "hour"] (spEnter K) := by
  have C_Entered_init := C_Entered_init (P := P) (w := w) (base := base) T
  have C_next_number := C_next_number (P := P) (w := w) (base := base) T
  refine mcal_mk1 T 41 rfl T.m_Book_enter sc_Book_enter rfl rfl (fun _ _ _ _ _ _ _ us its hl hi => match us, its, hl, hi with | [_, _, _], [_], _, _ => ⟨_, rfl, rfl⟩) (fun vs H Q E h => ?_) (fun f cdv A outer s H vs Q E hr h => ?_)
  · obtain ⟨x, h, es, da, d, hour, rfl, hB, hn, hd, k⟩ := h
    rfl
  obtain ⟨x, h, es, da, d, hour, rfl, hB, hn, hd, k⟩ := h
  refine ⟨_, (pss_cons (ps_set (i := 3) sc_Book_enter.nd rfl (Or.inl rfl) (pe_cal C_next_number hr rfl (pa_cons (pe_fldI (i := 5) T.c_Book T.n_Book_telling nd_Book rfl (pv 0) rfl) pa_nil)))
 (pss_cons (ps_expr (pe_bmK (K := K) rfl PySem.F.plainAttrs_list PySem.F.slot_list_append PySem.F.type_list_append mt_appendM (pe_fldI (i := 5) T.c_Book T.n_Book_telling nd_Book rfl (pv 0) rfl) (pa_cons (pe_kcal C_Entered_init hr rfl (pa_cons (pv 3) (pa_cons (pv 2) (pa_cons (pv 1) pa_nil)))) pa_nil)))
 (pss_one (ps_ret (pv 3))))), ?_⟩
  have hbk := hB.bk
  obtain ⟨evs, htl, hes⟩ := hB.tl
  nested_keys
  refine ⟨x.tl, evs, es, rfl, htl, hes, hB.num, by omega, fun H1 k1 => ?_⟩
  have hB1 := hB.ex k1
  have hbk1 := k1.exget hbk
  have htl1 := k1.exget htl
  have hes1 := hes.ex k1
  have hd1 := k1.t _ _ hd
  have g : Cfg (fun y => y = x.tl) H1 [(x.tl, .lst evs)] H1 := Cfg.one htl1
  clear hbk
  nested_keys
  refine w_make g fun e dxe H2 he g => ?_
  refine ⟨e, dxe, da, ⟨hour, es.length, d⟩, rfl, g.get 0 rfl, fun H3 hb k3 => ⟨rfl, ?_⟩⟩
  have g := g.call1 (o := entO K dxe ⟨hour, es.length, d⟩ da) 0 rfl k3 hb (.inr he)
  refine w_app 1 g rfl (by have : evs.length = es.length := Paired.length hes; omega) (.inl rfl) fun H4 g => ?_
  nested_keys
  have ne : x.bk ≠ x.tl := ne_of hbk1 htl1 (fun z => by cases z)
  refine k _ H4 ⟨g.kp.get hbk1 ne, hB1.hall.kp g.kp (fun o tvs hq z => ?_), ⟨evs ++ [.ref e], g.get 1 rfl, paired_app (paired_mono hes1 fun _ _ q => q.kp g.kp fun a dx da hq z => ?_) (.cons ⟨e, dxe, da, rfl, g.get 0 rfl, g.kp.t _ _ hd1⟩ .nil)⟩, hB.num.snoc hour d, by rw [List.length_append]; simp; omega⟩ ((k1.ex).trans g.kp)
  · rw [z, htl1] at hq; cases hq
  · rw [z, htl1] at hq; cases hq
/-- an entry as (hour, number, deed) -/
@[reducible] def eaV (x : Ent × Addr) : List V := [.int x.1.hour, .int x.1.number, .ref x.2]
def eaK (x : Ent × Addr) : List Key := [.inl x.1.hour, .inl x.1.number]
def entK (x : Ent) : List Key := [.inl x.hour, .inl x.number]
noncomputable def sortE (es : List Ent) : List Ent := srt entK es
theorem entK_inj {es : List Ent} (h : (es.map (·.number)).Nodup) : ∀ x ∈ es, ∀ y ∈ es, entK x = entK y → x = y := fun x mx y my e => by
  obtain ⟨i, hi⟩ := List.mem_iff_getElem?.mp mx
  obtain ⟨j, hj⟩ := List.mem_iff_getElem?.mp my
  have en : x.number = y.number := Sum.inl.inj (List.cons.inj (List.cons.inj e).2).1
  have e1 : (es.map (·.number))[i]? = some x.number := by rw [List.getElem?_map, hi]; rfl
  have e2 : (es.map (·.number))[j]? = some x.number := by rw [List.getElem?_map, hj, en]; rfl
  have q := nd_ix h e1 e2
  subst q
  rw [hi] at hj
  exact Option.some.inj hj
theorem sortE_map {xs : List (Ent × Addr)} (h : ((xs.map (·.1)).map (·.number)).Nodup) : (srt eaK xs).map (·.1) = sortE (xs.map (·.1)) := by
  refine sorted_one (κ := entK) (((srt_perm xs).map _).trans (srt_perm _).symm) (List.pairwise_map.mpr (srt_sorted xs)) (srt_sorted _) (fun _ _ _ _ => rfl) fun x mx y my e => ?_
  have p : ((srt eaK xs).map (·.1)).Perm (xs.map (·.1)) := (srt_perm xs).map _
  exact entK_inj h x (p.mem_iff.mp mx) y (p.mem_iff.mp my) e
def spEntries (K : PySem.W.Frag) : Sp := fun vs H Q _ => ∃ (x : BookX) (h : Hall) (es : List Ent), vs = [.ref x.bk] ∧ BookAt K H x h es ∧
  ∀ p us xs H', H p = none → Ex H H' → H' p = some (.lst us) → Ts H' eaV us xs → DeedsOf H' xs → xs.map (·.1) = sortE es → Q (.ref p) H'
theorem C_Book_entries {P : Program} {w : World} {K : PySem.W.Frag} {mg : Str → Option Value} {base : Heap} (T : Txt K mg) : MCal P w K mg base 3 (He.ga K "Book") "entries" ["self"] (spEntries K) := by
  have C_known_by := C_known_by (P := P) (w := w) (base := base) T
  refine mcal_mk T 42 rfl T.m_Book_entries sc_Book_entries rfl rfl (fun _ _ _ _ _ _ us hl => match us, hl with | [_], _ => rfl) (fun vs H Q E h => ?_) (fun f cdv A outer s H vs Q E hr h => ?_)
  · obtain ⟨x, h, es, rfl, hB, k⟩ := h
    rfl
  obtain ⟨x, h, es, rfl, hB, k⟩ := h
  refine ⟨_, (pss_one (ps_ret (pe_callB (cr_sortedXK (K := K) rfl) (by rfl) T.f_sorted (by decide +kernel) (pa_cons (pe_lc (own := [("number", 1), ("hour", 2), ("deed", 3)]) rfl sc_Book_entries.nd (pi_items (pe_lk (pe_cal C_known_by hr rfl (pa_cons (pe_fldI (i := 5) T.c_Book T.n_Book_telling nd_Book rfl (pv 0) rfl) pa_nil)))) (blkOk_by (own := [("number", 1), ("hour", 2), ("deed", 3)]) (N := n_Book_entries) (sc := defScope s_Book_entries) (by decide +kernel)) (fun _ _ _ _ _ => (pg_tupK (K := K) (n := 2) rfl rfl (pgs_cons (pg_name (i := 1) sc_Book_entries.nd rfl (Or.inl rfl)) (pgs_cons (pg_tupK (K := K) (n := 2) rfl rfl (pgs_cons (pg_name (i := 2) sc_Book_entries.nd rfl (Or.inl rfl)) (pgs_cons (pg_name (i := 3) sc_Book_entries.nd rfl (Or.inl rfl)) pgs_nil))) pgs_nil)))) (fun _ _ _ _ _ => pts_nil) (fun _ _ _ _ _ => (pe_tup (pa_cons (pv 2) (pa_cons (pv 1) (pa_cons (pv 3) pa_nil)))))) pa_nil)))), ?_⟩
  have hbk := hB.bk
  obtain ⟨evs, htl, hes⟩ := hB.tl
  nested_keys
  refine ⟨x.tl, evs, es, rfl, htl, hes, hB.num.nd, by have := hB.few; omega, fun d kvs xs H1 hd k1 h1 hp hx hD => ?_⟩
  have hnd : ((xs.map (·.1)).map (·.number)).Nodup := by rw [hx]; exact hB.num.nd
  have hl : kvs.length ≤ 100 := by
    rw [Paired.length hp, ← List.length_map (f := fun x : Ent × Addr => x.1), hx]; exact hB.few
  nested_keys
  refine ⟨d, _, rfl, h1, trivial, fun od => ?_⟩
  have k2 : Ex H (upd H1 d (.frz od (.dK kvs))) := by
    refine ⟨fun b o e _ => ?_, fun b ys e => ?_, fun b e => ?_⟩
    · rw [upd_ne (ne_of_none e hd)]; exact k1.exget e
    · rw [upd_ne (ne_of_none e hd)]; exact k1.t _ _ e
    · by_cases q : b = d
      · rw [q]; exact hd
      · rw [upd_ne q] at e; exact k1.th b e
  have t2 : Tp H1 (upd H1 d (.frz od (.dK kvs))) := tp_wr h1 (fun _ z => by cases z)
  have hp2 : Paired (KnownV (upd H1 d (.frz od (.dK kvs)))) kvs xs := paired_mono hp fun _ _ q => q.kp t2
  have hD2 : DeedsOf (upd H1 d (.frz od (.dK kvs))) xs := fun y m => t2 _ _ (hD y m)
  have hd2 : upd H1 d (.frz od (.dK kvs)) d = some (.frz od (.dK kvs)) := upd_same
  generalize upd H1 d (.frz od (.dK kvs)) = H2 at k2 t2 hp2 hD2 hd2
  have g : Cfg no H2 [] H2 := Cfg.nil
  nested_keys
  refine ⟨d, od, kvs, rfl, hd2, ?_⟩
  intro U hU
  refine lc_it walk_items (fun i H' => ∃ us, us.length ≤ i ∧ Cfg no H2 [(U, .lst us)] H' ∧ Ts H' eaV us (xs.take i)) ⟨[], Nat.le_refl _, g.new hU, Ts.nil⟩ (fun i H' _ ⟨us, _, g, _⟩ => g.kp.exget hd2) ?_ ?_
  · rintro i v H' H3 hi ⟨us, hus, g, ht⟩ ⟨T, v1, v2, rfl, hT, rfl, e1, e2⟩
    obtain ⟨⟨kk, kv⟩, hkv⟩ : ∃ p, kvs[i]? = some p := ⟨kvs[i], List.getElem?_eq_getElem hi⟩
    dsimp only at e1 e2
    rw [hkv] at e1 e2
    obtain ⟨⟨e, da⟩, hxi, hk1, t, hk2, hkt⟩ := paired_get hp2 hkv
    have e1 : kV kk = v1 := Option.some.inj e1
    have e2 : kv = v2 := Option.some.inj e2
    have hk1 : kk = .inl e.number := hk1
    have hk2 : kv = .ref t := hk2
    subst e1
    subst e2
    subst hk1
    subst hk2
    have kT : Ex H' (upd H' T (.tup [.int e.number, .ref t])) := Kp.new hT
    have g := g.ex kT
    have ht := ht.mono kT.t
    have hT2 : upd H' T (.tup [.int e.number, .ref t]) T = some (.tup [.int e.number, .ref t]) := upd_same
    show gTup K 2 _ (.ref T) _ (upd H' T (.tup [.int e.number, .ref t])) _
    generalize upd H' T (.tup [.int e.number, .ref t]) = H4 at kT g ht hT2
    have hkt4 := g.kp.t _ _ hkt
    nested_keys
    intro r hr
    have kr : Ex H4 (upd H4 r (.tup (eaV (e, da)))) := Kp.new hr
    have hr2 : upd H4 r (.tup (eaV (e, da))) r = some (.tup (eaV (e, da))) := upd_same
    have g := g.ex kr
    have ht := ht.mono kr.t
    have gw := g.wr (o := .lst (us ++ [.ref r])) 0 rfl (fun _ z => by cases z) (.inr hU)
    refine ⟨us, g.hd, Nat.lt_of_lt_of_le (show us.length < 100000 by omega) (by decide), us ++ [V.ref r], by rw [List.length_append]; simp; omega, gw, ?_⟩
    rw [take_snoc hxi]
    have tw : Tp _ (upd (upd H4 r (.tup (eaV (e, da)))) U (.lst (us ++ [.ref r]))) := tp_wr g.hd (fun _ z => by cases z)
    exact (ht.mono tw).snoc (tw _ _ hr2)
  · rintro H3 ⟨us, hus, g, ht⟩
    rw [show xs.take kvs.length = xs from List.take_of_length_le (Nat.le_of_eq (Paired.length hp).symm)] at ht
    nested_keys
    refine w_sortX (κ := eaK) (rest := fun x => [.ref x.2]) g.hd ht (fun _ => rfl) (fun _ z => by cases z) (fun _ _ => rfl) ?_ fun ys p' hp' hts hl => ?_
    · rw [List.map_map] at hnd
      have e : xs.map (fun x => x.1.number) = (xs.map eaK).map (fun k => match k with | [_, .inl n] => n | _ => 0) := by rw [List.map_map]; rfl
      have hnd : (xs.map (fun x => x.1.number)).Nodup := hnd
      rw [e] at hnd
      exact List.Pairwise.imp (fun h z => h (by rw [z])) (List.pairwise_map.mp hnd)
    · have kx : Ex H3 (upd H3 p' (.lst ys)) := Kp.new hp'
      refine k p' ys (srt eaK xs) _ (k2.nn (g.kp.nn hp')) ((k2.trans g.kp).trans kx) upd_same hts (fun y m => ?_) ?_
      · exact kx.t _ _ (g.kp.t _ _ (hD2 y ((srt_perm xs).mem_iff.mp m)))
      · rw [sortE_map hnd, hx]

end K87

namespace K87
open PySem PySem.Spec PyProof.Rows L2
local macro_rules | `(tactic| kxs_still) => `(tactic| with_unfolding_all rfl)
local macro_rules | `(tactic| lcg_sub) => `(tactic| first
  | assumption
  | (apply Cfg.get (i := 0) <;> first | assumption | kxs_still)
  | (apply Cfg.get (i := 1) <;> first | assumption | kxs_still)
  | (apply Cfg.get (i := 2) <;> first | assumption | kxs_still)
  | (apply Cfg.get (i := 3) <;> first | assumption | kxs_still)
  | (apply Cfg.get (i := 4) <;> first | assumption | kxs_still)
  | (apply Cfg.get (i := 5) <;> first | assumption | kxs_still)
  | (apply Cfg.get (i := 6) <;> first | assumption | kxs_still)
  | (apply Cfg.get (i := 7) <;> first | assumption | kxs_still)
  | (apply Cfg.get (i := 8) <;> first | assumption | kxs_still)
  | (apply Cfg.get (i := 9) <;> first | assumption | kxs_still)
  | (apply Cfg.get (i := 0) <;> first | (apply Bfg.toCfg; assumption) | kxs_still)
  | (apply Cfg.get (i := 1) <;> first | (apply Bfg.toCfg; assumption) | kxs_still)
  | (apply Cfg.get (i := 2) <;> first | (apply Bfg.toCfg; assumption) | kxs_still)
  | (apply Cfg.get (i := 3) <;> first | (apply Bfg.toCfg; assumption) | kxs_still)
  | (apply Cfg.get (i := 4) <;> first | (apply Bfg.toCfg; assumption) | kxs_still)
  | (apply Cfg.get (i := 5) <;> first | (apply Bfg.toCfg; assumption) | kxs_still)
  | (apply Cfg.get (i := 6) <;> first | (apply Bfg.toCfg; assumption) | kxs_still)
  | (apply Cfg.get (i := 7) <;> first | (apply Bfg.toCfg; assumption) | kxs_still)
  | (apply Cfg.get (i := 8) <;> first | (apply Bfg.toCfg; assumption) | kxs_still)
  | (apply Cfg.get (i := 9) <;> first | (apply Bfg.toCfg; assumption) | kxs_still))
local macro_rules | `(tactic| kas_types) => `(tactic| first
  | assumption | decide | omega | exact Or.inl (by omega) | exact Or.inr (by omega) | exact ⟨by omega, by omega⟩ | exact ⟨by omega, by omega, by omega⟩)
local macro_rules | `(tactic| keq_hits) => `(tactic| simp only [u_var, u_c, u_op, u_un, u_test, u_tB, u_bl, u_I0, u_eqS, u_eqI, u_neS, u_neI, u_seq, u_next, u_asg, u_name, u_ret, u_retN, u_drop, u_ifS, u_ifE, u_and, u_or, u_not, u_andV, u_orV, u_notV, u_nil, u_cons, u_call, u_cb, u_tup, u_lst, u_sub, u_gNil, u_gCons, u_bm, u_m1, u_isS, u_sl, u_noPart, u_part, u_partk, u_par, u_par2, u_for, u_lc, u_rng1, u_itL, u_itT, u_yes, u_fldI, u_putI, u_newI, u_methI, u_make, u_some, u_i0, u_i1, u_K, L2.start, wipe, List.map_cons, List.map_nil, List.length_cons, List.length_nil, List.replicate_succ, List.replicate_zero, List.cons_append, List.nil_append, List.set_cons_zero, List.set_cons_succ, ite_true, ite_false, if_true, if_false, Bool.false_eq_true, colV, washV, kindV, teamV, rowV, coolV, deedV, batRef_none, batRef_some, u_par3, u_par33, u_augI, u_dget, u_din, u_dnotin, u_dget2, u_dget1, u_dpop1, u_dput, u_setD, u_dnewK, u_dnewT, decide_true, decide_false, Bool.not_true, Bool.not_false, Option.map_none, Option.map_some, Option.isSome_none, Option.isSome_some, Option.getD_some, Option.getD_none, vn_non, vn_ref, vn_str, vn_int, wd_fill_fill, wd_fill_gather, wd_fill_wash, wd_fill_empty, wd_fill_break, wd_fill_new, wd_gather_fill, wd_gather_gather, wd_gather_wash, wd_gather_empty, wd_gather_break, wd_gather_new, wd_wash_fill, wd_wash_gather, wd_wash_wash, wd_wash_empty, wd_wash_break, wd_wash_new, wd_empty_fill, wd_empty_gather, wd_empty_wash, wd_empty_empty, wd_empty_break, wd_empty_new, wd_break_fill, wd_break_gather, wd_break_wash, wd_break_empty, wd_break_break, wd_break_new, wd_new_fill, wd_new_gather, wd_new_wash, wd_new_empty, wd_new_break, wd_new_new, wd_nil, wd_none, wd_broken, wd_busy, wd_glass, wd_name, wd_cold, wd_rank, wd_less, wd_full, wd_whole, inw_fill, inw_gather, inw_wash, inw_empty, inw_break, inw_new, u_itemsT, u_itemsK, u_keysK, u_lk, u_ckw, eq_self, true_and, and_true])
local macro_rules | `(tactic| nested_keys) => `(tactic| repeat first
  | (with_reducible apply w_nx)
  | (with_reducible apply w_blk)
  | (with_reducible apply w_I; (· with_unfolding_all kas_types))
  | (with_reducible apply w_ixT; (· lcg_sub); (· kxs_still))
  | (with_reducible apply w_ixL; (· lcg_sub); (· kxs_still))
  | (with_reducible apply w_fldI; (· lcg_sub); (· kxs_still))
  | (with_reducible apply w_methI; (· lcg_sub))
  | (with_reducible apply w_augO; (· lcg_sub); (· kxs_still))
  | (with_reducible apply w_dgetS; (· lcg_sub); (· assumption))
  | (with_reducible apply w_dinS; (· lcg_sub))
  | (with_reducible apply w_dnotinS; (· lcg_sub))
  | (with_reducible apply w_isD; (· lcg_sub))
  | (with_reducible apply w_inT; (· lcg_sub); (· with_unfolding_all rfl))
  | (with_reducible apply w_sz; (· with_unfolding_all exact Nat.le_of_ble_eq_true rfl))
  | (with_reducible apply w_gTup; (· lcg_sub); (· kxs_still))
  | (with_reducible apply w_tyL; (· lcg_sub))
  | (with_reducible apply w_rng1k; (· with_unfolding_all kas_types); (· with_unfolding_all kas_types))
  | (with_reducible apply w_itLk; (· lcg_sub))
  | (with_reducible apply w_itTk; (· lcg_sub))
  | (with_reducible apply w_lenL; (· lcg_sub))
  | (with_reducible apply w_lenT; (· lcg_sub))
  | (with_reducible apply w_lenS; (· with_unfolding_all kas_types))
  | (with_reducible apply w_ixaL; (· lcg_sub); (· kxs_still))
  | (with_reducible apply w_ixaT; (· lcg_sub); (· kxs_still))
  | (with_reducible apply w_ixaS; (· with_unfolding_all kas_types); (· kxs_still))
  | (with_reducible apply w_ixS; (· with_unfolding_all kas_types); (· kxs_still))
  | (with_reducible apply w_slL; (· lcg_sub))
  | (with_reducible apply w_slS; (· with_unfolding_all kas_types))
  | (with_reducible apply w_addS; (· with_unfolding_all kas_types))
  | (with_reducible apply w_listL; (· lcg_sub))
  | (with_reducible apply w_tupL; (· lcg_sub))
  | (with_reducible apply w_divmod; (· with_unfolding_all kas_types))
  | (simp only [u_var, u_c, u_op, u_un, u_test, u_tB, u_bl, u_I0, u_eqS, u_eqI, u_neS, u_neI, u_seq, u_next, u_asg, u_name, u_ret, u_retN, u_drop, u_ifS, u_ifE, u_and, u_or, u_not, u_andV, u_orV, u_notV, u_nil, u_cons, u_call, u_cb, u_tup, u_lst, u_sub, u_gNil, u_gCons, u_bm, u_m1, u_isS, u_sl, u_noPart, u_part, u_partk, u_par, u_par2, u_for, u_lc, u_rng1, u_itL, u_itT, u_yes, u_fldI, u_putI, u_newI, u_methI, u_make, u_some, u_i0, u_i1, u_K, L2.start, wipe, List.map_cons, List.map_nil, List.length_cons, List.length_nil, List.replicate_succ, List.replicate_zero, List.cons_append, List.nil_append, List.set_cons_zero, List.set_cons_succ, ite_true, ite_false, if_true, if_false, Bool.false_eq_true, colV, washV, kindV, teamV, rowV, coolV, deedV, batRef_none, batRef_some, u_par3, u_par33, u_augI, u_dget, u_din, u_dnotin, u_dget2, u_dget1, u_dpop1, u_dput, u_setD, u_dnewK, u_dnewT, decide_true, decide_false, Bool.not_true, Bool.not_false, Option.map_none, Option.map_some, Option.isSome_none, Option.isSome_some, Option.getD_some, Option.getD_none, vn_non, vn_ref, vn_str, vn_int, wd_fill_fill, wd_fill_gather, wd_fill_wash, wd_fill_empty, wd_fill_break, wd_fill_new, wd_gather_fill, wd_gather_gather, wd_gather_wash, wd_gather_empty, wd_gather_break, wd_gather_new, wd_wash_fill, wd_wash_gather, wd_wash_wash, wd_wash_empty, wd_wash_break, wd_wash_new, wd_empty_fill, wd_empty_gather, wd_empty_wash, wd_empty_empty, wd_empty_break, wd_empty_new, wd_break_fill, wd_break_gather, wd_break_wash, wd_break_empty, wd_break_break, wd_break_new, wd_new_fill, wd_new_gather, wd_new_wash, wd_new_empty, wd_new_break, wd_new_new, wd_nil, wd_none, wd_broken, wd_busy, wd_glass, wd_name, wd_cold, wd_rank, wd_less, wd_full, wd_whole, inw_fill, inw_gather, inw_wash, inw_empty, inw_break, inw_new, u_itemsT, u_itemsK, u_keysK, u_lk, u_ckw, eq_self, true_and, and_true])
  | (with_reducible apply w_eq; (· kxs_still))
  | (with_reducible apply w_ne; (· kxs_still)))
theorem Cfg.perm {S : Addr → Prop} {H0 H : Hp} {D D' : List (Addr × HO)} (g : Cfg S H0 D H) (p : D'.Perm D) : Cfg S H0 D' H := ⟨g.kp, (p.map _).nodup_iff.mpr g.nd, fun x m => g.at_ x (p.mem_iff.mp m)⟩
theorem Ts.refs {α : Type} {H : Hp} {f : α → List V} {vs : List V} {xs : List α} (h0 : Ts H f vs xs) : ∃ ps : List Addr, vs = ps.map V.ref ∧ Paired (fun p x => H p = some (.tup (f x))) ps xs := by
  have h : Paired (fun v x => ∃ a, v = V.ref a ∧ H a = some (.tup (f x))) vs xs := h0
  clear h0
  induction h with
  | nil => exact ⟨[], rfl, .nil⟩
  | cons h t ih =>
    obtain ⟨a, e, h⟩ := h
    obtain ⟨ps, e2, q⟩ := ih
    exact ⟨a :: ps, by rw [e, e2]; rfl, .cons h q⟩
theorem lastOf_mem {α : Type} : ∀ {l : List (Str × α)} {s : Str} {v : α}, lastOf l s = some v → (s, v) ∈ l := by
  have gen : ∀ (l : List (Str × α)) (s : Str) (v : α) (o : Option α), l.foldl (fun o p => if s = p.1 then some p.2 else o) o = some v → o = some v ∨ (s, v) ∈ l := by
    intro l
    induction l with
    | nil => intro s v o h; exact .inl h
    | cons p r ih =>
      intro s v o h
      rw [List.foldl_cons] at h
      rcases ih s v _ h with q | q
      · by_cases e : s = p.1
        · rw [if_pos e] at q
          refine .inr ?_
          rw [e, ← Option.some.inj q]
          exact List.mem_cons_self ..
        · rw [if_neg e] at q
          exact .inl q
      · exact .inr (List.mem_cons_of_mem _ q)
  intro l s v h
  rcases gen l s v none h with q | q
  · cases q
  · exact q
theorem lastOf_map {α β : Type} (g : α → β) (l : List (Str × α)) (s : Str) : lastOf (l.map fun p => (p.1, g p.2)) s = (lastOf l s).map g := by
  have gen : ∀ (l : List (Str × α)) (o : Option α), (l.map fun p => (p.1, g p.2)).foldl (fun o p => if s = p.1 then some p.2 else o) (o.map g) = (l.foldl (fun o p => if s = p.1 then some p.2 else o) o).map g := by
    intro l
    induction l with
    | nil => intro o; rfl
    | cons p r ih =>
      intro o
      rw [List.map_cons, List.foldl_cons, List.foldl_cons]
      by_cases e : s = p.1
      · rw [if_pos e, if_pos e]; exact ih (some p.2)
      · rw [if_neg e, if_neg e]; exact ih o
  exact gen l none
theorem lastOf_none {α : Type} {l : List (Str × α)} {s : Str} (h : ¬ s ∈ l.map (·.1)) : lastOf l s = none := by
  have q := lastOf_isSome l s
  rw [decide_eq_false h] at q
  cases e : lastOf l s with
  | none => rfl
  | some v => rw [e] at q; cases q
/-- a hall that an account can be made of -/
structure HallOk (h : Hall) : Prop where
  slots : 0 ≤ h.slots ∧ h.slots ≤ 60
  cols : h.cols.length ≤ 100
  kinds : h.kinds.length ≤ 100
  teams : h.teams.length ≤ 100
  pots : h.pots.length ≤ 100
theorem lastOk0 (h : Hall) : LastOk h acc0 := fun s c e => nomatch e
theorem lastOk_upd {h : Hall} {a : Acc} {p : Str} {q : Pot} (hl : LastOk h a) (hq : ∀ c, q.last = some c → isCol h c) : ∀ s c, (updP a.pots p q s).last = some c → isCol h c := fun s c e => by
  unfold updP at e
  by_cases z : s = p
  · rw [if_pos z] at e; exact hq c e
  · rw [if_neg z] at e; exact hl s c e
theorem taken_last (p : Pot) (b : Bat) (m : Int) : (p.taken b m).last = p.last := by unfold Pot.taken; split <;> rfl
theorem lastOk_step {h : Hall} {a : Acc} (hl : LastOk h a) (e : Ent) : LastOk h (step h a e) := by
  unfold step
  by_cases hv : voidWord h a e.hour e.deed = ""
  · rw [if_pos hv]
    have hn := void_names hv
    show ∀ s c, ((midStep h a e.hour e.number e.deed).1.pots s).last = some c → isCol h c
    cases hd : e.deed with
    | fill p c =>
      rw [hd] at hn
      show ∀ s c', ((match colRow h c with
        | none => (a, 0, none)
        | some r => _ : Acc × Int × Option Bat).1.pots s).last = some c' → isCol h c'
      cases colRow h c with
      | none => exact hl
      | some r => exact lastOk_upd hl fun c' e => by cases e; exact (names_fill hn).2
    | gather t p k m =>
      show ∀ s c', ((match (a.pots p).bat with
        | none => (a, 0, none)
        | some b => _ : Acc × Int × Option Bat).1.pots s).last = some c' → isCol h c'
      cases (a.pots p).bat with
      | none => exact hl
      | some b => exact lastOk_upd hl fun c' e => by rw [taken_last] at e; exact hl p c' e
    | emp p =>
      show ∀ s c', ((match (a.pots p).bat with
        | none => (a, 0, none)
        | some b => _ : Acc × Int × Option Bat).1.pots s).last = some c' → isCol h c'
      cases (a.pots p).bat with
      | none => exact hl
      | some b => exact lastOk_upd hl fun c' e => by rw [taken_last] at e; exact hl p c' e
    | brk p => exact lastOk_upd hl fun c' e => hl p c' e
    | wash p hs => exact lastOk_upd hl fun c' e => hl p c' e
    | new p hs => exact lastOk_upd hl fun c' e => nomatch e
  · rw [if_neg hv]; exact hl
theorem lastOk_run {h : Hall} (es : List Ent) : LastOk h (run_ h es) := by
  have gen : ∀ (es : List Ent) (a : Acc), LastOk h a → LastOk h (es.foldl (step h) a) := by
    intro es
    induction es with
    | nil => intro a h; exact h
    | cons e r ih => intro a h; exact ih _ (lastOk_step h e)
  exact gen es acc0 (lastOk0 h)
/-- the entries up to an hour -/
noncomputable def upTo (es : List Ent) (hour : Int) : List Ent := (sortE es).filter fun e => decide (e.hour ≤ hour)

end K87

namespace K87
open PySem PySem.Spec PyProof.Rows L2
local macro_rules | `(tactic| kxs_still) => `(tactic| with_unfolding_all rfl)
local macro_rules | `(tactic| lcg_sub) => `(tactic| first
  | assumption
  | (apply Cfg.get (i := 0) <;> first | assumption | kxs_still)
  | (apply Cfg.get (i := 1) <;> first | assumption | kxs_still)
  | (apply Cfg.get (i := 2) <;> first | assumption | kxs_still)
  | (apply Cfg.get (i := 3) <;> first | assumption | kxs_still)
  | (apply Cfg.get (i := 4) <;> first | assumption | kxs_still)
  | (apply Cfg.get (i := 5) <;> first | assumption | kxs_still)
  | (apply Cfg.get (i := 6) <;> first | assumption | kxs_still)
  | (apply Cfg.get (i := 7) <;> first | assumption | kxs_still)
  | (apply Cfg.get (i := 8) <;> first | assumption | kxs_still)
  | (apply Cfg.get (i := 9) <;> first | assumption | kxs_still)
  | (apply Cfg.get (i := 0) <;> first | (apply Bfg.toCfg; assumption) | kxs_still)
  | (apply Cfg.get (i := 1) <;> first | (apply Bfg.toCfg; assumption) | kxs_still)
  | (apply Cfg.get (i := 2) <;> first | (apply Bfg.toCfg; assumption) | kxs_still)
  | (apply Cfg.get (i := 3) <;> first | (apply Bfg.toCfg; assumption) | kxs_still)
  | (apply Cfg.get (i := 4) <;> first | (apply Bfg.toCfg; assumption) | kxs_still)
  | (apply Cfg.get (i := 5) <;> first | (apply Bfg.toCfg; assumption) | kxs_still)
  | (apply Cfg.get (i := 6) <;> first | (apply Bfg.toCfg; assumption) | kxs_still)
  | (apply Cfg.get (i := 7) <;> first | (apply Bfg.toCfg; assumption) | kxs_still)
  | (apply Cfg.get (i := 8) <;> first | (apply Bfg.toCfg; assumption) | kxs_still)
  | (apply Cfg.get (i := 9) <;> first | (apply Bfg.toCfg; assumption) | kxs_still))
local macro_rules | `(tactic| kas_types) => `(tactic| first
  | assumption | decide | omega | exact Or.inl (by omega) | exact Or.inr (by omega) | exact ⟨by omega, by omega⟩ | exact ⟨by omega, by omega, by omega⟩)
local macro_rules | `(tactic| keq_hits) => `(tactic| simp only [u_var, u_c, u_op, u_un, u_test, u_tB, u_bl, u_I0, u_eqS, u_eqI, u_neS, u_neI, u_seq, u_next, u_asg, u_name, u_ret, u_retN, u_drop, u_ifS, u_ifE, u_and, u_or, u_not, u_andV, u_orV, u_notV, u_nil, u_cons, u_call, u_cb, u_tup, u_lst, u_sub, u_gNil, u_gCons, u_bm, u_m1, u_isS, u_sl, u_noPart, u_part, u_partk, u_par, u_par2, u_for, u_lc, u_rng1, u_itL, u_itT, u_yes, u_fldI, u_putI, u_newI, u_methI, u_make, u_some, u_i0, u_i1, u_K, L2.start, wipe, List.map_cons, List.map_nil, List.length_cons, List.length_nil, List.replicate_succ, List.replicate_zero, List.cons_append, List.nil_append, List.set_cons_zero, List.set_cons_succ, ite_true, ite_false, if_true, if_false, Bool.false_eq_true, colV, washV, kindV, teamV, rowV, coolV, deedV, batRef_none, batRef_some, u_par3, u_par33, u_augI, u_dget, u_din, u_dnotin, u_dget2, u_dget1, u_dpop1, u_dput, u_setD, u_dnewK, u_dnewT, decide_true, decide_false, Bool.not_true, Bool.not_false, Option.map_none, Option.map_some, Option.isSome_none, Option.isSome_some, Option.getD_some, Option.getD_none, vn_non, vn_ref, vn_str, vn_int, wd_fill_fill, wd_fill_gather, wd_fill_wash, wd_fill_empty, wd_fill_break, wd_fill_new, wd_gather_fill, wd_gather_gather, wd_gather_wash, wd_gather_empty, wd_gather_break, wd_gather_new, wd_wash_fill, wd_wash_gather, wd_wash_wash, wd_wash_empty, wd_wash_break, wd_wash_new, wd_empty_fill, wd_empty_gather, wd_empty_wash, wd_empty_empty, wd_empty_break, wd_empty_new, wd_break_fill, wd_break_gather, wd_break_wash, wd_break_empty, wd_break_break, wd_break_new, wd_new_fill, wd_new_gather, wd_new_wash, wd_new_empty, wd_new_break, wd_new_new, wd_nil, wd_none, wd_broken, wd_busy, wd_glass, wd_name, wd_cold, wd_rank, wd_less, wd_full, wd_whole, inw_fill, inw_gather, inw_wash, inw_empty, inw_break, inw_new, u_itemsT, u_itemsK, u_keysK, u_lk, u_ckw, eq_self, true_and, and_true])
local macro_rules | `(tactic| nested_keys) => `(tactic| repeat first
  | (with_reducible apply w_nx)
  | (with_reducible apply w_blk)
  | (with_reducible apply w_I; (· with_unfolding_all kas_types))
  | (with_reducible apply w_ixT; (· lcg_sub); (· kxs_still))
  | (with_reducible apply w_ixL; (· lcg_sub); (· kxs_still))
  | (with_reducible apply w_fldI; (· lcg_sub); (· kxs_still))
  | (with_reducible apply w_methI; (· lcg_sub))
  | (with_reducible apply w_augO; (· lcg_sub); (· kxs_still))
  | (with_reducible apply w_dgetS; (· lcg_sub); (· assumption))
  | (with_reducible apply w_dinS; (· lcg_sub))
  | (with_reducible apply w_dnotinS; (· lcg_sub))
  | (with_reducible apply w_isD; (· lcg_sub))
  | (with_reducible apply w_inT; (· lcg_sub); (· with_unfolding_all rfl))
  | (with_reducible apply w_sz; (· with_unfolding_all exact Nat.le_of_ble_eq_true rfl))
  | (with_reducible apply w_gTup; (· lcg_sub); (· kxs_still))
  | (with_reducible apply w_tyL; (· lcg_sub))
  | (with_reducible apply w_rng1k; (· with_unfolding_all kas_types); (· with_unfolding_all kas_types))
  | (with_reducible apply w_itLk; (· lcg_sub))
  | (with_reducible apply w_itTk; (· lcg_sub))
  | (with_reducible apply w_lenL; (· lcg_sub))
  | (with_reducible apply w_lenT; (· lcg_sub))
  | (with_reducible apply w_lenS; (· with_unfolding_all kas_types))
  | (with_reducible apply w_ixaL; (· lcg_sub); (· kxs_still))
  | (with_reducible apply w_ixaT; (· lcg_sub); (· kxs_still))
  | (with_reducible apply w_ixaS; (· with_unfolding_all kas_types); (· kxs_still))
  | (with_reducible apply w_ixS; (· with_unfolding_all kas_types); (· kxs_still))
  | (with_reducible apply w_slL; (· lcg_sub))
  | (with_reducible apply w_slS; (· with_unfolding_all kas_types))
  | (with_reducible apply w_addS; (· with_unfolding_all kas_types))
  | (with_reducible apply w_listL; (· lcg_sub))
  | (with_reducible apply w_tupL; (· lcg_sub))
  | (with_reducible apply w_divmod; (· with_unfolding_all kas_types))
  | (simp only [u_var, u_c, u_op, u_un, u_test, u_tB, u_bl, u_I0, u_eqS, u_eqI, u_neS, u_neI, u_seq, u_next, u_asg, u_name, u_ret, u_retN, u_drop, u_ifS, u_ifE, u_and, u_or, u_not, u_andV, u_orV, u_notV, u_nil, u_cons, u_call, u_cb, u_tup, u_lst, u_sub, u_gNil, u_gCons, u_bm, u_m1, u_isS, u_sl, u_noPart, u_part, u_partk, u_par, u_par2, u_for, u_lc, u_rng1, u_itL, u_itT, u_yes, u_fldI, u_putI, u_newI, u_methI, u_make, u_some, u_i0, u_i1, u_K, L2.start, wipe, List.map_cons, List.map_nil, List.length_cons, List.length_nil, List.replicate_succ, List.replicate_zero, List.cons_append, List.nil_append, List.set_cons_zero, List.set_cons_succ, ite_true, ite_false, if_true, if_false, Bool.false_eq_true, colV, washV, kindV, teamV, rowV, coolV, deedV, batRef_none, batRef_some, u_par3, u_par33, u_augI, u_dget, u_din, u_dnotin, u_dget2, u_dget1, u_dpop1, u_dput, u_setD, u_dnewK, u_dnewT, decide_true, decide_false, Bool.not_true, Bool.not_false, Option.map_none, Option.map_some, Option.isSome_none, Option.isSome_some, Option.getD_some, Option.getD_none, vn_non, vn_ref, vn_str, vn_int, wd_fill_fill, wd_fill_gather, wd_fill_wash, wd_fill_empty, wd_fill_break, wd_fill_new, wd_gather_fill, wd_gather_gather, wd_gather_wash, wd_gather_empty, wd_gather_break, wd_gather_new, wd_wash_fill, wd_wash_gather, wd_wash_wash, wd_wash_empty, wd_wash_break, wd_wash_new, wd_empty_fill, wd_empty_gather, wd_empty_wash, wd_empty_empty, wd_empty_break, wd_empty_new, wd_break_fill, wd_break_gather, wd_break_wash, wd_break_empty, wd_break_break, wd_break_new, wd_new_fill, wd_new_gather, wd_new_wash, wd_new_empty, wd_new_break, wd_new_new, wd_nil, wd_none, wd_broken, wd_busy, wd_glass, wd_name, wd_cold, wd_rank, wd_less, wd_full, wd_whole, inw_fill, inw_gather, inw_wash, inw_empty, inw_break, inw_new, u_itemsT, u_itemsK, u_keysK, u_lk, u_ckw, eq_self, true_and, and_true])
  | (with_reducible apply w_eq; (· kxs_still))
  | (with_reducible apply w_ne; (· kxs_still)))
def spAccount (K : PySem.W.Frag) : Sp := fun vs H Q _ => ∃ (pa dx : Addr) (b : BookX) (h : Hall) (es : List Ent) (hour : Int), vs = [.ref pa, .ref b.bk, .int hour] ∧ H pa = some (Ob (He.ga K "Account") dx [] []) ∧ BookAt K H b h es ∧ HallOk h ∧ (∀ e ∈ es, DeedOk e.deed) ∧
  ∀ x S H0 n H', x.pa = pa → AccAt K h hour x S H0 n H' (run_ h (upTo es hour)) → n ≤ 1000 → Kp (fun y => y = pa) H H' → Q .non H'
/-- the tables as they are made -/
def KindAt (H : Hp) (x : Str × ((Int × Int) × Addr)) : Prop := H x.2.2 = some (.tup [.int x.2.1.1, .int x.2.1.2])
theorem C_Account_init {P : Program} {w : World} {K : PySem.W.Frag} {mg : Str → Option Value} {base : Heap} (T : Txt K mg) : KCal P w K mg base 8 "Account" (He.ga K "Account") ["self", "book", "hour"] (spAccount K) := by
  have C_Account_go := C_Account_go (P := P) (w := w) (base := base) T
  have C_Book_entries := C_Book_entries (P := P) (w := w) (base := base) T
  have C_PotNow_init := C_PotNow_init (P := P) (w := w) (base := base) T
  refine kcal_mk T 17 rfl T.g_Account T.k_Account sc_Account_init rfl rfl (fun _ _ _ _ _ _ us hl => match us, hl with | [_, _, _], _ => rfl) (fun vs H Q E h => ?_) (fun f cdv A outer s H vs Q E hr h => ?_)
  · obtain ⟨pa, dx, b, h, es, hour, rfl, hpa, hB, hok, hdo, k⟩ := h
    rfl
  obtain ⟨pa, dx, b, h, es, hour, rfl, hpa, hB, hok, hdo, k⟩ := h
  refine ⟨_, (pss_cons (ps_newI (i := 0) T.c_Account T.n_Account_last_hour nd_Account rfl (pv 0) (pv 2) rfl)
 (pss_cons (ps_newI (i := 1) T.c_Account T.n_Account_palette nd_Account rfl (pv 0) (pe_fldI (i := 0) T.c_Book T.n_Book_palette nd_Book rfl (pv 1) rfl) rfl)
 (pss_cons (ps_newI (i := 2) T.c_Account T.n_Account_known_kinds nd_Account rfl (pv 0) (pe_callTy (call_dictP rfl) (by rfl) T.f_dict (by decide +kernel) (pa_cons (pe_lc (own := [("kind", 6), ("rank", 7), ("cool", 8)]) rfl sc_Account_init.nd (pi_tupK (K := K) rfl (pe_fldI (i := 1) T.c_Book T.n_Book_kinds nd_Book rfl (pv 1) rfl)) (blkOk_by (own := [("kind", 6), ("rank", 7), ("cool", 8)]) (N := n_Account_init) (sc := defScope s_Account_init) (by decide +kernel)) (fun _ _ _ _ _ => (pg_tupK (K := K) (n := 3) rfl rfl (pgs_cons (pg_name (i := 6) sc_Account_init.nd rfl (Or.inl rfl)) (pgs_cons (pg_name (i := 7) sc_Account_init.nd rfl (Or.inl rfl)) (pgs_cons (pg_name (i := 8) sc_Account_init.nd rfl (Or.inl rfl)) pgs_nil))))) (fun _ _ _ _ _ => pts_nil) (fun _ _ _ _ _ => (pe_tup (pa_cons (pv 6) (pa_cons (pe_tup (pa_cons (pv 7) (pa_cons (pv 8) pa_nil))) pa_nil))))) pa_nil)) rfl)
 (pss_cons (ps_newI (i := 3) T.c_Account T.n_Account_known_teams nd_Account rfl (pv 0) (pe_callTy (call_dictTuK (K := K) rfl rfl) (by rfl) T.f_dict (by decide +kernel) (pa_cons (pe_fldI (i := 2) T.c_Book T.n_Book_teams nd_Book rfl (pv 1) rfl) pa_nil)) rfl)
 (pss_cons (ps_newI (i := 4) T.c_Account T.n_Account_known_pots nd_Account rfl (pv 0) (pe_callTy (call_dictP rfl) (by rfl) T.f_dict (by decide +kernel) (pa_cons (pe_lc (own := [("pot", 9)]) rfl sc_Account_init.nd (pi_tupK (K := K) rfl (pe_fldI (i := 3) T.c_Book T.n_Book_pots nd_Book rfl (pv 1) rfl)) (blkOk_by (own := [("pot", 9)]) (N := n_Account_init) (sc := defScope s_Account_init) (by decide +kernel)) (fun _ _ _ _ _ => (pg_name (i := 9) sc_Account_init.nd rfl (Or.inl rfl))) (fun _ _ _ _ _ => pts_nil) (fun _ _ _ _ _ => (pe_tup (pa_cons (pv 9) (pa_cons (pe_kcal0 C_PotNow_init (hr.mono (by decide)) rfl) pa_nil))))) pa_nil)) rfl)
 (pss_cons (ps_newI (i := 5) T.c_Account T.n_Account_many_slots nd_Account rfl (pv 0) (pe_fldI (i := 4) T.c_Book T.n_Book_slots nd_Book rfl (pv 1) rfl) rfl)
 (pss_cons (ps_newI (i := 6) T.c_Account T.n_Account_cooling_rows nd_Account rfl (pv 0) (pe_lst pa_nil) rfl)
 (pss_cons (ps_newI (i := 7) T.c_Account T.n_Account_made_by nd_Account rfl (pv 0) pe_dnewT rfl)
 (pss_cons (ps_newI (i := 8) T.c_Account T.n_Account_done_rows nd_Account rfl (pv 0) (pe_lst pa_nil) rfl)
 (pss_cons (ps_newI (i := 9) T.c_Account T.n_Account_void_rows nd_Account rfl (pv 0) (pe_lst pa_nil) rfl)
 (pss_one (ps_for PassesOwn.never rfl (pi_listK (K := K) rfl (pe_mcalI0 (ns := f_Book) (by decide +kernel) (pv 1) T.c_Book C_Book_entries (hr.mono (by decide)))) (pg_tupK (K := K) (n := 3) rfl rfl (pgs_cons (pg_name (i := 3) sc_Account_init.nd rfl (Or.inl rfl)) (pgs_cons (pg_name (i := 4) sc_Account_init.nd rfl (Or.inl rfl)) (pgs_cons (pg_name (i := 5) sc_Account_init.nd rfl (Or.inl rfl)) pgs_nil)))) (pss_one (ps_if (pt_cmpR op_le (pv 3) (pv 2) (nomark _)) (pss_one (ps_expr (pe_mcalI (ns := f_Account) (by decide +kernel) (pv 0) T.c_Account C_Account_go hr (pa_cons (pv 3) (pa_cons (pv 4) (pa_cons (pv 5) pa_nil)))))) pss_nil)))))))))))))), ?_⟩
  have g : Cfg (fun y => y = pa) H [(pa, Ob (He.ga K "Account") dx [] [])] H := Cfg.one hpa
  have hbk0 := hB.bk
  have hne : b.bk ≠ pa := ne_of hbk0 hpa (fun z => by
    have q := HO.ins.inj z
    have q2 := congrArg List.length q.2.2
    cases q2)
  have hhall := hB.hall
  obtain ⟨kvs0, hki, hkt⟩ := hhall.ki
  obtain ⟨o, tvs, hte, hto, htt⟩ := hhall.te
  have hpo := hhall.po
  have hbk : ∀ {H' D}, Cfg (fun y => y = pa) H D H' → H' b.bk = some (bookO K b h.slots) := fun g => g.kp.get hbk0 hne
  nested_keys
  refine w_newI 0 g rfl rfl (by decide) (.inl rfl) fun H1 g => ?_
  have hb1 := hbk g
  nested_keys
  refine w_newI 0 g rfl rfl (by decide) (.inl rfl) fun H2 g => ?_
  have hb2 := hbk g
  have hki2 := g.kp.t _ _ hki
  clear hb1
  nested_keys
  intro U hU
  have U0 := g.kp.nn hU
  refine lc_tup (K := K) (a := b.ki) (xs := kvs0) (fun i H' => ∃ (ps : List Addr) (xs : List (Str × ((Int × Int) × Addr))), ps.length = i ∧ xs.map (fun p => (p.1, p.2.1)) = h.kinds.take i ∧ (∀ x ∈ xs, KindAt H' x) ∧ Paired (fun p (x : Str × ((Int × Int) × Addr)) => H' p = some (.tup [.str x.1, .ref x.2.2])) ps xs ∧
    Cfg (fun y => y = pa) H [(U, .lst (ps.map V.ref)), (pa, Ob (He.ga K "Account") dx (f_Account.take 2) [.int hour, .ref b.pal])] H')
    ⟨[], [], rfl, rfl, (fun x m => by cases m), .nil, g.new hU⟩ (fun i H' _ ⟨_, _, _, _, _, _, g⟩ => SqT.of (g.kp.t _ _ hki)) ?_ ?_
  · rintro i v H' hv ⟨ps, xs, hps, hxs, hK, hP, g⟩
    obtain ⟨r, t, hr, rfl, ht⟩ := hkt.get hv
    have ht := g.kp.t _ _ ht
    nested_keys
    refine w_newT g fun t1 H3 h1 g t3 => ?_
    nested_keys
    refine w_newT g fun t2 H4 h2 g t4 => ?_
    have hi := get_lt hr
    have gw := (g.sub (D' := [(U, .lst (ps.map V.ref)), (pa, Ob (He.ga K "Account") dx (f_Account.take 2) [.int hour, .ref b.pal])]) (by simp)).wr (o := .lst (ps.map V.ref ++ [.ref t2])) 0 rfl (fun _ z => by cases z) (.inr U0)
    have tw : Tp H4 (upd H4 U (.lst (ps.map V.ref ++ [.ref t2]))) := tp_wr (g.get 2 rfl) (fun _ z => by cases z)
    have tall := (t3.trans t4).trans tw
    have kf := hok.kinds
    refine ⟨_, g.get 2 rfl, by rw [List.length_map, hps]; exact small1000 (by omega), ps ++ [t2], xs ++ [(r.1, (r.2, t1))], by simp [hps], ?_, fun y m => ?_, paired_app (paired_mono hP fun _ _ q => tall _ _ q) (.cons (tw _ _ (g.get 0 rfl)) .nil), by rw [List.map_append]; exact gw⟩
    · rw [List.map_append, hxs, take_snoc hr]; rfl
    · rcases List.mem_append.mp m with m | m
      · exact tall _ _ (hK y m)
      · rw [List.mem_singleton.mp m]; exact tw _ _ (g.get 1 rfl)
  · rintro H3 ⟨ps, xs, hps, hxs, hK, hP, g⟩
    rw [hkt.len, List.take_length] at hxs
    have hkl : kvs0.length = h.kinds.length := hkt.len
    nested_keys
    refine ⟨U, ps, xs.map (fun x => (.inr x.1, .ref x.2.2)), rfl, SqL.of (g.get 0 rfl), ?_, ?_⟩
    · have q : ∀ {ps : List Addr} {xs : List (Str × ((Int × Int) × Addr))}, Paired (fun p (x : Str × ((Int × Int) × Addr)) => H3 p = some (.tup [.str x.1, .ref x.2.2])) ps xs → Paired (fun p (kv : Key × V) => SqT K H3 p [kV kv.1, kv.2]) ps (xs.map (fun x => (.inr x.1, .ref x.2.2))) := by
        intro ps xs h
        induction h with
        | nil => exact .nil
        | cons a t ih => exact .cons (SqT.of a) ih
      exact q hP
    intro kk hkk
    have kk0 := g.kp.nn hkk
    have g := g.new (o := .dK (mergeK [] (xs.map (fun x => (.inr x.1, .ref x.2.2))))) hkk
    have tk := (Kp.new (S := no) (o := .dK (mergeK [] (xs.map (fun x => ((.inr x.1 : Key), V.ref x.2.2))))) hkk).tp
    have hK : ∀ x ∈ xs, KindAt (upd H3 kk (.dK (mergeK [] (xs.map (fun x => (.inr x.1, .ref x.2.2)))))) x := fun x m => tk _ _ (hK x m)
    have g := g.sub (D' := [(kk, .dK (mergeK [] (xs.map (fun x => (.inr x.1, .ref x.2.2))))), (pa, Ob (He.ga K "Account") dx (f_Account.take 2) [.int hour, .ref b.pal])]) (by simp)
    generalize upd H3 kk (.dK (mergeK [] (xs.map (fun x => ((.inr x.1 : Key), V.ref x.2.2))))) = H4 at g hK
    clear tk hP hps
    have k04 := g.kp
    have g : Cfg (fun y => y = pa) H4 _ H4 := g.rebase
    refine w_newI 1 g rfl rfl (by decide) (.inl rfl) fun H5 g => ?_
    have hb5 := (k04.trans g.kp).get hbk0 hne
    have hte5 : H5 b.te = some (.frz o (.tup tvs)) := (k04.trans g.kp).get hte (ne_of hte hpa (fun z => by cases z))
    have htt5 := htt.mono (k04.trans g.kp).t
    obtain ⟨tps, etv, htp⟩ := htt5.refs
    rw [etv] at hte5
    clear hb2
    nested_keys
    refine ⟨b.te, o, tps, h.teams.map (fun x => (.inr x.1, .int x.2)), rfl, hte5, hto, ?_, ?_⟩
    · have q : ∀ {ps : List Addr} {xs : List (Str × Int)}, Paired (fun p x => H5 p = some (.tup (teamV x))) ps xs → Paired (fun p (kv : Key × V) => SqT K H5 p [kV kv.1, kv.2]) ps (xs.map (fun x => (.inr x.1, .int x.2))) := by
        intro ps xs h
        induction h with
        | nil => exact .nil
        | cons a t ih => exact .cons (SqT.of a) ih
      exact q htp
    intro kt hkt
    have kt0 := g.kp.nn hkt
    have g := g.new (o := .dK (mergeK [] (h.teams.map (fun x => (.inr x.1, .int x.2))))) hkt
    generalize upd H5 kt (.dK (mergeK [] (h.teams.map (fun x => ((.inr x.1 : Key), V.int x.2))))) = H6 at g
    refine w_newI 2 g rfl rfl (by decide) (.inl rfl) fun H7 g => ?_
    have hb7 := (k04.trans g.kp).get hbk0 hne
    have hpo7 := (k04.trans g.kp).t _ _ hpo
    clear hb5
    nested_keys
    intro U2 hU2
    have U20 := g.kp.nn hU2
    refine lc_tup (K := K) (a := b.po) (xs := h.pots.map V.str) (fun i H' => ∃ (ps : List Addr) (xs2 : List (Str × Addr)), ps.length = i ∧ xs2.map (·.1) = h.pots.take i ∧ (∀ x ∈ xs2, H4 x.2 = none ∧ ∃ dx, H' x.2 = some (potO K dx Pot.fresh x.2)) ∧ (xs2.map (·.2)).Nodup ∧ Paired (fun p (x : Str × Addr) => H' p = some (.tup [.str x.1, .ref x.2])) ps xs2 ∧
      Cfg (fun y => y = pa) H4 [(U2, .lst (ps.map V.ref)), (kt, .dK (mergeK [] (h.teams.map (fun x => (.inr x.1, .int x.2))))), (kk, .dK (mergeK [] (xs.map (fun x => (.inr x.1, .ref x.2.2))))), (pa, Ob (He.ga K "Account") dx (f_Account.take 4) [.int hour, .ref b.pal, .ref kk, .ref kt])] H')
      ⟨[], [], rfl, rfl, (fun x m => by cases m), .nil, .nil, g.new hU2⟩ (fun i H' _ ⟨_, _, _, _, _, _, _, g⟩ => SqT.of ((k04.trans g.kp).t _ _ hpo)) ?_ ?_
    · rintro i v H' hv ⟨ps, xs2, hps, hxs2, hK2, hnd2, hP, g⟩
      rw [List.getElem?_map] at hv
      obtain ⟨s, hs, rfl⟩ := Option.map_eq_some_iff.mp hv
      have hi := get_lt hs
      have g0 : Cfg no H' [] H' := Cfg.nil
      nested_keys
      refine w_make g0 fun y dxy H8 hy g8 => ?_
      refine ⟨y, dxy, rfl, g8.get 0 rfl, fun H9 h9 k9 => ⟨rfl, ?_⟩⟩
      have g9 := g8.call1 (o := potO K dxy Pot.fresh y) 0 rfl k9 h9 (.inr hy)
      have y4 := g.kp.nn hy
      have k9' := g9.kp
      have g := g.ex k9'
      have hy9 := g9.get 0 rfl
      refine ⟨show 2 ≤ sizeLine by decide, ?_⟩
      intro p1 hp1
      have kp : Ex H9 (upd H9 p1 (.tup [.str s, .ref y])) := Kp.new hp1
      have hp2 : upd H9 p1 (.tup [.str s, .ref y]) p1 = some (.tup [.str s, .ref y]) := upd_same
      have g := g.ex kp
      have hU := g.get 0 rfl
      have gw := g.wr (o := .lst (ps.map V.ref ++ [.ref p1])) 0 rfl (fun _ z => by cases z) (.inr U20)
      have tw : Tp _ (upd (upd H9 p1 (.tup [.str s, .ref y])) U2 (.lst (ps.map V.ref ++ [.ref p1]))) := tp_wr hU (fun _ z => by cases z)
      have keep : ∀ z dx, H9 z = some (potO K dx Pot.fresh z) → upd (upd H9 p1 (.tup [.str s, .ref y])) U2 (.lst (ps.map V.ref ++ [.ref p1])) z = some (potO K dx Pot.fresh z) := fun z dx e => by
        have e1 := kp.exget e
        rw [upd_ne (ne_of e1 hU (fun z => by cases z))]; exact e1
      have pf := hok.pots
      refine ⟨_, hU, by rw [List.length_map, hps]; exact small1000 (by omega), ps ++ [p1], xs2 ++ [(s, y)], by simp [hps], ?_, fun x m => ?_, ?_, paired_app (paired_mono hP fun _ _ q => tw _ _ (kp.t _ _ (k9'.t _ _ q))) (.cons (tw _ _ hp2) .nil), by rw [List.map_append]; exact gw⟩
      · rw [List.map_append, hxs2, take_snoc hs]; rfl
      · rcases List.mem_append.mp m with m | m
        · obtain ⟨h4, dxx, hx⟩ := hK2 x m
          exact ⟨h4, dxx, keep _ _ (k9'.exget hx)⟩
        · rw [List.mem_singleton.mp m]
          exact ⟨y4, dxy, keep _ _ hy9⟩
      · rw [List.map_append, List.nodup_append]
        refine ⟨hnd2, by simp, fun a ma c mc e => ?_⟩
        obtain ⟨x, mx, rfl⟩ := List.mem_map.mp ma
        have mc : c = y := by simpa using mc
        obtain ⟨_, dxx, hx⟩ := hK2 x mx
        rw [e, mc, hy] at hx
        cases hx
    · rintro H8 ⟨ps, xs2, hps, hxs2, hK2, hnd2, hP, g⟩
      rw [List.length_map, List.take_length] at hxs2
      nested_keys
      refine ⟨U2, ps, xs2.map (fun x => (.inr x.1, .ref x.2)), rfl, SqL.of (g.get 0 rfl), ?_, ?_⟩
      · have q : ∀ {ps : List Addr} {xs : List (Str × Addr)}, Paired (fun p (x : Str × Addr) => H8 p = some (.tup [.str x.1, .ref x.2])) ps xs → Paired (fun p (kv : Key × V) => SqT K H8 p [kV kv.1, kv.2]) ps (xs.map (fun x => (.inr x.1, .ref x.2))) := by
          intro ps xs h
          induction h with
          | nil => exact .nil
          | cons a t ih => exact .cons (SqT.of a) ih
        exact q hP
      intro kp hkp
      have kp0 := g.kp.nn hkp
      have g := g.new (o := .dK (mergeK [] (xs2.map (fun x => (.inr x.1, .ref x.2))))) hkp
      have tk : Ex H8 (upd H8 kp (.dK (mergeK [] (xs2.map (fun x => ((.inr x.1 : Key), V.ref x.2)))))) := Kp.new hkp
      have hK2 : ∀ x ∈ xs2, H4 x.2 = none ∧ ∃ dx, upd H8 kp (.dK (mergeK [] (xs2.map (fun x => (.inr x.1, .ref x.2))))) x.2 = some (potO K dx Pot.fresh x.2) := fun x m => by
        obtain ⟨h4, dxx, hx⟩ := hK2 x m
        exact ⟨h4, dxx, tk.exget hx⟩
      have g := g.sub (D' := [(kp, .dK (mergeK [] (xs2.map (fun x => (.inr x.1, .ref x.2))))), (kt, .dK (mergeK [] (h.teams.map (fun x => (.inr x.1, .int x.2))))), (kk, .dK (mergeK [] (xs.map (fun x => (.inr x.1, .ref x.2.2))))), (pa, Ob (He.ga K "Account") dx (f_Account.take 4) [.int hour, .ref b.pal, .ref kk, .ref kt])]) (by simp)
      generalize upd H8 kp (.dK (mergeK [] (xs2.map (fun x => ((.inr x.1 : Key), V.ref x.2))))) = H9 at g hK2
      clear tk hP hps
      have k49 := g.kp
      have hK9 : ∀ x ∈ xs, KindAt H9 x := fun x m => k49.t _ _ (hK x m)
      have g : Cfg (fun y => y = pa) H9 _ H9 := g.rebase
      have hpa9 : H9 pa = some (Ob (He.ga K "Account") dx (f_Account.take 4) [.int hour, .ref b.pal, .ref kk, .ref kt]) := g.get 3 rfl
      refine w_newI 3 g rfl rfl (by decide) (.inl rfl) fun H10 g => ?_
      have hb10 := ((k04.trans k49).trans g.kp).get hbk0 hne
      clear hb7
      nested_keys
      refine w_newI 3 g rfl rfl (by decide) (.inl rfl) fun H11 g => ?_
      nested_keys
      refine w_new g fun cl H12 hcl g => ?_
      nested_keys
      refine w_newI 4 g rfl rfl (by decide) (.inl rfl) fun H13 g => ?_
      nested_keys
      refine w_new g fun md H14 hmd g => ?_
      nested_keys
      refine w_newI 5 g rfl rfl (by decide) (.inl rfl) fun H15 g => ?_
      nested_keys
      refine w_new g fun dl H16 hdl g => ?_
      nested_keys
      refine w_newI 6 g rfl rfl (by decide) (.inl rfl) fun H17 g => ?_
      nested_keys
      refine w_new g fun vl H18 hvl g => ?_
      nested_keys
      refine w_newI 7 g rfl rfl (by decide) (.inl rfl) fun H19 g => ?_
      have c19 : H19 cl = some (.lst []) := g.get 3 rfl
      have m19 : H19 md = some (.dT []) := g.get 2 rfl
      have d19 : H19 dl = some (.lst []) := g.get 1 rfl
      have v19 : H19 vl = some (.lst []) := g.get 0 rfl
      have x19 : ∀ x ∈ xs2, ∃ o, H19 x.2 = some o := fun x mx => by
        obtain ⟨_, dxx, hx⟩ := hK2 x mx
        exact ⟨_, g.kp.get hx (ob_apart hx hpa9)⟩
      have k09 := k04.trans k49
      have k019 := k09.trans g.kp
      have hB19 : BookAt K H19 b h es := by
        obtain ⟨evs, h1, h2⟩ := hB.tl
        refine ⟨k019.get hB.bk hne, hB.hall.kp k019 (fun o tvs hq z => ?_), ⟨evs, k019.get h1 (ne_of h1 hpa (fun z => by cases z)), paired_mono h2 fun _ _ q => q.kp k019 fun a dx da hq z => ?_⟩, hB.num, hB.few⟩
        · rw [z, hpa] at hq; cases hq
        · rw [z, hpa] at hq
          have q2 := congrArg List.length (HO.ins.inj (Option.some.inj hq)).2.2
          cases q2
      have hb19 := hB19.bk
      clear hb10
      nested_keys
      refine ⟨b, h, es, rfl, hB19, fun l us exs H20 hl k20 hl20 hts hD hex => ?_⟩
      have g := g.ex k20
      have g' : Cfg (fun y => y = pa) H9 (accD K h hour ⟨pa, dx, b.pal, kk, kt, kp, cl, md, dl, vl, mergeK [] (xs.map (fun x => ((.inr x.1 : Key), V.ref x.2.2))), mergeK [] (h.teams.map (fun x => ((.inr x.1 : Key), V.int x.2))), mergeK [] (xs2.map (fun x => ((.inr x.1 : Key), V.ref x.2))), fun s => (lastOf xs2 s).getD 0⟩ [] [] [] []).reverse H20 := g
      have gp := g'.perm (List.reverse_perm _).symm
      have kpa : Kp (fun y => y = pa) H H20 := k09.trans g.kp
      have hk920 : Kp (fun y => y = pa) H9 H20 := g.kp
      have hinit : AccIn K h hour ⟨pa, dx, b.pal, kk, kt, kp, cl, md, dl, vl, mergeK [] (xs.map (fun x => ((.inr x.1 : Key), V.ref x.2.2))), mergeK [] (h.teams.map (fun x => ((.inr x.1 : Key), V.int x.2))), mergeK [] (xs2.map (fun x => ((.inr x.1 : Key), V.ref x.2))), fun s => (lastOf xs2 s).getD 0⟩
          (fun y => (y = cl ∨ y = md ∨ y = dl ∨ y = vl) ∨ ∃ x ∈ xs2, y = x.2) H20 0 H20 acc0 [] [] [] (fun s => (lastOf xs2 s).getD 0) := by
        have hfind : ∀ s, s ∈ h.pots → ∃ a, lastOf xs2 s = some a ∧ (s, a) ∈ xs2 := fun s ms => by
          rw [← hxs2] at ms
          obtain ⟨a, ha⟩ := lastOf_some ms
          exact ⟨a, ha, lastOf_mem ha⟩
        refine ⟨gp.rebase, ⟨fun s => ?_, fun s => valV_last V.int h.teams s, fun s => ?_, hB.hall.pal.up kpa.t, fun s t ms mt e => ?_, hok.slots, hok.cols⟩, fun s ms => ?_, fun s t _ _ z _ _ => absurd rfl z, Ts.nil, Ts.nil, ⟨.inl (.inl (.inl rfl)), .inl (.inl (.inr (.inl rfl))), .inl (.inl (.inr (.inr (.inl rfl)))), .inl (.inl (.inr (.inr (.inr rfl))))⟩, fun s ms => ?_, fun s ms z => absurd rfl z, Nat.zero_le _, Nat.zero_le _, Nat.zero_le _, Nat.zero_le _⟩
        · have e1 : valV (mergeK [] (xs.map (fun x => ((.inr x.1 : Key), V.ref x.2.2)))) (.inr s) = (lastOf xs s).map (fun q => V.ref q.2) := valV_last (fun q : (Int × Int) × Addr => V.ref q.2) xs s
          have e2 : kindR h s = (lastOf xs s).map (·.1) := by
            unfold kindR
            rw [← hxs]
            exact lastOf_map (fun q : (Int × Int) × Addr => q.1) xs s
          rw [e2]
          cases hz : lastOf xs s with
          | none => rw [hz] at e1; exact e1
          | some q =>
            rw [hz] at e1
            exact ⟨q.2, e1, hk920.t _ _ (hK9 _ (lastOf_mem hz))⟩
        · have e1 : valV (mergeK [] (xs2.map (fun x => ((.inr x.1 : Key), V.ref x.2)))) (.inr s) = (lastOf xs2 s).map V.ref := valV_last V.ref xs2 s
          by_cases ms : s ∈ h.pots
          · obtain ⟨a, ha, _⟩ := hfind s ms
            rw [if_pos ms, e1]
            show (lastOf xs2 s).map V.ref = some (V.ref ((lastOf xs2 s).getD 0))
            rw [ha]; rfl
          · rw [if_neg ms, e1, lastOf_none (by rw [hxs2]; exact ms)]; rfl
        · obtain ⟨a, ha, ma⟩ := hfind s ms
          obtain ⟨c, hc, mc⟩ := hfind t mt
          have e : (lastOf xs2 s).getD 0 = (lastOf xs2 t).getD 0 := e
          rw [ha, hc] at e
          have e : a = c := e
          subst e
          obtain ⟨i, hi⟩ := List.mem_iff_getElem?.mp ma
          obtain ⟨j, hj⟩ := List.mem_iff_getElem?.mp mc
          have e1 : (xs2.map (·.2))[i]? = some a := by rw [List.getElem?_map, hi]; rfl
          have e2 : (xs2.map (·.2))[j]? = some a := by rw [List.getElem?_map, hj]; rfl
          have q := nd_ix hnd2 e1 e2
          subst q
          rw [hi] at hj
          exact (Prod.mk.inj (Option.some.inj hj)).1
        · obtain ⟨a, ha, ma⟩ := hfind s ms
          obtain ⟨_, dxx, hx⟩ := hK2 _ ma
          show PotAt K H20 ((lastOf xs2 s).getD 0) Pot.fresh ((lastOf xs2 s).getD 0)
          rw [ha]
          exact ⟨⟨dxx, hk920.get hx (ob_apart hx hpa9)⟩, fun t e => nomatch e⟩
        · obtain ⟨a, ha, ma⟩ := hfind s ms
          show (((lastOf xs2 s).getD 0 = cl ∨ _) ∨ ∃ x ∈ xs2, (lastOf xs2 s).getD 0 = x.2) ∨ _
          rw [ha]
          exact .inl (.inr ⟨_, ma, rfl⟩)
      generalize hax : (⟨pa, dx, b.pal, kk, kt, kp, cl, md, dl, vl, mergeK [] (xs.map (fun x => ((.inr x.1 : Key), V.ref x.2.2))), mergeK [] (h.teams.map (fun x => ((.inr x.1 : Key), V.int x.2))), mergeK [] (xs2.map (fun x => ((.inr x.1 : Key), V.ref x.2))), fun s => (lastOf xs2 s).getD 0⟩ : AccX) = ax at hinit
      have hxpa : ax.pa = pa := by rw [← hax]
      have hSfresh : ∀ y, ((y = cl ∨ y = md ∨ y = dl ∨ y = vl) ∨ ∃ x ∈ xs2, y = x.2) → H y = none := by
        rintro y ((rfl | rfl | rfl | rfl) | ⟨x, mx, rfl⟩)
        · exact k09.nn hcl
        · exact k09.nn hmd
        · exact k09.nn hdl
        · exact k09.nn hvl
        · exact k04.nn (hK2 x mx).1
      have hlS : ¬ ((l = cl ∨ l = md ∨ l = dl ∨ l = vl) ∨ ∃ x ∈ xs2, l = x.2) := by
        rintro ((rfl | rfl | rfl | rfl) | ⟨x, mx, rfl⟩)
        · rw [hl] at c19; cases c19
        · rw [hl] at m19; cases m19
        · rw [hl] at d19; cases d19
        · rw [hl] at v19; cases v19
        · obtain ⟨o, ho⟩ := x19 x mx
          rw [hl] at ho; cases ho
      obtain ⟨S', hSf, hlS, hA0⟩ : ∃ S' : Addr → Prop, (∀ y, S' y → H y = none) ∧ ¬ S' l ∧ AccAt K h hour ax S' H20 0 H20 acc0 := ⟨_, hSfresh, hlS, ⟨_, _, _, _, hinit⟩⟩
      have hlen : us.length = (sortE es).length := by rw [hts.len, ← hex, List.length_map]
      have hles : (sortE es).length = es.length := (srt_perm es).length_eq
      have hfew := hB.few
      nested_keys
      refine for_list (K := K) (a := l) (xs := us) (fun i σ H' => ∃ v3 v4 v5 : Option V, AccAt K h hour ax S' H20 i H' (run_ h (((sortE es).take i).filter fun e => decide (e.hour ≤ hour))) ∧ σ = [some (.ref pa), some (.ref b.bk), some (.int hour), v3, v4, v5, none, none, none, none])
        ⟨_, _, _, hA0, rfl⟩ (fun i σ H' _ ⟨_, _, _, hA, _⟩ => by
          obtain ⟨_, _, _, _, hI⟩ := hA
          exact SqL.of (hI.cfg.kp.get hl20 hlS)) ?_ ?_
      · rintro i v σ H' hv ⟨v3, v4, v5, hA, rfl⟩
        obtain ⟨⟨e, da⟩, t, he, rfl, ht⟩ := hts.get hv
        have hi := get_lt hv
        have hei : (sortE es)[i]? = some e := by rw [← hex, List.getElem?_map, he]; rfl
        obtain ⟨cls, dls, vls, B, hI⟩ := id hA
        have ht' := hI.cfg.kp.t _ _ ht
        have hd20 := hD _ (List.mem_of_getElem? he)
        have hd' := hI.cfg.kp.t _ _ hd20
        have hacc := hI.acc
        rw [hxpa] at hacc
        rw [filt_snoc hei]
        nested_keys
        refine ite_d (fun c => ?_) (fun c => ?_)
        · rw [if_pos (decide_eq_true c)]
          nested_keys
          refine ⟨h, hour, ax, S', H20, i, _, e.hour, e.number, da, e.deed, by rw [hxpa], hA, hd', hd20, by omega, hdo e ((srt_perm es).mem_iff.mp (List.mem_of_getElem? hei)), lastOk_run _, fun H'' hA'' => ?_⟩
          nested_keys
          refine ⟨_, _, _, ?_, rfl⟩
          unfold run_
          rw [List.foldl_append]
          exact hA''
        · rw [if_neg (by simp [c]), List.append_nil]
          nested_keys
          exact ⟨_, _, _, ⟨_, _, _, _, hI.le (Nat.le_succ i)⟩, rfl⟩
      · rintro σ H' ⟨v3, v4, v5, hA, rfl⟩
        rw [hlen, List.take_length] at hA
        obtain ⟨cls, dls, vls, B, hI⟩ := id hA
        exact k ax S' H20 _ H' hxpa hA (by omega) (kpa.call hI.cfg.kp fun y hy => .inr (hSf y hy))

end K87

namespace K87
open PySem PySem.Spec PyProof.Rows L2
local macro_rules | `(tactic| kxs_still) => `(tactic| with_unfolding_all rfl)
local macro_rules | `(tactic| lcg_sub) => `(tactic| first
  | assumption
  | (apply Cfg.get (i := 0) <;> first | assumption | kxs_still)
  | (apply Cfg.get (i := 1) <;> first | assumption | kxs_still)
  | (apply Cfg.get (i := 2) <;> first | assumption | kxs_still)
  | (apply Cfg.get (i := 3) <;> first | assumption | kxs_still)
  | (apply Cfg.get (i := 4) <;> first | assumption | kxs_still)
  | (apply Cfg.get (i := 5) <;> first | assumption | kxs_still)
  | (apply Cfg.get (i := 6) <;> first | assumption | kxs_still)
  | (apply Cfg.get (i := 7) <;> first | assumption | kxs_still)
  | (apply Cfg.get (i := 8) <;> first | assumption | kxs_still)
  | (apply Cfg.get (i := 9) <;> first | assumption | kxs_still)
  | (apply Cfg.get (i := 0) <;> first | (apply Bfg.toCfg; assumption) | kxs_still)
  | (apply Cfg.get (i := 1) <;> first | (apply Bfg.toCfg; assumption) | kxs_still)
  | (apply Cfg.get (i := 2) <;> first | (apply Bfg.toCfg; assumption) | kxs_still)
  | (apply Cfg.get (i := 3) <;> first | (apply Bfg.toCfg; assumption) | kxs_still)
  | (apply Cfg.get (i := 4) <;> first | (apply Bfg.toCfg; assumption) | kxs_still)
  | (apply Cfg.get (i := 5) <;> first | (apply Bfg.toCfg; assumption) | kxs_still)
  | (apply Cfg.get (i := 6) <;> first | (apply Bfg.toCfg; assumption) | kxs_still)
  | (apply Cfg.get (i := 7) <;> first | (apply Bfg.toCfg; assumption) | kxs_still)
  | (apply Cfg.get (i := 8) <;> first | (apply Bfg.toCfg; assumption) | kxs_still)
  | (apply Cfg.get (i := 9) <;> first | (apply Bfg.toCfg; assumption) | kxs_still))
local macro_rules | `(tactic| kas_types) => `(tactic| first
  | assumption | decide | omega | exact Or.inl (by omega) | exact Or.inr (by omega) | exact ⟨by omega, by omega⟩ | exact ⟨by omega, by omega, by omega⟩)
local macro_rules | `(tactic| keq_hits) => `(tactic| simp only [u_var, u_c, u_op, u_un, u_test, u_tB, u_bl, u_I0, u_eqS, u_eqI, u_neS, u_neI, u_seq, u_next, u_asg, u_name, u_ret, u_retN, u_drop, u_ifS, u_ifE, u_and, u_or, u_not, u_andV, u_orV, u_notV, u_nil, u_cons, u_call, u_cb, u_tup, u_lst, u_sub, u_gNil, u_gCons, u_bm, u_m1, u_isS, u_sl, u_noPart, u_part, u_partk, u_par, u_par2, u_for, u_lc, u_rng1, u_itL, u_itT, u_yes, u_fldI, u_putI, u_newI, u_methI, u_make, u_some, u_i0, u_i1, u_K, L2.start, wipe, List.map_cons, List.map_nil, List.length_cons, List.length_nil, List.replicate_succ, List.replicate_zero, List.cons_append, List.nil_append, List.set_cons_zero, List.set_cons_succ, ite_true, ite_false, if_true, if_false, Bool.false_eq_true, colV, washV, kindV, teamV, rowV, coolV, deedV, batRef_none, batRef_some, u_par3, u_par33, u_augI, u_dget, u_din, u_dnotin, u_dget2, u_dget1, u_dpop1, u_dput, u_setD, u_dnewK, u_dnewT, decide_true, decide_false, Bool.not_true, Bool.not_false, Option.map_none, Option.map_some, Option.isSome_none, Option.isSome_some, Option.getD_some, Option.getD_none, vn_non, vn_ref, vn_str, vn_int, wd_fill_fill, wd_fill_gather, wd_fill_wash, wd_fill_empty, wd_fill_break, wd_fill_new, wd_gather_fill, wd_gather_gather, wd_gather_wash, wd_gather_empty, wd_gather_break, wd_gather_new, wd_wash_fill, wd_wash_gather, wd_wash_wash, wd_wash_empty, wd_wash_break, wd_wash_new, wd_empty_fill, wd_empty_gather, wd_empty_wash, wd_empty_empty, wd_empty_break, wd_empty_new, wd_break_fill, wd_break_gather, wd_break_wash, wd_break_empty, wd_break_break, wd_break_new, wd_new_fill, wd_new_gather, wd_new_wash, wd_new_empty, wd_new_break, wd_new_new, wd_nil, wd_none, wd_broken, wd_busy, wd_glass, wd_name, wd_cold, wd_rank, wd_less, wd_full, wd_whole, eq_self, true_and, and_true])
local macro_rules | `(tactic| nested_keys) => `(tactic| repeat first
  | (with_reducible apply w_nx)
  | (with_reducible apply w_blk)
  | (with_reducible apply w_I; (· with_unfolding_all kas_types))
  | (with_reducible apply w_ixT; (· lcg_sub); (· kxs_still))
  | (with_reducible apply w_ixL; (· lcg_sub); (· kxs_still))
  | (with_reducible apply w_fldI; (· lcg_sub); (· kxs_still))
  | (with_reducible apply w_methI; (· lcg_sub))
  | (with_reducible apply w_augO; (· lcg_sub); (· kxs_still))
  | (with_reducible apply w_dgetS; (· lcg_sub); (· assumption))
  | (with_reducible apply w_dinS; (· lcg_sub))
  | (with_reducible apply w_dnotinS; (· lcg_sub))
  | (with_reducible apply w_isD; (· lcg_sub))
  | (with_reducible apply w_sz; (· with_unfolding_all exact Nat.le_of_ble_eq_true rfl))
  | (with_reducible apply w_gTup; (· lcg_sub); (· kxs_still))
  | (with_reducible apply w_tyL; (· lcg_sub))
  | (with_reducible apply w_rng1k; (· with_unfolding_all kas_types); (· with_unfolding_all kas_types))
  | (with_reducible apply w_itLk; (· lcg_sub))
  | (with_reducible apply w_itTk; (· lcg_sub))
  | (with_reducible apply w_lenL; (· lcg_sub))
  | (with_reducible apply w_lenT; (· lcg_sub))
  | (with_reducible apply w_lenS; (· with_unfolding_all kas_types))
  | (with_reducible apply w_ixaL; (· lcg_sub); (· kxs_still))
  | (with_reducible apply w_ixaT; (· lcg_sub); (· kxs_still))
  | (with_reducible apply w_ixaS; (· with_unfolding_all kas_types); (· kxs_still))
  | (with_reducible apply w_ixS; (· with_unfolding_all kas_types); (· kxs_still))
  | (with_reducible apply w_slL; (· lcg_sub))
  | (with_reducible apply w_slS; (· with_unfolding_all kas_types))
  | (with_reducible apply w_addS; (· with_unfolding_all kas_types))
  | (with_reducible apply w_listL; (· lcg_sub))
  | (with_reducible apply w_tupL; (· lcg_sub))
  | (with_reducible apply w_divmod; (· with_unfolding_all kas_types))
  | (simp only [u_var, u_c, u_op, u_un, u_test, u_tB, u_bl, u_I0, u_eqS, u_eqI, u_neS, u_neI, u_seq, u_next, u_asg, u_name, u_ret, u_retN, u_drop, u_ifS, u_ifE, u_and, u_or, u_not, u_andV, u_orV, u_notV, u_nil, u_cons, u_call, u_cb, u_tup, u_lst, u_sub, u_gNil, u_gCons, u_bm, u_m1, u_isS, u_sl, u_noPart, u_part, u_partk, u_par, u_par2, u_for, u_lc, u_rng1, u_itL, u_itT, u_yes, u_fldI, u_putI, u_newI, u_methI, u_make, u_some, u_i0, u_i1, u_K, L2.start, wipe, List.map_cons, List.map_nil, List.length_cons, List.length_nil, List.replicate_succ, List.replicate_zero, List.cons_append, List.nil_append, List.set_cons_zero, List.set_cons_succ, ite_true, ite_false, if_true, if_false, Bool.false_eq_true, colV, washV, kindV, teamV, rowV, coolV, deedV, batRef_none, batRef_some, u_par3, u_par33, u_augI, u_dget, u_din, u_dnotin, u_dget2, u_dget1, u_dpop1, u_dput, u_setD, u_dnewK, u_dnewT, decide_true, decide_false, Bool.not_true, Bool.not_false, Option.map_none, Option.map_some, Option.isSome_none, Option.isSome_some, Option.getD_some, Option.getD_none, vn_non, vn_ref, vn_str, vn_int, wd_fill_fill, wd_fill_gather, wd_fill_wash, wd_fill_empty, wd_fill_break, wd_fill_new, wd_gather_fill, wd_gather_gather, wd_gather_wash, wd_gather_empty, wd_gather_break, wd_gather_new, wd_wash_fill, wd_wash_gather, wd_wash_wash, wd_wash_empty, wd_wash_break, wd_wash_new, wd_empty_fill, wd_empty_gather, wd_empty_wash, wd_empty_empty, wd_empty_break, wd_empty_new, wd_break_fill, wd_break_gather, wd_break_wash, wd_break_empty, wd_break_break, wd_break_new, wd_new_fill, wd_new_gather, wd_new_wash, wd_new_empty, wd_new_break, wd_new_new, wd_nil, wd_none, wd_broken, wd_busy, wd_glass, wd_name, wd_cold, wd_rank, wd_less, wd_full, wd_whole, eq_self, true_and, and_true])
  | (with_reducible apply w_eq; (· kxs_still))
  | (with_reducible apply w_ne; (· kxs_still)))
section
variable {K : PySem.W.Frag}
theorem kit_tl : PySem.W.kitOne K (.type "tuple") (.type "list") = some false := by with_unfolding_all rfl
theorem kit_tt : PySem.W.kitOne K (.type "tuple") (.type "tuple") = some true := by with_unfolding_all rfl
theorem kit_ll : PySem.W.kitOne K (.type "list") (.type "list") = some true := by with_unfolding_all rfl
theorem kit_lt : PySem.W.kitOne K (.type "list") (.type "tuple") = some false := by with_unfolding_all rfl
theorem kit_il : PySem.W.kitOne K (.type "int") (.type "list") = some false := by with_unfolding_all rfl
theorem kit_it : PySem.W.kitOne K (.type "int") (.type "tuple") = some false := by with_unfolding_all rfl
theorem kit_is : PySem.W.kitOne K (.type "int") (.type "str") = some false := by with_unfolding_all rfl
theorem kit_ii : PySem.W.kitOne K (.type "int") (.type "int") = some true := by with_unfolding_all rfl
theorem kit_ib : PySem.W.kitOne K (.type "int") (.type "bool") = some false := by with_unfolding_all rfl
theorem kit_sl : PySem.W.kitOne K (.type "str") (.type "list") = some false := by with_unfolding_all rfl
theorem kit_st : PySem.W.kitOne K (.type "str") (.type "tuple") = some false := by with_unfolding_all rfl
theorem kit_ss : PySem.W.kitOne K (.type "str") (.type "str") = some true := by with_unfolding_all rfl
theorem kit_nl : PySem.W.kitOne K (.type "NoneType") (.type "list") = some false := by with_unfolding_all rfl
theorem kit_nt : PySem.W.kitOne K (.type "NoneType") (.type "tuple") = some false := by with_unfolding_all rfl
theorem kit_ns : PySem.W.kitOne K (.type "NoneType") (.type "str") = some false := by with_unfolding_all rfl
end
theorem pi_zipAK {X : Cx} {K : PySem.W.Frag} {e e2 : Expr} {ta : TA} {p pos tpos : Pos} {elts : List Expr} {kk : Nat} (h : X.K = K) (hg : Gl X "zip") (hm : X.mg "zip" = none) (ha : PA X [e, e2] ta)
    (hs : starEach [e, e2] X.env = (false, eval e X.env) :: starEach [e2] X.env := by rfl) (hpl : (backTo pos (starEach [e2] X.env)).any (·.1) = false := by rfl) :
    PI X (.Tuple elts kk tpos) (.Call (.Name "zip" p) [e, e2] [] pos) (RZ.iZipA K ta) := h ▸ RZ.pi_zipA hg hm ha hs hpl
section
variable {K : PySem.W.Frag} {H : Hp} {x : V} {QT : V → Hp → Prop} {t : Value} {b : Bool}
theorem w_isi1 {n : String} (ht : TyX K H x t) (hk : PySem.W.kitOne K t (.type n) = some b) (q : QT (.bl b) H) : rIsi K [x, .ty n] H QT := ⟨x, .ty n, t, .type n, b, rfl, .ty n, ht, hk, q⟩
theorem w_isi2 {n m : String} {p : Addr} (hp : H p = some (.tup [.ty n, .ty m])) (ht : TyX K H x t) (hk : PySem.W.kitAny K t [.type n, .type m] = some b) (q : QT (.bl b) H) : rIsiT K [x, .ref p] H QT :=
  ⟨x, p, _, t, _, b, rfl, hp, .cons (.ty n) (.cons (.ty m) .nil), ht, hk, q⟩
end
/-! ### the same data -/
def ScV (x : V) : Prop := x = .non ∨ (∃ i, x = .int i) ∨ ∃ s, x = .str s
def SameV (H : Hp) : Nat → V → V → Prop
  | 0, x, y => x = y ∧ ScV x
  | n + 1, x, y => (x = y ∧ ScV x) ∨ ∃ a b xs ys, x = .ref a ∧ y = .ref b ∧ ((H a = some (.lst xs) ∧ H b = some (.lst ys)) ∨ (H a = some (.tup xs) ∧ H b = some (.tup ys))) ∧ Paired (SameV H n) xs ys ∧ xs.length ≤ 1000
theorem SameV.ex {H H' : Hp} (k : Ex H H') : ∀ {n : Nat} {x y : V}, SameV H n x y → SameV H' n x y
  | 0, _, _, h => h
  | n + 1, x, y, h => by
    rcases h with h | ⟨a, b, xs, ys, e1, e2, h, hp, hl⟩
    · exact .inl h
    · refine .inr ⟨a, b, xs, ys, e1, e2, ?_, paired_mono hp fun _ _ q => SameV.ex k q, hl⟩
      rcases h with ⟨h1, h2⟩ | ⟨h1, h2⟩
      · exact .inl ⟨k.exget h1, k.exget h2⟩
      · exact .inr ⟨k.exget h1, k.exget h2⟩
def rZipA (K : PySem.W.Frag) (vs : List V) (R : It → Hp → Prop) (H1 : Hp) : Prop := ∃ a b xs ys, vs = [.ref a, .ref b] ∧ ((SqL K H1 a xs ∧ SqL K H1 b ys ∧ R (Itz K a b) H1) ∨ (SqT K H1 a xs ∧ SqT K H1 b ys ∧ R (RZ.ItzT K a b) H1))
theorem u_zipA {K : PySem.W.Frag} {ta : TA} {σ : L2.St} {H : Hp} {R : It → Hp → Prop} : RZ.iZipA K ta σ H R = ta σ H fun vs H1 => rZipA K vs R H1 := rfl
theorem walk_zipT {K : PySem.W.Frag} {a b : Addr} {xs ys : List V} {n : Nat} (hn : n = min xs.length ys.length) : Walk (RZ.ItzT K a b) n (fun H => SqT K H a xs ∧ SqT K H b ys) (YPair (fun i => xs[i]?) (fun i => ys[i]?)) := by
  subst hn
  refine ⟨fun i _ hi q => ?_, fun _ q => ⟨xs, ys, q.1, q.2, by omega⟩, fun i H v H' _ q y => ?_⟩
  · have h1 : i < xs.length := by omega
    have h2 : i < ys.length := by omega
    exact ⟨xs, ys, xs[i], ys[i], q.1, q.2, by simp [h1], by simp [h2]⟩
  · obtain ⟨T, x, z, h1, h2, h3, h4, h5⟩ := y
    exact ⟨T, x, z, h1, h2, h3, h4 xs q.1, h5 ys q.2⟩
def spSame (n : Nat) : Sp := fun vs H Q _ => ∃ x y, vs = [x, y] ∧ SameV H n x y ∧ ∀ H', Ex H H' → Q (.bl true) H'
theorem C_same_step {P : Program} {w : World} {K : PySem.W.Frag} {mg : Str → Option Value} {base : Heap} (T : Txt K mg) {lv : Nat} {spR : Sp} (C_rec : Cal P w K mg base lv "_law_same" ["_law_found", "_law_due"] spR) (m : Nat) (hrec : ∀ n, m = n + 1 → spR = spSame n) :
    Cal P w K mg base (lv + 1) "_law_same" ["_law_found", "_law_due"] (spSame m) := by
  refine cal_mk T 49 rfl T.g_same sc_same rfl rfl (fun _ _ _ _ _ _ us hl => match us, hl with | [_, _], _ => rfl) (fun vs H Q E h => ?_) (fun f cdv A outer s H vs Q E hr h => ?_)
  · obtain ⟨x, y, rfl, hs0, k⟩ := h
    rfl
  obtain ⟨x, y, rfl, hs0, k⟩ := h
  refine ⟨_, (pss_cons (ps_if (pt_val (pe_callB (call_isiTK (K := K) rfl) (by rfl) T.f_isinstance (by decide +kernel) (pa_cons (pv 1) (pa_cons (pe_tup (pa_cons (pe_bltn (v := .ty "list") (by rfl) T.f_list (by decide +kernel) rfl) (pa_cons (pe_bltn (v := .ty "tuple") (by rfl) T.f_tuple (by decide +kernel) rfl) pa_nil))) pa_nil)))) (pss_cons (ps_if (PW.pt (pw_or (pt_cmpR op_ne (pe_callB (call_isiK1 (K := K) rfl) (by rfl) T.f_isinstance (by decide +kernel) (pa_cons (pv 0) (pa_cons (pe_bltn (v := .ty "list") (by rfl) T.f_list (by decide +kernel) rfl) pa_nil))) (pe_callB (call_isiK1 (K := K) rfl) (by rfl) T.f_isinstance (by decide +kernel) (pa_cons (pv 1) (pa_cons (pe_bltn (v := .ty "list") (by rfl) T.f_list (by decide +kernel) rfl) pa_nil))) (nomark _)) (pw_or1 (pt_cmpR op_ne (pe_callB (call_isiK1 (K := K) rfl) (by rfl) T.f_isinstance (by decide +kernel) (pa_cons (pv 0) (pa_cons (pe_bltn (v := .ty "tuple") (by rfl) T.f_tuple (by decide +kernel) rfl) pa_nil))) (pe_callB (call_isiK1 (K := K) rfl) (by rfl) T.f_isinstance (by decide +kernel) (pa_cons (pv 1) (pa_cons (pe_bltn (v := .ty "tuple") (by rfl) T.f_tuple (by decide +kernel) rfl) pa_nil))) (nomark _))))) (pss_one (ps_ret pe_bl)) pss_nil)
 (pss_one (ps_ret (pe_and (pe_cmpR op_eq (pe_callB (call_lenK (K := K) rfl) (by rfl) T.f_len (by decide +kernel) (pa_cons (pv 0) pa_nil)) (pe_callB (call_lenK (K := K) rfl) (by rfl) T.f_len (by decide +kernel) (pa_cons (pv 1) pa_nil)) (nomark _)) (pe_one (pe_callB (cr_allK (K := K) rfl rfl) (by rfl) T.f_all (by decide +kernel) (pa_cons (pe_lc (own := [("_law_one", 2), ("_law_two", 3)]) rfl sc_same.nd (pi_zipAK (K := K) rfl (by rfl) T.f_zip (pa_cons (pv 0) (pa_cons (pv 1) pa_nil))) (blkOk_by (own := [("_law_one", 2), ("_law_two", 3)]) (N := n_same) (sc := defScope s_same) (by decide +kernel)) (fun _ _ _ _ _ => (pg_tupK (K := K) (n := 2) rfl rfl (pgs_cons (pg_name (i := 2) sc_same.nd rfl (Or.inl rfl)) (pgs_cons (pg_name (i := 3) sc_same.nd rfl (Or.inl rfl)) pgs_nil)))) (fun _ _ _ _ _ => pts_nil) (fun _ _ _ _ _ => (pe_cal C_rec hr rfl (pa_cons (pv 2) (pa_cons (pv 3) pa_nil))))) pa_nil))))))) pss_nil)
 (pss_cons (ps_if (PW.pt (pw_or (pt_cmpR op_isN (pv 1) pe_non (nomark _)) (pw_or1 (pt_val (pe_callB (call_isiK1 (K := K) rfl) (by rfl) T.f_isinstance (by decide +kernel) (pa_cons (pv 1) (pa_cons (pe_bltn (v := .ty "str") (by rfl) T.f_str (by decide +kernel) rfl) pa_nil))))))) (pss_one (ps_ret (pe_and (pe_cmpR op_eq (pe_callB (call_isiK1 (K := K) rfl) (by rfl) T.f_isinstance (by decide +kernel) (pa_cons (pv 0) (pa_cons (pe_bltn (v := .ty "str") (by rfl) T.f_str (by decide +kernel) rfl) pa_nil))) (pe_callB (call_isiK1 (K := K) rfl) (by rfl) T.f_isinstance (by decide +kernel) (pa_cons (pv 1) (pa_cons (pe_bltn (v := .ty "str") (by rfl) T.f_str (by decide +kernel) rfl) pa_nil))) (nomark _)) (pe_one (pe_cmpR op_eq (pv 0) (pv 1) (nomark _)))))) pss_nil)
 (pss_one (ps_ret (pe_and (pe_callB (call_isiK1 (K := K) rfl) (by rfl) T.f_isinstance (by decide +kernel) (pa_cons (pv 0) (pa_cons (pe_bltn (v := .ty "int") (by rfl) T.f_int (by decide +kernel) rfl) pa_nil))) (pe_and (pe_cmpR op_eq (pe_callB (call_isiK1 (K := K) rfl) (by rfl) T.f_isinstance (by decide +kernel) (pa_cons (pv 0) (pa_cons (pe_bltn (v := .ty "bool") (by rfl) T.f_bool (by decide +kernel) rfl) pa_nil))) (pe_callB (call_isiK1 (K := K) rfl) (by rfl) T.f_isinstance (by decide +kernel) (pa_cons (pv 1) (pa_cons (pe_bltn (v := .ty "bool") (by rfl) T.f_bool (by decide +kernel) rfl) pa_nil))) (nomark _)) (pe_one (pe_cmpR op_eq (pv 0) (pv 1) (nomark _))))))))), ?_⟩
  have hs : (x = y ∧ ScV x) ∨ ∃ n, m = n + 1 ∧ ∃ a b xs ys, x = .ref a ∧ y = .ref b ∧ ((H a = some (.lst xs) ∧ H b = some (.lst ys)) ∨ (H a = some (.tup xs) ∧ H b = some (.tup ys))) ∧ Paired (SameV H n) xs ys ∧ xs.length ≤ 1000 := by
    cases m with
    | zero => exact .inl hs0
    | succ n => exact hs0.elim .inl fun q => .inr ⟨n, rfl, q⟩
  clear hs0
  rcases hs with ⟨rfl, hs⟩ | ⟨n, rfl, a, b, xs, ys, rfl, rfl, hab, hp, hl⟩
  · rcases hs with rfl | ⟨i, rfl⟩ | ⟨s, rfl⟩
    · nested_keys
      intro tp htp
      have kt : Ex H (upd H tp (.tup [.ty "list", .ty "tuple"])) := Kp.new htp
      refine w_isi2 upd_same (.base .non) (by unfold PySem.W.kitAny; rw [kit_nl]; unfold PySem.W.kitAny; rw [kit_nt]; rfl) ?_
      nested_keys
      refine w_isi1 (.base .non) kit_ns ?_
      nested_keys
      refine w_isi1 (.base .non) kit_ns ?_
      refine w_eq rfl ?_
      nested_keys
      exact k _ kt
    · nested_keys
      intro tp htp
      have kt : Ex H (upd H tp (.tup [.ty "list", .ty "tuple"])) := Kp.new htp
      refine w_isi2 upd_same (.base (.int i)) (by unfold PySem.W.kitAny; rw [kit_il]; unfold PySem.W.kitAny; rw [kit_it]; rfl) ?_
      nested_keys
      refine w_isi1 (.base (.int i)) kit_is ?_
      nested_keys
      refine w_isi1 (.base (.int i)) kit_ii ?_
      nested_keys
      refine w_isi1 (.base (.int i)) kit_ib ?_
      nested_keys
      refine w_isi1 (.base (.int i)) kit_ib ?_
      refine w_eq rfl ?_
      nested_keys
      exact k _ kt
    · nested_keys
      intro tp htp
      have kt : Ex H (upd H tp (.tup [.ty "list", .ty "tuple"])) := Kp.new htp
      refine w_isi2 upd_same (.base (.str s)) (by unfold PySem.W.kitAny; rw [kit_sl]; unfold PySem.W.kitAny; rw [kit_st]; rfl) ?_
      nested_keys
      refine w_isi1 (.base (.str s)) kit_ss ?_
      nested_keys
      refine w_isi1 (.base (.str s)) kit_ss ?_
      nested_keys
      refine w_isi1 (.base (.str s)) kit_ss ?_
      refine w_eq rfl ?_
      nested_keys
      exact k _ kt
  · have hrc := hrec n rfl
    subst hrc
    have hlen : xs.length = ys.length := Paired.length hp
    nested_keys
    intro tp htp
    have kt : Ex H (upd H tp (.tup [.ty "list", .ty "tuple"])) := Kp.new htp
    have ht : upd H tp (.tup [.ty "list", .ty "tuple"]) tp = some (.tup [.ty "list", .ty "tuple"]) := upd_same
    generalize upd H tp (.tup [.ty "list", .ty "tuple"]) = H1 at kt ht
    have hp1 := paired_mono hp fun _ _ q => q.ex kt
    have body : ∀ {J : It} {G : Hp → Prop}, Walk J xs.length G (YPair (fun i => xs[i]?) (fun i => ys[i]?)) → (∀ H', Ex H1 H' → G H') → Lc J (gTup K 2 (gCons (gName 2) (gCons (gName 3) gNil))) tYes (tCall (spSame n) [] E0 (tCons (tVar 2) (tCons (tVar 3) tNil))) [2, 3] (fun z H2 => rAll K [z] H2 Q) [some (.ref a), some (.ref b), none, none] H1 := by
      intro J G W hG D hD
      refine lc_it W (fun i H' => Cfg no H1 [(D, .lst ((List.range i).map fun _ => V.bl true))] H') (Cfg.nil.new hD) (fun i H' _ g => hG H' g.kp) ?_ ?_
      · rintro i v H' H2 hi g ⟨T, u, v', rfl, hT, rfl, hu, hv'⟩
        dsimp only at hu hv'
        obtain ⟨z, hz, hsv⟩ := paired_get hp1 hu
        rw [hv'] at hz
        cases hz
        have g := g.ex (Kp.new (o := .tup [u, v']) hT)
        have hT2 : upd H' T (.tup [u, v']) T = some (.tup [u, v']) := upd_same
        show gTup K 2 _ (.ref T) _ (upd H' T (.tup [u, v'])) _
        generalize upd H' T (.tup [u, v']) = H3 at g hT2
        nested_keys
        refine ⟨u, v', rfl, hsv.ex g.kp, fun H4 k4 => ?_⟩
        have g := g.ex k4
        refine ⟨_, g.hd, by rw [List.length_map, List.length_range]; exact small1000 (by omega), ?_⟩
        rw [List.range_succ, List.map_append]
        exact g.wr 0 rfl (fun _ z => by cases z) (.inr hD)
      · intro H2 g
        have em : (List.range xs.length).map (fun _ => V.bl true) = ((List.range xs.length).map fun _ => true).map V.bl := by rw [List.map_map]; rfl
        have gk := g.kp
        have g := g.get 0 rfl
        rw [em] at g
        refine ⟨D, (List.range xs.length).map fun _ => true, rfl, SqL.of g, ?_⟩
        have e : ((List.range xs.length).map fun _ => true).all id = true := by simp
        rw [e]
        exact k H2 (kt.trans gk)
    rcases hab with ⟨ha, hb⟩ | ⟨ha, hb⟩
    · have ha := kt.exget ha
      have hb := kt.exget hb
      refine w_isi2 ht (.base (.lst hb)) (by unfold PySem.W.kitAny; rw [kit_ll]) ?_
      nested_keys
      refine w_isi1 (.base (.lst ha)) kit_ll ?_
      refine w_isi1 (.base (.lst hb)) kit_ll ?_
      refine w_ne rfl ?_
      nested_keys
      refine w_isi1 (.base (.lst ha)) kit_lt ?_
      refine w_isi1 (.base (.lst hb)) kit_lt ?_
      refine w_ne rfl ?_
      nested_keys
      rw [hlen]
      nested_keys
      simp only [u_zipA]
      nested_keys
      refine ⟨a, b, xs, ys, rfl, .inl ⟨SqL.of ha, SqL.of hb, body (walk_zip (by omega)) fun H' k' => ⟨SqL.of (k'.exget ha), SqL.of (k'.exget hb)⟩⟩⟩
    · have ha := kt.exget ha
      have hb := kt.exget hb
      refine w_isi2 ht (.base (.tup hb)) (by unfold PySem.W.kitAny; rw [kit_tl]; unfold PySem.W.kitAny; rw [kit_tt]) ?_
      nested_keys
      refine w_isi1 (.base (.tup ha)) kit_tl ?_
      refine w_isi1 (.base (.tup hb)) kit_tl ?_
      refine w_ne rfl ?_
      nested_keys
      refine w_isi1 (.base (.tup ha)) kit_tt ?_
      refine w_isi1 (.base (.tup hb)) kit_tt ?_
      refine w_ne rfl ?_
      nested_keys
      rw [hlen]
      nested_keys
      simp only [u_zipA]
      nested_keys
      refine ⟨a, b, xs, ys, rfl, .inr ⟨SqT.of ha, SqT.of hb, body (walk_zipT (by omega)) fun H' k' => ⟨SqT.of (k'.exget ha), SqT.of (k'.exget hb)⟩⟩⟩
theorem C_same {P : Program} {w : World} {K : PySem.W.Frag} {mg : Str → Option Value} {base : Heap} (T : Txt K mg) : Cal P w K mg base 4 "_law_same" ["_law_found", "_law_due"] (spSame 2) := by
  have c0 : Cal P w K mg base 1 "_law_same" ["_law_found", "_law_due"] (fun _ _ _ _ => False) :=
    cal_mk T 49 rfl T.g_same sc_same rfl rfl (fun _ _ _ _ _ _ us hl => match us, hl with | [_, _], _ => rfl) (fun _ _ _ _ h => h.elim) (fun _ _ _ _ _ _ _ _ _ _ h => h.elim)
  have c1 := C_same_step T c0 0 fun n e => nomatch e
  have c2 := C_same_step T c1 1 fun n e => by rw [show n = 0 by omega]
  exact C_same_step T c2 2 fun n e => by rw [show n = 1 by omega]

end K87

namespace K87
open PySem PySem.Spec PyProof.Rows L2
local macro_rules | `(tactic| kxs_still) => `(tactic| with_unfolding_all rfl)
local macro_rules | `(tactic| lcg_sub) => `(tactic| first
  | assumption
  | (apply Cfg.get (i := 0) <;> first | assumption | kxs_still)
  | (apply Cfg.get (i := 1) <;> first | assumption | kxs_still)
  | (apply Cfg.get (i := 2) <;> first | assumption | kxs_still)
  | (apply Cfg.get (i := 3) <;> first | assumption | kxs_still)
  | (apply Cfg.get (i := 4) <;> first | assumption | kxs_still)
  | (apply Cfg.get (i := 5) <;> first | assumption | kxs_still)
  | (apply Cfg.get (i := 6) <;> first | assumption | kxs_still)
  | (apply Cfg.get (i := 7) <;> first | assumption | kxs_still)
  | (apply Cfg.get (i := 8) <;> first | assumption | kxs_still)
  | (apply Cfg.get (i := 9) <;> first | assumption | kxs_still)
  | (apply Cfg.get (i := 0) <;> first | (apply Bfg.toCfg; assumption) | kxs_still)
  | (apply Cfg.get (i := 1) <;> first | (apply Bfg.toCfg; assumption) | kxs_still)
  | (apply Cfg.get (i := 2) <;> first | (apply Bfg.toCfg; assumption) | kxs_still)
  | (apply Cfg.get (i := 3) <;> first | (apply Bfg.toCfg; assumption) | kxs_still)
  | (apply Cfg.get (i := 4) <;> first | (apply Bfg.toCfg; assumption) | kxs_still)
  | (apply Cfg.get (i := 5) <;> first | (apply Bfg.toCfg; assumption) | kxs_still)
  | (apply Cfg.get (i := 6) <;> first | (apply Bfg.toCfg; assumption) | kxs_still)
  | (apply Cfg.get (i := 7) <;> first | (apply Bfg.toCfg; assumption) | kxs_still)
  | (apply Cfg.get (i := 8) <;> first | (apply Bfg.toCfg; assumption) | kxs_still)
  | (apply Cfg.get (i := 9) <;> first | (apply Bfg.toCfg; assumption) | kxs_still))
local macro_rules | `(tactic| kas_types) => `(tactic| first
  | assumption | decide | omega | exact Or.inl (by omega) | exact Or.inr (by omega) | exact ⟨by omega, by omega⟩ | exact ⟨by omega, by omega, by omega⟩)
local macro_rules | `(tactic| keq_hits) => `(tactic| simp only [u_var, u_c, u_op, u_un, u_test, u_tB, u_bl, u_I0, u_eqS, u_eqI, u_neS, u_neI, u_seq, u_next, u_asg, u_name, u_ret, u_retN, u_drop, u_ifS, u_ifE, u_and, u_or, u_not, u_andV, u_orV, u_notV, u_nil, u_cons, u_call, u_cb, u_tup, u_lst, u_sub, u_gNil, u_gCons, u_bm, u_m1, u_isS, u_sl, u_noPart, u_part, u_partk, u_par, u_par2, u_for, u_lc, u_rng1, u_itL, u_itT, u_yes, u_fldI, u_putI, u_newI, u_methI, u_make, u_some, u_i0, u_i1, u_K, L2.start, wipe, List.map_cons, List.map_nil, List.length_cons, List.length_nil, List.replicate_succ, List.replicate_zero, List.cons_append, List.nil_append, List.set_cons_zero, List.set_cons_succ, ite_true, ite_false, if_true, if_false, Bool.false_eq_true, colV, washV, kindV, teamV, rowV, coolV, deedV, batRef_none, batRef_some, u_par3, u_par33, u_augI, u_dget, u_din, u_dnotin, u_dget2, u_dget1, u_dpop1, u_dput, u_setD, u_dnewK, u_dnewT, decide_true, decide_false, Bool.not_true, Bool.not_false, Option.map_none, Option.map_some, Option.isSome_none, Option.isSome_some, Option.getD_some, Option.getD_none, vn_non, vn_ref, vn_str, vn_int, wd_fill_fill, wd_fill_gather, wd_fill_wash, wd_fill_empty, wd_fill_break, wd_fill_new, wd_gather_fill, wd_gather_gather, wd_gather_wash, wd_gather_empty, wd_gather_break, wd_gather_new, wd_wash_fill, wd_wash_gather, wd_wash_wash, wd_wash_empty, wd_wash_break, wd_wash_new, wd_empty_fill, wd_empty_gather, wd_empty_wash, wd_empty_empty, wd_empty_break, wd_empty_new, wd_break_fill, wd_break_gather, wd_break_wash, wd_break_empty, wd_break_break, wd_break_new, wd_new_fill, wd_new_gather, wd_new_wash, wd_new_empty, wd_new_break, wd_new_new, wd_nil, wd_none, wd_broken, wd_busy, wd_glass, wd_name, wd_cold, wd_rank, wd_less, wd_full, wd_whole, inw_fill, inw_gather, inw_wash, inw_empty, inw_break, inw_new, eq_self, true_and, and_true])
local macro_rules | `(tactic| nested_keys) => `(tactic| repeat first
  | (with_reducible apply w_nx)
  | (with_reducible apply w_blk)
  | (with_reducible apply w_I; (· with_unfolding_all kas_types))
  | (with_reducible apply w_ixT; (· lcg_sub); (· kxs_still))
  | (with_reducible apply w_ixL; (· lcg_sub); (· kxs_still))
  | (with_reducible apply w_fldI; (· lcg_sub); (· kxs_still))
  | (with_reducible apply w_methI; (· lcg_sub))
  | (with_reducible apply w_augO; (· lcg_sub); (· kxs_still))
  | (with_reducible apply w_dgetS; (· lcg_sub); (· assumption))
  | (with_reducible apply w_dinS; (· lcg_sub))
  | (with_reducible apply w_dnotinS; (· lcg_sub))
  | (with_reducible apply w_isD; (· lcg_sub))
  | (with_reducible apply w_inT; (· lcg_sub); (· with_unfolding_all rfl))
  | (with_reducible apply w_sz; (· with_unfolding_all exact Nat.le_of_ble_eq_true rfl))
  | (with_reducible apply w_gTup; (· lcg_sub); (· kxs_still))
  | (with_reducible apply w_tyL; (· lcg_sub))
  | (with_reducible apply w_rng1k; (· with_unfolding_all kas_types); (· with_unfolding_all kas_types))
  | (with_reducible apply w_itLk; (· lcg_sub))
  | (with_reducible apply w_itTk; (· lcg_sub))
  | (with_reducible apply w_lenL; (· lcg_sub))
  | (with_reducible apply w_lenT; (· lcg_sub))
  | (with_reducible apply w_lenS; (· with_unfolding_all kas_types))
  | (with_reducible apply w_ixaL; (· lcg_sub); (· kxs_still))
  | (with_reducible apply w_ixaT; (· lcg_sub); (· kxs_still))
  | (with_reducible apply w_ixaS; (· with_unfolding_all kas_types); (· kxs_still))
  | (with_reducible apply w_ixS; (· with_unfolding_all kas_types); (· kxs_still))
  | (with_reducible apply w_slL; (· lcg_sub))
  | (with_reducible apply w_slS; (· with_unfolding_all kas_types))
  | (with_reducible apply w_addS; (· with_unfolding_all kas_types))
  | (with_reducible apply w_listL; (· lcg_sub))
  | (with_reducible apply w_tupL; (· lcg_sub))
  | (with_reducible apply w_divmod; (· with_unfolding_all kas_types))
  | (simp only [u_var, u_c, u_op, u_un, u_test, u_tB, u_bl, u_I0, u_eqS, u_eqI, u_neS, u_neI, u_seq, u_next, u_asg, u_name, u_ret, u_retN, u_drop, u_ifS, u_ifE, u_and, u_or, u_not, u_andV, u_orV, u_notV, u_nil, u_cons, u_call, u_cb, u_tup, u_lst, u_sub, u_gNil, u_gCons, u_bm, u_m1, u_isS, u_sl, u_noPart, u_part, u_partk, u_par, u_par2, u_for, u_lc, u_rng1, u_itL, u_itT, u_yes, u_fldI, u_putI, u_newI, u_methI, u_make, u_some, u_i0, u_i1, u_K, L2.start, wipe, List.map_cons, List.map_nil, List.length_cons, List.length_nil, List.replicate_succ, List.replicate_zero, List.cons_append, List.nil_append, List.set_cons_zero, List.set_cons_succ, ite_true, ite_false, if_true, if_false, Bool.false_eq_true, colV, washV, kindV, teamV, rowV, coolV, deedV, batRef_none, batRef_some, u_par3, u_par33, u_augI, u_dget, u_din, u_dnotin, u_dget2, u_dget1, u_dpop1, u_dput, u_setD, u_dnewK, u_dnewT, decide_true, decide_false, Bool.not_true, Bool.not_false, Option.map_none, Option.map_some, Option.isSome_none, Option.isSome_some, Option.getD_some, Option.getD_none, vn_non, vn_ref, vn_str, vn_int, wd_fill_fill, wd_fill_gather, wd_fill_wash, wd_fill_empty, wd_fill_break, wd_fill_new, wd_gather_fill, wd_gather_gather, wd_gather_wash, wd_gather_empty, wd_gather_break, wd_gather_new, wd_wash_fill, wd_wash_gather, wd_wash_wash, wd_wash_empty, wd_wash_break, wd_wash_new, wd_empty_fill, wd_empty_gather, wd_empty_wash, wd_empty_empty, wd_empty_break, wd_empty_new, wd_break_fill, wd_break_gather, wd_break_wash, wd_break_empty, wd_break_break, wd_break_new, wd_new_fill, wd_new_gather, wd_new_wash, wd_new_empty, wd_new_break, wd_new_new, wd_nil, wd_none, wd_broken, wd_busy, wd_glass, wd_name, wd_cold, wd_rank, wd_less, wd_full, wd_whole, inw_fill, inw_gather, inw_wash, inw_empty, inw_break, inw_new, eq_self, true_and, and_true])
  | (with_reducible apply w_eq; (· kxs_still))
  | (with_reducible apply w_ne; (· kxs_still)))
theorem w_neD1 {K : PySem.W.Frag} {H : Hp} {x y : V} {QT : V → Hp → Prop} {d : PyData} (hx : Dp K H x d) (hy : Dp K H y d) (hs : SeqAt.shaped d = true) (q : QT (.bl false) H) : rNeD K x y H QT := ⟨d, d, hx, hy, hs, hs, by
  rw [SeqAt.eqv_refl d (SeqAt.canLay_of_shaped hs)]; exact q⟩
/-- the book of fillings in the heap -/
structure LedIn (H0 H : Hp) (F O : Addr) (L : Led) (fk ok : List (Key × V)) (A : Int → Addr) (n : Nat) : Prop where
  cfg : Cfg no H0 [(F, .dK fk), (O, .dK ok)] H
  fills : ∀ m, match L.fills m with
    | none => valV fk (.inl m) = none
    | some f => valV fk (.inl m) = some (.ref (A m)) ∧ H (A m) = some (.lst (fillV f))
  inj : ∀ m k, L.fills m ≠ none → L.fills k ≠ none → A m = A k → m = k
  mine : ∀ m, L.fills m ≠ none → H0 (A m) = none
  fresh : H0 F = none ∧ H0 O = none
  opens : ∀ p, valV ok (.inr p) = (L.opens p).map V.int
  szf : fk.length ≤ n
  szo : ok.length ≤ n
def LedAt (H : Hp) (F O : Addr) (L : Led) : Prop := ∃ H0 fk ok A n, LedIn H0 H F O L fk ok A n
theorem LedIn.fill {H0 H : Hp} {F O : Addr} {L : Led} {fk ok : List (Key × V)} {A : Int → Addr} {n : Nat} (i : LedIn H0 H F O L fk ok A n) {m : Int} {f : Fill} (e : L.fills m = some f) : valV fk (.inl m) = some (.ref (A m)) ∧ H (A m) = some (.lst (fillV f)) := by
  have q := i.fills m
  rw [e] at q; exact q
theorem LedIn.ex {H0 H H' : Hp} {F O : Addr} {L : Led} {fk ok : List (Key × V)} {A : Int → Addr} {n : Nat} (i : LedIn H0 H F O L fk ok A n) (k : Ex H H') : LedIn H0 H' F O L fk ok A n := by
  refine ⟨i.cfg.ex k, fun m => ?_, i.inj, i.mine, i.fresh, i.opens, i.szf, i.szo⟩
  have q := i.fills m
  cases h : L.fills m with
  | none => rw [h] at q; exact q
  | some f => rw [h] at q; exact ⟨q.1, k.exget q.2⟩
theorem updF_same {α β : Type} [DecidableEq α] (f : α → β) (k : α) (v : β) : updF f k v k = v := if_pos rfl
theorem updF_ne {α β : Type} [DecidableEq α] (f : α → β) {k m : α} (v : β) (h : ¬ m = k) : updF f k v m = f m := if_neg h
theorem valV_drop (kvs : List (Key × V)) (k j : Key) : valV (dropK kvs k) j = if j = k then none else valV kvs j := by
  unfold valV dropK
  induction kvs with
  | nil => by_cases e : j = k <;> simp [e]
  | cons p r ih =>
    by_cases e1 : p.1 = k
    · rw [List.filter_cons_of_neg (by simp [e1])]
      rw [ih]
      by_cases e2 : j = k
      · rw [if_pos e2, if_pos e2]
      · rw [if_neg e2, if_neg e2, List.find?_cons_of_neg (by simp [e1]; exact fun z => e2 z.symm)]
    · rw [List.filter_cons_of_pos (by simp [e1])]
      by_cases e3 : p.1 = j
      · have e2 : ¬ j = k := fun z => e1 (e3.trans z)
        rw [if_neg e2, List.find?_cons_of_pos (by simp [e3]), List.find?_cons_of_pos (by simp [e3])]
      · rw [List.find?_cons_of_neg (by simp [e3]), ih, List.find?_cons_of_neg (by simp [e3])]
section
variable {H0 H : Hp} {F O : Addr} {L : Led} {fk ok : List (Key × V)} {A : Int → Addr} {n : Nat}
theorem putK_len' (kvs : List (Key × V)) (k : Key) (v : V) {n : Nat} (h : kvs.length ≤ n) : (putK kvs k v).length ≤ n + 1 := Nat.le_trans (length_putK kvs k v) (Nat.succ_le_succ h)
theorem LedIn.up1 (i : LedIn H0 H F O L fk ok A n) : LedIn H0 H F O L fk ok A (n + 1) := ⟨i.cfg, i.fills, i.inj, i.mine, i.fresh, i.opens, by have := i.szf; omega, by have := i.szo; omega⟩
/-- a new filling's list, put under its number -/
theorem LedIn.addFill (i : LedIn H0 H F O L fk ok A n) {m : Int} {f : Fill} {t : Addr} (ht : H t = some (.lst (fillV f))) (h0 : H0 t = none) (hn : ∀ k, L.fills k ≠ none → A k ≠ t) :
    LedIn H0 (upd H F (.dK (putK fk (.inl m) (.ref t)))) F O ⟨updF L.fills m (some f), L.opens⟩ (putK fk (.inl m) (.ref t)) ok (updF A m t) (n + 1) := by
  have hF := i.cfg.get 0 rfl
  refine ⟨i.cfg.wr 0 rfl (fun _ z => by cases z) (.inr i.fresh.1), fun k => ?_, fun k j hk hj e => ?_, fun k hk => ?_, i.fresh, i.opens, putK_len' _ _ _ i.szf, by have := i.szo; omega⟩
  · dsimp only
    by_cases q : k = m
    · subst q
      rw [updF_same]
      dsimp only
      rw [valV_put, if_pos rfl, updF_same]
      refine ⟨rfl, ?_⟩
      rw [upd_ne (ne_of ht hF (fun z => by cases z))]; exact ht
    · rw [updF_ne _ _ q, valV_put, if_neg (fun z => q (Sum.inl.inj z))]
      have z := i.fills k
      cases h : L.fills k with
      | none => rw [h] at z; exact z
      | some f' =>
        rw [h] at z
        rw [updF_ne _ _ q]
        exact ⟨z.1, by rw [upd_ne (ne_of z.2 hF (fun z => by cases z))]; exact z.2⟩
  · dsimp only at hk hj
    by_cases q1 : k = m
    · by_cases q2 : j = m
      · rw [q1, q2]
      · rw [updF_ne _ _ q2] at hj e
        rw [q1, updF_same] at e
        exact absurd e.symm (hn j hj)
    · rw [updF_ne _ _ q1] at hk e
      by_cases q2 : j = m
      · rw [q2, updF_same] at e
        exact absurd e (hn k hk)
      · rw [updF_ne _ _ q2] at hj e
        exact i.inj k j hk hj e
  · dsimp only at hk
    by_cases q1 : k = m
    · rw [q1, updF_same]; exact h0
    · rw [updF_ne _ _ q1] at hk ⊢
      exact i.mine k hk
theorem LedIn.setOpens (i : LedIn H0 H F O L fk ok A n) {ok' : List (Key × V)} {op : Str → Option Int} (h : ∀ p, valV ok' (.inr p) = (op p).map V.int) (hl : ok'.length ≤ n) :
    LedIn H0 (upd H O (.dK ok')) F O ⟨L.fills, op⟩ fk ok' A n := by
  have hO := i.cfg.get 1 rfl
  refine ⟨i.cfg.wr 1 rfl (fun _ z => by cases z) (.inr i.fresh.2), fun k => ?_, i.inj, i.mine, i.fresh, h, i.szf, hl⟩
  have z := i.fills k
  dsimp only
  cases e : L.fills k with
  | none => rw [e] at z; exact z
  | some f' =>
    rw [e] at z
    exact ⟨z.1, by rw [upd_ne (ne_of z.2 hO (fun z => by cases z))]; exact z.2⟩
theorem LedIn.setLeft (i : LedIn H0 H F O L fk ok A n) {m : Int} {f f' : Fill} (e : L.fills m = some f) :
    LedIn H0 (upd H (A m) (.lst (fillV f'))) F O ⟨updF L.fills m (some f'), L.opens⟩ fk ok A n := by
  obtain ⟨h1, h2⟩ := i.fill e
  have hF := i.cfg.get 0 rfl
  have hO := i.cfg.get 1 rfl
  have hne : L.fills m ≠ none := by rw [e]; exact fun z => by cases z
  have some_of : ∀ k, updF L.fills m (some f') k ≠ none → L.fills k ≠ none := fun k hk => by
    by_cases q : k = m
    · rw [q]; exact hne
    · rw [updF_ne _ _ q] at hk; exact hk
  refine ⟨⟨i.cfg.kp.wrN (i.mine m hne), i.cfg.nd, fun y hy => ?_⟩, fun k => ?_, fun k j hk hj e => i.inj k j (some_of k hk) (some_of j hj) e, fun k hk => i.mine k (some_of k hk), i.fresh, i.opens, i.szf, i.szo⟩
  · rcases List.mem_cons.mp hy with rfl | hy
    · rw [upd_ne (ne_of hF h2 (fun z => by cases z))]; exact hF
    · rw [List.mem_singleton.mp hy, upd_ne (ne_of hO h2 (fun z => by cases z))]; exact hO
  · dsimp only
    by_cases q : k = m
    · rw [q, updF_same]
      exact ⟨h1, upd_same⟩
    · rw [updF_ne _ _ q]
      have z := i.fills k
      cases ek : L.fills k with
      | none => rw [ek] at z; exact z
      | some g =>
        rw [ek] at z
        refine ⟨z.1, ?_⟩
        rw [upd_ne fun y => q (i.inj k m (by rw [ek]; exact fun z => by cases z) hne y)]
        exact z.2
end
theorem Cfg.perm2 {S : Addr → Prop} {H0 H : Hp} {x y : Addr × HO} (g : Cfg S H0 [x, y] H) : Cfg S H0 [y, x] H := ⟨g.kp, ((List.Perm.swap _ _ []).map _).nodup_iff.mpr g.nd, fun z m => g.at_ z (by simpa [or_comm] using m)⟩
def spLedBack (K : PySem.W.Frag) : Sp := fun vs H Q _ => ∃ (u : V) (rp : Addr) (rvs : List V) (rows : List Row), vs = [u, .ref rp] ∧ H rp = some (.lst rvs) ∧ Ts H rowV rvs rows ∧ rows.length ≤ 1000 ∧ LedGood rows ∧ (∀ r ∈ rows, sOk r.pot = true ∧ sOk r.colour = true) ∧
  ∀ q F O H', Ex H H' → H' q = some (.tup [.ref F, .ref O]) → LedAt H' F O (ledOf rows) → Q (.ref q) H'
theorem C_led_back {P : Program} {w : World} {K : PySem.W.Frag} {mg : Str → Option Value} {base : Heap} (T : Txt K mg) : Cal P w K mg base 1 "_law_led_back" ["_law_hall", "_law_rows"] (spLedBack K) := by
  refine cal_mk T 55 rfl T.g_led_back sc_led_back rfl rfl (fun _ _ _ _ _ _ us hl => match us, hl with | [_, _], _ => rfl) (fun vs H Q E h => ?_) (fun f cdv A outer s H vs Q E hr h => ?_)
  · obtain ⟨u, rp, rvs, rows, rfl, hrp, hts, hlen, hgood, hstr, k⟩ := h
    rfl
  obtain ⟨u, rp, rvs, rows, rfl, hrp, hts, hlen, hgood, hstr, k⟩ := h
  refine ⟨_, (pss_cons (ps_par (i := 2) (j := 3) rfl sc_led_back.nd rfl rfl (by decide) rfl rfl (pa_cons pe_dnewK (pa_cons pe_dnewK pa_nil)) (by rfl))
 (pss_cons (ps_for PassesOwn.never rfl (pi_listK (K := K) rfl (pv 1)) (pg_tupK (K := K) (n := 7) rfl rfl (pgs_cons (pg_name (i := 4) sc_led_back.nd rfl (Or.inl rfl)) (pgs_cons (pg_name (i := 5) sc_led_back.nd rfl (Or.inl rfl)) (pgs_cons (pg_name (i := 6) sc_led_back.nd rfl (Or.inl rfl)) (pgs_cons (pg_name (i := 7) sc_led_back.nd rfl (Or.inl rfl)) (pgs_cons (pg_name (i := 8) sc_led_back.nd rfl (Or.inl rfl)) (pgs_cons (pg_name (i := 9) sc_led_back.nd rfl (Or.inl rfl)) (pgs_cons (pg_name (i := 10) sc_led_back.nd rfl (Or.inl rfl)) pgs_nil)))))))) (pss_one (ps_if (pt_cmpR op_eq (pv 6) pe_str (nomark _)) (pss_cons (ps_if (PW.pt (pw_or (pt_cmpR op_ne (pv 10) (pv 5) (nomark _)) (pw_or1 (pt_cmp (pc_din (hu_of hr) (pv 7) (pv 3)))))) (pss_one (ps_ret pe_non)) pss_nil)
 (pss_one (ps_asg (pe_tup (pa_cons (pe_lst (pa_cons (pv 4) (pa_cons (pv 7) (pa_cons (pv 9) (pa_cons (pv 8) pa_nil))))) (pa_cons (pv 5) pa_nil))) (pg_tupK (K := K) (n := 2) rfl rfl (pgs_cons (pg_sub (pv 2) (pv 5) (set_dict (hu_of hr))) (pgs_cons (pg_sub (pv 3) (pv 7) (set_dict (hu_of hr))) pgs_nil)))))) (pss_one (ps_if (PW.pt (pw_or (pt_cmpR (op_inK (K := K) rfl) (pv 6) (pe_tup (pa_cons pe_str (pa_cons pe_str pa_nil))) (by with_unfolding_all rfl)) (pw_or1 (pt_cmpR op_notN (pv 10) pe_non (nomark _))))) (pss_cons (ps_if (PW.pt (pw_or (pt_cmp (pc_dnotin (hu_of hr) (pv 10) (pv 2))) (pw_or (pt_cmpR op_ne (pe_dget1 (hu_of hr) (pv 3) (pv 7) ⟨by rfl, by rfl, by rfl, by rfl⟩) (pv 10) (nomark _)) (pw_or1 (pt_cmpR (op_neDK (K := K) rfl hr.units) (pe_slice (sl_listK (K := K) rfl) (pe_dget (hu_of hr) (pv 2) (pv 10) (fun _ _ => rfl)) (po_some pe_int) (po_some pe_int)) (pe_lst (pa_cons (pv 7) (pa_cons (pv 9) pa_nil))) (nomark _)))))) (pss_one (ps_ret pe_non)) pss_nil)
 (pss_cons (ps_asg (pe_op op_sub (pe_ix (ix_listK (K := K) rfl) (pe_dget (hu_of hr) (pv 2) (pv 10) (fun _ _ => rfl)) pe_int (fun _ _ => rfl)) (pv 8)) (pg_sub (pe_dget (hu_of hr) (pv 2) (pv 10) (fun _ _ => rfl)) pe_int set_list))
 (pss_cons (ps_if (PW.pt (pw_or (pt_cmpR op_lt (pe_ix (ix_listK (K := K) rfl) (pe_dget (hu_of hr) (pv 2) (pv 10) (fun _ _ => rfl)) pe_int (fun _ _ => rfl)) pe_int (nomark _)) (pw_or1 (PW.pt (pw_and (pt_cmpR op_ne (pv 6) pe_str (nomark _)) (pw_and1 (pt_cmpR op_gt (pe_ix (ix_listK (K := K) rfl) (pe_dget (hu_of hr) (pv 2) (pv 10) (fun _ _ => rfl)) pe_int (fun _ _ => rfl)) pe_int (nomark _)))))))) (pss_one (ps_ret pe_non)) pss_nil)
 (pss_one (ps_if (pt_cmpR op_eq (pe_ix (ix_listK (K := K) rfl) (pe_dget (hu_of hr) (pv 2) (pv 10) (fun _ _ => rfl)) pe_int (fun _ _ => rfl)) pe_int (nomark _)) (pss_one (ps_expr (pe_dpop1 (pv 3) (pv 7) ⟨by rfl, by rfl, by rfl, by rfl⟩))) pss_nil))))) (pss_one (ps_if (PW.pt (pw_or (pt_cmp (pc_din (hu_of hr) (pv 7) (pv 3))) (pw_or1 (pt_cmpR (op_neDK (K := K) rfl hr.units) (pe_tup (pa_cons (pv 8) (pa_cons (pv 9) pa_nil))) (pe_tup (pa_cons pe_int (pa_cons pe_str pa_nil))) (nomark _))))) (pss_one (ps_ret pe_non)) pss_nil)))))))
 (pss_one (ps_ret (pe_tup (pa_cons (pv 2) (pa_cons (pv 3) pa_nil))))))), ?_⟩
  nested_keys
  intro F hF
  have g : Cfg no H [(F, .dK [])] (upd H F (.dK [])) := Cfg.nil.new hF
  generalize upd H F (.dK []) = H1 at g
  nested_keys
  refine w_new g fun O H2 hO g => ?_
  have i0 : LedIn H H2 F O led0 [] [] (fun _ => 0) 0 := ⟨g.perm2, fun m => rfl, fun m k z => absurd rfl z, fun m z => absurd rfl z, ⟨hF, hO⟩, fun p => rfl, Nat.le_refl _, Nat.le_refl _⟩
  have hrp2 := i0.cfg.kp.exget hrp
  nested_keys
  refine for_list (K := K) (a := rp) (xs := rvs) (fun i σ H' => ∃ (fk ok : List (Key × V)) (A : Int → Addr) (v4 v5 v6 v7 v8 v9 v10 : Option V), LedIn H H' F O (ledOf (rows.take i)) fk ok A i ∧ σ = [some u, some (.ref rp), some (.ref F), some (.ref O), v4, v5, v6, v7, v8, v9, v10])
    ⟨_, _, _, _, _, _, _, _, _, _, i0, rfl⟩ (fun i σ H' _ ⟨_, _, _, _, _, _, _, _, _, _, i, _⟩ => SqL.of (i.cfg.kp.exget hrp)) ?_ ?_
  · rintro i v σ H' hv ⟨fk, ok, A, v4, v5, v6, v7, v8, v9, v10, hI, rfl⟩
    obtain ⟨r, t, hr, rfl, ht⟩ := hts.get hv
    have hi := get_lt hr
    have ht' := hI.cfg.kp.t _ _ ht
    have hF' : H' F = some (.dK fk) := hI.cfg.get 0 rfl
    have hO' : H' O = some (.dK ok) := hI.cfg.get 1 rfl
    have hL : ledOf (rows.take (i + 1)) = ledF (ledOf (rows.take i)) r := by
      rw [take_snoc hr]
      unfold ledOf
      rw [List.foldl_append]; rfl
    have hok := hgood i r hr
    obtain ⟨so1, so2⟩ := hstr r (List.mem_of_getElem? hr)
    rw [hL]
    generalize ledOf (rows.take i) = L at hI hok
    have szf := hI.szf
    have szo := hI.szo
    nested_keys
    cases hok with
    | fill w s o =>
      rw [s, w]
      nested_keys
      rw [hI.opens, o]
      nested_keys
      intro t2 ht2
      have k2 : Ex H' (upd H' t2 (.lst (fillV ⟨r.hour, r.pot, r.colour, r.many⟩))) := Kp.new ht2
      have hI2 := hI.ex k2
      have h2 : upd H' t2 (.lst (fillV ⟨r.hour, r.pot, r.colour, r.many⟩)) t2 = some (.lst (fillV ⟨r.hour, r.pot, r.colour, r.many⟩)) := upd_same
      show _ ∧ New _ _ (upd H' t2 (.lst (fillV ⟨r.hour, r.pot, r.colour, r.many⟩)))
      generalize upd H' t2 (.lst (fillV ⟨r.hour, r.pot, r.colour, r.many⟩)) = H3 at k2 hI2 h2
      refine ⟨show 2 ≤ sizeLine by decide, ?_⟩
      intro t3 ht3
      have k3 : Ex H3 (upd H3 t3 (.tup [.ref t2, .int r.number])) := Kp.new ht3
      have hI3 := hI2.ex k3
      have h23 := k3.exget h2
      have h33 : upd H3 t3 (.tup [.ref t2, .int r.number]) t3 = some (.tup [.ref t2, .int r.number]) := upd_same
      generalize upd H3 t3 (.tup [.ref t2, .int r.number]) = H4 at k3 hI3 h23 h33
      have t20 : H t2 = none := hI.cfg.kp.nn ht2
      have hn : ∀ k, L.fills k ≠ none → A k ≠ t2 := fun k hk e => by
        cases hz : L.fills k with
        | none => exact hk hz
        | some f =>
          have q := (hI.fill hz).2
          rw [e, ht2] at q; cases q
      have hI4 := hI3.addFill (m := r.number) (f := ⟨r.hour, r.pot, r.colour, r.many⟩) h23 t20 hn
      have hI5 := hI4.setOpens (ok' := putK ok (.inr r.pot) (.int r.number)) (op := updF L.opens r.pot (some r.number)) (fun p => by
        rw [valV_put]
        by_cases q : p = r.pot
        · rw [q, if_pos rfl, updF_same]; rfl
        · rw [if_neg (fun z => q (Sum.inr.inj z)), updF_ne _ _ q]; exact hI.opens p) (putK_len' _ _ _ (by omega))
      have hF4 : H4 F = some (.dK fk) := hI3.cfg.get 0 rfl
      have hO4 := hI4.cfg.get 1 rfl
      nested_keys
      refine ⟨F, _, rfl, .inl ⟨fk, .inl r.number, hF4, rfl, Nat.lt_of_lt_of_le (show fk.length < 100000 by omega) (by decide), rfl⟩, ?_⟩
      nested_keys
      refine ⟨O, _, rfl, .inl ⟨ok, .inr r.pot, hO4, rfl, Nat.lt_of_lt_of_le (show ok.length < 100000 by omega) (by decide), rfl⟩, ?_⟩
      nested_keys
      have eL : ledF L r = ⟨updF L.fills r.number (some ⟨r.hour, r.pot, r.colour, r.many⟩), updF L.opens r.pot (some r.number)⟩ := by unfold ledF; rw [if_pos w]
      rw [eL]
      exact ⟨_, _, _, _, _, _, _, _, _, _, hI5, rfl⟩
    | take n f w s e o p c l z =>
      rw [s, decide_eq_false w]
      nested_keys
      intro t2 ht2
      have k2 : Ex H' (upd H' t2 (.tup [.str "gather", .str "empty"])) := Kp.new ht2
      have hI2 := hI.ex k2
      have h2 : upd H' t2 (.tup [.str "gather", .str "empty"]) t2 = some (.tup [.str "gather", .str "empty"]) := upd_same
      generalize upd H' t2 (.tup [.str "gather", .str "empty"]) = H3 at k2 hI2 h2
      have hF3 : H3 F = some (.dK fk) := hI2.cfg.get 0 rfl
      have hO3 : H3 O = some (.dK ok) := hI2.cfg.get 1 rfl
      obtain ⟨hf1, hf2⟩ := hI2.fill e
      nested_keys
      rw [ite_self]
      nested_keys
      refine w_dnotinN hF3 ?_
      rw [hf1]
      nested_keys
      refine w_getOS hO3 ?_
      rw [hI2.opens, o]
      nested_keys
      refine w_dgetN hF3 hf1 ?_
      nested_keys
      intro p1 hp1
      have kp1 : Ex H3 (upd H3 p1 (.lst [.str f.pot, .str f.colour])) := Kp.new hp1
      have hp1' : upd H3 p1 (.lst [.str f.pot, .str f.colour]) p1 = some (.lst [.str f.pot, .str f.colour]) := upd_same
      have hI4 := hI2.ex kp1
      show _ ∧ New _ _ (upd H3 p1 (.lst [.str f.pot, .str f.colour]))
      generalize upd H3 p1 (.lst [.str f.pot, .str f.colour]) = H4 at kp1 hp1' hI4
      refine ⟨show 2 ≤ sizeLine by decide, ?_⟩
      intro p2 hp2
      have kp2 : Ex H4 (upd H4 p2 (.lst [.str r.pot, .str r.colour])) := Kp.new hp2
      have hp2' : upd H4 p2 (.lst [.str r.pot, .str r.colour]) p2 = some (.lst [.str r.pot, .str r.colour]) := upd_same
      have hp1'' := kp2.exget hp1'
      have hI5 := hI4.ex kp2
      generalize upd H4 p2 (.lst [.str r.pot, .str r.colour]) = H5 at kp2 hp2' hI5 hp1''
      rw [p, c] at hp1''
      refine w_neD1 (d := .list [.str r.pot, .str r.colour]) (.lst (SqL.of hp1'') (.cons (.str _) (.cons (.str _) .nil))) (.lst (SqL.of hp2') (.cons (.str _) (.cons (.str _) .nil))) (by
        have s1 : PyData.canLay0 (.str r.pot) = true := so1
        have s2 : PyData.canLay0 (.str r.colour) = true := so2
        simp [SeqAt.shaped, PyData.canLay0, PyData.canLayAll0, s1, s2, PyData.depth, PyData.depthAll]
        simp [PyData.canLay0] at s1 s2
        exact ⟨s1, s2⟩) ?_
      have hF5 : H5 F = some (.dK fk) := hI5.cfg.get 0 rfl
      obtain ⟨hg1, hg2⟩ := hI5.fill e
      nested_keys
      refine w_dgetN hF5 hg1 ?_
      nested_keys
      refine w_dgetN hF5 hg1 ?_
      have hI6 := hI5.setLeft (f' := { f with left := f.left - r.many }) e
      refine ⟨A n, _, 3, 3, rfl, rfl, hg2, rfl, ?_⟩
      have hF6 : upd H5 (A n) (.lst (fillV { f with left := f.left - r.many })) F = some (.dK fk) := hI6.cfg.get 0 rfl
      have hO6 : upd H5 (A n) (.lst (fillV { f with left := f.left - r.many })) O = some (.dK ok) := hI6.cfg.get 1 rfl
      obtain ⟨hk1, hk2⟩ := hI6.fill (m := n) (f := { f with left := f.left - r.many }) (updF_same _ _ _)
      show Nx _ _ (upd H5 (A n) (.lst (fillV { f with left := f.left - r.many })))
      generalize upd H5 (A n) (.lst (fillV { f with left := f.left - r.many })) = H6 at hI6 hF6 hO6 hk1 hk2
      clear hF5 hg1 hg2 hF3 hO3 hF' hO'
      nested_keys
      refine w_dgetN hF6 hk1 ?_
      nested_keys
      rw [decide_eq_false (by omega : ¬ f.left - r.many < 0)]
      nested_keys
      have eL : ledF L r = ⟨updF L.fills n (some { f with left := f.left - r.many }), if f.left - r.many = 0 then updF L.opens r.pot none else L.opens⟩ := by
        unfold ledF
        rw [if_neg w, s]
        dsimp only
        rw [e]
      rw [eL]
      refine ite_nd (fun hw => ?_) (fun hw => ?_)
      all_goals first
        | (have hz0 := z.resolve_left hw
           refine w_dgetN hF6 hk1 ?_
           nested_keys
           rw [decide_eq_false (show ¬ (0 : Int) < f.left - r.many by omega)]
           nested_keys)
        | nested_keys
      all_goals
        refine w_dgetN hF6 hk1 ?_
        nested_keys
        refine ite_d (fun e0 => ?_) (fun e0 => ?_)
        · rw [if_pos e0]
          nested_keys
          refine w_popS hO6 (by rw [hI6.opens]; exact congrArg (Option.map V.int) o) ?_
          nested_keys
          refine ⟨_, _, _, _, _, _, _, _, _, _, (hI6.setOpens (ok' := dropK ok (.inr r.pot)) (op := updF L.opens r.pot none) (fun q => ?_) ?_).up1, rfl⟩
          · rw [valV_drop]
            by_cases e1 : q = r.pot
            · rw [e1, if_pos rfl, updF_same]; rfl
            · rw [if_neg (fun y => e1 (Sum.inr.inj y)), updF_ne _ _ e1]; exact hI6.opens q
          · exact Nat.le_trans (dropK_le _ _) szo
        · rw [if_neg e0]
          nested_keys
          exact ⟨_, _, _, _, _, _, _, _, _, _, hI6.up1, rfl⟩
    | none w w2 w3 s o m c =>
      rw [s, decide_eq_false w]
      nested_keys
      intro t2 ht2
      have k2 : Ex H' (upd H' t2 (.tup [.str "gather", .str "empty"])) := Kp.new ht2
      have hI2 := hI.ex k2
      have h2 : upd H' t2 (.tup [.str "gather", .str "empty"]) t2 = some (.tup [.str "gather", .str "empty"]) := upd_same
      generalize upd H' t2 (.tup [.str "gather", .str "empty"]) = H3 at k2 hI2 h2
      have hF3 : H3 F = some (.dK fk) := hI2.cfg.get 0 rfl
      have hO3 : H3 O = some (.dK ok) := hI2.cfg.get 1 rfl
      have hin : inV (.str r.word) [.str "gather", .str "empty"] = false := by
        have q := in_strs r.word ["gather", "empty"]
        refine q.trans (decide_eq_false fun m => ?_)
        rcases List.mem_cons.mp m with m | m
        · exact w2 m
        · exact w3 (List.mem_singleton.mp m)
      nested_keys
      rw [hin]
      nested_keys
      rw [hI2.opens, o]
      nested_keys
      rw [m, c]
      intro p1 hp1
      have kp1 : Ex H3 (upd H3 p1 (.tup [.int 0, .str ""])) := Kp.new hp1
      have hp1' : upd H3 p1 (.tup [.int 0, .str ""]) p1 = some (.tup [.int 0, .str ""]) := upd_same
      have hI4 := hI2.ex kp1
      show _ ∧ New _ _ (upd H3 p1 (.tup [.int 0, .str ""]))
      generalize upd H3 p1 (.tup [.int 0, .str ""]) = H4 at kp1 hp1' hI4
      refine ⟨show 2 ≤ sizeLine by decide, ?_⟩
      intro p2 hp2
      have kp2 : Ex H4 (upd H4 p2 (.tup [.int 0, .str ""])) := Kp.new hp2
      have hp2' : upd H4 p2 (.tup [.int 0, .str ""]) p2 = some (.tup [.int 0, .str ""]) := upd_same
      have hp1'' := kp2.exget hp1'
      have hI5 := hI4.ex kp2
      generalize upd H4 p2 (.tup [.int 0, .str ""]) = H5 at kp2 hp2' hI5 hp1''
      refine w_neD1 (d := .tuple [.int 0, .str ""]) (.tup (SqT.of hp1'') (.cons (.int _) (.cons (.str _) .nil))) (.tup (SqT.of hp2') (.cons (.int _) (.cons (.str _) .nil))) (by decide +kernel) ?_
      nested_keys
      have eL : ledF L r = L := by
        unfold ledF
        rw [if_neg w, s]
      rw [eL]
      exact ⟨_, _, _, _, _, _, _, _, _, _, hI5.up1, rfl⟩
  · rintro σ H' ⟨fk, ok, A, v4, v5, v6, v7, v8, v9, v10, hI, rfl⟩
    nested_keys
    intro q hq
    rw [hts.len, List.take_length] at hI
    have kq : Ex H' (upd H' q (.tup [.ref F, .ref O])) := Kp.new hq
    exact k q F O _ (hI.cfg.kp.trans kq) upd_same ⟨_, _, _, _, _, hI.ex kq⟩

end K87

namespace K87
open PySem PySem.Spec PyProof.Rows L2
local macro_rules | `(tactic| kxs_still) => `(tactic| with_unfolding_all rfl)
local macro_rules | `(tactic| lcg_sub) => `(tactic| first
  | assumption
  | (apply Cfg.get (i := 0) <;> first | assumption | kxs_still)
  | (apply Cfg.get (i := 1) <;> first | assumption | kxs_still)
  | (apply Cfg.get (i := 2) <;> first | assumption | kxs_still)
  | (apply Cfg.get (i := 3) <;> first | assumption | kxs_still)
  | (apply Cfg.get (i := 4) <;> first | assumption | kxs_still)
  | (apply Cfg.get (i := 5) <;> first | assumption | kxs_still)
  | (apply Cfg.get (i := 6) <;> first | assumption | kxs_still)
  | (apply Cfg.get (i := 7) <;> first | assumption | kxs_still)
  | (apply Cfg.get (i := 8) <;> first | assumption | kxs_still)
  | (apply Cfg.get (i := 9) <;> first | assumption | kxs_still)
  | (apply Cfg.get (i := 0) <;> first | (apply Bfg.toCfg; assumption) | kxs_still)
  | (apply Cfg.get (i := 1) <;> first | (apply Bfg.toCfg; assumption) | kxs_still)
  | (apply Cfg.get (i := 2) <;> first | (apply Bfg.toCfg; assumption) | kxs_still)
  | (apply Cfg.get (i := 3) <;> first | (apply Bfg.toCfg; assumption) | kxs_still)
  | (apply Cfg.get (i := 4) <;> first | (apply Bfg.toCfg; assumption) | kxs_still)
  | (apply Cfg.get (i := 5) <;> first | (apply Bfg.toCfg; assumption) | kxs_still)
  | (apply Cfg.get (i := 6) <;> first | (apply Bfg.toCfg; assumption) | kxs_still)
  | (apply Cfg.get (i := 7) <;> first | (apply Bfg.toCfg; assumption) | kxs_still)
  | (apply Cfg.get (i := 8) <;> first | (apply Bfg.toCfg; assumption) | kxs_still)
  | (apply Cfg.get (i := 9) <;> first | (apply Bfg.toCfg; assumption) | kxs_still))
local macro_rules | `(tactic| kas_types) => `(tactic| first
  | assumption | decide | omega | exact Or.inl (by omega) | exact Or.inr (by omega) | exact ⟨by omega, by omega⟩ | exact ⟨by omega, by omega, by omega⟩)
local macro_rules | `(tactic| keq_hits) => `(tactic| simp only [u_var, u_c, u_op, u_un, u_test, u_tB, u_bl, u_I0, u_eqS, u_eqI, u_neS, u_neI, u_seq, u_next, u_asg, u_name, u_ret, u_retN, u_drop, u_ifS, u_ifE, u_and, u_or, u_not, u_andV, u_orV, u_notV, u_nil, u_cons, u_call, u_cb, u_tup, u_lst, u_sub, u_gNil, u_gCons, u_bm, u_m1, u_isS, u_sl, u_noPart, u_part, u_partk, u_par, u_par2, u_for, u_lc, u_rng1, u_itL, u_itT, u_yes, u_fldI, u_putI, u_newI, u_methI, u_make, u_some, u_i0, u_i1, u_K, L2.start, wipe, List.map_cons, List.map_nil, List.length_cons, List.length_nil, List.replicate_succ, List.replicate_zero, List.cons_append, List.nil_append, List.set_cons_zero, List.set_cons_succ, ite_true, ite_false, if_true, if_false, Bool.false_eq_true, colV, washV, kindV, teamV, rowV, coolV, deedV, batRef_none, batRef_some, u_par3, u_par33, u_augI, u_dget, u_din, u_dnotin, u_dget2, u_dget1, u_dpop1, u_dput, u_setD, u_dnewK, u_dnewT, decide_true, decide_false, Bool.not_true, Bool.not_false, Option.map_none, Option.map_some, Option.isSome_none, Option.isSome_some, Option.getD_some, Option.getD_none, vn_non, vn_ref, vn_str, vn_int, wd_fill_fill, wd_fill_gather, wd_fill_wash, wd_fill_empty, wd_fill_break, wd_fill_new, wd_gather_fill, wd_gather_gather, wd_gather_wash, wd_gather_empty, wd_gather_break, wd_gather_new, wd_wash_fill, wd_wash_gather, wd_wash_wash, wd_wash_empty, wd_wash_break, wd_wash_new, wd_empty_fill, wd_empty_gather, wd_empty_wash, wd_empty_empty, wd_empty_break, wd_empty_new, wd_break_fill, wd_break_gather, wd_break_wash, wd_break_empty, wd_break_break, wd_break_new, wd_new_fill, wd_new_gather, wd_new_wash, wd_new_empty, wd_new_break, wd_new_new, wd_nil, wd_none, wd_broken, wd_busy, wd_glass, wd_name, wd_cold, wd_rank, wd_less, wd_full, wd_whole, inw_fill, inw_gather, inw_wash, inw_empty, inw_break, inw_new, u_itemsT, u_itemsK, u_keysK, u_lk, u_ckw, eq_self, true_and, and_true])
local macro_rules | `(tactic| nested_keys) => `(tactic| repeat first
  | (with_reducible apply w_nx)
  | (with_reducible apply w_blk)
  | (with_reducible apply w_I; (· with_unfolding_all kas_types))
  | (with_reducible apply w_ixT; (· lcg_sub); (· kxs_still))
  | (with_reducible apply w_ixL; (· lcg_sub); (· kxs_still))
  | (with_reducible apply w_fldI; (· lcg_sub); (· kxs_still))
  | (with_reducible apply w_methI; (· lcg_sub))
  | (with_reducible apply w_augO; (· lcg_sub); (· kxs_still))
  | (with_reducible apply w_dgetS; (· lcg_sub); (· assumption))
  | (with_reducible apply w_dinS; (· lcg_sub))
  | (with_reducible apply w_dnotinS; (· lcg_sub))
  | (with_reducible apply w_isD; (· lcg_sub))
  | (with_reducible apply w_inT; (· lcg_sub); (· with_unfolding_all rfl))
  | (with_reducible apply w_sz; (· with_unfolding_all exact Nat.le_of_ble_eq_true rfl))
  | (with_reducible apply w_gTup; (· lcg_sub); (· kxs_still))
  | (with_reducible apply w_tyL; (· lcg_sub))
  | (with_reducible apply w_rng1k; (· with_unfolding_all kas_types); (· with_unfolding_all kas_types))
  | (with_reducible apply w_itLk; (· lcg_sub))
  | (with_reducible apply w_itTk; (· lcg_sub))
  | (with_reducible apply w_lenL; (· lcg_sub))
  | (with_reducible apply w_lenT; (· lcg_sub))
  | (with_reducible apply w_lenS; (· with_unfolding_all kas_types))
  | (with_reducible apply w_ixaL; (· lcg_sub); (· kxs_still))
  | (with_reducible apply w_ixaT; (· lcg_sub); (· kxs_still))
  | (with_reducible apply w_ixaS; (· with_unfolding_all kas_types); (· kxs_still))
  | (with_reducible apply w_ixS; (· with_unfolding_all kas_types); (· kxs_still))
  | (with_reducible apply w_slL; (· lcg_sub))
  | (with_reducible apply w_slS; (· with_unfolding_all kas_types))
  | (with_reducible apply w_addS; (· with_unfolding_all kas_types))
  | (with_reducible apply w_listL; (· lcg_sub))
  | (with_reducible apply w_tupL; (· lcg_sub))
  | (with_reducible apply w_divmod; (· with_unfolding_all kas_types))
  | (simp only [u_var, u_c, u_op, u_un, u_test, u_tB, u_bl, u_I0, u_eqS, u_eqI, u_neS, u_neI, u_seq, u_next, u_asg, u_name, u_ret, u_retN, u_drop, u_ifS, u_ifE, u_and, u_or, u_not, u_andV, u_orV, u_notV, u_nil, u_cons, u_call, u_cb, u_tup, u_lst, u_sub, u_gNil, u_gCons, u_bm, u_m1, u_isS, u_sl, u_noPart, u_part, u_partk, u_par, u_par2, u_for, u_lc, u_rng1, u_itL, u_itT, u_yes, u_fldI, u_putI, u_newI, u_methI, u_make, u_some, u_i0, u_i1, u_K, L2.start, wipe, List.map_cons, List.map_nil, List.length_cons, List.length_nil, List.replicate_succ, List.replicate_zero, List.cons_append, List.nil_append, List.set_cons_zero, List.set_cons_succ, ite_true, ite_false, if_true, if_false, Bool.false_eq_true, colV, washV, kindV, teamV, rowV, coolV, deedV, batRef_none, batRef_some, u_par3, u_par33, u_augI, u_dget, u_din, u_dnotin, u_dget2, u_dget1, u_dpop1, u_dput, u_setD, u_dnewK, u_dnewT, decide_true, decide_false, Bool.not_true, Bool.not_false, Option.map_none, Option.map_some, Option.isSome_none, Option.isSome_some, Option.getD_some, Option.getD_none, vn_non, vn_ref, vn_str, vn_int, wd_fill_fill, wd_fill_gather, wd_fill_wash, wd_fill_empty, wd_fill_break, wd_fill_new, wd_gather_fill, wd_gather_gather, wd_gather_wash, wd_gather_empty, wd_gather_break, wd_gather_new, wd_wash_fill, wd_wash_gather, wd_wash_wash, wd_wash_empty, wd_wash_break, wd_wash_new, wd_empty_fill, wd_empty_gather, wd_empty_wash, wd_empty_empty, wd_empty_break, wd_empty_new, wd_break_fill, wd_break_gather, wd_break_wash, wd_break_empty, wd_break_break, wd_break_new, wd_new_fill, wd_new_gather, wd_new_wash, wd_new_empty, wd_new_break, wd_new_new, wd_nil, wd_none, wd_broken, wd_busy, wd_glass, wd_name, wd_cold, wd_rank, wd_less, wd_full, wd_whole, inw_fill, inw_gather, inw_wash, inw_empty, inw_break, inw_new, u_itemsT, u_itemsK, u_keysK, u_lk, u_ckw, eq_self, true_and, and_true])
  | (with_reducible apply w_eq; (· kxs_still))
  | (with_reducible apply w_ne; (· kxs_still)))
theorem merge_no {κ : List (Key × V)} : True := trivial
theorem merge_other : ∀ (l kvs : List (Key × V)) (k : Key), ¬ k ∈ l.map (·.1) → valV (mergeK kvs l) k = valV kvs k
  | [], _, _, _ => rfl
  | p :: r, kvs, k, h => by
    have h1 : ¬ k = p.1 := fun e => h (by rw [e]; exact List.mem_cons_self ..)
    show valV (mergeK (putK kvs p.1 p.2) r) k = _
    rw [merge_other r _ k fun m => h (List.mem_cons_of_mem _ m), valV_put, if_neg h1]
theorem merge_mem : ∀ (l kvs : List (Key × V)) (k : Key) (v : V), (l.map (·.1)).Nodup → (k, v) ∈ l → valV (mergeK kvs l) k = some v
  | [], _, _, _, _, h => by cases h
  | p :: r, kvs, k, v, nd, h => by
    have nd := List.nodup_cons.mp nd
    show valV (mergeK (putK kvs p.1 p.2) r) k = _
    rcases List.mem_cons.mp h with h | h
    · subst h
      rw [merge_other r _ _ nd.1, valV_put, if_pos rfl]
    · exact merge_mem r _ k v nd.2 h
def HallAt (H : Hp) (hv : Addr) (h : Hall) : Prop := ∃ pal ki te po, H hv = some (.tup [.ref pal, .ref ki, .ref te, .ref po, .int h.slots, .str h.odd]) ∧ HallX H h pal ki te po
theorem HallAt.ex {H H' : Hp} {hv : Addr} {h : Hall} (x : HallAt H hv h) (k : Ex H H') : HallAt H' hv h := by
  obtain ⟨pal, ki, te, po, h1, h2⟩ := x
  exact ⟨pal, ki, te, po, k.t _ _ h1, h2.kp k fun _ _ _ z => z⟩
/-- the dict of deeds -/
def DeedsD (H : Hp) (d : Addr) (es : List Ent) : Prop := ∃ kvs, H d = some (.dK kvs) ∧ ∀ e ∈ es, ∃ da, valV kvs (.inl e.number) = some (.ref da) ∧ H da = some (.tup (deedV e.deed))
theorem DeedsD.ex {H H' : Hp} {d : Addr} {es : List Ent} (x : DeedsD H d es) (k : Ex H H') : DeedsD H' d es := by
  obtain ⟨kvs, h1, h2⟩ := x
  exact ⟨kvs, k.exget h1, fun e m => by
    obtain ⟨da, a, b⟩ := h2 e m
    exact ⟨da, a, k.t _ _ b⟩⟩
theorem deeds_of {es : List Ent} {xs : List (Ent × Addr)} (hn : numbered es) (hx : xs.map (·.1) = sortE es) : ∀ e ∈ es, ∃ da, (e, da) ∈ xs ∧ valV (mergeK [] (xs.map fun x => ((.inl x.1.number : Key), V.ref x.2))) (.inl e.number) = some (.ref da) := fun e m => by
  have m2 : e ∈ xs.map (·.1) := by rw [hx]; exact (srt_perm es).mem_iff.mpr m
  obtain ⟨⟨e', da⟩, m3, e1⟩ := List.mem_map.mp m2
  have e1 : e' = e := e1
  subst e1
  refine ⟨da, m3, merge_mem _ _ _ _ ?_ (List.mem_map.mpr ⟨_, m3, rfl⟩)⟩
  have q : ((xs.map fun x => ((.inl x.1.number : Key), V.ref x.2)).map (·.1)) = ((xs.map (·.1)).map (·.number)).map (.inl) := by rw [List.map_map, List.map_map, List.map_map]; rfl
  rw [q, hx]
  refine nd_map (fun _ _ z => Sum.inl.inj z) ?_
  exact ((srt_perm es).map _).nodup_iff.mpr hn.nd
theorem pairs_refs {H : Hp} : ∀ {ps : List Addr} {xs : List (Ent × Addr)} {K : PySem.W.Frag}, Paired (fun p (x : Ent × Addr) => H p = some (.tup [.int x.1.number, .ref x.2])) ps xs → Paired (fun p (kv : Key × V) => SqT K H p [kV kv.1, kv.2]) ps (xs.map fun x => ((.inl x.1.number : Key), V.ref x.2)) := by
  intro ps xs K h
  induction h with
  | nil => exact .nil
  | cons a t ih => exact .cons (SqT.of a) ih
theorem rows_refs {H : Hp} {ps : List Addr} {rs : List Row} {K : PySem.W.Frag} (h : Paired (fun p (r : Row) => H p = some (.tup [.int r.number, .int r.hour])) ps rs) : Paired (fun p (kv : Key × V) => SqT K H p [kV kv.1, kv.2]) ps (rs.map fun r => ((.inl r.number : Key), V.int r.hour)) := by
  induction h with
  | nil => exact .nil
  | cons a t ih => exact .cons (SqT.of a) ih
theorem w_ninT {K : PySem.W.Frag} {H : Hp} {x : V} {QT : V → Hp → Prop} {p : Addr} {xs : List V} (h : H p = some (.tup xs)) (f : (flatV x && xs.all flatV) = true) (q : QT (.bl (!inV x xs)) H) : rIn K true x (.ref p) H QT := by
  rw [Bool.and_eq_true] at f
  exact ⟨p, xs, rfl, .inr (SqT.of h), f.1, f.2, q⟩
def spReadyR (K : PySem.W.Frag) : Sp := fun vs H Q _ => ∃ (hv rp : Addr) (b : BookX) (h : Hall) (es : List Ent) (rvs : List V) (rows : List Row), vs = [.ref hv, .ref b.bk, .ref rp] ∧ HallAt H hv h ∧ BookAt K H b h es ∧ H rp = some (.lst rvs) ∧ Ts H rowV rvs rows ∧ (rows.map (·.number)).Nodup ∧ rows.length ≤ 1000 ∧ (∀ r ∈ rows, ReadyOk h es rows r) ∧
  ∀ H', Ex H H' → Q (.bl true) H'
theorem C_ready_right {P : Program} {w : World} {K : PySem.W.Frag} {mg : Str → Option Value} {base : Heap} (T : Txt K mg) : Cal P w K mg base 4 "_law_ready_right" ["_law_hall", "_law_book", "_law_rows"] (spReadyR K) := by
  have C_Book_entries := C_Book_entries (P := P) (w := w) (base := base) T
  have C_ready_at := C_ready_at (P := P) (w := w) (base := base) T
  refine cal_mk T 56 rfl T.g_ready_right sc_ready_right rfl rfl (fun _ _ _ _ _ _ us hl => match us, hl with | [_, _, _], _ => rfl) (fun vs H Q E h => ?_) (fun f cdv A outer s H vs Q E hr h => ?_)
  · obtain ⟨hv, rp, b, h, es, rvs, rows, rfl, hH, hB, hrp, hts, hnd, hlen, hok, k⟩ := h
    rfl
  obtain ⟨hv, rp, b, h, es, rvs, rows, rfl, hH, hB, hrp, hts, hnd, hlen, hok, k⟩ := h
  refine ⟨_, (pss_cons (ps_set (i := 5) sc_ready_right.nd rfl (Or.inl rfl) (pe_callTy (call_dictP rfl) (by rfl) T.f_dict (by decide +kernel) (pa_cons (pe_lc (own := [("_law_hour", 3), ("_law_number", 4), ("_law_deed", 12)]) rfl sc_ready_right.nd (pi_listK (K := K) rfl (pe_mcalI0 (ns := f_Book) (by decide +kernel) (pv 1) T.c_Book C_Book_entries hr)) (blkOk_by (own := [("_law_hour", 3), ("_law_number", 4), ("_law_deed", 12)]) (N := n_ready_right) (sc := defScope s_ready_right) (by decide +kernel)) (fun _ _ _ _ _ => (pg_tupK (K := K) (n := 3) rfl rfl (pgs_cons (pg_name (i := 3) sc_ready_right.nd rfl (Or.inl rfl)) (pgs_cons (pg_name (i := 4) sc_ready_right.nd rfl (Or.inl rfl)) (pgs_cons (pg_name (i := 12) sc_ready_right.nd rfl (Or.inl rfl)) pgs_nil))))) (fun _ _ _ _ _ => pts_nil) (fun _ _ _ _ _ => (pe_tup (pa_cons (pv 4) (pa_cons (pv 12) pa_nil))))) pa_nil)))
 (pss_cons (ps_set (i := 6) sc_ready_right.nd rfl (Or.inl rfl) (pe_callTy (call_dictP rfl) (by rfl) T.f_dict (by decide +kernel) (pa_cons (pe_lc (own := [("_law_row", 13)]) rfl sc_ready_right.nd (pi_listK (K := K) rfl (pv 2)) (blkOk_by (own := [("_law_row", 13)]) (N := n_ready_right) (sc := defScope s_ready_right) (by decide +kernel)) (fun _ _ _ _ _ => (pg_name (i := 13) sc_ready_right.nd rfl (Or.inl rfl))) (fun _ _ _ _ _ => (pts_one (pt_cmpR op_eq (pe_ix (ix_tupK (K := K) rfl) (pv 13) pe_int (fun _ _ => rfl)) pe_str (nomark _)))) (fun _ _ _ _ _ => (pe_tup (pa_cons (pe_ix (ix_tupK (K := K) rfl) (pv 13) pe_int (fun _ _ => rfl)) (pa_cons (pe_ix (ix_tupK (K := K) rfl) (pv 13) pe_int (fun _ _ => rfl)) pa_nil))))) pa_nil)))
 (pss_cons (ps_for PassesOwn.never rfl (pi_listK (K := K) rfl (pv 2)) (pg_tupK (K := K) (n := 7) rfl rfl (pgs_cons (pg_name (i := 3) sc_ready_right.nd rfl (Or.inl rfl)) (pgs_cons (pg_name (i := 4) sc_ready_right.nd rfl (Or.inl rfl)) (pgs_cons (pg_name (i := 7) sc_ready_right.nd rfl (Or.inl rfl)) (pgs_cons (pg_name (i := 8) sc_ready_right.nd rfl (Or.inl rfl)) (pgs_cons (pg_name (i := 9) sc_ready_right.nd rfl (Or.inl rfl)) (pgs_cons (pg_name (i := 10) sc_ready_right.nd rfl (Or.inl rfl)) (pgs_cons (pg_name (i := 11) sc_ready_right.nd rfl (Or.inl rfl)) pgs_nil)))))))) (pss_cons (ps_if (PW.pt (pw_and (pt_cmpR op_eq (pv 7) pe_str (nomark _)) (pw_and1 (pt_cmpR op_lt (pv 3) (pe_cal C_ready_at (hr.mono (by decide)) rfl (pa_cons (pe_ix (ix_tupK (K := K) rfl) (pv 0) pe_int (fun _ _ => rfl)) (pa_cons (pe_ix (ix_tupK (K := K) rfl) (pe_dget (hu_of hr) (pv 5) (pv 11) (fun _ _ => rfl)) pe_int (fun _ _ => rfl)) (pa_cons (pe_dget (hu_of hr) (pv 6) (pv 11) (fun _ _ => rfl)) pa_nil)))) (nomark _))))) (pss_one (ps_ret pe_bl)) pss_nil)
 (pss_one (ps_if (PW.pt (pw_and (pt_cmpR op_eq (pv 7) pe_str (nomark _)) (pw_and1 (pt_cmpR (op_notInK (K := K) rfl) (pv 10) (pe_tup (pa_cons pe_str (pa_cons (pe_ix (ix_tupK (K := K) rfl) (pe_dget (hu_of hr) (pv 5) (pv 4) (fun _ _ => rfl)) pe_int (fun _ _ => rfl)) pa_nil))) (by with_unfolding_all rfl))))) (pss_one (ps_ret pe_bl)) pss_nil))))
 (pss_one (ps_ret pe_bl))))), ?_⟩
  have hbk := hB.bk
  nested_keys
  refine ⟨b, h, es, rfl, hB, fun p us xs H1 hp k1 h1 htx hD hex => ?_⟩
  nested_keys
  intro U hU
  refine lc_list (K := K) (a := p) (xs := us) (fun i H' => ∃ ps : List Addr, ps.length = i ∧ Paired (fun p (x : Ent × Addr) => H' p = some (.tup [.int x.1.number, .ref x.2])) ps (xs.take i) ∧ Cfg no H1 [(U, .lst (ps.map V.ref))] H')
    ⟨[], rfl, .nil, Cfg.nil.new hU⟩ (fun i H' _ ⟨_, _, _, g⟩ => SqL.of (g.kp.exget h1)) ?_ ?_
  · rintro i v H' hv' ⟨ps, hps, hP, g⟩
    obtain ⟨⟨e, da⟩, t, he, rfl, ht⟩ := htx.get hv'
    have ht := g.kp.t _ _ ht
    have hi := get_lt he
    have hxl : xs.length = es.length := by rw [← List.length_map (f := fun x : Ent × Addr => x.1), hex]; exact (srt_perm es).length_eq
    have hfew := hB.few
    nested_keys
    intro r hr
    have kr : Ex H' (upd H' r (.tup [.int e.number, .ref da])) := Kp.new hr
    have g := g.ex kr
    have gw := g.wr (o := .lst (ps.map V.ref ++ [.ref r])) 0 rfl (fun _ z => by cases z) (.inr hU)
    have tw : Tp _ (upd (upd H' r (.tup [.int e.number, .ref da])) U (.lst (ps.map V.ref ++ [.ref r]))) := tp_wr g.hd (fun _ z => by cases z)
    refine ⟨_, g.hd, by rw [List.length_map, hps]; exact small1000 (by omega), ps ++ [r], by simp [hps], ?_, by rw [List.map_append]; exact gw⟩
    rw [take_snoc he]
    exact paired_app (paired_mono hP fun _ _ q => tw _ _ (kr.t _ _ q)) (.cons (tw _ _ upd_same) .nil)
  rintro H2 ⟨ps, hps, hP, g⟩
  rw [htx.len, List.take_length] at hP
  nested_keys
  refine ⟨U, ps, xs.map fun x => ((.inl x.1.number : Key), V.ref x.2), rfl, SqL.of (g.get 0 rfl), pairs_refs hP, fun d hd => ?_⟩
  have kd0 : Ex H2 (upd H2 d (.dK (mergeK [] (xs.map fun x => ((.inl x.1.number : Key), V.ref x.2))))) := Kp.new hd
  have kk : Ex H1 _ := g.kp.trans kd0
  have hDD : DeedsD (upd H2 d (.dK (mergeK [] (xs.map fun x => ((.inl x.1.number : Key), V.ref x.2))))) d es := ⟨_, upd_same, fun e m => by
    obtain ⟨da, m1, m2⟩ := deeds_of hB.num hex e m
    exact ⟨da, m2, kk.t _ _ (hD _ m1)⟩⟩
  generalize upd H2 d (.dK (mergeK [] (xs.map fun x => ((.inl x.1.number : Key), V.ref x.2)))) = H3 at kd0 kk hDD
  have k3 : Ex H H3 := k1.trans kk
  clear hP hps g
  have hrp3 := k3.exget hrp
  have hts3 := hts.mono k3.t
  nested_keys
  intro U2 hU2
  refine lc_list (K := K) (a := rp) (xs := rvs) (fun i H' => ∃ ps : List Addr, ps.length ≤ i ∧ Paired (fun p (r : Row) => H' p = some (.tup [.int r.number, .int r.hour])) ps ((rows.take i).filter fun r => decide (r.word = wFill)) ∧ Cfg no H3 [(U2, .lst (ps.map V.ref))] H')
    ⟨[], Nat.le_refl _, .nil, Cfg.nil.new hU2⟩ (fun i H' _ ⟨_, _, _, g⟩ => SqL.of (g.kp.exget hrp3)) ?_ ?_
  · rintro i v H' hv' ⟨ps, hps, hP, g⟩
    obtain ⟨r, t, hr, rfl, ht⟩ := hts3.get hv'
    have ht := g.kp.t _ _ ht
    have hi := get_lt hr
    nested_keys
    rw [filt_snoc hr]
    refine ite_d (fun e => ?_) (fun e => ?_)
    · nested_keys
      intro q hq
      have kr : Ex H' (upd H' q (.tup [.int r.number, .int r.hour])) := Kp.new hq
      have g := g.ex kr
      have gw := g.wr (o := .lst (ps.map V.ref ++ [.ref q])) 0 rfl (fun _ z => by cases z) (.inr hU2)
      have tw : Tp _ (upd (upd H' q (.tup [.int r.number, .int r.hour])) U2 (.lst (ps.map V.ref ++ [.ref q]))) := tp_wr g.hd (fun _ z => by cases z)
      refine ⟨_, g.hd, by rw [List.length_map]; exact small1000 (by omega), ps ++ [q], by simp; omega, ?_, by rw [List.map_append]; exact gw⟩
      rw [if_pos (decide_eq_true e)]
      exact paired_app (paired_mono hP fun _ _ q => tw _ _ (kr.t _ _ q)) (.cons (tw _ _ upd_same) .nil)
    · refine ⟨ps, by omega, ?_, g⟩
      rw [if_neg (by rw [decide_eq_false e]; exact Bool.false_ne_true), List.append_nil]
      exact hP
  rintro H4 ⟨ps, hps, hP, g⟩
  rw [hts.len, List.take_length] at hP
  nested_keys
  refine ⟨U2, ps, (rows.filter fun r => decide (r.word = wFill)).map fun r => ((.inl r.number : Key), V.int r.hour), rfl, SqL.of (g.get 0 rfl), ?_, fun bg hbg => ?_⟩
  · exact rows_refs hP
  have hbeg : ∀ r ∈ rows, r.word = wFill → valV (mergeK [] ((rows.filter fun r => decide (r.word = wFill)).map fun r => ((.inl r.number : Key), V.int r.hour))) (.inl r.number) = some (.int r.hour) := fun r m hw => by
    refine merge_mem _ _ _ _ ?_ (List.mem_map.mpr ⟨r, List.mem_filter.mpr ⟨m, decide_eq_true hw⟩, rfl⟩)
    have q : (((rows.filter fun r => decide (r.word = wFill)).map fun r => ((.inl r.number : Key), V.int r.hour)).map (·.1)) = ((rows.filter fun r => decide (r.word = wFill)).map (·.number)).map (.inl) := by rw [List.map_map, List.map_map]; rfl
    rw [q]
    exact nd_map (fun _ _ z => Sum.inl.inj z) ((List.filter_sublist.map _).nodup hnd)
  generalize mergeK [] ((rows.filter fun r => decide (r.word = wFill)).map fun r => ((.inl r.number : Key), V.int r.hour)) = bgs at hbeg
  have kb : Ex H4 (upd H4 bg (.dK bgs)) := Kp.new hbg
  have hbgD : upd H4 bg (.dK bgs) bg = some (.dK bgs) := upd_same
  have k34 := g.kp
  generalize upd H4 bg (.dK bgs) = H5 at kb hbgD
  have k5 : Ex H H5 := (k3.trans k34).trans kb
  have hDD := hDD.ex (k34.trans kb)
  clear hP hps g k34 kb
  have hrp5 := k5.exget hrp
  have hts5 := hts.mono k5.t
  obtain ⟨dkv, hd1, hd2⟩ := hDD
  obtain ⟨pal, ki, te, po, hhv, hhx⟩ := hH.ex k5
  nested_keys
  refine for_list (K := K) (a := rp) (xs := rvs) (fun i σ H' => ∃ v3 v4 v7 v8 v9 v10 v11 v12 v13 : Option V, Ex H5 H' ∧ σ = [some (.ref hv), some (.ref b.bk), some (.ref rp), v3, v4, some (.ref d), some (.ref bg), v7, v8, v9, v10, v11, v12, v13])
    ⟨_, _, _, _, _, _, _, _, _, Kp.refl, rfl⟩ (fun i σ H' _ ⟨_, _, _, _, _, _, _, _, _, q, _⟩ => SqL.of (q.exget hrp5)) ?_ ?_
  · rintro i v σ H' hv' ⟨v3, v4, v7, v8, v9, v10, v11, v12, v13, kx, rfl⟩
    obtain ⟨r, t, hr, rfl, ht⟩ := hts5.get hv'
    have ht := kx.t _ _ ht
    have hd1' := kx.exget hd1
    have hbg' := kx.exget hbgD
    have hhv' := kx.t _ _ hhv
    have hpal' := hhx.pal.up kx.t
    have mr := List.mem_of_getElem? hr
    obtain ⟨ok1, ok2⟩ := hok r mr
    nested_keys
    by_cases hw : r.word = wGather
    · obtain ⟨n, e, p, c, r0, hs, me, en, ed, hc, m0, n0, w0, hle⟩ := ok1 hw
      obtain ⟨da, hv1, hda⟩ := hd2 e me
      rw [en] at hv1
      rw [ed] at hda
      have hda := kx.t _ _ hda
      have hb1 := hbeg r0 m0 w0
      rw [n0] at hb1
      rw [hw, hs]
      nested_keys
      refine w_dgetN hd1' hv1 ?_
      nested_keys
      refine w_dgetN hbg' hb1 ?_
      nested_keys
      refine ⟨pal, h, c, r0.hour, rfl, hpal', hc, ?_⟩
      nested_keys
      rw [decide_eq_false (by omega : ¬ r.hour < readyAt h c r0.hour)]
      nested_keys
      exact ⟨_, _, _, _, _, _, _, _, _, kx, rfl⟩
    · rw [decide_eq_false hw]
      nested_keys
      by_cases hw2 : r.word = wFill
      · obtain ⟨e, p, c, me, en, ed, hcc⟩ := ok2 hw2
        obtain ⟨da, hv1, hda⟩ := hd2 e me
        rw [en] at hv1
        rw [ed] at hda
        have hda := kx.t _ _ hda
        rw [hw2]
        nested_keys
        refine w_dgetN hd1' hv1 ?_
        nested_keys
        intro q hq
        have kq : Ex H' (upd H' q (.tup [.str "", .str c])) := Kp.new hq
        refine w_ninT upd_same rfl ?_
        have hin : inV (.str r.colour) [.str "", .str c] = true := by
          have z := in_strs r.colour ["", c]
          refine z.trans (decide_eq_true ?_)
          rcases hcc with e | e
          · rw [e]; exact List.mem_cons_self ..
          · rw [e]; exact List.mem_cons_of_mem _ (List.mem_cons_self ..)
        rw [hin]
        nested_keys
        exact ⟨_, _, _, _, _, _, _, _, _, kx.trans kq, rfl⟩
      · rw [decide_eq_false hw2]
        nested_keys
        exact ⟨_, _, _, _, _, _, _, _, _, kx, rfl⟩
  · rintro σ H' ⟨v3, v4, v7, v8, v9, v10, v11, v12, v13, kx, rfl⟩
    nested_keys
    exact k H' (k5.trans kx)

end K87

namespace K87
open PySem PySem.Spec PyProof.Rows L2
local macro_rules | `(tactic| kxs_still) => `(tactic| with_unfolding_all rfl)
local macro_rules | `(tactic| lcg_sub) => `(tactic| first
  | assumption
  | (apply Cfg.get (i := 0) <;> first | assumption | kxs_still)
  | (apply Cfg.get (i := 1) <;> first | assumption | kxs_still)
  | (apply Cfg.get (i := 2) <;> first | assumption | kxs_still)
  | (apply Cfg.get (i := 3) <;> first | assumption | kxs_still)
  | (apply Cfg.get (i := 4) <;> first | assumption | kxs_still)
  | (apply Cfg.get (i := 5) <;> first | assumption | kxs_still)
  | (apply Cfg.get (i := 6) <;> first | assumption | kxs_still)
  | (apply Cfg.get (i := 7) <;> first | assumption | kxs_still)
  | (apply Cfg.get (i := 8) <;> first | assumption | kxs_still)
  | (apply Cfg.get (i := 9) <;> first | assumption | kxs_still)
  | (apply Cfg.get (i := 0) <;> first | (apply Bfg.toCfg; assumption) | kxs_still)
  | (apply Cfg.get (i := 1) <;> first | (apply Bfg.toCfg; assumption) | kxs_still)
  | (apply Cfg.get (i := 2) <;> first | (apply Bfg.toCfg; assumption) | kxs_still)
  | (apply Cfg.get (i := 3) <;> first | (apply Bfg.toCfg; assumption) | kxs_still)
  | (apply Cfg.get (i := 4) <;> first | (apply Bfg.toCfg; assumption) | kxs_still)
  | (apply Cfg.get (i := 5) <;> first | (apply Bfg.toCfg; assumption) | kxs_still)
  | (apply Cfg.get (i := 6) <;> first | (apply Bfg.toCfg; assumption) | kxs_still)
  | (apply Cfg.get (i := 7) <;> first | (apply Bfg.toCfg; assumption) | kxs_still)
  | (apply Cfg.get (i := 8) <;> first | (apply Bfg.toCfg; assumption) | kxs_still)
  | (apply Cfg.get (i := 9) <;> first | (apply Bfg.toCfg; assumption) | kxs_still))
local macro_rules | `(tactic| kas_types) => `(tactic| first
  | assumption | decide | omega | exact Or.inl (by omega) | exact Or.inr (by omega) | exact ⟨by omega, by omega⟩ | exact ⟨by omega, by omega, by omega⟩)
local macro_rules | `(tactic| keq_hits) => `(tactic| simp only [u_var, u_c, u_op, u_un, u_test, u_tB, u_bl, u_I0, u_eqS, u_eqI, u_neS, u_neI, u_seq, u_next, u_asg, u_name, u_ret, u_retN, u_drop, u_ifS, u_ifE, u_and, u_or, u_not, u_andV, u_orV, u_notV, u_nil, u_cons, u_call, u_cb, u_tup, u_lst, u_sub, u_gNil, u_gCons, u_bm, u_m1, u_isS, u_sl, u_noPart, u_part, u_partk, u_par, u_par2, u_for, u_lc, u_rng1, u_itL, u_itT, u_yes, u_fldI, u_putI, u_newI, u_methI, u_make, u_some, u_i0, u_i1, u_K, L2.start, wipe, List.map_cons, List.map_nil, List.length_cons, List.length_nil, List.replicate_succ, List.replicate_zero, List.cons_append, List.nil_append, List.set_cons_zero, List.set_cons_succ, ite_true, ite_false, if_true, if_false, Bool.false_eq_true, colV, washV, kindV, teamV, rowV, coolV, deedV, batRef_none, batRef_some, u_par3, u_par33, u_augI, u_dget, u_din, u_dnotin, u_dget2, u_dget1, u_dpop1, u_dput, u_setD, u_dnewK, u_dnewT, decide_true, decide_false, Bool.not_true, Bool.not_false, Option.map_none, Option.map_some, Option.isSome_none, Option.isSome_some, Option.getD_some, Option.getD_none, vn_non, vn_ref, vn_str, vn_int, wd_fill_fill, wd_fill_gather, wd_fill_wash, wd_fill_empty, wd_fill_break, wd_fill_new, wd_gather_fill, wd_gather_gather, wd_gather_wash, wd_gather_empty, wd_gather_break, wd_gather_new, wd_wash_fill, wd_wash_gather, wd_wash_wash, wd_wash_empty, wd_wash_break, wd_wash_new, wd_empty_fill, wd_empty_gather, wd_empty_wash, wd_empty_empty, wd_empty_break, wd_empty_new, wd_break_fill, wd_break_gather, wd_break_wash, wd_break_empty, wd_break_break, wd_break_new, wd_new_fill, wd_new_gather, wd_new_wash, wd_new_empty, wd_new_break, wd_new_new, wd_nil, wd_none, wd_broken, wd_busy, wd_glass, wd_name, wd_cold, wd_rank, wd_less, wd_full, wd_whole, inw_fill, inw_gather, inw_wash, inw_empty, inw_break, inw_new, u_itemsT, u_itemsK, u_keysK, u_lk, u_ckw, eq_self, true_and, and_true])
local macro_rules | `(tactic| nested_keys) => `(tactic| repeat first
  | (with_reducible apply w_nx)
  | (with_reducible apply w_blk)
  | (with_reducible apply w_I; (· with_unfolding_all kas_types))
  | (with_reducible apply w_ixT; (· lcg_sub); (· kxs_still))
  | (with_reducible apply w_ixL; (· lcg_sub); (· kxs_still))
  | (with_reducible apply w_fldI; (· lcg_sub); (· kxs_still))
  | (with_reducible apply w_methI; (· lcg_sub))
  | (with_reducible apply w_augO; (· lcg_sub); (· kxs_still))
  | (with_reducible apply w_dgetS; (· lcg_sub); (· assumption))
  | (with_reducible apply w_dinS; (· lcg_sub))
  | (with_reducible apply w_dnotinS; (· lcg_sub))
  | (with_reducible apply w_isD; (· lcg_sub))
  | (with_reducible apply w_inT; (· lcg_sub); (· with_unfolding_all rfl))
  | (with_reducible apply w_sz; (· with_unfolding_all exact Nat.le_of_ble_eq_true rfl))
  | (with_reducible apply w_gTup; (· lcg_sub); (· kxs_still))
  | (with_reducible apply w_tyL; (· lcg_sub))
  | (with_reducible apply w_rng1k; (· with_unfolding_all kas_types); (· with_unfolding_all kas_types))
  | (with_reducible apply w_itLk; (· lcg_sub))
  | (with_reducible apply w_itTk; (· lcg_sub))
  | (with_reducible apply w_lenL; (· lcg_sub))
  | (with_reducible apply w_lenT; (· lcg_sub))
  | (with_reducible apply w_lenS; (· with_unfolding_all kas_types))
  | (with_reducible apply w_ixaL; (· lcg_sub); (· kxs_still))
  | (with_reducible apply w_ixaT; (· lcg_sub); (· kxs_still))
  | (with_reducible apply w_ixaS; (· with_unfolding_all kas_types); (· kxs_still))
  | (with_reducible apply w_ixS; (· with_unfolding_all kas_types); (· kxs_still))
  | (with_reducible apply w_slL; (· lcg_sub))
  | (with_reducible apply w_slS; (· with_unfolding_all kas_types))
  | (with_reducible apply w_addS; (· with_unfolding_all kas_types))
  | (with_reducible apply w_listL; (· lcg_sub))
  | (with_reducible apply w_tupL; (· lcg_sub))
  | (with_reducible apply w_divmod; (· with_unfolding_all kas_types))
  | (simp only [u_var, u_c, u_op, u_un, u_test, u_tB, u_bl, u_I0, u_eqS, u_eqI, u_neS, u_neI, u_seq, u_next, u_asg, u_name, u_ret, u_retN, u_drop, u_ifS, u_ifE, u_and, u_or, u_not, u_andV, u_orV, u_notV, u_nil, u_cons, u_call, u_cb, u_tup, u_lst, u_sub, u_gNil, u_gCons, u_bm, u_m1, u_isS, u_sl, u_noPart, u_part, u_partk, u_par, u_par2, u_for, u_lc, u_rng1, u_itL, u_itT, u_yes, u_fldI, u_putI, u_newI, u_methI, u_make, u_some, u_i0, u_i1, u_K, L2.start, wipe, List.map_cons, List.map_nil, List.length_cons, List.length_nil, List.replicate_succ, List.replicate_zero, List.cons_append, List.nil_append, List.set_cons_zero, List.set_cons_succ, ite_true, ite_false, if_true, if_false, Bool.false_eq_true, colV, washV, kindV, teamV, rowV, coolV, deedV, batRef_none, batRef_some, u_par3, u_par33, u_augI, u_dget, u_din, u_dnotin, u_dget2, u_dget1, u_dpop1, u_dput, u_setD, u_dnewK, u_dnewT, decide_true, decide_false, Bool.not_true, Bool.not_false, Option.map_none, Option.map_some, Option.isSome_none, Option.isSome_some, Option.getD_some, Option.getD_none, vn_non, vn_ref, vn_str, vn_int, wd_fill_fill, wd_fill_gather, wd_fill_wash, wd_fill_empty, wd_fill_break, wd_fill_new, wd_gather_fill, wd_gather_gather, wd_gather_wash, wd_gather_empty, wd_gather_break, wd_gather_new, wd_wash_fill, wd_wash_gather, wd_wash_wash, wd_wash_empty, wd_wash_break, wd_wash_new, wd_empty_fill, wd_empty_gather, wd_empty_wash, wd_empty_empty, wd_empty_break, wd_empty_new, wd_break_fill, wd_break_gather, wd_break_wash, wd_break_empty, wd_break_break, wd_break_new, wd_new_fill, wd_new_gather, wd_new_wash, wd_new_empty, wd_new_break, wd_new_new, wd_nil, wd_none, wd_broken, wd_busy, wd_glass, wd_name, wd_cold, wd_rank, wd_less, wd_full, wd_whole, inw_fill, inw_gather, inw_wash, inw_empty, inw_break, inw_new, u_itemsT, u_itemsK, u_keysK, u_lk, u_ckw, eq_self, true_and, and_true])
  | (with_reducible apply w_eq; (· kxs_still))
  | (with_reducible apply w_ne; (· kxs_still)))
def Meets (L : Led) (a : Acc) (p : Str) : Prop := match (a.pots p).bat with
  | none => L.opens p = none
  | some b => L.opens p = some b.source ∧ ∃ f, L.fills b.source = some f ∧ f.colour = b.colour ∧ f.left = b.left
def StateOk (a : Acc) (last : Int) (p : Str) : Prop := decide ((a.pots p).wordOf last ∈ [("filled" : Str), "melting", "ready"]) = (a.pots p).bat.isSome
theorem glass_same {H : Hp} {v : V} {b : Bat} {t : Addr} (hg : GlassV H v (some b)) (ht : H t = some (.tup [.str b.colour, .int b.left, .int b.source])) : SameV H 2 v (.ref t) := by
  obtain ⟨q, rfl, hq⟩ := hg
  exact .inr ⟨q, t, _, _, rfl, rfl, .inr ⟨hq, ht⟩, .cons (.inl ⟨rfl, .inr (.inr ⟨_, rfl⟩)⟩) (.cons (.inl ⟨rfl, .inr (.inl ⟨_, rfl⟩)⟩) (.cons (.inl ⟨rfl, .inr (.inl ⟨_, rfl⟩)⟩) .nil)), show 3 ≤ 1000 by decide⟩
def spLeft (K : PySem.W.Frag) : Sp := fun vs H Q _ => ∃ (hv q F O : Addr) (L : Led) (h : Hall) (last : Int) (x : AccX) (S : Addr → Prop) (H0 : Hp) (n : Nat) (a : Acc), vs = [.ref hv, .ref x.pa, .ref q] ∧ HallAt H hv h ∧ AccAt K h last x S H0 n H a ∧ H q = some (.tup [.ref F, .ref O]) ∧ LedAt H F O L ∧
  (∀ p ∈ h.pots, Meets L a p) ∧ (∀ p ∈ h.pots, StateOk a last p) ∧ ∀ H', Ex H H' → Q (.bl true) H'
theorem C_left_right {P : Program} {w : World} {K : PySem.W.Frag} {mg : Str → Option Value} {base : Heap} (T : Txt K mg) : Cal P w K mg base 5 "_law_left_right" ["_law_hall", "_law_account", "_law_led"] (spLeft K) := by
  have C_Account_glass := C_Account_glass (P := P) (w := w) (base := base) T
  have C_Account_state := C_Account_state (P := P) (w := w) (base := base) T
  have C_same := C_same (P := P) (w := w) (base := base) T
  refine cal_mk T 58 rfl T.g_left_right sc_left_right rfl rfl (fun _ _ _ _ _ _ us hl => match us, hl with | [_, _, _], _ => rfl) (fun vs H Q E h => ?_) (fun f cdv A outer s H vs Q E hr h => ?_)
  · obtain ⟨hv, q, F, O, L, h, last, x, S, H0, n, a, rfl, hH, hA, hq, hL, hm, hst, k⟩ := h
    rfl
  obtain ⟨hv, q, F, O, L, h, last, x, S, H0, n, a, rfl, hH, hA, hq, hL, hm, hst, k⟩ := h
  refine ⟨_, (pss_cons (ps_asg (pv 2) (pg_tupK (K := K) (n := 2) rfl rfl (pgs_cons (pg_name (i := 3) sc_left_right.nd rfl (Or.inl rfl)) (pgs_cons (pg_name (i := 4) sc_left_right.nd rfl (Or.inl rfl)) pgs_nil))))
 (pss_cons (ps_for PassesOwn.never rfl (pi_tupK (K := K) rfl (pe_ix (ix_tupK (K := K) rfl) (pv 0) pe_int (fun _ _ => rfl))) (pg_name (i := 5) sc_left_right.nd rfl (Or.inl rfl)) (pss_cons (ps_set (i := 6) sc_left_right.nd rfl (Or.inl rfl) pe_non)
 (pss_cons (ps_if (pt_cmp (pc_din (hu_of hr) (pv 5) (pv 4))) (pss_one (ps_set (i := 6) sc_left_right.nd rfl (Or.inl rfl) (pe_tup (pa_cons (pe_ix (ix_listK (K := K) rfl) (pe_dget (hu_of hr) (pv 3) (pe_dget (hu_of hr) (pv 4) (pv 5) (fun _ _ => rfl)) (fun _ _ => rfl)) pe_int (fun _ _ => rfl)) (pa_cons (pe_ix (ix_listK (K := K) rfl) (pe_dget (hu_of hr) (pv 3) (pe_dget (hu_of hr) (pv 4) (pv 5) (fun _ _ => rfl)) (fun _ _ => rfl)) pe_int (fun _ _ => rfl)) (pa_cons (pe_dget (hu_of hr) (pv 4) (pv 5) (fun _ _ => rfl)) pa_nil)))))) pss_nil)
 (pss_cons (ps_if (pt_not (pt_val (pe_cal C_same hr rfl (pa_cons (pe_mcalI (ns := f_Account) (by decide +kernel) (pv 1) T.c_Account C_Account_glass (hr.mono (by decide)) (pa_cons (pv 5) pa_nil)) (pa_cons (pv 6) pa_nil))))) (pss_one (ps_ret pe_bl)) pss_nil)
 (pss_one (ps_if (pt_cmpR op_ne (pe_cmpR (op_inK (K := K) rfl) (pe_mcalI (ns := f_Account) (by decide +kernel) (pv 1) T.c_Account C_Account_state (hr.mono (by decide)) (pa_cons (pv 5) pa_nil)) (pe_tup (pa_cons pe_str (pa_cons pe_str (pa_cons pe_str pa_nil)))) (by with_unfolding_all rfl)) (pe_cmpR op_notN (pv 6) pe_non (nomark _)) (nomark _)) (pss_one (ps_ret pe_bl)) pss_nil))))))
 (pss_one (ps_ret pe_bl)))), ?_⟩
  obtain ⟨L0, fk, ok, A', nn, hL⟩ := hL
  obtain ⟨pal, ki, te, po, hhv, hhx⟩ := hH
  have hpo := hhx.po
  obtain ⟨cls, dls, vls, B, hI⟩ := id hA
  have hacc := hI.acc
  nested_keys
  refine for_tup (K := K) (a := po) (xs := h.pots.map V.str) (fun i σ H' => ∃ v5 v6 : Option V, Ex H H' ∧ σ = [some (.ref hv), some (.ref x.pa), some (.ref q), some (.ref F), some (.ref O), v5, v6])
    ⟨_, _, Kp.refl, rfl⟩ (fun i σ H' _ ⟨_, _, q, _⟩ => SqT.of (q.t _ _ hpo)) ?_ ?_
  · rintro i v σ H' hv' ⟨v5, v6, kx, rfl⟩
    rw [List.getElem?_map] at hv'
    obtain ⟨p, hp, rfl⟩ := Option.map_eq_some_iff.mp hv'
    have mp := List.mem_of_getElem? hp
    have hL' := hL.ex kx
    have hA' := hA.ex kx
    have hacc' := kx.exget hacc
    have hF := hL'.cfg.get 0 rfl
    have hO := hL'.cfg.get 1 rfl
    have hmp := hm p mp
    have hsp := hst p mp
    unfold Meets at hmp
    unfold StateOk at hsp
    nested_keys
    rw [hL'.opens]
    cases hb : (a.pots p).bat with
    | none =>
      rw [hb] at hmp hsp
      rw [hmp]
      nested_keys
      refine ⟨h, last, x, S, H0, n, a, p, rfl, hA', mp, fun v2 H2 k2 hg => ?_⟩
      rw [hb] at hg
      have hacc2 := k2.exget hacc'
      cases (show v2 = .non from hg)
      nested_keys
      refine ⟨.non, .non, rfl, .inl ⟨rfl, .inl rfl⟩, fun H3 k3 => ?_⟩
      have hacc3 := k3.exget hacc2
      nested_keys
      refine ⟨h, last, x, S, H0, n, a, p, rfl, hA'.ex (k2.trans k3), mp, ?_⟩
      refine ⟨show 3 ≤ sizeLine by decide, ?_⟩
      intro w3 hw3
      have kw : Ex H3 (upd H3 w3 (.tup [.str "filled", .str "melting", .str "ready"])) := Kp.new hw3
      refine w_inT upd_same rfl ?_
      rw [show inV (.str ((a.pots p).wordOf last)) [.str "filled", .str "melting", .str "ready"] = false from (in_strs _ ["filled", "melting", "ready"]).trans hsp]
      refine w_ne rfl ?_
      nested_keys
      exact ⟨_, _, ((kx.trans k2).trans k3).trans kw, rfl⟩
    | some b =>
      rw [hb] at hmp hsp
      obtain ⟨o1, f, o2, o3, o4⟩ := hmp
      obtain ⟨hf1, hf2⟩ := hL'.fill o2
      have hov : valV ok (.inr p) = some (.int b.source) := by rw [hL'.opens, o1]; rfl
      rw [o1]
      nested_keys
      refine w_dgetN hF hf1 ?_
      nested_keys
      refine w_dgetN hF hf1 ?_
      nested_keys
      rw [o3, o4]
      intro t ht
      have kt : Ex H' (upd H' t (.tup [.str b.colour, .int b.left, .int b.source])) := Kp.new ht
      have ht' : upd H' t (.tup [.str b.colour, .int b.left, .int b.source]) t = some (.tup [.str b.colour, .int b.left, .int b.source]) := upd_same
      generalize upd H' t (.tup [.str b.colour, .int b.left, .int b.source]) = H1 at kt ht'
      have hacc1 := kt.exget hacc'
      nested_keys
      refine ⟨h, last, x, S, H0, n, a, p, rfl, hA'.ex kt, mp, fun v2 H2 k2 hg => ?_⟩
      rw [hb] at hg
      have hacc2 := k2.exget hacc1
      nested_keys
      refine ⟨v2, .ref t, rfl, glass_same hg (k2.t _ _ ht'), fun H3 k3 => ?_⟩
      have hacc3 := k3.exget hacc2
      nested_keys
      refine ⟨h, last, x, S, H0, n, a, p, rfl, (hA'.ex kt).ex (k2.trans k3), mp, ?_⟩
      refine ⟨show 3 ≤ sizeLine by decide, ?_⟩
      intro w3 hw3
      have kw : Ex H3 (upd H3 w3 (.tup [.str "filled", .str "melting", .str "ready"])) := Kp.new hw3
      refine w_inT upd_same rfl ?_
      rw [show inV (.str ((a.pots p).wordOf last)) [.str "filled", .str "melting", .str "ready"] = true from (in_strs _ ["filled", "melting", "ready"]).trans hsp]
      refine w_ne rfl ?_
      nested_keys
      exact ⟨_, _, (((kx.trans kt).trans k2).trans k3).trans kw, rfl⟩
  · rintro σ H' ⟨v5, v6, kx, rfl⟩
    nested_keys
    exact k H' kx

end K87

namespace K87
open PySem PySem.Spec PyProof.Rows L2
local macro_rules | `(tactic| kxs_still) => `(tactic| with_unfolding_all rfl)
local macro_rules | `(tactic| lcg_sub) => `(tactic| first
  | assumption
  | (apply Cfg.get (i := 0) <;> first | assumption | kxs_still)
  | (apply Cfg.get (i := 1) <;> first | assumption | kxs_still)
  | (apply Cfg.get (i := 2) <;> first | assumption | kxs_still)
  | (apply Cfg.get (i := 3) <;> first | assumption | kxs_still)
  | (apply Cfg.get (i := 4) <;> first | assumption | kxs_still)
  | (apply Cfg.get (i := 5) <;> first | assumption | kxs_still)
  | (apply Cfg.get (i := 6) <;> first | assumption | kxs_still)
  | (apply Cfg.get (i := 7) <;> first | assumption | kxs_still)
  | (apply Cfg.get (i := 8) <;> first | assumption | kxs_still)
  | (apply Cfg.get (i := 9) <;> first | assumption | kxs_still)
  | (apply Cfg.get (i := 0) <;> first | (apply Bfg.toCfg; assumption) | kxs_still)
  | (apply Cfg.get (i := 1) <;> first | (apply Bfg.toCfg; assumption) | kxs_still)
  | (apply Cfg.get (i := 2) <;> first | (apply Bfg.toCfg; assumption) | kxs_still)
  | (apply Cfg.get (i := 3) <;> first | (apply Bfg.toCfg; assumption) | kxs_still)
  | (apply Cfg.get (i := 4) <;> first | (apply Bfg.toCfg; assumption) | kxs_still)
  | (apply Cfg.get (i := 5) <;> first | (apply Bfg.toCfg; assumption) | kxs_still)
  | (apply Cfg.get (i := 6) <;> first | (apply Bfg.toCfg; assumption) | kxs_still)
  | (apply Cfg.get (i := 7) <;> first | (apply Bfg.toCfg; assumption) | kxs_still)
  | (apply Cfg.get (i := 8) <;> first | (apply Bfg.toCfg; assumption) | kxs_still)
  | (apply Cfg.get (i := 9) <;> first | (apply Bfg.toCfg; assumption) | kxs_still))
local macro_rules | `(tactic| kas_types) => `(tactic| first
  | assumption | decide | omega | exact Or.inl (by omega) | exact Or.inr (by omega) | exact ⟨by omega, by omega⟩ | exact ⟨by omega, by omega, by omega⟩)
local macro_rules | `(tactic| keq_hits) => `(tactic| simp only [u_var, u_c, u_op, u_un, u_test, u_tB, u_bl, u_I0, u_eqS, u_eqI, u_neS, u_neI, u_seq, u_next, u_asg, u_name, u_ret, u_retN, u_drop, u_ifS, u_ifE, u_and, u_or, u_not, u_andV, u_orV, u_notV, u_nil, u_cons, u_call, u_cb, u_tup, u_lst, u_sub, u_gNil, u_gCons, u_bm, u_m1, u_isS, u_sl, u_noPart, u_part, u_partk, u_par, u_par2, u_for, u_lc, u_rng1, u_itL, u_itT, u_yes, u_fldI, u_putI, u_newI, u_methI, u_make, u_some, u_i0, u_i1, u_K, L2.start, wipe, List.map_cons, List.map_nil, List.length_cons, List.length_nil, List.replicate_succ, List.replicate_zero, List.cons_append, List.nil_append, List.set_cons_zero, List.set_cons_succ, ite_true, ite_false, if_true, if_false, Bool.false_eq_true, colV, washV, kindV, teamV, rowV, coolV, deedV, batRef_none, batRef_some, u_par3, u_par33, u_augI, u_dget, u_din, u_dnotin, u_dget2, u_dget1, u_dpop1, u_dput, u_setD, u_dnewK, u_dnewT, decide_true, decide_false, Bool.not_true, Bool.not_false, Option.map_none, Option.map_some, Option.isSome_none, Option.isSome_some, Option.getD_some, Option.getD_none, vn_non, vn_ref, vn_str, vn_int, wd_fill_fill, wd_fill_gather, wd_fill_wash, wd_fill_empty, wd_fill_break, wd_fill_new, wd_gather_fill, wd_gather_gather, wd_gather_wash, wd_gather_empty, wd_gather_break, wd_gather_new, wd_wash_fill, wd_wash_gather, wd_wash_wash, wd_wash_empty, wd_wash_break, wd_wash_new, wd_empty_fill, wd_empty_gather, wd_empty_wash, wd_empty_empty, wd_empty_break, wd_empty_new, wd_break_fill, wd_break_gather, wd_break_wash, wd_break_empty, wd_break_break, wd_break_new, wd_new_fill, wd_new_gather, wd_new_wash, wd_new_empty, wd_new_break, wd_new_new, wd_nil, wd_none, wd_broken, wd_busy, wd_glass, wd_name, wd_cold, wd_rank, wd_less, wd_full, wd_whole, inw_fill, inw_gather, inw_wash, inw_empty, inw_break, inw_new, u_itemsT, u_itemsK, u_keysK, u_lk, u_ckw, eq_self, true_and, and_true])
local macro_rules | `(tactic| nested_keys) => `(tactic| repeat first
  | (with_reducible apply w_nx)
  | (with_reducible apply w_blk)
  | (with_reducible apply w_I; (· with_unfolding_all kas_types))
  | (with_reducible apply w_ixT; (· lcg_sub); (· kxs_still))
  | (with_reducible apply w_ixL; (· lcg_sub); (· kxs_still))
  | (with_reducible apply w_fldI; (· lcg_sub); (· kxs_still))
  | (with_reducible apply w_methI; (· lcg_sub))
  | (with_reducible apply w_augO; (· lcg_sub); (· kxs_still))
  | (with_reducible apply w_dgetS; (· lcg_sub); (· assumption))
  | (with_reducible apply w_dinS; (· lcg_sub))
  | (with_reducible apply w_dnotinS; (· lcg_sub))
  | (with_reducible apply w_isD; (· lcg_sub))
  | (with_reducible apply w_inT; (· lcg_sub); (· with_unfolding_all rfl))
  | (with_reducible apply w_sz; (· with_unfolding_all exact Nat.le_of_ble_eq_true rfl))
  | (with_reducible apply w_gTup; (· lcg_sub); (· kxs_still))
  | (with_reducible apply w_tyL; (· lcg_sub))
  | (with_reducible apply w_rng1k; (· with_unfolding_all kas_types); (· with_unfolding_all kas_types))
  | (with_reducible apply w_itLk; (· lcg_sub))
  | (with_reducible apply w_itTk; (· lcg_sub))
  | (with_reducible apply w_lenL; (· lcg_sub))
  | (with_reducible apply w_lenT; (· lcg_sub))
  | (with_reducible apply w_lenS; (· with_unfolding_all kas_types))
  | (with_reducible apply w_ixaL; (· lcg_sub); (· kxs_still))
  | (with_reducible apply w_ixaT; (· lcg_sub); (· kxs_still))
  | (with_reducible apply w_ixaS; (· with_unfolding_all kas_types); (· kxs_still))
  | (with_reducible apply w_ixS; (· with_unfolding_all kas_types); (· kxs_still))
  | (with_reducible apply w_slL; (· lcg_sub))
  | (with_reducible apply w_slS; (· with_unfolding_all kas_types))
  | (with_reducible apply w_addS; (· with_unfolding_all kas_types))
  | (with_reducible apply w_listL; (· lcg_sub))
  | (with_reducible apply w_tupL; (· lcg_sub))
  | (with_reducible apply w_divmod; (· with_unfolding_all kas_types))
  | (simp only [u_var, u_c, u_op, u_un, u_test, u_tB, u_bl, u_I0, u_eqS, u_eqI, u_neS, u_neI, u_seq, u_next, u_asg, u_name, u_ret, u_retN, u_drop, u_ifS, u_ifE, u_and, u_or, u_not, u_andV, u_orV, u_notV, u_nil, u_cons, u_call, u_cb, u_tup, u_lst, u_sub, u_gNil, u_gCons, u_bm, u_m1, u_isS, u_sl, u_noPart, u_part, u_partk, u_par, u_par2, u_for, u_lc, u_rng1, u_itL, u_itT, u_yes, u_fldI, u_putI, u_newI, u_methI, u_make, u_some, u_i0, u_i1, u_K, L2.start, wipe, List.map_cons, List.map_nil, List.length_cons, List.length_nil, List.replicate_succ, List.replicate_zero, List.cons_append, List.nil_append, List.set_cons_zero, List.set_cons_succ, ite_true, ite_false, if_true, if_false, Bool.false_eq_true, colV, washV, kindV, teamV, rowV, coolV, deedV, batRef_none, batRef_some, u_par3, u_par33, u_augI, u_dget, u_din, u_dnotin, u_dget2, u_dget1, u_dpop1, u_dput, u_setD, u_dnewK, u_dnewT, decide_true, decide_false, Bool.not_true, Bool.not_false, Option.map_none, Option.map_some, Option.isSome_none, Option.isSome_some, Option.getD_some, Option.getD_none, vn_non, vn_ref, vn_str, vn_int, wd_fill_fill, wd_fill_gather, wd_fill_wash, wd_fill_empty, wd_fill_break, wd_fill_new, wd_gather_fill, wd_gather_gather, wd_gather_wash, wd_gather_empty, wd_gather_break, wd_gather_new, wd_wash_fill, wd_wash_gather, wd_wash_wash, wd_wash_empty, wd_wash_break, wd_wash_new, wd_empty_fill, wd_empty_gather, wd_empty_wash, wd_empty_empty, wd_empty_break, wd_empty_new, wd_break_fill, wd_break_gather, wd_break_wash, wd_break_empty, wd_break_break, wd_break_new, wd_new_fill, wd_new_gather, wd_new_wash, wd_new_empty, wd_new_break, wd_new_new, wd_nil, wd_none, wd_broken, wd_busy, wd_glass, wd_name, wd_cold, wd_rank, wd_less, wd_full, wd_whole, inw_fill, inw_gather, inw_wash, inw_empty, inw_break, inw_new, u_itemsT, u_itemsK, u_keysK, u_lk, u_ckw, eq_self, true_and, and_true])
  | (with_reducible apply w_eq; (· kxs_still))
  | (with_reducible apply w_ne; (· kxs_still)))
theorem ts_same {α : Type} {H : Hp} {f : α → List V} (hf : ∀ x, (f x).length ≤ 1000 ∧ ∀ v ∈ f x, ScV v) : ∀ {ys zs : List V} {xs : List α}, Ts H f ys xs → Ts H f zs xs → Paired (SameV H 1) ys zs := by
  intro ys zs xs h1
  have h1' : Paired (fun v x => ∃ a, v = V.ref a ∧ H a = some (.tup (f x))) ys xs := h1
  clear h1
  induction h1' generalizing zs with
  | nil => intro h2; cases (show Paired _ zs [] from h2); exact .nil
  | cons a t ih =>
    intro h2
    cases (show Paired _ zs (_ :: _) from h2) with
    | cons b u =>
      obtain ⟨p, rfl, hp⟩ := a
      obtain ⟨q, rfl, hq⟩ := b
      refine .cons (.inr ⟨p, q, _, _, rfl, rfl, .inr ⟨hp, hq⟩, ?_, (hf _).1⟩) (ih u)
      have gen : ∀ l : List V, (∀ v ∈ l, ScV v) → Paired (SameV H 0) l l := by
        intro l
        induction l with
        | nil => intro _; exact .nil
        | cons v r ih => intro h; exact .cons ⟨rfl, h v (List.mem_cons_self ..)⟩ (ih fun w m => h w (List.mem_cons_of_mem _ m))
      exact gen _ (hf _).2
theorem deedOf_of {es : List Ent} (hn : numbered es) {e : Ent} (m : e ∈ es) : deedOf es e.number = some e := by
  unfold deedOf
  cases h : es.find? (fun x => decide (x.number = e.number)) with
  | none =>
    have q := List.find?_eq_none.mp h e m
    simp at q
  | some x =>
    have q0 : decide (x.number = e.number) = true := List.find?_some (p := fun x : Ent => decide (x.number = e.number)) h
    have q1 := of_decide_eq_true q0
    have q2 := List.mem_of_find?_eq_some h
    obtain ⟨i, hi⟩ := List.mem_iff_getElem?.mp m
    obtain ⟨j, hj⟩ := List.mem_iff_getElem?.mp q2
    have e1 : (es.map (·.number))[i]? = some e.number := by rw [List.getElem?_map, hi]; rfl
    have e2 : (es.map (·.number))[j]? = some e.number := by rw [List.getElem?_map, hj]; exact congrArg some q1
    have z := nd_ix hn.nd e1 e2
    subst z
    rw [hi] at hj
    rw [Option.some.inj hj]
theorem kd_of {es : List Ent} (hn : numbered es) {e : Ent} (m : e ∈ es) : kd es e.number = e.deed.kind := by
  unfold kd
  rw [deedOf_of hn m]
def GatherRow (es : List Ent) (r : Row) : Prop := r.word = wGather → ∃ e t p k m, e ∈ es ∧ e.number = r.number ∧ e.deed = .gather t p k m
theorem GatherRow.get {es : List Ent} {r : Row} (g : GatherRow es r) (hn : numbered es) (hw : r.word = wGather) {kvs : List (Key × V)} {H : Hp} (h2 : ∀ e ∈ es, ∃ da, valV kvs (.inl e.number) = some (.ref da) ∧ H da = some (.tup (deedV e.deed))) :
    ∃ da t p m, valV kvs (.inl r.number) = some (.ref da) ∧ H da = some (.tup [.str "gather", .str t, .str p, .str (kd es r.number), .int m]) := by
  obtain ⟨e, t, p, k, m, me, en, ed⟩ := g hw
  obtain ⟨da, a, b⟩ := h2 e me
  rw [en] at a
  have q := kd_of hn me
  rw [en, ed] at q
  rw [ed] at b
  refine ⟨da, t, p, m, a, ?_⟩
  rw [q]; exact b
def spPiecesR (K : PySem.W.Frag) : Sp := fun vs H Q _ => ∃ (b : BookX) (es : List Ent) (h : Hall) (last : Int) (x : AccX) (S : Addr → Prop) (H0 : Hp) (n : Nat) (a : Acc), vs = [.ref b.bk, .ref x.pa] ∧ BookAt K H b h es ∧ AccAt K h last x S H0 n H a ∧ n ≤ 1000 ∧
  a.made = a.rows.foldl (madeF es) [] ∧ (a.made.map (·.1)).Nodup ∧ (∀ r ∈ a.rows, GatherRow es r) ∧ ∀ H', Ex H H' → Q (.bl true) H'
theorem made_fold_len (es : List Ent) : ∀ (rows : List Row) (m : List ((Str × Str) × Int)), (rows.foldl (madeF es) m).length ≤ m.length + rows.length
  | [], m => Nat.le_refl _
  | r :: t, m => by
    rw [List.foldl_cons, List.length_cons]
    refine Nat.le_trans (made_fold_len es t _) ?_
    have q : (madeF es m r).length ≤ m.length + 1 := by
      unfold madeF
      split
      · exact putM_len _ _ _
      · omega
    omega
theorem C_pieces_right {P : Program} {w : World} {K : PySem.W.Frag} {mg : Str → Option Value} {base : Heap} (T : Txt K mg) : Cal P w K mg base 5 "_law_pieces_right" ["_law_book", "_law_account"] (spPiecesR K) := by
  have C_Account_pieces := C_Account_pieces (P := P) (w := w) (base := base) T
  have C_Account_rows := C_Account_rows (P := P) (w := w) (base := base) T
  have C_Book_entries := C_Book_entries (P := P) (w := w) (base := base) T
  have C_same := C_same (P := P) (w := w) (base := base) T
  refine cal_mk T 59 rfl T.g_pieces_right sc_pieces_right rfl rfl (fun _ _ _ _ _ _ us hl => match us, hl with | [_, _], _ => rfl) (fun vs H Q E h => ?_) (fun f cdv A outer s H vs Q E hr h => ?_)
  · obtain ⟨b, es, h, last, x, S, H0, n, a, rfl, hB, hA, hn, hmade, hnd, hgr, k⟩ := h
    rfl
  obtain ⟨b, es, h, last, x, S, H0, n, a, rfl, hB, hA, hn, hmade, hnd, hgr, k⟩ := h
  refine ⟨_, (pss_cons (ps_par (i := 2) (j := 3) rfl sc_pieces_right.nd rfl rfl (by decide) rfl rfl (pa_cons (pe_callTy (call_dictP rfl) (by rfl) T.f_dict (by decide +kernel) (pa_cons (pe_lc (own := [("_law_hour", 6), ("_law_number", 7), ("_law_deed", 8)]) rfl sc_pieces_right.nd (pi_listK (K := K) rfl (pe_mcalI0 (ns := f_Book) (by decide +kernel) (pv 0) T.c_Book C_Book_entries (hr.mono (by decide)))) (blkOk_by (own := [("_law_hour", 6), ("_law_number", 7), ("_law_deed", 8)]) (N := n_pieces_right) (sc := defScope s_pieces_right) (by decide +kernel)) (fun _ _ _ _ _ => (pg_tupK (K := K) (n := 3) rfl rfl (pgs_cons (pg_name (i := 6) sc_pieces_right.nd rfl (Or.inl rfl)) (pgs_cons (pg_name (i := 7) sc_pieces_right.nd rfl (Or.inl rfl)) (pgs_cons (pg_name (i := 8) sc_pieces_right.nd rfl (Or.inl rfl)) pgs_nil))))) (fun _ _ _ _ _ => pts_nil) (fun _ _ _ _ _ => (pe_tup (pa_cons (pv 7) (pa_cons (pv 8) pa_nil))))) pa_nil)) (pa_cons pe_dnewT pa_nil)) (by rfl))
 (pss_cons (ps_for PassesOwn.never rfl (pi_listK (K := K) rfl (pe_mcalI0 (ns := f_Account) (by decide +kernel) (pv 1) T.c_Account C_Account_rows (hr.mono (by decide)))) (pg_name (i := 4) sc_pieces_right.nd rfl (Or.inl rfl)) (pss_one (ps_if (pt_cmpR op_eq (pe_ix (ix_tupK (K := K) rfl) (pv 4) pe_int (fun _ _ => rfl)) pe_str (nomark _)) (pss_cons (ps_set (i := 5) sc_pieces_right.nd rfl (Or.inl rfl) (pe_tup (pa_cons (pe_ix (ix_tupK (K := K) rfl) (pe_dget (hu_of hr) (pv 2) (pe_ix (ix_tupK (K := K) rfl) (pv 4) pe_int (fun _ _ => rfl)) (fun _ _ => rfl)) pe_int (fun _ _ => rfl)) (pa_cons (pe_ix (ix_tupK (K := K) rfl) (pv 4) pe_int (fun _ _ => rfl)) pa_nil))))
 (pss_one (ps_dput (hu_of hr) (pv 3) (pv 5) (pe_op op_add (pe_dget2 (hu_of hr) (pv 3) (pv 5) pe_int ⟨by rfl, by rfl, by rfl, by rfl⟩) (pe_ix (ix_tupK (K := K) rfl) (pv 4) pe_int (fun _ _ => rfl))) rfl))) pss_nil)))
 (pss_one (ps_ret (pe_cal C_same hr rfl (pa_cons (pe_mcalI0 (ns := f_Account) (by decide +kernel) (pv 1) T.c_Account C_Account_pieces (hr.mono (by decide))) (pa_cons (pe_callB (cr_sortedXK (K := K) rfl) (by rfl) T.f_sorted (by decide +kernel) (pa_cons (pe_lock (pe_lc (own := [("_law_made", 5), ("_law_many", 9)]) rfl sc_pieces_right.nd (pi_itemsT (pv 3)) (blkOk_by (own := [("_law_made", 5), ("_law_many", 9)]) (N := n_pieces_right) (sc := defScope s_pieces_right) (by decide +kernel)) (fun _ _ _ _ _ => (pg_tupK (K := K) (n := 2) rfl rfl (pgs_cons (pg_name (i := 5) sc_pieces_right.nd rfl (Or.inl rfl)) (pgs_cons (pg_name (i := 9) sc_pieces_right.nd rfl (Or.inl rfl)) pgs_nil)))) (fun _ _ _ _ _ => pts_nil) (fun _ _ _ _ _ => (pe_op (op_catTK (K := K) rfl) (pv 5) (pe_tup (pa_cons (pv 9) pa_nil)))))) pa_nil)) pa_nil))))))), ?_⟩
  have hbk := hB.bk
  obtain ⟨_, _, _, _, hI⟩ := id hA
  have hacc := hI.acc
  have hszd := hI.szd
  have hrl := hI.rows.len
  nested_keys
  refine ⟨b, h, es, rfl, hB, fun p us xs H1 hp k1 h1 htx hD hex => ?_⟩
  nested_keys
  intro U hU
  refine lc_list (K := K) (a := p) (xs := us) (fun i H' => ∃ ps : List Addr, ps.length = i ∧ Paired (fun p (x : Ent × Addr) => H' p = some (.tup [.int x.1.number, .ref x.2])) ps (xs.take i) ∧ Cfg no H1 [(U, .lst (ps.map V.ref))] H')
    ⟨[], rfl, .nil, Cfg.nil.new hU⟩ (fun i H' _ ⟨_, _, _, g⟩ => SqL.of (g.kp.exget h1)) ?_ ?_
  · rintro i v H' hv' ⟨ps, hps, hP, g⟩
    obtain ⟨⟨e, da⟩, t, he, rfl, ht⟩ := htx.get hv'
    have ht := g.kp.t _ _ ht
    have hi := get_lt he
    have hxl : xs.length = es.length := by rw [← List.length_map (f := fun x : Ent × Addr => x.1), hex]; exact (srt_perm es).length_eq
    have hfew := hB.few
    nested_keys
    intro r hr
    have kr : Ex H' (upd H' r (.tup [.int e.number, .ref da])) := Kp.new hr
    have g := g.ex kr
    have gw := g.wr (o := .lst (ps.map V.ref ++ [.ref r])) 0 rfl (fun _ z => by cases z) (.inr hU)
    have tw : Tp _ (upd (upd H' r (.tup [.int e.number, .ref da])) U (.lst (ps.map V.ref ++ [.ref r]))) := tp_wr g.hd (fun _ z => by cases z)
    refine ⟨_, g.hd, by rw [List.length_map, hps]; exact small1000 (by omega), ps ++ [r], by simp [hps], ?_, by rw [List.map_append]; exact gw⟩
    rw [take_snoc he]
    exact paired_app (paired_mono hP fun _ _ q => tw _ _ (kr.t _ _ q)) (.cons (tw _ _ upd_same) .nil)
  rintro H2 ⟨ps, hps, hP, g⟩
  rw [htx.len, List.take_length] at hP
  nested_keys
  refine ⟨U, ps, xs.map fun x => ((.inl x.1.number : Key), V.ref x.2), rfl, SqL.of (g.get 0 rfl), pairs_refs hP, fun d hd => ?_⟩
  have kd0 : Ex H2 (upd H2 d (.dK (mergeK [] (xs.map fun x => ((.inl x.1.number : Key), V.ref x.2))))) := Kp.new hd
  have kk : Ex H1 _ := g.kp.trans kd0
  have hDD : DeedsD (upd H2 d (.dK (mergeK [] (xs.map fun x => ((.inl x.1.number : Key), V.ref x.2))))) d es := ⟨_, upd_same, fun e m => by
    obtain ⟨da, m1, m2⟩ := deeds_of hB.num hex e m
    exact ⟨da, m2, kk.t _ _ (hD _ m1)⟩⟩
  generalize upd H2 d (.dK (mergeK [] (xs.map fun x => ((.inl x.1.number : Key), V.ref x.2)))) = H3 at kd0 kk hDD
  have k3 : Ex H H3 := k1.trans kk
  clear hP hps g
  nested_keys
  intro D hD2
  have kD : Ex H3 (upd H3 D (.dT [])) := Kp.new hD2
  have g : Cfg no H3 [(D, .dT [])] (upd H3 D (.dT [])) := Cfg.nil.new hD2
  have hDD := hDD.ex kD
  generalize upd H3 D (.dT []) = H4 at kD g hDD
  have hacc4 := (k3.trans kD).exget hacc
  nested_keys
  refine ⟨h, last, x, S, H0, n, a, rfl, hA.ex (k3.trans kD), fun rp rvs H5 hrp k5 hrl5 hts => ?_⟩
  have g := g.ex k5
  have k5' : Ex H H5 := (k3.trans kD).trans k5
  obtain ⟨dkv, hd1, hd2⟩ := hDD.ex k5
  have hD5 : H5 D = some (.dT []) := g.get 0 rfl
  have hrpD : rp ≠ D := ne_of hrl5 hD5 (fun z => by cases z)
  have hdD : d ≠ D := fun z => by
    rw [z, hD5] at hd1; cases hd1
  have hD0 : H D = none := k3.nn hD2
  nested_keys
  refine for_list (K := K) (a := rp) (xs := rvs) (fun i σ H' => ∃ v4 v5 v6 v7 v8 v9 : Option V, Cfg (fun y => y = D) H5 [(D, .dT (((a.rows.take i).foldl (madeF es) []).map madeE))] H' ∧ σ = [some (.ref b.bk), some (.ref x.pa), some (.ref d), some (.ref D), v4, v5, v6, v7, v8, v9])
    ⟨_, _, _, _, _, _, g.rebase, rfl⟩ (fun i σ H' _ ⟨_, _, _, _, _, _, g, _⟩ => SqL.of (g.kp.get hrl5 hrpD)) ?_ ?_
  · rintro i v σ H' hv' ⟨v4, v5, v6, v7, v8, v9, g, rfl⟩
    obtain ⟨r, t, hr, rfl, ht⟩ := hts.get hv'
    have ht := g.kp.t _ _ ht
    have hi := get_lt hr
    have hd1' := g.kp.get hd1 hdD
    have em : (a.rows.take (i + 1)).foldl (madeF es) [] = madeF es ((a.rows.take i).foldl (madeF es) []) r := by rw [take_snoc hr, List.foldl_append]; rfl
    rw [em]
    have ml : ((a.rows.take i).foldl (madeF es) []).length ≤ i := by
      refine Nat.le_trans (made_fold_len es _ _) ?_
      rw [List.length_take]; simp; omega
    generalize (a.rows.take i).foldl (madeF es) [] = m at g ml
    nested_keys
    by_cases hw : r.word = wGather
    · obtain ⟨da, t1, p1, m1, hv1, hda⟩ := (hgr r (List.mem_of_getElem? hr)).get hB.num hw hd2
      have hda := g.kp.t _ _ hda
      unfold madeF
      rw [if_pos hw, hw]
      nested_keys
      refine w_dgetN hd1' hv1 ?_
      nested_keys
      intro q hq
      have kq : Ex H' (upd H' q (.tup [.str (kd es r.number), .str r.colour])) := Kp.new hq
      have hq' : upd H' q (.tup [.str (kd es r.number), .str r.colour]) q = some (.tup [.str (kd es r.number), .str r.colour]) := upd_same
      have g := g.ex kq
      have ht := kq.t _ _ ht
      show Nx _ _ (upd H' q (.tup [.str (kd es r.number), .str r.colour]))
      generalize upd H' q (.tup [.str (kd es r.number), .str r.colour]) = H6 at kq hq' g ht
      have hD6 : H6 D = some (.dT (m.map madeE)) := g.get 0 rfl
      nested_keys
      refine w_isDT hD6 ?_
      nested_keys
      refine w_getOT (k := [.inr (kd es r.number), .inr r.colour]) hD6 hq' ?_
      rw [made_get]
      nested_keys
      refine w_putT (k := [.inr (kd es r.number), .inr r.colour]) 0 g rfl hq' (by rw [List.length_map]; omega) (.inl rfl) fun H7 g => ?_
      nested_keys
      refine ⟨_, _, _, _, _, _, ?_, rfl⟩
      rw [made_putK]
      exact g
    · unfold madeF
      rw [if_neg hw, decide_eq_false hw]
      nested_keys
      exact ⟨_, _, _, _, _, _, g, rfl⟩
  · rintro σ H' ⟨v4, v5, v6, v7, v8, v9, g, rfl⟩
    rw [hts.len, List.take_length, ← hmade] at g
    have k6 : Ex H H' := k5'.call g.kp fun y hy => .inr (by rw [hy]; exact hD0)
    have hacc' := k6.exget hacc
    have hD' : H' D = some (.dT (a.made.map madeE)) := g.get 0 rfl
    nested_keys
    refine ⟨h, last, x, S, H0, n, a, rfl, hA.ex k6, hn, hnd, fun q1 ys1 H7 k7 hq1 ht1 => ?_⟩
    have hD7 := k7.exget hD'
    nested_keys
    refine ⟨D, _, hD7, trivial, fun od => ?_⟩
    have hG1 : upd H7 D (.frz od (.dT (a.made.map madeE))) D = some (.frz od (.dT (a.made.map madeE))) := upd_same
    have back : ∀ H', Ex (upd H7 D (.frz od (.dT (a.made.map madeE)))) H' → Ex H7 (upd H' D (.dT (a.made.map madeE))) := fun H' k => lock_back hD7 k
    generalize upd H7 D (.frz od (.dT (a.made.map madeE))) = G at hG1 back
    have hszm : a.made.length ≤ n := hI.szm
    nested_keys
    refine ⟨D, od, _, rfl, hG1, ?_⟩
    intro U2 hU2
    refine lc_it walk_itemsT (fun i H' => ∃ us, us.length ≤ i ∧ Cfg no G [(U2, .lst us)] H' ∧ Ts H' pieceV us (a.made.take i)) ⟨[], Nat.le_refl _, Cfg.nil.new hU2, Ts.nil⟩ (fun i H' _ ⟨us, _, g, _⟩ => g.kp.exget hG1) ?_ ?_
    · rintro i v H' H2 hi ⟨us, hus, g, ht⟩ ⟨T, ks, u, q, hk, rfl, hq, hT, rfl⟩
      rw [List.length_map] at hi
      rw [List.getElem?_map] at hk
      obtain ⟨⟨⟨kd, c⟩, m⟩, he, e2⟩ := Option.map_eq_some_iff.mp hk
      cases e2
      have kT : Ex H' (upd H' T (.tup [.ref q, .int m])) := Kp.new hT
      have g := g.ex kT
      have ht := ht.mono kT.t
      have hq := kT.t _ _ hq
      have hT2 : upd H' T (.tup [.ref q, .int m]) T = some (.tup [.ref q, .int m]) := upd_same
      generalize upd H' T (.tup [.ref q, .int m]) = H3 at kT g ht hq hT2
      nested_keys
      intro p1 hp1
      have k1 : Ex H3 (upd H3 p1 (.tup [.int m])) := Kp.new hp1
      have h1 : upd H3 p1 (.tup [.int m]) p1 = some (.tup [.int m]) := upd_same
      have g := g.ex k1
      have ht := ht.mono k1.t
      have hq := k1.t _ _ hq
      generalize upd H3 p1 (.tup [.int m]) = H4 at k1 h1 g ht hq
      refine ⟨q, p1, _, _, rfl, rfl, SqT.of hq, SqT.of h1, (fun z => by cases z), (show 3 ≤ sizeLine by decide), (fun z => by cases z), fun _ r hr => ?_⟩
      have kr : Ex H4 (upd H4 r (.tup (pieceV ((kd, c), m)))) := Kp.new hr
      have hr2 : upd H4 r (.tup (pieceV ((kd, c), m))) r = some (.tup (pieceV ((kd, c), m))) := upd_same
      have g := g.ex kr
      have ht := ht.mono kr.t
      have gw := g.wr (o := .lst (us ++ [.ref r])) 0 rfl (fun _ z => by cases z) (.inr hU2)
      refine ⟨us, g.hd, Nat.lt_of_lt_of_le (show us.length < 100000 by omega) (by decide), us ++ [V.ref r], by rw [List.length_append]; simp; omega, gw, ?_⟩
      rw [take_snoc he]
      have tw : Tp _ (upd (upd H4 r (.tup (pieceV ((kd, c), m)))) U2 (.lst (us ++ [.ref r]))) := tp_wr g.hd (fun _ z => by cases z)
      exact (ht.mono tw).snoc (tw _ _ hr2)
    · rintro H8 ⟨us, hus, g, ht⟩
      rw [List.length_map, List.take_length] at ht
      refine ⟨g.kp.exget hG1, ?_⟩
      have kb := back H8 g.kp
      have U_D : U2 ≠ D := fun e => by rw [e, hG1] at hU2; cases hU2
      have hU1 : upd H8 D (.dT (a.made.map madeE)) U2 = some (.lst us) := by rw [upd_ne U_D]; exact g.hd
      have ht2 : Ts (upd H8 D (.dT (a.made.map madeE))) pieceV us a.made := ht.mono fun b ys e => by
        rw [upd_ne (ne_of e (g.kp.exget hG1) (fun z => by cases z))]; exact e
      generalize upd H8 D (.dT (a.made.map madeE)) = H9 at kb hU1 ht2
      refine w_sortX (κ := pieceK) (rest := fun e => [.int e.2]) hU1 ht2 (fun _ => rfl) (fun _ z => by cases z) (fun _ _ => rfl) ?_ fun ys p' hp' hts hl => ?_
      · have e : a.made.map pieceK = (a.made.map (·.1)).map (fun e => [(.inr e.1 : Key), .inr e.2]) := by rw [List.map_map]; rfl
        rw [e]
        exact nd_map (fun a b h => Prod.ext (Sum.inr.inj (List.cons.inj h).1) (Sum.inr.inj (List.cons.inj (List.cons.inj h).2).1)) hnd
      · have kz : Ex H9 (upd H9 p' (.lst ys)) := Kp.new hp'
        have ht1' := ht1.mono (kb.trans kz).t
        have hq1' := (kb.trans kz).exget hq1
        have hsz1 : ys1.length ≤ 1000 := by rw [ht1.len, (srt_perm a.made).length_eq]; omega
        refine ⟨_, _, rfl, .inr ⟨q1, p', _, _, rfl, rfl, .inl ⟨hq1', upd_same⟩, ts_same (f := pieceV) (fun e => ⟨show 3 ≤ 1000 by decide, ?_⟩) ht1' hts, hsz1⟩, fun H10 k10 => ?_⟩
        · intro v hv
          have hv : v ∈ [V.str e.1.1, .str e.1.2, .int e.2] := hv
          simp only [List.mem_cons, List.mem_nil_iff, or_false] at hv
          rcases hv with rfl | rfl | rfl
          · exact .inr (.inr ⟨_, rfl⟩)
          · exact .inr (.inr ⟨_, rfl⟩)
          · exact .inr (.inl ⟨_, rfl⟩)
        · exact k H10 ((((k6.trans k7).trans kb).trans kz).trans k10)

end K87

namespace K87
open PySem PySem.Spec PyProof.Rows L2
local macro_rules | `(tactic| kxs_still) => `(tactic| with_unfolding_all rfl)
local macro_rules | `(tactic| lcg_sub) => `(tactic| first
  | assumption
  | (apply Cfg.get (i := 0) <;> first | assumption | kxs_still)
  | (apply Cfg.get (i := 1) <;> first | assumption | kxs_still)
  | (apply Cfg.get (i := 2) <;> first | assumption | kxs_still)
  | (apply Cfg.get (i := 3) <;> first | assumption | kxs_still)
  | (apply Cfg.get (i := 4) <;> first | assumption | kxs_still)
  | (apply Cfg.get (i := 5) <;> first | assumption | kxs_still)
  | (apply Cfg.get (i := 6) <;> first | assumption | kxs_still)
  | (apply Cfg.get (i := 7) <;> first | assumption | kxs_still)
  | (apply Cfg.get (i := 8) <;> first | assumption | kxs_still)
  | (apply Cfg.get (i := 9) <;> first | assumption | kxs_still)
  | (apply Cfg.get (i := 0) <;> first | (apply Bfg.toCfg; assumption) | kxs_still)
  | (apply Cfg.get (i := 1) <;> first | (apply Bfg.toCfg; assumption) | kxs_still)
  | (apply Cfg.get (i := 2) <;> first | (apply Bfg.toCfg; assumption) | kxs_still)
  | (apply Cfg.get (i := 3) <;> first | (apply Bfg.toCfg; assumption) | kxs_still)
  | (apply Cfg.get (i := 4) <;> first | (apply Bfg.toCfg; assumption) | kxs_still)
  | (apply Cfg.get (i := 5) <;> first | (apply Bfg.toCfg; assumption) | kxs_still)
  | (apply Cfg.get (i := 6) <;> first | (apply Bfg.toCfg; assumption) | kxs_still)
  | (apply Cfg.get (i := 7) <;> first | (apply Bfg.toCfg; assumption) | kxs_still)
  | (apply Cfg.get (i := 8) <;> first | (apply Bfg.toCfg; assumption) | kxs_still)
  | (apply Cfg.get (i := 9) <;> first | (apply Bfg.toCfg; assumption) | kxs_still))
local macro_rules | `(tactic| kas_types) => `(tactic| first
  | assumption | decide | omega | exact Or.inl (by omega) | exact Or.inr (by omega) | exact ⟨by omega, by omega⟩ | exact ⟨by omega, by omega, by omega⟩)
local macro_rules | `(tactic| keq_hits) => `(tactic| simp only [u_var, u_c, u_op, u_un, u_test, u_tB, u_bl, u_I0, u_eqS, u_eqI, u_neS, u_neI, u_seq, u_next, u_asg, u_name, u_ret, u_retN, u_drop, u_ifS, u_ifE, u_and, u_or, u_not, u_andV, u_orV, u_notV, u_nil, u_cons, u_call, u_cb, u_tup, u_lst, u_sub, u_gNil, u_gCons, u_bm, u_m1, u_isS, u_sl, u_noPart, u_part, u_partk, u_par, u_par2, u_for, u_lc, u_rng1, u_itL, u_itT, u_yes, u_fldI, u_putI, u_newI, u_methI, u_make, u_some, u_i0, u_i1, u_K, L2.start, wipe, List.map_cons, List.map_nil, List.length_cons, List.length_nil, List.replicate_succ, List.replicate_zero, List.cons_append, List.nil_append, List.set_cons_zero, List.set_cons_succ, ite_true, ite_false, if_true, if_false, Bool.false_eq_true, colV, washV, kindV, teamV, rowV, coolV, deedV, batRef_none, batRef_some, u_par3, u_par33, u_augI, u_dget, u_din, u_dnotin, u_dget2, u_dget1, u_dpop1, u_dput, u_setD, u_dnewK, u_dnewT, decide_true, decide_false, Bool.not_true, Bool.not_false, Option.map_none, Option.map_some, Option.isSome_none, Option.isSome_some, Option.getD_some, Option.getD_none, vn_non, vn_ref, vn_str, vn_int, wd_fill_fill, wd_fill_gather, wd_fill_wash, wd_fill_empty, wd_fill_break, wd_fill_new, wd_gather_fill, wd_gather_gather, wd_gather_wash, wd_gather_empty, wd_gather_break, wd_gather_new, wd_wash_fill, wd_wash_gather, wd_wash_wash, wd_wash_empty, wd_wash_break, wd_wash_new, wd_empty_fill, wd_empty_gather, wd_empty_wash, wd_empty_empty, wd_empty_break, wd_empty_new, wd_break_fill, wd_break_gather, wd_break_wash, wd_break_empty, wd_break_break, wd_break_new, wd_new_fill, wd_new_gather, wd_new_wash, wd_new_empty, wd_new_break, wd_new_new, wd_nil, wd_none, wd_broken, wd_busy, wd_glass, wd_name, wd_cold, wd_rank, wd_less, wd_full, wd_whole, inw_fill, inw_gather, inw_wash, inw_empty, inw_break, inw_new, u_itemsT, u_itemsK, u_keysK, u_lk, u_ckw, eq_self, true_and, and_true])
local macro_rules | `(tactic| nested_keys) => `(tactic| repeat first
  | (with_reducible apply w_nx)
  | (with_reducible apply w_blk)
  | (with_reducible apply w_I; (· with_unfolding_all kas_types))
  | (with_reducible apply w_ixT; (· lcg_sub); (· kxs_still))
  | (with_reducible apply w_ixL; (· lcg_sub); (· kxs_still))
  | (with_reducible apply w_fldI; (· lcg_sub); (· kxs_still))
  | (with_reducible apply w_methI; (· lcg_sub))
  | (with_reducible apply w_augO; (· lcg_sub); (· kxs_still))
  | (with_reducible apply w_dgetS; (· lcg_sub); (· assumption))
  | (with_reducible apply w_dinS; (· lcg_sub))
  | (with_reducible apply w_dnotinS; (· lcg_sub))
  | (with_reducible apply w_isD; (· lcg_sub))
  | (with_reducible apply w_inT; (· lcg_sub); (· with_unfolding_all rfl))
  | (with_reducible apply w_sz; (· with_unfolding_all exact Nat.le_of_ble_eq_true rfl))
  | (with_reducible apply w_gTup; (· lcg_sub); (· kxs_still))
  | (with_reducible apply w_tyL; (· lcg_sub))
  | (with_reducible apply w_rng1k; (· with_unfolding_all kas_types); (· with_unfolding_all kas_types))
  | (with_reducible apply w_itLk; (· lcg_sub))
  | (with_reducible apply w_itTk; (· lcg_sub))
  | (with_reducible apply w_lenL; (· lcg_sub))
  | (with_reducible apply w_lenT; (· lcg_sub))
  | (with_reducible apply w_lenS; (· with_unfolding_all kas_types))
  | (with_reducible apply w_ixaL; (· lcg_sub); (· kxs_still))
  | (with_reducible apply w_ixaT; (· lcg_sub); (· kxs_still))
  | (with_reducible apply w_ixaS; (· with_unfolding_all kas_types); (· kxs_still))
  | (with_reducible apply w_ixS; (· with_unfolding_all kas_types); (· kxs_still))
  | (with_reducible apply w_slL; (· lcg_sub))
  | (with_reducible apply w_slS; (· with_unfolding_all kas_types))
  | (with_reducible apply w_addS; (· with_unfolding_all kas_types))
  | (with_reducible apply w_listL; (· lcg_sub))
  | (with_reducible apply w_tupL; (· lcg_sub))
  | (with_reducible apply w_divmod; (· with_unfolding_all kas_types))
  | (simp only [u_var, u_c, u_op, u_un, u_test, u_tB, u_bl, u_I0, u_eqS, u_eqI, u_neS, u_neI, u_seq, u_next, u_asg, u_name, u_ret, u_retN, u_drop, u_ifS, u_ifE, u_and, u_or, u_not, u_andV, u_orV, u_notV, u_nil, u_cons, u_call, u_cb, u_tup, u_lst, u_sub, u_gNil, u_gCons, u_bm, u_m1, u_isS, u_sl, u_noPart, u_part, u_partk, u_par, u_par2, u_for, u_lc, u_rng1, u_itL, u_itT, u_yes, u_fldI, u_putI, u_newI, u_methI, u_make, u_some, u_i0, u_i1, u_K, L2.start, wipe, List.map_cons, List.map_nil, List.length_cons, List.length_nil, List.replicate_succ, List.replicate_zero, List.cons_append, List.nil_append, List.set_cons_zero, List.set_cons_succ, ite_true, ite_false, if_true, if_false, Bool.false_eq_true, colV, washV, kindV, teamV, rowV, coolV, deedV, batRef_none, batRef_some, u_par3, u_par33, u_augI, u_dget, u_din, u_dnotin, u_dget2, u_dget1, u_dpop1, u_dput, u_setD, u_dnewK, u_dnewT, decide_true, decide_false, Bool.not_true, Bool.not_false, Option.map_none, Option.map_some, Option.isSome_none, Option.isSome_some, Option.getD_some, Option.getD_none, vn_non, vn_ref, vn_str, vn_int, wd_fill_fill, wd_fill_gather, wd_fill_wash, wd_fill_empty, wd_fill_break, wd_fill_new, wd_gather_fill, wd_gather_gather, wd_gather_wash, wd_gather_empty, wd_gather_break, wd_gather_new, wd_wash_fill, wd_wash_gather, wd_wash_wash, wd_wash_empty, wd_wash_break, wd_wash_new, wd_empty_fill, wd_empty_gather, wd_empty_wash, wd_empty_empty, wd_empty_break, wd_empty_new, wd_break_fill, wd_break_gather, wd_break_wash, wd_break_empty, wd_break_break, wd_break_new, wd_new_fill, wd_new_gather, wd_new_wash, wd_new_empty, wd_new_break, wd_new_new, wd_nil, wd_none, wd_broken, wd_busy, wd_glass, wd_name, wd_cold, wd_rank, wd_less, wd_full, wd_whole, inw_fill, inw_gather, inw_wash, inw_empty, inw_break, inw_new, u_itemsT, u_itemsK, u_keysK, u_lk, u_ckw, eq_self, true_and, and_true])
  | (with_reducible apply w_eq; (· kxs_still))
  | (with_reducible apply w_ne; (· kxs_still)))
/-- what lies, in a dict by slots -/
def LieV (H : Hp) (kv : Key × V) (c : Cool) : Prop := kv.1 = .inl c.slot ∧ ∃ t, kv.2 = .ref t ∧ H t = some (.tup [.str c.kind, .str c.colour, .int c.out])
theorem LieV.up {H H' : Hp} {kv : Key × V} {c : Cool} (h : LieV H kv c) (t : Tp H H') : LieV H' kv c := by
  obtain ⟨h1, a, h2, h3⟩ := h
  exact ⟨h1, a, h2, t _ _ h3⟩
structure SlotsOk (h : Hall) (es : List Ent) (rows : List Row) (last : Nat) : Prop where
  at_ : ∀ n : Nat, n ≤ last → active (run_ h (upTo es n)).cool n = lyAt h es rows n
  few : ∀ n : Nat, n ≤ last → (lyAt h es rows n).length ≤ 60
  nd : ∀ n : Nat, n ≤ last → ((lyAt h es rows n).map (·.slot)).Nodup
  fit : ∀ n : Nat, n ≤ last → ∀ (i : Nat) (r : Row), (gAt rows n)[i]? = some r → 0 ≤ r.many ∧ r.many ≤ ((freeOf h.slots ((((gAt rows n).take i).foldl (lieF h es n) (lyFrom h es rows n)).map (·.slot))).length : Int) ∧ kd es r.number ∈ h.kinds.map (·.1) ∧ GatherRow es r
theorem putK_le (kvs : List (Key × V)) (k : Key) (v : V) {n : Nat} (h : kvs.length ≤ n) : (putK kvs k v).length ≤ n + 1 := Nat.le_trans (length_putK kvs k v) (Nat.succ_le_succ h)
theorem valV_mem {k : Key} {v : V} : ∀ {kvs : List (Key × V)}, (kvs.map (·.1)).Nodup → (k, v) ∈ kvs → valV kvs k = some v
  | [], _, h => by cases h
  | p :: r, nd, h => by
    have nd := List.nodup_cons.mp nd
    unfold valV
    rcases List.mem_cons.mp h with h | h
    · subst h
      rw [List.find?_cons_of_pos (by simp)]; rfl
    · have ne : ¬ p.1 = k := fun e => nd.1 (List.mem_map.mpr ⟨(k, v), h, e.symm⟩)
      rw [List.find?_cons_of_neg (by simpa using ne)]
      exact valV_mem nd.2 h
theorem merge_self : ∀ (l kvs : List (Key × V)), ((kvs ++ l).map (·.1)).Nodup → mergeK kvs l = kvs ++ l
  | [], kvs, _ => (List.append_nil kvs).symm
  | p :: r, kvs, nd => by
    show mergeK (putK kvs p.1 p.2) r = _
    have e : putK kvs p.1 p.2 = kvs ++ [p] := putK_new _ (valV_no fun kv m z => by
      rw [List.map_append, List.nodup_append] at nd
      exact nd.2.2 kv.1 (List.mem_map.mpr ⟨kv, m, rfl⟩) p.1 (List.mem_map.mpr ⟨p, List.mem_cons_self .., rfl⟩) z)
    rw [e, merge_self r (kvs ++ [p]) (by rw [List.append_assoc]; exact nd), List.append_assoc]; rfl
theorem lie_keys {H : Hp} {zs : List (Key × V)} {ly : List Cool} (h : Paired (LieV H) zs ly) : zs.map (·.1) = (ly.map (·.slot)).map Sum.inl := by
  induction h with
  | nil => rfl
  | cons a t ih => rw [List.map_cons, List.map_cons, List.map_cons, ih, a.1]
theorem lie_nd {H : Hp} {zs : List (Key × V)} {ly : List Cool} (h : Paired (LieV H) zs ly) (nd : (ly.map (·.slot)).Nodup) : (zs.map (·.1)).Nodup := by
  rw [lie_keys h]; exact nd_map (fun _ _ z => Sum.inl.inj z) nd
theorem w_dgetNF {a : Addr} {o : Obj} {kvs : List (Key × V)} {s : Int} {v : V} {QT : V → Hp → Prop} {H : Hp} (h : H a = some (.frz o (.dK kvs))) (e : valV kvs (.inl s) = some v) (q : QT v H) : rDGet (.ref a) (.int s) QT H := ⟨a, v, rfl, .inl ⟨kvs, .inl s, .inr ⟨o, h⟩, rfl, e.symm⟩, q⟩
theorem lie_has {H : Hp} {zs : List (Key × V)} {ly : List Cool} (h : Paired (LieV H) zs ly) (s : Int) : (valV zs (.inl s)).isSome = decide (s ∈ ly.map (·.slot)) := by
  induction h with
  | nil => rfl
  | @cons kv c zs ly a t ih =>
    unfold valV at ih ⊢
    by_cases e : c.slot = s
    · rw [List.find?_cons_of_pos (by rw [a.1, e]; exact decide_eq_true rfl), List.map_cons, decide_eq_true (by rw [e]; exact List.mem_cons_self ..)]; rfl
    · rw [List.find?_cons_of_neg (by rw [a.1]; simpa using e), ih, List.map_cons]
      have q : (s ∈ c.slot :: ly.map (·.slot)) = (s ∈ ly.map (·.slot)) := by
        rw [List.mem_cons]; exact propext ⟨fun h => h.elim (fun z => absurd z.symm e) id, .inr⟩
      simp only [q]
theorem range_nd (n : Nat) : (rangeI n).Nodup := nd_map (fun _ _ h => Int.ofNat.inj h) List.nodup_range
theorem lieF_nd {h : Hall} {es : List Ent} {hour : Int} {ly : List Cool} {r : Row} (nd : (ly.map (·.slot)).Nodup) : ((lieF h es hour ly r).map (·.slot)).Nodup := by
  unfold lieF
  rw [List.map_append, List.map_map, List.nodup_append]
  have e : ((freeOf h.slots (ly.map (·.slot))).take r.many.toNat).map ((fun c : Cool => c.slot) ∘ fun s => ⟨s, kd es r.number, r.colour, hour + coolOf h (kd es r.number)⟩) = (freeOf h.slots (ly.map (·.slot))).take r.many.toNat := by
    rw [show ((fun c : Cool => c.slot) ∘ fun s => (⟨s, kd es r.number, r.colour, hour + coolOf h (kd es r.number)⟩ : Cool)) = id from rfl, List.map_id]
  rw [e]
  refine ⟨nd, (List.take_sublist _ _).nodup (List.filter_sublist.nodup (range_nd _)), fun a ma b mb z => ?_⟩
  have q := (List.mem_filter.mp (List.mem_of_mem_take mb)).2
  rw [← z] at q
  simp [ma] at q
theorem kLt_one {a b : Int} (h : a ≤ b) : SK.kLt [.inl b] [.inl a] = false := by
  show HT.lexLt [b] [a] = false
  rw [HT.lexLt_cons]
  by_cases e : b = a
  · rw [if_pos e]; rfl
  · rw [if_neg e]; exact decide_eq_false (by omega)
theorem sort_lie {ys : List Int} {cs : List Cool} (h : Paired (fun (s : Int) (c : Cool) => s = c.slot) ys cs) (hs : ys.Pairwise (· ≤ ·)) : cs.Pairwise fun x y => SK.kLt (coolK y) (coolK x) = false := by
  induction h with
  | nil => exact .nil
  | @cons s c ys cs a t ih =>
    have hs := List.pairwise_cons.mp hs
    refine List.pairwise_cons.mpr ⟨fun y my => ?_, ih hs.2⟩
    obtain ⟨j, hj⟩ := List.mem_iff_getElem?.mp my
    obtain ⟨z, hz, e⟩ := DX.pget t hj
    have q := hs.1 z (List.mem_of_getElem? hz)
    subst a
    subst e
    exact kLt_one q
def spSlots (K : PySem.W.Frag) : Sp := fun vs H Q _ => ∃ (hv rp : Addr) (b : BookX) (h : Hall) (es : List Ent) (rvs : List V) (rows : List Row) (last : Nat), vs = [.ref hv, .ref b.bk, .ref rp, .int last] ∧ HallAt H hv h ∧ HallOk h ∧ BookAt K H b h es ∧ (∀ e ∈ es, DeedOk e.deed) ∧ H rp = some (.lst rvs) ∧ Ts H rowV rvs rows ∧ rows.length ≤ 1000 ∧ last ≤ 1000 ∧ SlotsOk h es rows last ∧
  ∀ H', Ex H H' → Q (.bl true) H'
theorem C_slots_right {P : Program} {w : World} {K : PySem.W.Frag} {mg : Str → Option Value} {base : Heap} (T : Txt K mg) : Cal P w K mg base 10 "_law_slots_right" ["_law_hall", "_law_book", "_law_rows", "_law_last"] (spSlots K) := by
  have C_Account_init := C_Account_init (P := P) (w := w) (base := base) T
  have C_Account_tunnel := C_Account_tunnel (P := P) (w := w) (base := base) T
  have C_Book_entries := C_Book_entries (P := P) (w := w) (base := base) T
  have C_same := C_same (P := P) (w := w) (base := base) T
  refine cal_mk T 57 rfl T.g_slots_right sc_slots_right rfl rfl (fun _ _ _ _ _ _ us hl => match us, hl with | [_, _, _, _], _ => rfl) (fun vs H Q E h => ?_) (fun f cdv A outer s H vs Q E hr h => ?_)
  · obtain ⟨hv, rp, b, h, es, rvs, rows, last, rfl, hH, hok, hB, hdo, hrp, hts, hlen, hlast, hS, k⟩ := h
    rfl
  obtain ⟨hv, rp, b, h, es, rvs, rows, last, rfl, hH, hok, hB, hdo, hrp, hts, hlen, hlast, hS, k⟩ := h
  refine ⟨_, (pss_cons (ps_par (i := 5) (j := 6) rfl sc_slots_right.nd rfl rfl (by decide) rfl rfl (pa_cons (pe_callTy (call_dictP rfl) (by rfl) T.f_dict (by decide +kernel) (pa_cons (pe_lc (own := [("_law_hour", 4), ("_law_number", 14), ("_law_deed", 15)]) rfl sc_slots_right.nd (pi_listK (K := K) rfl (pe_mcalI0 (ns := f_Book) (by decide +kernel) (pv 1) T.c_Book C_Book_entries (hr.mono (by decide)))) (blkOk_by (own := [("_law_hour", 4), ("_law_number", 14), ("_law_deed", 15)]) (N := n_slots_right) (sc := defScope s_slots_right) (by decide +kernel)) (fun _ _ _ _ _ => (pg_tupK (K := K) (n := 3) rfl rfl (pgs_cons (pg_name (i := 4) sc_slots_right.nd rfl (Or.inl rfl)) (pgs_cons (pg_name (i := 14) sc_slots_right.nd rfl (Or.inl rfl)) (pgs_cons (pg_name (i := 15) sc_slots_right.nd rfl (Or.inl rfl)) pgs_nil))))) (fun _ _ _ _ _ => pts_nil) (fun _ _ _ _ _ => (pe_tup (pa_cons (pv 14) (pa_cons (pv 15) pa_nil))))) pa_nil)) (pa_cons pe_dnewK pa_nil)) (by rfl))
 (pss_cons (ps_for PassesOwn.never rfl (pi_tupK (K := K) rfl (pe_ix (ix_tupK (K := K) rfl) (pv 0) pe_int (fun _ _ => rfl))) (pg_tupK (K := K) (n := 3) rfl rfl (pgs_cons (pg_name (i := 7) sc_slots_right.nd rfl (Or.inl rfl)) (pgs_cons (pg_name (i := 8) sc_slots_right.nd rfl (Or.inl rfl)) (pgs_cons (pg_name (i := 9) sc_slots_right.nd rfl (Or.inl rfl)) pgs_nil)))) (pss_one (ps_dput (hu_of hr) (pv 6) (pv 7) (pv 9) rfl)))
 (pss_cons (ps_set (i := 10) sc_slots_right.nd rfl (Or.inr rfl) pe_dnewK)
 (pss_cons (ps_for PassesOwn.never rfl (pi_range1 rfl T.f_range (pa_cons (pe_op op_add (pv 3) pe_int) pa_nil)) (pg_name (i := 4) sc_slots_right.nd rfl (Or.inr rfl)) (pss_cons (ps_set (i := 10) sc_slots_right.nd rfl (Or.inr rfl) (pe_callTy (call_dictP rfl) (by rfl) T.f_dict (by decide +kernel) (pa_cons (pe_lock (pe_lc (own := [("_law_slot", 11)]) rfl sc_slots_right.nd (pi_keys (pv 10)) (blkOk_by (own := [("_law_slot", 11)]) (N := n_slots_right) (sc := defScope s_slots_right) (by decide +kernel)) (fun _ _ _ _ _ => (pg_name (i := 11) sc_slots_right.nd rfl (Or.inl rfl))) (fun _ _ _ _ _ => (pts_one (pt_cmpR op_gt (pe_ix (ix_tupK (K := K) rfl) (pe_dget (hu_of hr) (pv 10) (pv 11) (fun _ _ => rfl)) pe_int (fun _ _ => rfl)) (pv 4) (nomark _)))) (fun _ _ _ _ _ => (pe_tup (pa_cons (pv 11) (pa_cons (pe_dget (hu_of hr) (pv 10) (pv 11) (fun _ _ => rfl)) pa_nil)))))) pa_nil)))
 (pss_cons (ps_for PassesOwn.never rfl (pi_listK (K := K) rfl (pe_lc (own := [("_law_row", 12)]) rfl sc_slots_right.nd (pi_listK (K := K) rfl (pv 2)) (blkOk_by (own := [("_law_row", 12)]) (N := n_slots_right) (sc := defScope s_slots_right) (by decide +kernel)) (fun _ _ _ _ _ => (pg_name (i := 12) sc_slots_right.nd rfl (Or.inl rfl))) (fun _ _ _ _ _ => (pts_one (PW.pt (pw_and (pt_cmpR op_eq (pe_ix (ix_tupK (K := K) rfl) (pv 12) pe_int (fun _ _ => rfl)) (pv 4) (nomark _)) (pw_and1 (pt_cmpR op_eq (pe_ix (ix_tupK (K := K) rfl) (pv 12) pe_int (fun _ _ => rfl)) pe_str (nomark _))))))) (fun _ _ _ _ _ => (pv 12)))) (pg_name (i := 12) sc_slots_right.nd rfl (Or.inl rfl)) (pss_cons (ps_set (i := 7) sc_slots_right.nd rfl (Or.inl rfl) (pe_ix (ix_tupK (K := K) rfl) (pe_dget (hu_of hr) (pv 5) (pe_ix (ix_tupK (K := K) rfl) (pv 12) pe_int (fun _ _ => rfl)) (fun _ _ => rfl)) pe_int (fun _ _ => rfl)))
 (pss_cons (ps_setLc (i := 13) (own := [("_law_slot", 11)]) rfl sc_slots_right.nd rfl rfl (sw_true rfl rfl rfl (by decide +kernel)) (pi_range1 rfl T.f_range (pa_cons (pe_ix (ix_tupK (K := K) rfl) (pv 0) pe_int (fun _ _ => rfl)) pa_nil)) (blkOk_by (own := [("_law_slot", 11)]) (N := n_slots_right) (sc := defScope s_slots_right) (by decide +kernel)) (fun _ _ _ _ _ => (pg_name (i := 11) sc_slots_right.nd rfl (Or.inl rfl))) (fun _ _ _ _ _ => (pts_one (pt_cmp (pc_dnotin (hu_of hr) (pv 11) (pv 10))))) (fun _ _ _ _ _ => (pv 11)))
 (pss_cons (ps_if (pt_cmpR op_lt (pe_callB (call_lenK (K := K) rfl) (by rfl) T.f_len (by decide +kernel) (pa_cons (pv 13) pa_nil)) (pe_ix (ix_tupK (K := K) rfl) (pv 12) pe_int (fun _ _ => rfl)) (nomark _)) (pss_one (ps_ret pe_bl)) pss_nil)
 (pss_one (ps_for PassesOwn.never rfl (pi_listK (K := K) rfl (pe_slice (sl_listK (K := K) rfl) (pv 13) po_none (po_some (pe_ix (ix_tupK (K := K) rfl) (pv 12) pe_int (fun _ _ => rfl))))) (pg_name (i := 11) sc_slots_right.nd rfl (Or.inl rfl)) (pss_one (ps_dput (hu_of hr) (pv 10) (pv 11) (pe_tup (pa_cons (pv 7) (pa_cons (pe_ix (ix_tupK (K := K) rfl) (pv 12) pe_int (fun _ _ => rfl)) (pa_cons (pe_op op_add (pv 4) (pe_dget (hu_of hr) (pv 6) (pv 7) (fun _ _ => rfl))) pa_nil)))) rfl))))))))
 (pss_one (ps_if (pt_not (pt_val (pe_cal C_same (hr.mono (by decide)) rfl (pa_cons (pe_mcalI0 (ns := f_Account) (by decide +kernel) (pe_kcal C_Account_init hr rfl (pa_cons (pv 1) (pa_cons (pv 4) pa_nil))) T.c_Account C_Account_tunnel (hr.mono (by decide))) (pa_cons (pe_lc (own := [("_law_slot", 11)]) rfl sc_slots_right.nd (pi_listK (K := K) rfl (pe_callB (call_sortedDI rfl) (by rfl) T.f_sorted (by decide +kernel) (pa_cons (pv 10) pa_nil))) (blkOk_by (own := [("_law_slot", 11)]) (N := n_slots_right) (sc := defScope s_slots_right) (by decide +kernel)) (fun _ _ _ _ _ => (pg_name (i := 11) sc_slots_right.nd rfl (Or.inl rfl))) (fun _ _ _ _ _ => pts_nil) (fun _ _ _ _ _ => (pe_op (op_catTK (K := K) rfl) (pe_tup (pa_cons (pv 11) pa_nil)) (pe_dget (hu_of hr) (pv 10) (pv 11) (fun _ _ => rfl))))) pa_nil))))) (pss_one (ps_ret pe_bl)) pss_nil)))))
 (pss_one (ps_ret pe_bl)))))), ?_⟩
  have hbk := hB.bk
  nested_keys
  refine ⟨b, h, es, rfl, hB, fun p us xs H1 hp k1 h1 htx hD hex => ?_⟩
  nested_keys
  intro U hU
  refine lc_list (K := K) (a := p) (xs := us) (fun i H' => ∃ ps : List Addr, ps.length = i ∧ Paired (fun p (x : Ent × Addr) => H' p = some (.tup [.int x.1.number, .ref x.2])) ps (xs.take i) ∧ Cfg no H1 [(U, .lst (ps.map V.ref))] H')
    ⟨[], rfl, .nil, Cfg.nil.new hU⟩ (fun i H' _ ⟨_, _, _, g⟩ => SqL.of (g.kp.exget h1)) ?_ ?_
  · rintro i v H' hv' ⟨ps, hps, hP, g⟩
    obtain ⟨⟨e, da⟩, t, he, rfl, ht⟩ := htx.get hv'
    have ht := g.kp.t _ _ ht
    have hi := get_lt he
    have hxl : xs.length = es.length := by rw [← List.length_map (f := fun x : Ent × Addr => x.1), hex]; exact (srt_perm es).length_eq
    have hfew := hB.few
    nested_keys
    intro r hr
    have kr : Ex H' (upd H' r (.tup [.int e.number, .ref da])) := Kp.new hr
    have g := g.ex kr
    have gw := g.wr (o := .lst (ps.map V.ref ++ [.ref r])) 0 rfl (fun _ z => by cases z) (.inr hU)
    have tw : Tp _ (upd (upd H' r (.tup [.int e.number, .ref da])) U (.lst (ps.map V.ref ++ [.ref r]))) := tp_wr g.hd (fun _ z => by cases z)
    refine ⟨_, g.hd, by rw [List.length_map, hps]; exact small1000 (by omega), ps ++ [r], by simp [hps], ?_, by rw [List.map_append]; exact gw⟩
    rw [take_snoc he]
    exact paired_app (paired_mono hP fun _ _ q => tw _ _ (kr.t _ _ q)) (.cons (tw _ _ upd_same) .nil)
  rintro H2 ⟨ps, hps, hP, g⟩
  rw [htx.len, List.take_length] at hP
  nested_keys
  refine ⟨U, ps, xs.map fun x => ((.inl x.1.number : Key), V.ref x.2), rfl, SqL.of (g.get 0 rfl), pairs_refs hP, fun d hd => ?_⟩
  have kd0 : Ex H2 (upd H2 d (.dK (mergeK [] (xs.map fun x => ((.inl x.1.number : Key), V.ref x.2))))) := Kp.new hd
  have kk : Ex H1 _ := g.kp.trans kd0
  have hDD : DeedsD (upd H2 d (.dK (mergeK [] (xs.map fun x => ((.inl x.1.number : Key), V.ref x.2))))) d es := ⟨_, upd_same, fun e m => by
    obtain ⟨da, m1, m2⟩ := deeds_of hB.num hex e m
    exact ⟨da, m2, kk.t _ _ (hD _ m1)⟩⟩
  generalize upd H2 d (.dK (mergeK [] (xs.map fun x => ((.inl x.1.number : Key), V.ref x.2)))) = H3 at kd0 kk hDD
  have k3 : Ex H H3 := k1.trans kk
  clear hP hps g
  nested_keys
  intro D hD2
  obtain ⟨dkv, hd1, hd2⟩ := hDD
  have g : Cfg no H3 [(D, .dK [])] (upd H3 D (.dK [])) := Cfg.nil.new hD2
  have kD : Ex H3 (upd H3 D (.dK [])) := g.kp
  generalize upd H3 D (.dK []) = H4 at kD g
  obtain ⟨pal, ki, te, po, hhv, hhx⟩ := hH
  have hhv4 := (k3.trans kD).t _ _ hhv
  obtain ⟨kvs0, hki, hkt⟩ := hhx.ki
  have hki4 := (k3.trans kD).t _ _ hki
  nested_keys
  refine for_tup (K := K) (a := ki) (xs := kvs0) (fun i σ H' => ∃ (cks : List (Key × V)) (v7 v8 v9 : Option V), Cfg no H3 [(D, .dK cks)] H' ∧ (∀ s, valV cks (.inr s) = (lastOf (h.kinds.take i) s).map fun rc => V.int rc.2) ∧ cks.length ≤ i ∧
      σ = [some (.ref hv), some (.ref b.bk), some (.ref rp), some (.int last), none, some (.ref d), some (.ref D), v7, v8, v9, none, none, none, none, none, none])
    ⟨[], _, _, _, g, fun s => rfl, Nat.le_refl _, rfl⟩ (fun i σ H' _ ⟨_, _, _, _, g, _⟩ => SqT.of ((k3.trans g.kp).t _ _ hki)) ?_ ?_
  · rintro i v σ H' hv' ⟨cks, v7, v8, v9, g, hc, hl, rfl⟩
    obtain ⟨r, t, hr, rfl, ht⟩ := hkt.get hv'
    have ht := (k3.trans g.kp).t _ _ ht
    have hi := get_lt hr
    have hkf := hok.kinds
    nested_keys
    refine w_putS 0 g rfl (by omega) (.inr hD2) fun H5 g => ?_
    nested_keys
    refine ⟨_, _, _, _, g, fun s => ?_, putK_le _ _ _ hl, rfl⟩
    rw [valV_put, take_snoc hr]
    have e : lastOf (h.kinds.take i ++ [r]) s = if s = r.1 then some r.2 else lastOf (h.kinds.take i) s := by
      unfold lastOf
      rw [List.foldl_append]; rfl
    rw [e]
    by_cases q : s = r.1
    · rw [if_pos q, if_pos (by rw [q])]; rfl
    · rw [if_neg q, if_neg (fun z => q (Sum.inr.inj z))]; exact hc s
  rintro σ H5 ⟨cks, v7, v8, v9, g, hc, _, rfl⟩
  rw [hkt.len, List.take_length] at hc
  have k5 : Ex H H5 := k3.trans g.kp
  have hD5 : H5 D = some (.dK cks) := g.get 0 rfl
  have hd5 := g.kp.exget hd1
  have hda5 : ∀ e ∈ es, ∃ da, valV dkv (.inl e.number) = some (.ref da) ∧ H5 da = some (.tup (deedV e.deed)) := fun e m => by
    obtain ⟨da, a1, a2⟩ := hd2 e m
    exact ⟨da, a1, g.kp.t _ _ a2⟩
  clear g
  have hrp5 := k5.exget hrp
  have hts5 := hts.mono k5.t
  have hhv5 := k5.t _ _ hhv
  have hB5 := hB.ex k5
  nested_keys
  intro Y hY
  have gY : Cfg no H5 [(Y, .dK [])] (upd H5 Y (.dK [])) := Cfg.nil.new hY
  generalize upd H5 Y (.dK []) = H6 at gY
  nested_keys
  refine for_range (lo := 0) (n := ((last : Int) + 1).toNat) (fun n σ H' => ∃ (Y : Addr) (yks : List (Key × V)) (v4 v7 v8 v9 v11 v12 v13 : Option V), H5 Y = none ∧ Cfg no H5 [(Y, .dK yks)] H' ∧ Paired (LieV H') yks (match n with
        | 0 => []
        | m + 1 => lyAt h es rows m) ∧
      σ = [some (.ref hv), some (.ref b.bk), some (.ref rp), some (.int last), v4, some (.ref d), some (.ref D), v7, v8, v9, some (.ref Y), v11, v12, v13, none, none])
    ⟨Y, [], _, _, _, _, _, _, _, hY, gY, .nil, rfl⟩ ?_ ?_
  · rintro n σ H' hn ⟨Y, yks, v4, v7, v8, v9, v11, v12, v13, hY, gY, hyk, rfl⟩
    have hnl : n ≤ last := by omega
    have hYH : H' Y = some (.dK yks) := gY.get 0 rfl
    nested_keys
    refine ⟨Y, _, hYH, trivial, fun od => ?_⟩
    obtain ⟨ly, hlyk, hlnd, hly60, hfrom⟩ : ∃ ly, Paired (LieV H') yks ly ∧ (ly.map (·.slot)).Nodup ∧ ly.length ≤ 60 ∧ lieBase ly (n : Int) = lyFrom h es rows n := by
      cases n with
      | zero => exact ⟨[], hyk, .nil, Nat.zero_le _, rfl⟩
      | succ m => exact ⟨_, hyk, hS.nd m (by omega), hS.few m (by omega), rfl⟩
    clear hyk
    have hG : upd H' Y (.frz od (.dK yks)) Y = some (.frz od (.dK yks)) := upd_same
    have back : ∀ H2, Ex (upd H' Y (.frz od (.dK yks))) H2 → Ex H' (upd H2 Y (.dK yks)) := fun H2 k => lock_back hYH k
    have tG : Tp H' (upd H' Y (.frz od (.dK yks))) := tp_wr hYH (fun _ z => by cases z)
    have hlyG := paired_mono hlyk fun _ _ q => q.up tG
    generalize upd H' Y (.frz od (.dK yks)) = G at hG back tG hlyG
    have hynd := lie_nd hlyk hlnd
    have hylen : yks.length = ly.length := Paired.length hlyk
    nested_keys
    refine ⟨Y, od, rfl, .inl ⟨yks, hG, ?_⟩⟩
    intro U hU
    refine lc_it walk_keys (fun i H2 => ∃ (ps : List Addr) (zs : List (Key × V)), ps.length ≤ i ∧ Paired (LieV H2) zs (lieBase (ly.take i) n) ∧ Paired (fun p (kv : Key × V) => H2 p = some (.tup [kV kv.1, kv.2])) ps zs ∧ Cfg no G [(U, .lst (ps.map V.ref))] H2)
      ⟨[], [], Nat.le_refl _, .nil, .nil, Cfg.nil.new hU⟩ (fun i H2 _ ⟨_, _, _, _, _, g⟩ => g.kp.exget hG) ?_ ?_
    · rintro i v Ha H2 hi ⟨ps, zs, hps, hz, hpz, g⟩ ⟨rfl, kk, kv, hkv, rfl⟩
      obtain ⟨c, hc, hk1, t, hk2, ht⟩ := paired_get hlyG hkv
      have hk1 : kk = .inl c.slot := hk1
      have hk2 : kv = .ref t := hk2
      subst hk1
      subst hk2
      have hv1 : valV yks (.inl c.slot) = some (.ref t) := valV_mem hynd (List.mem_of_getElem? hkv)
      have ht := g.kp.t _ _ ht
      have hGH := g.kp.exget hG
      show gName 11 (.int c.slot) _ _ _
      nested_keys
      refine w_dgetNF hGH hv1 ?_
      nested_keys
      rw [show lieBase (ly.take (i + 1)) (n : Int) = lieBase (ly.take i) n ++ (if decide ((n : Int) < c.out) = true then [c] else []) from filt_snoc hc]
      rw [Int.zero_add]
      refine ite_d (fun e => ?_) (fun e => ?_)
      · nested_keys
        refine w_dgetNF hGH hv1 ?_
        nested_keys
        intro q hq
        have kr : Ex H2 (upd H2 q (.tup [.int c.slot, .ref t])) := Kp.new hq
        have g := g.ex kr
        have gw := g.wr (o := .lst (ps.map V.ref ++ [.ref q])) 0 rfl (fun _ z => by cases z) (.inr hU)
        have tw : Tp _ (upd (upd H2 q (.tup [.int c.slot, .ref t])) U (.lst (ps.map V.ref ++ [.ref q]))) := tp_wr g.hd (fun _ z => by cases z)
        refine ⟨_, g.hd, by rw [List.length_map]; exact Nat.lt_of_lt_of_le (show ps.length < 100000 by omega) (by decide), ps ++ [q], zs ++ [(.inl c.slot, .ref t)], by simp; omega, ?_, paired_app (paired_mono hpz fun _ _ q => tw _ _ (kr.t _ _ q)) (.cons (tw _ _ upd_same) .nil), by rw [List.map_append]; exact gw⟩
        rw [if_pos (decide_eq_true e)]
        exact paired_app (paired_mono hz fun _ _ q => (q.up kr.t).up tw) (.cons ⟨rfl, t, rfl, tw _ _ (kr.t _ _ ht)⟩ .nil)
      · refine ⟨ps, zs, by omega, ?_, hpz, g⟩
        rw [if_neg (by rw [decide_eq_false e]; exact Bool.false_ne_true), List.append_nil]
        exact hz
    · rintro H2 ⟨ps, zs, hps, hz, hpz, g⟩
      rw [hylen, List.take_length, hfrom] at hz
      refine ⟨g.kp.exget hG, ?_⟩
      have kb := back H2 g.kp
      have hU1 : upd H2 Y (.dK yks) U = some (.lst (ps.map V.ref)) := by
        rw [upd_ne fun e => by rw [e, hG] at hU; cases hU]; exact g.hd
      have t2 : Tp H2 (upd H2 Y (.dK yks)) := fun b ys e => by
        rw [upd_ne (ne_of e (g.kp.exget hG) (fun z => by cases z))]; exact e
      have hz := paired_mono hz fun _ _ q => q.up t2
      have hpz := paired_mono hpz fun _ _ q => t2 _ _ q
      generalize upd H2 Y (.dK yks) = H3 at kb hU1 t2 hz hpz
      nested_keys
      refine ⟨U, ps, zs, rfl, SqL.of hU1, paired_mono hpz fun _ _ q => SqT.of q, fun Y2 hY2 => ?_⟩
      have hfnd : ((lyFrom h es rows n).map (·.slot)).Nodup := by
        rw [← hfrom]
        exact (List.filter_sublist.map _).nodup hlnd
      have hf60 : (lyFrom h es rows n).length ≤ 60 := by
        rw [← hfrom]; exact Nat.le_trans (List.length_filter_le _ _) hly60
      rw [merge_self zs [] (by rw [List.nil_append]; exact lie_nd hz hfnd), List.nil_append]
      have k53 : Ex H5 H3 := gY.kp.trans kb
      have gZ : Cfg no H3 [(Y2, .dK zs)] (upd H3 Y2 (.dK zs)) := Cfg.nil.new hY2
      have hz := paired_mono hz fun _ _ q => q.up gZ.kp.t
      generalize upd H3 Y2 (.dK zs) = H7 at gZ hz
      have k57 := k53.trans gZ.kp
      have hrp7 := k57.exget hrp5
      have hts7 := hts5.mono k57.t
      clear hpz hps g hlyk hlyG back hU1 t2 kb
      nested_keys
      intro R hR
      refine lc_list (K := K) (a := rp) (xs := rvs) (fun i H' => ∃ us : List V, us.length ≤ i ∧ Ts H' rowV us ((rows.take i).filter fun r => decide (r.hour = n) && decide (r.word = wGather)) ∧ Cfg no H7 [(R, .lst us)] H')
        ⟨[], Nat.le_refl _, Ts.nil, Cfg.nil.new hR⟩ (fun i H' _ ⟨_, _, _, g⟩ => SqL.of (g.kp.exget hrp7)) ?_ ?_
      · rintro i v H8 hv' ⟨us, hus, hu, g⟩
        obtain ⟨r, t, hr, rfl, ht⟩ := hts7.get hv'
        have ht := g.kp.t _ _ ht
        have hi := get_lt hr
        nested_keys
        rw [filt_snoc hr, Int.zero_add]
        refine ite_d (fun e1 => ?_) (fun e1 => ?_)
        · nested_keys
          refine ite_d (fun e2 => ?_) (fun e2 => ?_)
          · nested_keys
            have gw := g.wr (o := .lst (us ++ [.ref t])) 0 rfl (fun _ z => by cases z) (.inr hR)
            have tw : Tp H8 (upd H8 R (.lst (us ++ [.ref t]))) := tp_wr g.hd (fun _ z => by cases z)
            refine ⟨_, g.hd, Nat.lt_of_lt_of_le (show us.length < 100000 by omega) (by decide), us ++ [V.ref t], by simp; omega, ?_, gw⟩
            rw [if_pos (by rw [decide_eq_true e1, decide_eq_true e2]; rfl)]
            exact (hu.mono tw).snoc (tw _ _ ht)
          · refine ⟨us, by omega, ?_, g⟩
            rw [if_neg (by rw [decide_eq_false e2, Bool.and_false]; exact Bool.false_ne_true), List.append_nil]
            exact hu
        · refine ⟨us, by omega, ?_, g⟩
          rw [if_neg (by rw [decide_eq_false e1, Bool.false_and]; exact Bool.false_ne_true), List.append_nil]
          exact hu
      rintro H8 ⟨us, hus, hu, g⟩
      rw [hts7.len, List.take_length] at hu
      have hu : Ts H8 rowV us (gAt rows n) := hu
      have hRR := g.get 0 rfl
      have gZ8 : Cfg (fun y => y = Y2) H8 [(Y2, .dK zs)] H8 := Cfg.one (g.kp.exget (gZ.get 0 rfl))
      have hz := paired_mono hz fun _ _ q => q.up g.kp.t
      have k58 := k57.trans g.kp
      have hRY : R ≠ Y2 := ne_of hRR (gZ8.get 0 rfl) (fun z => by cases z)
      have hY5 : H5 Y2 = none := k53.nn hY2
      have glen : (gAt rows n).length ≤ 1000 := Nat.le_trans (List.length_filter_le _ _) hlen
      nested_keys
      refine for_list (K := K) (a := R) (xs := us) (fun i σ H' => ∃ (zs : List (Key × V)) (v7 v8 v9 v11 v12 v13 : Option V), Cfg (fun y => y = Y2) H8 [(Y2, .dK zs)] H' ∧ Paired (LieV H') zs (((gAt rows n).take i).foldl (lieF h es n) (lyFrom h es rows n)) ∧ ((((gAt rows n).take i).foldl (lieF h es n) (lyFrom h es rows n)).map (·.slot)).Nodup ∧
          zs.length ≤ 200 + 60 * i ∧
          σ = [some (.ref hv), some (.ref b.bk), some (.ref rp), some (.int last), some (.int (0 + (n : Int))), some (.ref d), some (.ref D), v7, v8, v9, some (.ref Y2), v11, v12, v13, none, none])
        ⟨zs, _, _, _, _, _, _, gZ8, hz, hfnd, by rw [Paired.length hz]; omega, rfl⟩ (fun i σ H' _ ⟨_, _, _, _, _, _, _, g, _⟩ => SqL.of (g.kp.get hRR hRY)) ?_ ?_
      · rintro i v σ H9 hv' ⟨zs, v7, v8, v9, v11, v12, v13, g9, hz, hznd, hzl, rfl⟩
        obtain ⟨r, t, hr, rfl, ht⟩ := hu.get hv'
        have ht := g9.kp.t _ _ ht
        have hi := get_lt hr
        obtain ⟨f0, f1, f2, f3⟩ := hS.fit n hnl i r hr
        have hrw : r.word = wGather := by
          have q := (List.mem_filter.mp (List.mem_of_getElem? hr)).2
          rw [Bool.and_eq_true] at q
          exact of_decide_eq_true q.2
        have hdY : d ≠ Y2 := fun e => by rw [← e, hd5] at hY5; cases hY5
        have hDY : D ≠ Y2 := fun e => by rw [← e, hD5] at hY5; cases hY5
        have hd9 : H9 d = some (.dK dkv) := g9.kp.get (k58.exget hd5) hdY
        have hD9 : H9 D = some (.dK cks) := g9.kp.get (k58.exget hD5) hDY
        obtain ⟨da, t1, p1, m1, hv1, hda⟩ := f3.get hB.num hrw hda5
        have hda9 := g9.kp.t _ _ (k58.t _ _ hda)
        have hhv9 := g9.kp.t _ _ (k58.t _ _ hhv5)
        have hY9 : H9 Y2 = some (.dK zs) := g9.get 0 rfl
        nested_keys
        refine w_dgetN hd9 hv1 ?_
        nested_keys
        obtain ⟨hs0, hs1⟩ := hok.slots
        nested_keys
        intro Fr hFr
        generalize hLn : ((gAt rows n).take i).foldl (lieF h es n) (lyFrom h es rows n) = Ln at hz hznd f1
        refine lc_range (lo := 0) (n := h.slots.toNat) (fun i H' => Cfg no H9 [(Fr, .lst ((((rangeI h.slots.toNat).take i).filter fun s => !decide (s ∈ Ln.map (·.slot))).map V.int))] H') (Cfg.nil.new hFr) ?_ ?_
        · intro i2 H10 hi2 g
          have hY10 := g.kp.exget hY9
          nested_keys
          refine w_dnotinN hY10 ?_
          rw [lie_has hz, filt_snoc (rangeI_get hi2), Int.zero_add]
          nested_keys
          by_cases e : (!decide ((i2 : Int) ∈ Ln.map (·.slot))) = true
          · rw [if_pos e, if_pos e]
            nested_keys
            refine ⟨_, g.hd, by
              rw [List.length_map]
              refine Nat.lt_of_le_of_lt (List.length_filter_le _ _) ?_
              rw [List.length_take]
              exact small1000 (by omega), ?_⟩
            rw [List.map_append]
            exact g.wr 0 rfl (fun _ z => by cases z) (.inr hFr)
          · rw [if_neg e, if_neg e, List.append_nil]
            exact g
        intro H10 g10
        rw [show (rangeI h.slots.toNat).take h.slots.toNat = rangeI h.slots.toNat from List.take_of_length_le (by rw [rangeI_len]; exact Nat.le_refl _)] at g10
        have hF10 : H10 Fr = some (.lst ((freeOf h.slots (Ln.map (·.slot))).map V.int)) := g10.get 0 rfl
        have k910 := g10.kp
        have ht10 := k910.t _ _ ht
        nested_keys
        rw [List.length_map, decide_eq_false (by omega : ¬ ((freeOf h.slots (Ln.map (·.slot))).length : Int) < r.many)]
        nested_keys
        rw [cut_take _ f0, ← List.map_take]
        intro sl hsl
        have k11 : Ex H10 (upd H10 sl (.lst (((freeOf h.slots (Ln.map (·.slot))).take r.many.toNat).map V.int))) := Kp.new hsl
        have hsl' : upd H10 sl (.lst (((freeOf h.slots (Ln.map (·.slot))).take r.many.toNat).map V.int)) sl = some (.lst (((freeOf h.slots (Ln.map (·.slot))).take r.many.toNat).map V.int)) := upd_same
        have g11 := (g9.ex k910).ex k11
        generalize upd H10 sl (.lst (((freeOf h.slots (Ln.map (·.slot))).take r.many.toNat).map V.int)) = H11 at k11 hsl' g11
        have k911 := k910.trans k11
        have hz11 := paired_mono hz fun _ _ q => q.up k911.t
        have hslY : sl ≠ Y2 := ne_of hsl' (g11.get 0 rfl) (fun z => by cases z)
        have eL : ((gAt rows n).take (i + 1)).foldl (lieF h es n) (lyFrom h es rows n) = Ln ++ ((freeOf h.slots (Ln.map (·.slot))).take r.many.toNat).map fun s => ⟨s, kd es r.number, r.colour, (n : Int) + coolOf h (kd es r.number)⟩ := by
          rw [take_snoc hr, List.foldl_append, hLn]; rfl
        have hnd2 : ((Ln ++ ((freeOf h.slots (Ln.map (·.slot))).take r.many.toNat).map fun s => (⟨s, kd es r.number, r.colour, (n : Int) + coolOf h (kd es r.number)⟩ : Cool)).map (·.slot)).Nodup := lieF_nd (h := h) (es := es) (hour := n) (r := r) hznd
        rw [eL]
        have frl : (freeOf h.slots (Ln.map (·.slot))).length ≤ 60 := by
          unfold freeOf
          refine Nat.le_trans (List.length_filter_le _ _) ?_
          rw [rangeI_len]; omega
        have hcv : valV cks (.inr (kd es r.number)) = some (.int (coolOf h (kd es r.number))) := by
          rw [hc]
          obtain ⟨rc, hrc⟩ := lastOf_some f2
          unfold coolOf kindR
          rw [hrc]; rfl
        generalize hfr : (freeOf h.slots (Ln.map (·.slot))).take r.many.toNat = fr at *
        have frl2 : fr.length ≤ 60 := by rw [← hfr, List.length_take]; omega
        have ht11 := k911.t _ _ ht
        clear hF10 g10 ht10 hY9 hhv9 hda9 hd9
        nested_keys
        refine for_list (K := K) (a := sl) (xs := fr.map V.int) (fun j σ H' => ∃ (zs2 : List (Key × V)) (v11 : Option V), Cfg (fun y => y = Y2) H11 [(Y2, .dK zs2)] H' ∧ Paired (LieV H') zs2 (Ln ++ (fr.take j).map fun s => ⟨s, kd es r.number, r.colour, (n : Int) + coolOf h (kd es r.number)⟩) ∧ zs2.length ≤ 200 + 60 * i + j ∧
            σ = [some (.ref hv), some (.ref b.bk), some (.ref rp), some (.int last), some (.int (0 + (n : Int))), some (.ref d), some (.ref D), some (.str (kd es r.number)), v8, v9, some (.ref Y2), v11, some (.ref t), some (.ref Fr), none, none])
          ⟨zs, _, g11.rebase, by rw [List.take_zero, List.map_nil, List.append_nil]; exact hz11, hzl, rfl⟩ (fun j σ H' _ ⟨_, _, g, _⟩ => SqL.of (g.kp.get hsl' hslY)) ?_ ?_
        · rintro j v σ H12 hv' ⟨zs2, v11, g12, hz2, hzl2, rfl⟩
          rw [List.getElem?_map] at hv'
          obtain ⟨s, hs, rfl⟩ := Option.map_eq_some_iff.mp hv'
          have ht12 := g12.kp.t _ _ ht11
          have hD12 : H12 D = some (.dK cks) := g12.kp.get (k911.exget hD9) hDY
          nested_keys
          rw [Int.zero_add]
          refine w_newT g12 fun t2 H13 h13 g13 tt => ?_
          have k1113 := g13.kp
          have g13 : Cfg (fun y => y = Y2) H13 _ H13 := g13.rebase
          have hj := get_lt hs
          refine w_putN 1 g13 rfl (by omega) (.inl rfl) fun H14 g14 => ?_
          nested_keys
          have hnew : valV zs2 (.inl s) = none := by
            have q := lie_has hz2 s
            rw [decide_eq_false] at q
            · cases hq : valV zs2 (.inl s) with
              | none => rfl
              | some v => rw [hq] at q; cases q
            · intro m
              rw [List.map_append, List.map_map] at m hnd2
              obtain ⟨n1, n2, n3⟩ := List.nodup_append.mp hnd2
              have e1 : ∀ l : List Int, l.map ((fun c : Cool => c.slot) ∘ fun s => ⟨s, kd es r.number, r.colour, (n : Int) + coolOf h (kd es r.number)⟩) = l := fun l => by
                rw [show ((fun c : Cool => c.slot) ∘ fun s => (⟨s, kd es r.number, r.colour, (n : Int) + coolOf h (kd es r.number)⟩ : Cool)) = id from rfl, List.map_id]
              rw [e1] at m n2 n3
              rcases List.mem_append.mp m with m | m
              · exact n3 s m s (List.mem_of_getElem? hs) rfl
              · obtain ⟨b, hb⟩ := List.mem_iff_getElem?.mp m
                have hbj : b < j := by
                  have := get_lt hb
                  rw [List.length_take] at this
                  omega
                rw [List.getElem?_take_of_lt hbj] at hb
                have := nd_ix n2 hb hs
                omega
          rw [putK_new _ hnew] at g14
          have t1314 := g14.kp.t
          refine ⟨_, _, (⟨k1113.trans g14.kp, (g14.sub (List.sublist_cons_self _ _)).nd, (g14.sub (List.sublist_cons_self _ _)).at_⟩ : Cfg _ _ _ _), ?_, by rw [List.length_append]; simp; omega, rfl⟩
          rw [take_snoc hs, List.map_append, ← List.append_assoc]
          exact paired_app (paired_mono hz2 fun _ _ q => (q.up tt).up t1314) (.cons ⟨rfl, t2, rfl, g14.get 0 rfl⟩ .nil)
        · rintro σ H12 ⟨zs2, v11, g12, hz2, hzl2, rfl⟩
          rw [List.length_map, List.take_length] at hz2
          nested_keys
          exact ⟨zs2, _, _, _, _, _, _, ⟨g11.kp.trans g12.kp, g12.nd, g12.at_⟩, hz2, hnd2, by rw [List.length_map] at hzl2; omega, rfl⟩
      · rintro σ H9 ⟨zs, v7, v8, v9, v11, v12, v13, g9, hz, hznd, hzl, rfl⟩
        rw [hu.len, List.take_length] at hz hznd
        have elast : (gAt rows n).foldl (lieF h es n) (lyFrom h es rows n) = lyAt h es rows n := by cases n <;> rfl
        rw [elast] at hz hznd
        have k59 : Ex H5 H9 := k58.call g9.kp fun y hy => .inr (by rw [hy]; exact hY5)
        have hB9 := hB5.ex k59
        have hY9 := g9.get 0 rfl
        nested_keys
        refine w_make (Cfg.nil (S := no) (H := H9)) fun ax dxx H10 hax g10 => ?_
        refine ⟨ax, dxx, b, h, es, n, by rw [Int.zero_add], g10.get 0 rfl, hB9.ex g10.kp, hok, hdo, fun x S H0 m H11 hpa hA hm k1011 => ⟨rfl, ?_⟩⟩
        have k911 : Ex H9 H11 := g10.kp.call k1011 fun y hy => .inr (by rw [hy]; exact hax)
        obtain ⟨_, _, _, _, hI⟩ := id hA
        have hacc := hI.acc
        rw [hpa] at hacc
        nested_keys
        refine ⟨h, n, x, S, H0, m, _, by rw [hpa], hA, hm, by rw [hS.at_ n hnl]; exact hS.nd n hnl, fun q qs H12 k12 hq htq => ?_⟩
        rw [hS.at_ n hnl] at htq
        have k912 := k911.trans k12
        have hz12 := paired_mono hz fun _ _ q => q.up k912.t
        have hY12 := k912.exget hY9
        have hfew := hS.few n hnl
        nested_keys
        refine ⟨Y2, zs, (lyAt h es rows n).map (·.slot), rfl, .inl hY12, lie_keys hz12, by rw [List.length_map]; omega, fun ys p2 hperm hsort hp2 => ?_⟩
        have k13 : Ex H12 (upd H12 p2 (.lst (ys.map V.int))) := Kp.new hp2
        have hp2' : upd H12 p2 (.lst (ys.map V.int)) p2 = some (.lst (ys.map V.int)) := upd_same
        generalize upd H12 p2 (.lst (ys.map V.int)) = H13 at k13 hp2'
        have hz13 := paired_mono hz12 fun _ _ q => q.up k13.t
        have hY13 := k13.exget hY12
        obtain ⟨cs, hcs, hpc⟩ : ∃ cs : List Cool, cs.Perm (lyAt h es rows n) ∧ Paired (fun (s : Int) (c : Cool) => s = c.slot) ys cs := paired_perm hperm (by
          have gen : ∀ l : List Cool, Paired (fun (s : Int) (c : Cool) => s = c.slot) (l.map (·.slot)) l := fun l => by
            induction l with
            | nil => exact .nil
            | cons c r ih => exact .cons rfl ih
          exact gen _)
        have hcsrt : cs = srt coolK (lyAt h es rows n) := by
          refine sorted_one (hcs.trans (srt_perm _).symm) (sort_lie hpc hsort) (srt_sorted _) (fun _ _ _ _ => rfl) fun x mx y my e => ?_
          have mx := hcs.mem_iff.mp mx
          have my := hcs.mem_iff.mp my
          obtain ⟨i, hi⟩ := List.mem_iff_getElem?.mp mx
          obtain ⟨j, hj⟩ := List.mem_iff_getElem?.mp my
          have es' : x.slot = y.slot := Sum.inl.inj (List.cons.inj e).1
          have e1 : ((lyAt h es rows n).map (·.slot))[i]? = some x.slot := by rw [List.getElem?_map, hi]; rfl
          have e2 : ((lyAt h es rows n).map (·.slot))[j]? = some x.slot := by rw [List.getElem?_map, hj, es']; rfl
          have q := nd_ix hznd e1 e2
          subst q
          rw [hi] at hj
          exact Option.some.inj hj
        have hlys : ys.length = (lyAt h es rows n).length := by rw [hperm.length_eq, List.length_map]
        nested_keys
        intro U2 hU2
        refine lc_list (K := K) (a := p2) (xs := ys.map V.int) (fun i H' => ∃ us : List V, us.length = i ∧ Ts H' coolV us (cs.take i) ∧ Cfg no H13 [(U2, .lst us)] H')
          ⟨[], rfl, Ts.nil, Cfg.nil.new hU2⟩ (fun i H' _ ⟨_, _, _, g⟩ => SqL.of (g.kp.exget hp2')) ?_ ?_
        · rintro i v H14 hv' ⟨us, hus, hu2, g14⟩
          rw [List.getElem?_map] at hv'
          obtain ⟨s, hs, rfl⟩ := Option.map_eq_some_iff.mp hv'
          obtain ⟨c, hc2, esc⟩ := paired_get hpc hs
          have hi := get_lt hs
          subst esc
          have mc := hcs.mem_iff.mp (List.mem_of_getElem? hc2)
          obtain ⟨jx, hjx⟩ := List.mem_iff_getElem?.mp mc
          obtain ⟨⟨kk, kv⟩, hzx, hk1, t, hk2, htc⟩ := DX.pget hz13 hjx
          have hk1 : kk = .inl c.slot := hk1
          have hk2 : kv = .ref t := hk2
          subst hk1
          subst hk2
          have hvz : valV zs (.inl c.slot) = some (.ref t) := valV_mem (lie_nd hz13 hznd) (List.mem_of_getElem? hzx)
          have hY14 := g14.kp.exget hY13
          have htc := g14.kp.t _ _ htc
          nested_keys
          intro p3 hp3
          have k3 : Ex H14 (upd H14 p3 (.tup [.int c.slot])) := Kp.new hp3
          have h3 : upd H14 p3 (.tup [.int c.slot]) p3 = some (.tup [.int c.slot]) := upd_same
          have g14 := g14.ex k3
          have hY15 := k3.exget hY14
          have htc := k3.t _ _ htc
          have hu2 := hu2.mono k3.t
          show rDGet _ _ _ (upd H14 p3 (.tup [.int c.slot]))
          generalize upd H14 p3 (.tup [.int c.slot]) = H15 at k3 h3 g14 hY15 htc hu2
          refine w_dgetN hY15 hvz ?_
          refine ⟨p3, t, _, _, rfl, rfl, SqT.of h3, SqT.of htc, (fun z => by cases z), (show 4 ≤ sizeLine by decide), (fun z => by cases z), fun _ q hq => ?_⟩
          have kq : Ex H15 (upd H15 q (.tup (coolV c))) := Kp.new hq
          have hq2 : upd H15 q (.tup (coolV c)) q = some (.tup (coolV c)) := upd_same
          have g14 := g14.ex kq
          have hu2 := hu2.mono kq.t
          have gw := g14.wr (o := .lst (us ++ [.ref q])) 0 rfl (fun _ z => by cases z) (.inr hU2)
          refine ⟨us, g14.hd, by rw [hus]; exact small1000 (by omega), us ++ [V.ref q], by rw [List.length_append, hus]; rfl, ?_, gw⟩
          rw [take_snoc hc2]
          have tw : Tp _ (upd (upd H15 q (.tup (coolV c))) U2 (.lst (us ++ [.ref q]))) := tp_wr g14.hd (fun _ z => by cases z)
          exact (hu2.mono tw).snoc (tw _ _ hq2)
        · rintro H14 ⟨us, hus, hu2, g14⟩
          have hcl : cs.length = ys.length := (Paired.length hpc).symm
          rw [List.length_map, ← hcl, List.take_length, hcsrt] at hu2
          have htq14 := htq.mono (k13.trans g14.kp).t
          have hq14 := (k13.trans g14.kp).exget hq
          have hU14 := g14.get 0 rfl
          nested_keys
          refine ⟨_, _, rfl, .inr ⟨q, U2, _, _, rfl, rfl, .inl ⟨hq14, hU14⟩, ts_same (f := coolV) (fun c => ⟨show 4 ≤ 1000 by decide, ?_⟩) htq14 hu2, by rw [htq.len, (srt_perm _).length_eq]; omega⟩, fun H15 k15 => ?_⟩
          · intro v hv
            have hv : v ∈ [V.int c.slot, .str c.kind, .str c.colour, .int c.out] := hv
            simp only [List.mem_cons, List.mem_nil_iff, or_false] at hv
            rcases hv with rfl | rfl | rfl | rfl
            · exact .inr (.inl ⟨_, rfl⟩)
            · exact .inr (.inr ⟨_, rfl⟩)
            · exact .inr (.inr ⟨_, rfl⟩)
            · exact .inr (.inl ⟨_, rfl⟩)
          · nested_keys
            have k915 : Ex H9 H15 := ((k912.trans k13).trans g14.kp).trans k15
            have k515 := k59.trans k915
            refine ⟨Y2, zs, _, _, _, _, _, _, _, hY5, ⟨k515, by simp, fun y m => ?_⟩, paired_mono hz fun _ _ q => q.up k915.t, rfl⟩
            rw [List.mem_singleton.mp m]
            exact k915.exget hY9
  · rintro σ H' ⟨Y, yks, v4, v7, v8, v9, v11, v12, v13, hY, gY, hyk, rfl⟩
    nested_keys
    exact k H' (k5.trans gY.kp)

end K87

namespace K87
open PySem PySem.Spec PyProof.Rows L2
local macro_rules | `(tactic| kxs_still) => `(tactic| with_unfolding_all rfl)
local macro_rules | `(tactic| lcg_sub) => `(tactic| first
  | assumption
  | (apply Cfg.get (i := 0) <;> first | assumption | kxs_still)
  | (apply Cfg.get (i := 1) <;> first | assumption | kxs_still)
  | (apply Cfg.get (i := 2) <;> first | assumption | kxs_still)
  | (apply Cfg.get (i := 3) <;> first | assumption | kxs_still)
  | (apply Cfg.get (i := 4) <;> first | assumption | kxs_still)
  | (apply Cfg.get (i := 5) <;> first | assumption | kxs_still)
  | (apply Cfg.get (i := 6) <;> first | assumption | kxs_still)
  | (apply Cfg.get (i := 7) <;> first | assumption | kxs_still)
  | (apply Cfg.get (i := 8) <;> first | assumption | kxs_still)
  | (apply Cfg.get (i := 9) <;> first | assumption | kxs_still)
  | (apply Cfg.get (i := 0) <;> first | (apply Bfg.toCfg; assumption) | kxs_still)
  | (apply Cfg.get (i := 1) <;> first | (apply Bfg.toCfg; assumption) | kxs_still)
  | (apply Cfg.get (i := 2) <;> first | (apply Bfg.toCfg; assumption) | kxs_still)
  | (apply Cfg.get (i := 3) <;> first | (apply Bfg.toCfg; assumption) | kxs_still)
  | (apply Cfg.get (i := 4) <;> first | (apply Bfg.toCfg; assumption) | kxs_still)
  | (apply Cfg.get (i := 5) <;> first | (apply Bfg.toCfg; assumption) | kxs_still)
  | (apply Cfg.get (i := 6) <;> first | (apply Bfg.toCfg; assumption) | kxs_still)
  | (apply Cfg.get (i := 7) <;> first | (apply Bfg.toCfg; assumption) | kxs_still)
  | (apply Cfg.get (i := 8) <;> first | (apply Bfg.toCfg; assumption) | kxs_still)
  | (apply Cfg.get (i := 9) <;> first | (apply Bfg.toCfg; assumption) | kxs_still))
local macro_rules | `(tactic| kas_types) => `(tactic| first
  | assumption | decide | omega | exact Or.inl (by omega) | exact Or.inr (by omega) | exact ⟨by omega, by omega⟩ | exact ⟨by omega, by omega, by omega⟩)
local macro_rules | `(tactic| keq_hits) => `(tactic| simp only [u_var, u_c, u_op, u_un, u_test, u_tB, u_bl, u_I0, u_eqS, u_eqI, u_neS, u_neI, u_seq, u_next, u_asg, u_name, u_ret, u_retN, u_drop, u_ifS, u_ifE, u_and, u_or, u_not, u_andV, u_orV, u_notV, u_nil, u_cons, u_call, u_cb, u_tup, u_lst, u_sub, u_gNil, u_gCons, u_bm, u_m1, u_isS, u_sl, u_noPart, u_part, u_partk, u_par, u_par2, u_for, u_lc, u_rng1, u_itL, u_itT, u_yes, u_fldI, u_putI, u_newI, u_methI, u_make, u_some, u_i0, u_i1, u_K, L2.start, wipe, List.map_cons, List.map_nil, List.length_cons, List.length_nil, List.replicate_succ, List.replicate_zero, List.cons_append, List.nil_append, List.set_cons_zero, List.set_cons_succ, ite_true, ite_false, if_true, if_false, Bool.false_eq_true, colV, washV, kindV, teamV, rowV, coolV, deedV, batRef_none, batRef_some, u_par3, u_par33, u_augI, u_dget, u_din, u_dnotin, u_dget2, u_dget1, u_dpop1, u_dput, u_setD, u_dnewK, u_dnewT, decide_true, decide_false, Bool.not_true, Bool.not_false, Option.map_none, Option.map_some, Option.isSome_none, Option.isSome_some, Option.getD_some, Option.getD_none, vn_non, vn_ref, vn_str, vn_int, wd_fill_fill, wd_fill_gather, wd_fill_wash, wd_fill_empty, wd_fill_break, wd_fill_new, wd_gather_fill, wd_gather_gather, wd_gather_wash, wd_gather_empty, wd_gather_break, wd_gather_new, wd_wash_fill, wd_wash_gather, wd_wash_wash, wd_wash_empty, wd_wash_break, wd_wash_new, wd_empty_fill, wd_empty_gather, wd_empty_wash, wd_empty_empty, wd_empty_break, wd_empty_new, wd_break_fill, wd_break_gather, wd_break_wash, wd_break_empty, wd_break_break, wd_break_new, wd_new_fill, wd_new_gather, wd_new_wash, wd_new_empty, wd_new_break, wd_new_new, wd_nil, wd_none, wd_broken, wd_busy, wd_glass, wd_name, wd_cold, wd_rank, wd_less, wd_full, wd_whole, inw_fill, inw_gather, inw_wash, inw_empty, inw_break, inw_new, u_itemsT, u_itemsK, u_keysK, u_lk, u_ckw, eq_self, true_and, and_true])
local macro_rules | `(tactic| nested_keys) => `(tactic| repeat first
  | (with_reducible apply w_nx)
  | (with_reducible apply w_blk)
  | (with_reducible apply w_I; (· with_unfolding_all kas_types))
  | (with_reducible apply w_ixT; (· lcg_sub); (· kxs_still))
  | (with_reducible apply w_ixL; (· lcg_sub); (· kxs_still))
  | (with_reducible apply w_fldI; (· lcg_sub); (· kxs_still))
  | (with_reducible apply w_methI; (· lcg_sub))
  | (with_reducible apply w_augO; (· lcg_sub); (· kxs_still))
  | (with_reducible apply w_dgetS; (· lcg_sub); (· assumption))
  | (with_reducible apply w_dinS; (· lcg_sub))
  | (with_reducible apply w_dnotinS; (· lcg_sub))
  | (with_reducible apply w_isD; (· lcg_sub))
  | (with_reducible apply w_inT; (· lcg_sub); (· with_unfolding_all rfl))
  | (with_reducible apply w_sz; (· with_unfolding_all exact Nat.le_of_ble_eq_true rfl))
  | (with_reducible apply w_gTup; (· lcg_sub); (· kxs_still))
  | (with_reducible apply w_tyL; (· lcg_sub))
  | (with_reducible apply w_rng1k; (· with_unfolding_all kas_types); (· with_unfolding_all kas_types))
  | (with_reducible apply w_itLk; (· lcg_sub))
  | (with_reducible apply w_itTk; (· lcg_sub))
  | (with_reducible apply w_lenL; (· lcg_sub))
  | (with_reducible apply w_lenT; (· lcg_sub))
  | (with_reducible apply w_lenS; (· with_unfolding_all kas_types))
  | (with_reducible apply w_ixaL; (· lcg_sub); (· kxs_still))
  | (with_reducible apply w_ixaT; (· lcg_sub); (· kxs_still))
  | (with_reducible apply w_ixaS; (· with_unfolding_all kas_types); (· kxs_still))
  | (with_reducible apply w_ixS; (· with_unfolding_all kas_types); (· kxs_still))
  | (with_reducible apply w_slL; (· lcg_sub))
  | (with_reducible apply w_slS; (· with_unfolding_all kas_types))
  | (with_reducible apply w_addS; (· with_unfolding_all kas_types))
  | (with_reducible apply w_listL; (· lcg_sub))
  | (with_reducible apply w_tupL; (· lcg_sub))
  | (with_reducible apply w_divmod; (· with_unfolding_all kas_types))
  | (simp only [u_var, u_c, u_op, u_un, u_test, u_tB, u_bl, u_I0, u_eqS, u_eqI, u_neS, u_neI, u_seq, u_next, u_asg, u_name, u_ret, u_retN, u_drop, u_ifS, u_ifE, u_and, u_or, u_not, u_andV, u_orV, u_notV, u_nil, u_cons, u_call, u_cb, u_tup, u_lst, u_sub, u_gNil, u_gCons, u_bm, u_m1, u_isS, u_sl, u_noPart, u_part, u_partk, u_par, u_par2, u_for, u_lc, u_rng1, u_itL, u_itT, u_yes, u_fldI, u_putI, u_newI, u_methI, u_make, u_some, u_i0, u_i1, u_K, L2.start, wipe, List.map_cons, List.map_nil, List.length_cons, List.length_nil, List.replicate_succ, List.replicate_zero, List.cons_append, List.nil_append, List.set_cons_zero, List.set_cons_succ, ite_true, ite_false, if_true, if_false, Bool.false_eq_true, colV, washV, kindV, teamV, rowV, coolV, deedV, batRef_none, batRef_some, u_par3, u_par33, u_augI, u_dget, u_din, u_dnotin, u_dget2, u_dget1, u_dpop1, u_dput, u_setD, u_dnewK, u_dnewT, decide_true, decide_false, Bool.not_true, Bool.not_false, Option.map_none, Option.map_some, Option.isSome_none, Option.isSome_some, Option.getD_some, Option.getD_none, vn_non, vn_ref, vn_str, vn_int, wd_fill_fill, wd_fill_gather, wd_fill_wash, wd_fill_empty, wd_fill_break, wd_fill_new, wd_gather_fill, wd_gather_gather, wd_gather_wash, wd_gather_empty, wd_gather_break, wd_gather_new, wd_wash_fill, wd_wash_gather, wd_wash_wash, wd_wash_empty, wd_wash_break, wd_wash_new, wd_empty_fill, wd_empty_gather, wd_empty_wash, wd_empty_empty, wd_empty_break, wd_empty_new, wd_break_fill, wd_break_gather, wd_break_wash, wd_break_empty, wd_break_break, wd_break_new, wd_new_fill, wd_new_gather, wd_new_wash, wd_new_empty, wd_new_break, wd_new_new, wd_nil, wd_none, wd_broken, wd_busy, wd_glass, wd_name, wd_cold, wd_rank, wd_less, wd_full, wd_whole, inw_fill, inw_gather, inw_wash, inw_empty, inw_break, inw_new, u_itemsT, u_itemsK, u_keysK, u_lk, u_ckw, eq_self, true_and, and_true])
  | (with_reducible apply w_eq; (· kxs_still))
  | (with_reducible apply w_ne; (· kxs_still)))
theorem washes_ts {H : Hp} : ∀ {ws : List V}, (∀ x ∈ ws, WashV x H) → ∃ wl, Ts H washV ws wl
  | [], _ => ⟨[], Ts.nil⟩
  | x :: r, h => by
    obtain ⟨wl, ht⟩ := washes_ts (ws := r) fun y m => h y (List.mem_cons_of_mem _ m)
    obtain ⟨a, s1, s2, u, rfl, h1, h2⟩ := h x (List.mem_cons_self ..)
    rcases h2 with rfl | ⟨i, rfl⟩
    · exact ⟨(s1, s2, none) :: wl, .cons ⟨a, rfl, h1⟩ ht⟩
    · exact ⟨(s1, s2, some i) :: wl, .cons ⟨a, rfl, h1⟩ ht⟩
/-- a hall as drawn -/
structure HallGood (h : Hall) : Prop extends HallOk h where
  nc : 0 < h.cols.length
  nk : 0 < h.kinds.length
  nt : 0 < h.teams.length
  np : 0 < h.pots.length
  cool : ∀ r ∈ h.kinds, 1 ≤ r.2.2
  gath : ∀ r ∈ h.cols, 1 ≤ r.2.2.2
  pstr : ∀ p ∈ h.pots, sOk p = true
  cstr : ∀ r ∈ h.cols, sOk r.1 = true
theorem cut_mid (xs : List Str) (a b : Nat) (hb : b ≤ xs.length) (ha : a ≤ b) : cutV (xs.map V.str) (some (a : Int)) (some (b : Int)) = ((xs.drop a).take (b - a)).map V.str := by
  unfold cutV
  simp only [HT.sIx_nat, List.length_map, Nat.min_eq_left hb, Nat.min_eq_left (Nat.le_trans ha hb), ← List.map_drop, ← List.map_take]
def rEnum (K : PySem.W.Frag) (vs : List V) (R : It → Hp → Prop) (H1 : Hp) : Prop := ∃ a xs, vs = [.ref a] ∧ SqL K H1 a xs ∧ R (Ite K a) H1
theorem u_enum {K : PySem.W.Frag} {ta : TA} {σ : L2.St} {H : Hp} {R : It → Hp → Prop} : iEnum K ta σ H R = ta σ H fun vs H1 => rEnum K vs R H1 := rfl
theorem ne_of_none_bx {H : Hp} {bx p : Addr} {n : Nat} (b : BoxAt H bx n) (hp : H p = none) : bx ≠ p := by
  obtain ⟨_, _, _, h, _⟩ := b
  exact ne_of_none h hp
def NamesOk (ns : List Str) : Prop := 0 < ns.length ∧ ns.length ≤ 3 ∧ ∀ x ∈ ns, sOk x = true
def spHall : Sp := fun vs H Q _ => ∃ (bx : Addr) (n : Nat), vs = [.ref bx, .bl false] ∧ BoxAt H bx n ∧ n ≤ 800000 ∧
  ∀ (hv : Addr) (h : Hall) (H' : Hp), HallGood h → HallAt H' hv h → BoxAt H' bx (n + 1000) → KB bx H H' → Q (.ref hv) H'
theorem C_a_hall {P : Program} {w : World} {K : PySem.W.Frag} {mg : Str → Option Value} {base : Heap} (T : Txt K mg) : Cal P w K mg base 4 "_law_a_hall" ["_law_box", "_law_great"] spHall := by
  have C_some_names := C_some_names (P := P) (w := w) (base := base) T
  have C_some_washes := C_some_washes (P := P) (w := w) (base := base) T
  have C_take := C_take (P := P) (w := w) (base := base) T
  refine cal_mk T 51 rfl T.g_a_hall sc_a_hall rfl rfl (fun _ _ _ _ _ _ us hl => match us, hl with | [_, _], _ => rfl) (fun vs H Q E h => ?_) (fun f cdv A outer s H vs Q E hr h => ?_)
  · obtain ⟨bx, n, rfl, hb, hn, k⟩ := h
    rfl
  obtain ⟨bx, n, rfl, hb, hn, k⟩ := h
  refine ⟨_, (pss_cons (ps_asg (pe_tup (pa_cons (pe_cal C_some_names hr rfl (pa_cons (pv 0) (pa_cons pe_int pa_nil))) (pa_cons (pe_lst (pa_cons pe_int (pa_cons pe_int (pa_cons pe_int (pa_cons pe_int pa_nil))))) pa_nil))) (pg_tupK (K := K) (n := 2) rfl rfl (pgs_cons (pg_name (i := 2) sc_a_hall.nd rfl (Or.inr rfl)) (pgs_cons (pg_name (i := 3) sc_a_hall.nd rfl (Or.inl rfl)) pgs_nil))))
 (pss_cons (ps_if (pt_not (pt_val (pv 1))) (pss_one (ps_set (i := 3) sc_a_hall.nd rfl (Or.inl rfl) (pe_lst (pa_cons (pe_op op_add pe_int (pe_cal C_take (hr.mono (by decide)) rfl (pa_cons (pv 0) (pa_cons pe_int pa_nil)))) (pa_cons (pe_op op_add pe_int (pe_cal C_take (hr.mono (by decide)) rfl (pa_cons (pv 0) (pa_cons pe_int pa_nil)))) (pa_cons (pe_op op_add pe_int (pe_cal C_take (hr.mono (by decide)) rfl (pa_cons (pv 0) (pa_cons pe_int pa_nil)))) (pa_cons (pe_op op_add pe_int (pe_cal C_take (hr.mono (by decide)) rfl (pa_cons (pv 0) (pa_cons pe_int pa_nil)))) pa_nil))))))) pss_nil)
 (pss_cons (ps_set (i := 4) sc_a_hall.nd rfl (Or.inr rfl) (pe_cal C_take (hr.mono (by decide)) rfl (pa_cons (pv 0) (pa_cons pe_int pa_nil))))
 (pss_cons (ps_setLc (i := 5) (own := [("_law_k", 11), ("_law_many", 12)]) rfl sc_a_hall.nd rfl rfl (sw_true rfl rfl rfl (by decide +kernel)) (pi_enumK (K := K) rfl (by rfl) T.f_enumerate (pa_cons (pv 3) pa_nil)) (blkOk_by (own := [("_law_k", 11), ("_law_many", 12)]) (N := n_a_hall) (sc := defScope s_a_hall) (by decide +kernel)) (fun _ _ _ _ _ => (pg_tupK (K := K) (n := 2) rfl rfl (pgs_cons (pg_name (i := 11) sc_a_hall.nd rfl (Or.inl rfl)) (pgs_cons (pg_name (i := 12) sc_a_hall.nd rfl (Or.inl rfl)) pgs_nil)))) (fun _ _ _ _ _ => pts_nil) (fun _ _ _ _ _ => (pe_callB (cr_sortedSK (K := K) rfl) (by rfl) T.f_sorted (by decide +kernel) (pa_cons (pe_slice (sl_listK (K := K) rfl) (pv 2) (po_some (pe_op op_mul (pv 4) (pv 11))) (po_some (pe_op op_add (pe_op op_mul (pv 4) (pv 11)) (pv 12)))) pa_nil))))
 (pss_cons (ps_setLc (i := 6) (own := [("_law_name", 13)]) rfl sc_a_hall.nd rfl rfl (sw_true rfl rfl rfl (by decide +kernel)) (pi_listK (K := K) rfl (pe_ix (ix_listK (K := K) rfl) (pv 5) pe_int (fun _ _ => rfl))) (blkOk_by (own := [("_law_name", 13)]) (N := n_a_hall) (sc := defScope s_a_hall) (by decide +kernel)) (fun _ _ _ _ _ => (pg_name (i := 13) sc_a_hall.nd rfl (Or.inl rfl))) (fun _ _ _ _ _ => pts_nil) (fun _ _ _ _ _ => (pe_tup (pa_cons (pv 13) (pa_cons (pe_op op_add pe_int (pe_cal C_take (hr.mono (by decide)) rfl (pa_cons (pv 0) (pa_cons pe_int pa_nil)))) (pa_cons (pe_cal C_take (hr.mono (by decide)) rfl (pa_cons (pv 0) (pa_cons pe_int pa_nil))) (pa_cons (pe_op op_add pe_int (pe_cal C_take (hr.mono (by decide)) rfl (pa_cons (pv 0) (pa_cons pe_int pa_nil)))) pa_nil)))))))
 (pss_cons (ps_setLc (i := 7) (own := [("_law_name", 13)]) rfl sc_a_hall.nd rfl rfl (sw_true rfl rfl rfl (by decide +kernel)) (pi_listK (K := K) rfl (pe_ix (ix_listK (K := K) rfl) (pv 5) pe_int (fun _ _ => rfl))) (blkOk_by (own := [("_law_name", 13)]) (N := n_a_hall) (sc := defScope s_a_hall) (by decide +kernel)) (fun _ _ _ _ _ => (pg_name (i := 13) sc_a_hall.nd rfl (Or.inl rfl))) (fun _ _ _ _ _ => pts_nil) (fun _ _ _ _ _ => (pe_tup (pa_cons (pv 13) (pa_cons (pe_op op_add pe_int (pe_cal C_take (hr.mono (by decide)) rfl (pa_cons (pv 0) (pa_cons pe_int pa_nil)))) (pa_cons (pe_op op_add pe_int (pe_cal C_take (hr.mono (by decide)) rfl (pa_cons (pv 0) (pa_cons pe_int pa_nil)))) pa_nil))))))
 (pss_cons (ps_setLc (i := 8) (own := [("_law_name", 13)]) rfl sc_a_hall.nd rfl rfl (sw_true rfl rfl rfl (by decide +kernel)) (pi_listK (K := K) rfl (pe_ix (ix_listK (K := K) rfl) (pv 5) pe_int (fun _ _ => rfl))) (blkOk_by (own := [("_law_name", 13)]) (N := n_a_hall) (sc := defScope s_a_hall) (by decide +kernel)) (fun _ _ _ _ _ => (pg_name (i := 13) sc_a_hall.nd rfl (Or.inl rfl))) (fun _ _ _ _ _ => pts_nil) (fun _ _ _ _ _ => (pe_tup (pa_cons (pv 13) (pa_cons (pe_op op_add pe_int (pe_cal C_take (hr.mono (by decide)) rfl (pa_cons (pv 0) (pa_cons pe_int pa_nil)))) pa_nil)))))
 (pss_cons (ps_set (i := 9) sc_a_hall.nd rfl (Or.inl rfl) (pe_tup (pa_cons (pe_callTy (call_tupK (K := K) rfl) (by rfl) T.f_tuple (by decide +kernel) (pa_cons (pv 6) pa_nil)) (pa_cons (pe_cal C_some_washes (hr.mono (by decide)) rfl (pa_cons (pv 0) (pa_cons (pe_ix (ix_listK (K := K) rfl) (pv 5) pe_int (fun _ _ => rfl)) pa_nil))) pa_nil))))
 (pss_cons (ps_set (i := 10) sc_a_hall.nd rfl (Or.inl rfl) (pe_ix (ix_listK (K := K) rfl) (pe_lst (pa_cons (pe_cal C_take (hr.mono (by decide)) rfl (pa_cons (pv 0) (pa_cons pe_int pa_nil))) (pa_cons (pe_op op_add pe_int (pe_cal C_take (hr.mono (by decide)) rfl (pa_cons (pv 0) (pa_cons pe_int pa_nil)))) (pa_cons pe_int pa_nil)))) (pe_cal C_take (hr.mono (by decide)) rfl (pa_cons (pv 0) (pa_cons pe_int pa_nil))) (fun _ _ => rfl)))
 (pss_one (ps_ret (pe_tup (pa_cons (pv 9) (pa_cons (pe_callTy (call_tupK (K := K) rfl) (by rfl) T.f_tuple (by decide +kernel) (pa_cons (pv 7) pa_nil)) (pa_cons (pe_callTy (call_tupFK (K := K) rfl) (by rfl) T.f_tuple (by decide +kernel) (pa_cons (pv 8) pa_nil)) (pa_cons (pe_callTy (call_tupK (K := K) rfl) (by rfl) T.f_tuple (by decide +kernel) (pa_cons (pe_ix (ix_listK (K := K) rfl) (pv 5) pe_int (fun _ _ => rfl)) pa_nil)) (pa_cons (pv 10) (pa_cons (pe_ix (ix_listK (K := K) rfl) (pv 2) (pe_un un_neg pe_int) (fun _ _ => rfl)) pa_nil)))))))))))))))))), ?_⟩
  nested_keys
  refine ⟨bx, n, rfl, hb, by omega, fun pool names H1 hp0 hnl hns hpool hb1 k1 => ?_⟩
  have g := Bfg.start hb1
  nested_keys
  refine w_newB g fun sz H2 hsz g => ?_
  nested_keys
  refine w_newB g fun tp H3 htp g => ?_
  nested_keys
  refine w_take g (by omega) (by omega) (by omega) fun t1 H4 a1 b1 g => ?_
  nested_keys
  refine w_take g (by omega) (by omega) (by omega) fun t2 H5 a2 b2 g => ?_
  nested_keys
  refine w_take g (by omega) (by omega) (by omega) fun t3 H6 a3 b3 g => ?_
  nested_keys
  refine w_take g (by omega) (by omega) (by omega) fun t4 H7 a4 b4 g => ?_
  nested_keys
  refine w_newB g fun sz2 H8 hsz2 g => ?_
  nested_keys
  refine w_take g (by omega) (by omega) (by omega) fun fst H9 a5 b5 g => ?_
  have pool_bx : pool ≠ bx := by
    obtain ⟨_, _, _, h, _⟩ := hb
    exact (ne_of_none h hp0).symm
  have hpool9 := g.kp.kp _ _ hpool pool_bx
  have hsz9 : H9 sz2 = some (.lst [.int (1 + t1), .int (1 + t2), .int (1 + t3), .int (1 + t4)]) := g.get 0 rfl
  have k9 := k1.trans g.kp
  have b9 := g.box
  clear g
  nested_keys
  simp only [u_enum]
  nested_keys
  refine ⟨sz2, _, rfl, SqL.of hsz9, ?_⟩
  intro U hU
  refine lc_it walk_enum (fun i H' => ∃ ls : List (Addr × List Str), ls.length = i ∧ (∀ x ∈ ls, H' x.1 = some (.lst (x.2.map V.str)) ∧ NamesOk x.2 ∧ x.1 ≠ U) ∧ Cfg no H9 [(U, .lst (ls.map fun x => V.ref x.1))] H') ⟨[], rfl, by simp, Cfg.nil.new hU⟩ (fun i H' _ ⟨_, _, _, g⟩ => SqL.of (g.kp.exget hsz9)) ?_ ?_
  · rintro i v H' H2 hi ⟨ls, hls, hlx, g⟩ ⟨T, x, y, rfl, hT, rfl, e1, e2⟩
    have hi : i < 4 := hi
    cases e1
    have hy : ∃ t : Int, y = .int t ∧ 1 ≤ t ∧ t ≤ 3 := by
      match i, hi, e2 with
      | 0, _, e => exact ⟨_, (Option.some.inj e).symm, by omega, by omega⟩
      | 1, _, e => exact ⟨_, (Option.some.inj e).symm, by omega, by omega⟩
      | 2, _, e => exact ⟨_, (Option.some.inj e).symm, by omega, by omega⟩
      | 3, _, e => exact ⟨_, (Option.some.inj e).symm, by omega, by omega⟩
    obtain ⟨t, rfl, ht1, ht3⟩ := hy
    have kT : Ex H' (upd H' T (.tup [.int (i : Nat), .int t])) := Kp.new hT
    have hT2 : upd H' T (.tup [.int (i : Nat), .int t]) T = some (.tup [.int (i : Nat), .int t]) := upd_same
    have g := g.ex kT
    have hlx : ∀ x ∈ ls, upd H' T (.tup [.int (i : Nat), .int t]) x.1 = some (.lst (x.2.map V.str)) ∧ NamesOk x.2 ∧ x.1 ≠ U := fun x m => ⟨kT.exget (hlx x m).1, (hlx x m).2⟩
    show gTup K 2 _ (.ref T) _ (upd H' T (.tup [.int (i : Nat), .int t])) _
    generalize upd H' T (.tup [.int (i : Nat), .int t]) = H3 at kT hT2 g hlx
    have hp3 := g.kp.exget hpool9
    nested_keys
    obtain ⟨f0, rfl⟩ := Int.eq_ofNat_of_zero_le a5
    obtain ⟨t0, rfl⟩ := Int.eq_ofNat_of_zero_le (show 0 ≤ t by omega)
    have ea : ((f0 : Int) * (i : Int)) = ((f0 * i : Nat) : Int) := by push_cast; rfl
    have eb : ((f0 : Int) * (i : Int) + (t0 : Int)) = ((f0 * i + t0 : Nat) : Int) := by push_cast; rfl
    have hfi : f0 * i ≤ 3 := by
      have : f0 ≤ 1 := by omega
      exact Nat.le_trans (Nat.mul_le_mul this (show i ≤ 3 by omega)) (by decide)
    rw [eb, ea, cut_mid names _ _ (by omega) (by omega)]
    intro p1 hp1
    have hxl : ((names.drop (f0 * i)).take (f0 * i + t0 - f0 * i)).length = t0 := by rw [List.length_take, List.length_drop]; omega
    have hxs : ∀ x ∈ (names.drop (f0 * i)).take (f0 * i + t0 - f0 * i), sOk x = true := fun x m => hns x (List.mem_of_mem_drop (List.mem_of_mem_take m))
    generalize (names.drop (f0 * i)).take (f0 * i + t0 - f0 * i) = xs at hxl hxs
    have k1' : Ex H3 (upd H3 p1 (.lst (xs.map V.str))) := Kp.new hp1
    have h1' : upd H3 p1 (.lst (xs.map V.str)) p1 = some (.lst (xs.map V.str)) := upd_same
    have g := g.ex k1'
    have hlx : ∀ x ∈ ls, upd H3 p1 (.lst (xs.map V.str)) x.1 = some (.lst (x.2.map V.str)) ∧ NamesOk x.2 ∧ x.1 ≠ U := fun x m => ⟨k1'.exget (hlx x m).1, (hlx x m).2⟩
    generalize upd H3 p1 (.lst (xs.map V.str)) = H4 at k1' h1' g hlx
    refine ⟨p1, xs, rfl, SqL.of h1', by omega, fun ys p2 hperm _ hp2 => ?_⟩
    have pU : p2 ≠ U := (ne_of_none g.hd hp2).symm
    have k2' : Ex H4 (upd H4 p2 (.lst (ys.map V.str))) := Kp.new hp2
    have h2' : upd H4 p2 (.lst (ys.map V.str)) p2 = some (.lst (ys.map V.str)) := upd_same
    have g := g.ex k2'
    have hlx : ∀ x ∈ ls, upd H4 p2 (.lst (ys.map V.str)) x.1 = some (.lst (x.2.map V.str)) ∧ NamesOk x.2 ∧ x.1 ≠ U := fun x m => ⟨k2'.exget (hlx x m).1, (hlx x m).2⟩
    have gw := g.wr (o := .lst ((ls.map fun x => V.ref x.1) ++ [.ref p2])) 0 rfl (fun _ z => by cases z) (.inr hU)
    refine ⟨_, g.hd, by rw [List.length_map]; exact small1000 (by omega), ls ++ [(p2, ys)], by simp [hls], fun x m => ?_, by rw [List.map_append]; exact gw⟩
    rcases List.mem_append.mp m with m | m
    · obtain ⟨q1, q2, q3⟩ := hlx x m
      exact ⟨by rw [upd_ne q3]; exact q1, q2, q3⟩
    · rw [List.mem_singleton.mp m]
      refine ⟨by rw [upd_ne pU]; exact h2', ⟨?_, ?_, fun x mx => hxs x (hperm.mem_iff.mp mx)⟩, pU⟩
      · show 0 < ys.length
        rw [hperm.length_eq]; omega
      · show ys.length ≤ 3
        rw [hperm.length_eq]; omega
  rintro Hm ⟨ls, hls, hlx, g⟩
  have hls : ls.length = 4 := hls
  match ls, hls, hlx, g with
  | [(l0, n0), (l1, n1), (l2, n2), (l3, n3)], _, hlx, g =>
  obtain ⟨hl0, o0, _⟩ := hlx (l0, n0) (by simp)
  obtain ⟨hl1, o1, _⟩ := hlx (l1, n1) (by simp)
  obtain ⟨hl2, o2, _⟩ := hlx (l2, n2) (by simp)
  obtain ⟨hl3, o3, _⟩ := hlx (l3, n3) (by simp)
  dsimp only at hl0 hl1 hl2 hl3 o0 o1 o2 o3
  have hU' : Hm U = some (.lst [.ref l0, .ref l1, .ref l2, .ref l3]) := g.hd
  have bm := b9.ex g.kp
  have km := k9.trans g.kp.ex
  have hpm := g.kp.exget hpool9
  clear hlx
  have nb : ∀ {a : Addr} {xs : List V}, (∃ s r, xs = .str s :: r) ∨ (∃ s r, xs = .ref s :: r) → Hm a = some (.lst xs) → a ≠ bx := by
    intro a xs hxs ha e
    obtain ⟨x, y, z, hbx, _⟩ := bm
    rw [e, hbx] at ha
    have q := HO.lst.inj (Option.some.inj ha)
    rcases hxs with ⟨s, r, rfl⟩ | ⟨s, r, rfl⟩
    · cases q
    · cases q
  have nbs : ∀ {a : Addr} {ns : List Str}, NamesOk ns → Hm a = some (.lst (ns.map V.str)) → a ≠ bx := by
    intro a ns hn ha
    match ns, hn with
    | s :: r, _ => exact nb (.inl ⟨s, r.map V.str, rfl⟩) ha
    | [], hn => exact absurd hn.1 (by decide)
  have hU_bx := nb (.inr ⟨l0, _, rfl⟩) hU'
  have hU := hU'
  have hpool := hpm
  have hpool_bx := pool_bx
  have gm : Bfg bx (n + 110) Hm [] Hm := (Bfg.start bm).le (by omega)
  have hl0_bx := nbs o0 hl0
  have hl1_bx := nbs o1 hl1
  have hl2_bx := nbs o2 hl2
  have hl3_bx := nbs o3 hl3
  nested_keys
  intro C1 hC1
  have hC1_bx : C1 ≠ bx := (ne_of_none_bx gm.box hC1).symm
  refine lc_list (K := K) (a := l0) (xs := n0.map V.str) (fun i H' => ∃ (us : List V) (cs : List (Str × Int × Int × Int)), us.length = i ∧ Ts H' colV us cs ∧ cs.map (·.1) = n0.take i ∧ (∀ r ∈ cs, 1 ≤ r.2.2.2) ∧ Bfg bx (n + 110 + 3 * i) Hm [(C1, .lst us)] H')
    ⟨[], [], rfl, Ts.nil, rfl, by simp, gm.new hC1⟩ (fun i H' _ ⟨_, _, _, _, _, _, g⟩ => SqL.of (g.kp.kp _ _ hl0 hl0_bx)) ?_ ?_
  · rintro i v H' hv' ⟨us, cs, hus, hts, hcs, hcc, g⟩
    rw [List.getElem?_map] at hv'
    obtain ⟨s, hs, rfl⟩ := Option.map_eq_some_iff.mp hv'
    have hi := get_lt hs
    have hl3 := o0.2.1
    nested_keys
    refine w_takeT g (by omega) (by omega) (by omega) fun d0 G0 x0 y0 g t0 => ?_
    nested_keys
    refine w_takeT g (by omega) (by omega) (by omega) fun d1 G1 x1 y1 g t1 => ?_
    nested_keys
    refine w_takeT g (by omega) (by omega) (by omega) fun d2 G2 x2 y2 g t2 => ?_
    nested_keys
    refine w_newBT g fun tp Gt htp g tt => ?_
    have gw := (g.sub (D' := [(C1, .lst us)]) (List.sublist_cons_self _ _)).wr (o := .lst (us ++ [.ref tp])) 0 rfl (fun _ z => by cases z) (gm.kp.nn hC1)
    have tw : Tp Gt (upd Gt C1 (.lst (us ++ [.ref tp]))) := tp_wr (g.get 1 rfl) (fun _ z => by cases z)
    have tall : Tp H' _ := ((((t0.trans t1).trans t2).trans tt).trans tw)
    refine ⟨_, g.get 1 rfl, by rw [hus]; exact small1000 (by omega), us ++ [V.ref tp], cs ++ [(s, 1 + d0, d1, 1 + d2)], by simp [hus], (hts.mono tall).snoc (tw _ _ (g.get 0 rfl)), by rw [List.map_append, hcs, take_snoc hs]; rfl, fun r m => ?_, gw.le (by omega)⟩
    rcases List.mem_append.mp m with m | m
    · exact hcc r m
    · first
        | trivial
        | (rw [List.mem_singleton.mp m]
           show (1 : Int) ≤ 1 + _
           omega)
  rintro HC1 ⟨usC1, csC1, husC1, htsC1, hcsC1, hccC1, g⟩
  rw [List.length_map, List.take_length] at hcsC1
  have hlC1 : csC1.length = n0.length := by rw [← hcsC1, List.length_map]
  have hlnC1 := o0.2.1
  have kC1 := g.kp
  have gC1 : Bfg bx (n + 110 + 10) HC1 [] HC1 := ((g.sub (D' := []) (List.nil_sublist _)).rebase).le (by rw [List.length_map]; omega)
  have hU := kC1.kp _ _ hU hU_bx
  have hpool := kC1.kp _ _ hpool hpool_bx
  have hl0 := kC1.kp _ _ hl0 hl0_bx
  have hl1 := kC1.kp _ _ hl1 hl1_bx
  have hl2 := kC1.kp _ _ hl2 hl2_bx
  have hl3 := kC1.kp _ _ hl3 hl3_bx
  have hC1 : HC1 C1 = some (.lst usC1) := g.get 0 rfl
  nested_keys
  intro C2 hC2
  have hC2_bx : C2 ≠ bx := (ne_of_none_bx gC1.box hC2).symm
  refine lc_list (K := K) (a := l1) (xs := n1.map V.str) (fun i H' => ∃ (us : List V) (cs : List (Str × Int × Int)), us.length = i ∧ Ts H' kindV us cs ∧ cs.map (·.1) = n1.take i ∧ (∀ r ∈ cs, 1 ≤ r.2.2) ∧ Bfg bx (n + 110 + 10 + 2 * i) HC1 [(C2, .lst us)] H')
    ⟨[], [], rfl, Ts.nil, rfl, by simp, gC1.new hC2⟩ (fun i H' _ ⟨_, _, _, _, _, _, g⟩ => SqL.of (g.kp.kp _ _ hl1 hl1_bx)) ?_ ?_
  · rintro i v H' hv' ⟨us, cs, hus, hts, hcs, hcc, g⟩
    rw [List.getElem?_map] at hv'
    obtain ⟨s, hs, rfl⟩ := Option.map_eq_some_iff.mp hv'
    have hi := get_lt hs
    have hl3 := o1.2.1
    nested_keys
    refine w_takeT g (by omega) (by omega) (by omega) fun d0 G0 x0 y0 g t0 => ?_
    nested_keys
    refine w_takeT g (by omega) (by omega) (by omega) fun d1 G1 x1 y1 g t1 => ?_
    nested_keys
    refine w_newBT g fun tp Gt htp g tt => ?_
    have gw := (g.sub (D' := [(C2, .lst us)]) (List.sublist_cons_self _ _)).wr (o := .lst (us ++ [.ref tp])) 0 rfl (fun _ z => by cases z) (gC1.kp.nn hC2)
    have tw : Tp Gt (upd Gt C2 (.lst (us ++ [.ref tp]))) := tp_wr (g.get 1 rfl) (fun _ z => by cases z)
    have tall : Tp H' _ := (((t0.trans t1).trans tt).trans tw)
    refine ⟨_, g.get 1 rfl, by rw [hus]; exact small1000 (by omega), us ++ [V.ref tp], cs ++ [(s, 1 + d0, 1 + d1)], by simp [hus], (hts.mono tall).snoc (tw _ _ (g.get 0 rfl)), by rw [List.map_append, hcs, take_snoc hs]; rfl, fun r m => ?_, gw.le (by omega)⟩
    rcases List.mem_append.mp m with m | m
    · exact hcc r m
    · first
        | trivial
        | (rw [List.mem_singleton.mp m]
           show (1 : Int) ≤ 1 + _
           omega)
  rintro HC2 ⟨usC2, csC2, husC2, htsC2, hcsC2, hccC2, g⟩
  rw [List.length_map, List.take_length] at hcsC2
  have hlC2 : csC2.length = n1.length := by rw [← hcsC2, List.length_map]
  have hlnC2 := o1.2.1
  have kC2 := g.kp
  have gC2 : Bfg bx (n + 110 + 10 + 10) HC2 [] HC2 := ((g.sub (D' := []) (List.nil_sublist _)).rebase).le (by rw [List.length_map]; omega)
  have hU := kC2.kp _ _ hU hU_bx
  have hpool := kC2.kp _ _ hpool hpool_bx
  have hl0 := kC2.kp _ _ hl0 hl0_bx
  have hl1 := kC2.kp _ _ hl1 hl1_bx
  have hl2 := kC2.kp _ _ hl2 hl2_bx
  have hl3 := kC2.kp _ _ hl3 hl3_bx
  have hC1 := kC2.kp _ _ hC1 hC1_bx
  have hC2 : HC2 C2 = some (.lst usC2) := g.get 0 rfl
  have htsC1 := htsC1.mono kC2.t
  nested_keys
  intro C3 hC3
  have hC3_bx : C3 ≠ bx := (ne_of_none_bx gC2.box hC3).symm
  refine lc_list (K := K) (a := l2) (xs := n2.map V.str) (fun i H' => ∃ (us : List V) (cs : List (Str × Int)), us.length = i ∧ Ts H' teamV us cs ∧ cs.map (·.1) = n2.take i ∧ (∀ r ∈ cs, True) ∧ Bfg bx (n + 110 + 10 + 10 + 1 * i) HC2 [(C3, .lst us)] H')
    ⟨[], [], rfl, Ts.nil, rfl, by simp, gC2.new hC3⟩ (fun i H' _ ⟨_, _, _, _, _, _, g⟩ => SqL.of (g.kp.kp _ _ hl2 hl2_bx)) ?_ ?_
  · rintro i v H' hv' ⟨us, cs, hus, hts, hcs, hcc, g⟩
    rw [List.getElem?_map] at hv'
    obtain ⟨s, hs, rfl⟩ := Option.map_eq_some_iff.mp hv'
    have hi := get_lt hs
    have hl3 := o2.2.1
    nested_keys
    refine w_takeT g (by omega) (by omega) (by omega) fun d0 G0 x0 y0 g t0 => ?_
    nested_keys
    refine w_newBT g fun tp Gt htp g tt => ?_
    have gw := (g.sub (D' := [(C3, .lst us)]) (List.sublist_cons_self _ _)).wr (o := .lst (us ++ [.ref tp])) 0 rfl (fun _ z => by cases z) (gC2.kp.nn hC3)
    have tw : Tp Gt (upd Gt C3 (.lst (us ++ [.ref tp]))) := tp_wr (g.get 1 rfl) (fun _ z => by cases z)
    have tall : Tp H' _ := ((t0.trans tt).trans tw)
    refine ⟨_, g.get 1 rfl, by rw [hus]; exact small1000 (by omega), us ++ [V.ref tp], cs ++ [(s, 1 + d0)], by simp [hus], (hts.mono tall).snoc (tw _ _ (g.get 0 rfl)), by rw [List.map_append, hcs, take_snoc hs]; rfl, fun r m => ?_, gw.le (by omega)⟩
    rcases List.mem_append.mp m with m | m
    · exact hcc r m
    · first
        | trivial
        | (rw [List.mem_singleton.mp m]
           show (1 : Int) ≤ 1 + _
           omega)
  rintro HC3 ⟨usC3, csC3, husC3, htsC3, hcsC3, hccC3, g⟩
  rw [List.length_map, List.take_length] at hcsC3
  have hlC3 : csC3.length = n2.length := by rw [← hcsC3, List.length_map]
  have hlnC3 := o2.2.1
  have kC3 := g.kp
  have gC3 : Bfg bx (n + 110 + 10 + 10 + 10) HC3 [] HC3 := ((g.sub (D' := []) (List.nil_sublist _)).rebase).le (by rw [List.length_map]; omega)
  have hU := kC3.kp _ _ hU hU_bx
  have hpool := kC3.kp _ _ hpool hpool_bx
  have hl0 := kC3.kp _ _ hl0 hl0_bx
  have hl1 := kC3.kp _ _ hl1 hl1_bx
  have hl2 := kC3.kp _ _ hl2 hl2_bx
  have hl3 := kC3.kp _ _ hl3 hl3_bx
  have hC1 := kC3.kp _ _ hC1 hC1_bx
  have hC2 := kC3.kp _ _ hC2 hC2_bx
  have hC3 : HC3 C3 = some (.lst usC3) := g.get 0 rfl
  have htsC1 := htsC1.mono kC3.t
  have htsC2 := htsC2.mono kC3.t
  nested_keys
  refine w_newBT gC3 fun co Hc hco g tc => ?_
  have hl0c := g.kp.kp _ _ hl0 hl0_bx
  have hUc := g.kp.kp _ _ hU hU_bx
  have hco' : Hc co = some (.tup usC1) := g.get 0 rfl
  nested_keys
  refine ⟨bx, _, l0, n0, rfl, g.box, by omega, hl0c, hl0_bx, o0.2.1, fun wa ws Hw hwl hwa hwx hbw kw => ?_⟩
  have g := g.draw kw hbw
  have hco' := kw.t _ _ hco'
  nested_keys
  refine w_newBT g fun pal Hp hpal g tp => ?_
  have hpal' : Hp pal = some (.tup [.ref co, .ref wa]) := g.get 0 rfl
  have hwa := tp _ _ hwa
  have hco' := tp _ _ hco'
  have hwx := fun x m => (hwx x m).up tp
  nested_keys
  refine w_takeT g (by omega) (by omega) (by omega) fun s1 Hs1 x1 y1 g u1 => ?_
  nested_keys
  refine w_takeT g (by omega) (by omega) (by omega) fun s2 Hs2 x2 y2 g u2 => ?_
  nested_keys
  refine w_newBT g fun sl Hs3 hsl g u3 => ?_
  nested_keys
  refine w_takeT g (by omega) (by omega) (by omega) fun s3 Hs4 x3 y3 g u4 => ?_
  obtain ⟨j3, v3, rfl, e1, e2⟩ := at_lt (xs := [V.int s1, .int (2 + s2), .int 60]) x3 y3
  have hsv : ∃ s : Int, v3 = .int s ∧ 0 ≤ s ∧ s ≤ 60 := by
    match j3, e1 with
    | 0, e => exact ⟨_, (Option.some.inj e).symm, by omega, by omega⟩
    | 1, e => exact ⟨_, (Option.some.inj e).symm, by omega, by omega⟩
    | 2, e => exact ⟨_, (Option.some.inj e).symm, by omega, by omega⟩
    | k + 3, e => simp at e
  obtain ⟨sv, rfl, sv0, sv1⟩ := hsv
  have tall := ((tp.trans u1).trans u2).trans (u3.trans u4)
  have hC2e := g.kp.kp _ _ hC2 hC2_bx
  have hUe := g.kp.kp _ _ hU hU_bx
  nested_keys
  refine w_newBT g fun ki Hk hki g v1 => ?_
  have hki' : Hk ki = some (.tup usC2) := g.get 0 rfl
  have hC3k := g.kp.kp _ _ ‹HC3 C3 = some (.lst usC3)› hC3_bx
  nested_keys
  refine ⟨C3, usC3, rfl, SqL.of hC3k, fun te oo hte hoo => ?_⟩
  have g := g.new (o := .frz oo (.tup usC3)) hte
  have v2 : Tp Hk (upd Hk te (.frz oo (.tup usC3))) := (Kp.new (S := no) hte).tp
  generalize upd Hk te (.frz oo (.tup usC3)) = Ht at g v2
  have hUt := g.kp.kp _ _ ‹HC3 U = some (.lst [.ref l0, .ref l1, .ref l2, .ref l3])› hU_bx
  have hl3t := g.kp.kp _ _ ‹HC3 l3 = some (.lst (n3.map V.str))› hl3_bx
  nested_keys
  refine w_newBT g fun po Hq hpo g v3 => ?_
  have hpo' : Hq po = some (.tup (n3.map V.str)) := g.get 0 rfl
  have hpq := g.kp.kp _ _ ‹HC3 pool = some (.lst (names.map V.str))› hpool_bx
  nested_keys
  refine ⟨1, rfl, ?_⟩
  have h21 : 21 < names.length := by omega
  have hat : atI (names.map V.str) (-1) = some (.str names[21]) := by
    unfold atI
    rw [show ixN (names.map V.str).length (-1) = some 21 by rw [List.length_map, hnl]; rfl]
    show (names.map V.str)[21]? = _
    rw [List.getElem?_map, List.getElem?_eq_getElem h21]; rfl
  refine w_ixL hpq hat ?_
  refine ⟨show 6 ≤ sizeLine by decide, ?_⟩
  refine w_newBT g fun hv Hz hhv g v4 => ?_
  obtain ⟨wl, hwl2⟩ := washes_ts hwx
  have vall := ((v1.trans v2).trans v3).trans v4
  have tz := (((u1.trans u2).trans (u3.trans u4)).trans vall)
  have tc3 : Tp HC3 Hz := ((tc.trans kw.t).trans tp).trans tz
  refine k hv ⟨csC1, wl, csC2, csC3, n3, sv, names[21]⟩ Hz ⟨⟨⟨sv0, sv1⟩, ?_, ?_, ?_, ?_⟩, ?_, ?_, ?_, o3.1, hccC2, hccC1, o3.2.2, fun r m => ?_⟩ ⟨pal, ki, te, po, g.get 0 rfl, ⟨co, wa, usC1, ws, tz _ _ hpal', tz _ _ hco', htsC1.mono tc3, tz _ _ hwa, hwl2.mono tz⟩, ⟨usC2, g.get 3 rfl, htsC2.mono tc3⟩, ⟨oo, usC3, g.get 2 rfl, hoo, htsC3.mono tc3⟩, g.get 1 rfl⟩ (g.box.le (by omega)) ?_
  · show csC1.length ≤ 100
    rw [hlC1]; exact Nat.le_trans o0.2.1 (by decide)
  · show csC2.length ≤ 100
    rw [hlC2]; exact Nat.le_trans o1.2.1 (by decide)
  · show csC3.length ≤ 100
    rw [hlC3]; exact Nat.le_trans o2.2.1 (by decide)
  · exact Nat.le_trans o3.2.1 (by decide)
  · show 0 < csC1.length
    rw [hlC1]; exact o0.1
  · show 0 < csC2.length
    rw [hlC2]; exact o1.1
  · show 0 < csC3.length
    rw [hlC3]; exact o2.1
  · have m2 : r.1 ∈ csC1.map (·.1) := List.mem_map.mpr ⟨r, m, rfl⟩
    rw [hcsC1] at m2
    exact o0.2.2 _ m2
  · exact (((km.trans kC1).trans kC2).trans kC3).trans g.kp

end K87

namespace K87
open PySem PySem.Spec PyProof.Rows L2
local macro_rules | `(tactic| kxs_still) => `(tactic| with_unfolding_all rfl)
local macro_rules | `(tactic| lcg_sub) => `(tactic| first
  | assumption
  | (apply Cfg.get (i := 0) <;> first | assumption | kxs_still)
  | (apply Cfg.get (i := 1) <;> first | assumption | kxs_still)
  | (apply Cfg.get (i := 2) <;> first | assumption | kxs_still)
  | (apply Cfg.get (i := 3) <;> first | assumption | kxs_still)
  | (apply Cfg.get (i := 4) <;> first | assumption | kxs_still)
  | (apply Cfg.get (i := 5) <;> first | assumption | kxs_still)
  | (apply Cfg.get (i := 6) <;> first | assumption | kxs_still)
  | (apply Cfg.get (i := 7) <;> first | assumption | kxs_still)
  | (apply Cfg.get (i := 8) <;> first | assumption | kxs_still)
  | (apply Cfg.get (i := 9) <;> first | assumption | kxs_still)
  | (apply Cfg.get (i := 0) <;> first | (apply Bfg.toCfg; assumption) | kxs_still)
  | (apply Cfg.get (i := 1) <;> first | (apply Bfg.toCfg; assumption) | kxs_still)
  | (apply Cfg.get (i := 2) <;> first | (apply Bfg.toCfg; assumption) | kxs_still)
  | (apply Cfg.get (i := 3) <;> first | (apply Bfg.toCfg; assumption) | kxs_still)
  | (apply Cfg.get (i := 4) <;> first | (apply Bfg.toCfg; assumption) | kxs_still)
  | (apply Cfg.get (i := 5) <;> first | (apply Bfg.toCfg; assumption) | kxs_still)
  | (apply Cfg.get (i := 6) <;> first | (apply Bfg.toCfg; assumption) | kxs_still)
  | (apply Cfg.get (i := 7) <;> first | (apply Bfg.toCfg; assumption) | kxs_still)
  | (apply Cfg.get (i := 8) <;> first | (apply Bfg.toCfg; assumption) | kxs_still)
  | (apply Cfg.get (i := 9) <;> first | (apply Bfg.toCfg; assumption) | kxs_still))
local macro_rules | `(tactic| kas_types) => `(tactic| first
  | assumption | decide | omega | exact Or.inl (by omega) | exact Or.inr (by omega) | exact ⟨by omega, by omega⟩ | exact ⟨by omega, by omega, by omega⟩)
local macro_rules | `(tactic| keq_hits) => `(tactic| simp only [u_var, u_c, u_op, u_un, u_test, u_tB, u_bl, u_I0, u_eqS, u_eqI, u_neS, u_neI, u_seq, u_next, u_asg, u_name, u_ret, u_retN, u_drop, u_ifS, u_ifE, u_and, u_or, u_not, u_andV, u_orV, u_notV, u_nil, u_cons, u_call, u_cb, u_tup, u_lst, u_sub, u_gNil, u_gCons, u_bm, u_m1, u_isS, u_sl, u_noPart, u_part, u_partk, u_par, u_par2, u_for, u_lc, u_rng1, u_itL, u_itT, u_yes, u_fldI, u_putI, u_newI, u_methI, u_make, u_some, u_i0, u_i1, u_K, L2.start, wipe, List.map_cons, List.map_nil, List.length_cons, List.length_nil, List.replicate_succ, List.replicate_zero, List.cons_append, List.nil_append, List.set_cons_zero, List.set_cons_succ, ite_true, ite_false, if_true, if_false, Bool.false_eq_true, colV, washV, kindV, teamV, rowV, coolV, deedV, batRef_none, batRef_some, u_par3, u_par33, u_augI, u_dget, u_din, u_dnotin, u_dget2, u_dget1, u_dpop1, u_dput, u_setD, u_dnewK, u_dnewT, decide_true, decide_false, Bool.not_true, Bool.not_false, Option.map_none, Option.map_some, Option.isSome_none, Option.isSome_some, Option.getD_some, Option.getD_none, vn_non, vn_ref, vn_str, vn_int, wd_fill_fill, wd_fill_gather, wd_fill_wash, wd_fill_empty, wd_fill_break, wd_fill_new, wd_gather_fill, wd_gather_gather, wd_gather_wash, wd_gather_empty, wd_gather_break, wd_gather_new, wd_wash_fill, wd_wash_gather, wd_wash_wash, wd_wash_empty, wd_wash_break, wd_wash_new, wd_empty_fill, wd_empty_gather, wd_empty_wash, wd_empty_empty, wd_empty_break, wd_empty_new, wd_break_fill, wd_break_gather, wd_break_wash, wd_break_empty, wd_break_break, wd_break_new, wd_new_fill, wd_new_gather, wd_new_wash, wd_new_empty, wd_new_break, wd_new_new, wd_nil, wd_none, wd_broken, wd_busy, wd_glass, wd_name, wd_cold, wd_rank, wd_less, wd_full, wd_whole, inw_fill, inw_gather, inw_wash, inw_empty, inw_break, inw_new, u_itemsT, u_itemsK, u_keysK, u_lk, u_ckw, eq_self, true_and, and_true])
local macro_rules | `(tactic| nested_keys) => `(tactic| repeat first
  | (with_reducible apply w_nx)
  | (with_reducible apply w_blk)
  | (with_reducible apply w_I; (· with_unfolding_all kas_types))
  | (with_reducible apply w_ixT; (· lcg_sub); (· kxs_still))
  | (with_reducible apply w_ixL; (· lcg_sub); (· kxs_still))
  | (with_reducible apply w_fldI; (· lcg_sub); (· kxs_still))
  | (with_reducible apply w_methI; (· lcg_sub))
  | (with_reducible apply w_augO; (· lcg_sub); (· kxs_still))
  | (with_reducible apply w_dgetS; (· lcg_sub); (· assumption))
  | (with_reducible apply w_dinS; (· lcg_sub))
  | (with_reducible apply w_dnotinS; (· lcg_sub))
  | (with_reducible apply w_isD; (· lcg_sub))
  | (with_reducible apply w_inT; (· lcg_sub); (· with_unfolding_all rfl))
  | (with_reducible apply w_sz; (· with_unfolding_all exact Nat.le_of_ble_eq_true rfl))
  | (with_reducible apply w_gTup; (· lcg_sub); (· kxs_still))
  | (with_reducible apply w_tyL; (· lcg_sub))
  | (with_reducible apply w_rng1k; (· with_unfolding_all kas_types); (· with_unfolding_all kas_types))
  | (with_reducible apply w_itLk; (· lcg_sub))
  | (with_reducible apply w_itTk; (· lcg_sub))
  | (with_reducible apply w_lenL; (· lcg_sub))
  | (with_reducible apply w_lenT; (· lcg_sub))
  | (with_reducible apply w_lenS; (· with_unfolding_all kas_types))
  | (with_reducible apply w_ixaL; (· lcg_sub); (· kxs_still))
  | (with_reducible apply w_ixaT; (· lcg_sub); (· kxs_still))
  | (with_reducible apply w_ixaS; (· with_unfolding_all kas_types); (· kxs_still))
  | (with_reducible apply w_ixS; (· with_unfolding_all kas_types); (· kxs_still))
  | (with_reducible apply w_slL; (· lcg_sub))
  | (with_reducible apply w_slS; (· with_unfolding_all kas_types))
  | (with_reducible apply w_addS; (· with_unfolding_all kas_types))
  | (with_reducible apply w_listL; (· lcg_sub))
  | (with_reducible apply w_tupL; (· lcg_sub))
  | (with_reducible apply w_divmod; (· with_unfolding_all kas_types))
  | (simp only [u_var, u_c, u_op, u_un, u_test, u_tB, u_bl, u_I0, u_eqS, u_eqI, u_neS, u_neI, u_seq, u_next, u_asg, u_name, u_ret, u_retN, u_drop, u_ifS, u_ifE, u_and, u_or, u_not, u_andV, u_orV, u_notV, u_nil, u_cons, u_call, u_cb, u_tup, u_lst, u_sub, u_gNil, u_gCons, u_bm, u_m1, u_isS, u_sl, u_noPart, u_part, u_partk, u_par, u_par2, u_for, u_lc, u_rng1, u_itL, u_itT, u_yes, u_fldI, u_putI, u_newI, u_methI, u_make, u_some, u_i0, u_i1, u_K, L2.start, wipe, List.map_cons, List.map_nil, List.length_cons, List.length_nil, List.replicate_succ, List.replicate_zero, List.cons_append, List.nil_append, List.set_cons_zero, List.set_cons_succ, ite_true, ite_false, if_true, if_false, Bool.false_eq_true, colV, washV, kindV, teamV, rowV, coolV, deedV, batRef_none, batRef_some, u_par3, u_par33, u_augI, u_dget, u_din, u_dnotin, u_dget2, u_dget1, u_dpop1, u_dput, u_setD, u_dnewK, u_dnewT, decide_true, decide_false, Bool.not_true, Bool.not_false, Option.map_none, Option.map_some, Option.isSome_none, Option.isSome_some, Option.getD_some, Option.getD_none, vn_non, vn_ref, vn_str, vn_int, wd_fill_fill, wd_fill_gather, wd_fill_wash, wd_fill_empty, wd_fill_break, wd_fill_new, wd_gather_fill, wd_gather_gather, wd_gather_wash, wd_gather_empty, wd_gather_break, wd_gather_new, wd_wash_fill, wd_wash_gather, wd_wash_wash, wd_wash_empty, wd_wash_break, wd_wash_new, wd_empty_fill, wd_empty_gather, wd_empty_wash, wd_empty_empty, wd_empty_break, wd_empty_new, wd_break_fill, wd_break_gather, wd_break_wash, wd_break_empty, wd_break_break, wd_break_new, wd_new_fill, wd_new_gather, wd_new_wash, wd_new_empty, wd_new_break, wd_new_new, wd_nil, wd_none, wd_broken, wd_busy, wd_glass, wd_name, wd_cold, wd_rank, wd_less, wd_full, wd_whole, inw_fill, inw_gather, inw_wash, inw_empty, inw_break, inw_new, u_itemsT, u_itemsK, u_keysK, u_lk, u_ckw, eq_self, true_and, and_true])
  | (with_reducible apply w_eq; (· kxs_still))
  | (with_reducible apply w_ne; (· kxs_still)))
def spDeed : Sp := fun vs H Q _ => ∃ (bx hv : Addr) (n : Nat) (h : Hall), vs = [.ref bx, .ref hv] ∧ BoxAt H bx n ∧ n ≤ 900000 ∧ HallAt H hv h ∧ HallGood h ∧
  ∀ (q : Addr) (d : Deed) (H' : Hp), DeedOk d → H' q = some (.tup (deedV d)) → BoxAt H' bx (n + 20) → KB bx H H' → Q (.ref q) H'
theorem hall_kb {bx hv : Addr} {n : Nat} {H H' : Hp} {h : Hall} (hH : HallAt H hv h) (hb : BoxAt H bx n) (k : KB bx H H') : HallAt H' hv h := by
  obtain ⟨pal, ki, te, po, h1, h2⟩ := hH
  obtain ⟨_, _, _, hbx, _⟩ := hb
  exact ⟨pal, ki, te, po, k.t _ _ h1, h2.kp k fun o tvs e z => by
    have z : te = bx := z
    rw [z, hbx] at e; cases e⟩
/-- rows whose first is a text -/
def RowsOk (H : Hp) (u : V) : Prop := ∃ vs : List V, PickOf H u vs ∧ 0 < vs.length ∧ vs.length ≤ 100 ∧ ∀ v ∈ vs, ∃ a s r, v = .ref a ∧ H a = some (.tup (.str s :: r))
theorem ts_rows {α : Type} {H : Hp} {f : α → List V} {vs : List V} {xs : List α} (h : Ts H f vs xs) (hf : ∀ x, ∃ s r, f x = .str s :: r) : ∀ v ∈ vs, ∃ a s r, v = .ref a ∧ H a = some (.tup (.str s :: r)) := fun v m => by
  obtain ⟨j, hj⟩ := List.mem_iff_getElem?.mp m
  obtain ⟨x, a, _, e, ha⟩ := h.get hj
  obtain ⟨s, r, q⟩ := hf x
  exact ⟨a, s, r, e, by rw [← q]; exact ha⟩
theorem C_a_deed {P : Program} {w : World} {K : PySem.W.Frag} {mg : Str → Option Value} {base : Heap} (T : Txt K mg) : Cal P w K mg base 3 "_law_a_deed" ["_law_box", "_law_hall"] spDeed := by
  have C_pick := C_pick (P := P) (w := w) (base := base) T
  have C_take := C_take (P := P) (w := w) (base := base) T
  refine cal_mk T 52 rfl T.g_a_deed sc_a_deed rfl rfl (fun _ _ _ _ _ _ us hl => match us, hl with | [_, _], _ => rfl) (fun vs H Q E h => ?_) (fun f cdv A outer s H vs Q E hr h => ?_)
  · obtain ⟨bx, hv, n, h, rfl, hb, hn, hH, hG, k⟩ := h
    rfl
  obtain ⟨bx, hv, n, h, rfl, hb, hn, hH, hG, k⟩ := h
  refine ⟨_, (pss_cons (ps_set (i := 2) sc_a_deed.nd rfl (Or.inl rfl) (pe_lst pa_nil))
 (pss_cons (ps_for PassesOwn.never rfl (pi_tupK (K := K) rfl (pe_tup (pa_cons (pe_ix (ix_tupK (K := K) rfl) (pe_ix (ix_tupK (K := K) rfl) (pv 1) pe_int (fun _ _ => rfl)) pe_int (fun _ _ => rfl)) (pa_cons (pe_ix (ix_tupK (K := K) rfl) (pv 1) pe_int (fun _ _ => rfl)) (pa_cons (pe_ix (ix_tupK (K := K) rfl) (pv 1) pe_int (fun _ _ => rfl)) pa_nil))))) (pg_name (i := 3) sc_a_deed.nd rfl (Or.inl rfl)) (pss_one (ps_expr (pe_bmK (K := K) rfl PySem.F.plainAttrs_list PySem.F.slot_list_append PySem.F.type_list_append mt_appendM (pv 2) (pa_cons (pe_ifExp (pt_cmpR op_gt (pe_cal C_take (hr.mono (by decide)) rfl (pa_cons (pv 0) (pa_cons pe_int pa_nil))) pe_int (nomark _)) (pe_ix (ix_seqK (K := K) rfl) (pe_cal C_pick hr rfl (pa_cons (pv 0) (pa_cons (pv 3) pa_nil))) pe_int (fun _ _ => rfl)) (pe_ix (ix_tupK (K := K) rfl) (pv 1) pe_int (fun _ _ => rfl))) pa_nil)))))
 (pss_cons (ps_asg (pv 2) (pg_unlK (K := K) (n := 3) rfl rfl (pgs_cons (pg_name (i := 4) sc_a_deed.nd rfl (Or.inl rfl)) (pgs_cons (pg_name (i := 5) sc_a_deed.nd rfl (Or.inl rfl)) (pgs_cons (pg_name (i := 6) sc_a_deed.nd rfl (Or.inl rfl)) pgs_nil)))))
 (pss_cons (ps_set (i := 7) sc_a_deed.nd rfl (Or.inl rfl) (pe_ifExp (pt_cmpR op_gt (pe_cal C_take (hr.mono (by decide)) rfl (pa_cons (pv 0) (pa_cons pe_int pa_nil))) pe_int (nomark _)) (pe_cal C_pick hr rfl (pa_cons (pv 0) (pa_cons (pe_ix (ix_tupK (K := K) rfl) (pv 1) pe_int (fun _ _ => rfl)) pa_nil))) (pe_ix (ix_tupK (K := K) rfl) (pv 1) pe_int (fun _ _ => rfl))))
 (pss_cons (ps_par (i := 8) (j := 9) rfl sc_a_deed.nd rfl rfl (by decide) rfl rfl (pa_cons (pe_cal C_take (hr.mono (by decide)) rfl (pa_cons (pv 0) (pa_cons pe_int pa_nil))) (pa_cons (pe_op op_add pe_int (pe_cal C_take (hr.mono (by decide)) rfl (pa_cons (pv 0) (pa_cons (pe_ix (ix_listK (K := K) rfl) (pe_lst (pa_cons pe_int (pa_cons pe_int (pa_cons pe_int (pa_cons pe_int pa_nil))))) (pe_cal C_take (hr.mono (by decide)) rfl (pa_cons (pv 0) (pa_cons pe_int pa_nil))) (fun _ _ => rfl)) pa_nil)))) pa_nil)) (by rfl))
 (pss_cons (ps_if (pt_cmpR op_lt (pv 8) pe_int (nomark _)) (pss_one (ps_ret (pe_tup (pa_cons pe_str (pa_cons (pv 7) (pa_cons (pv 4) pa_nil)))))) pss_nil)
 (pss_cons (ps_if (pt_cmpR op_lt (pv 8) pe_int (nomark _)) (pss_one (ps_ret (pe_tup (pa_cons pe_str (pa_cons (pv 6) (pa_cons (pv 7) (pa_cons (pv 5) (pa_cons (pv 9) pa_nil)))))))) pss_nil)
 (pss_cons (ps_if (pt_cmpR op_lt (pv 8) pe_int (nomark _)) (pss_one (ps_ret (pe_tup (pa_cons pe_str (pa_cons (pv 7) (pa_cons (pe_cal C_take (hr.mono (by decide)) rfl (pa_cons (pv 0) (pa_cons pe_int pa_nil))) pa_nil)))))) pss_nil)
 (pss_one (ps_ret (pe_ix (ix_listK (K := K) rfl) (pe_lst (pa_cons (pe_tup (pa_cons pe_str (pa_cons (pv 7) pa_nil))) (pa_cons (pe_tup (pa_cons pe_str (pa_cons (pv 7) pa_nil))) (pa_cons (pe_tup (pa_cons pe_str (pa_cons (pv 7) (pa_cons (pe_cal C_take (hr.mono (by decide)) rfl (pa_cons (pv 0) (pa_cons pe_int pa_nil))) pa_nil)))) pa_nil)))) (pe_op op_sub (pv 8) pe_int) (fun _ _ => rfl)))))))))))), ?_⟩
  have hHk : ∀ {H'}, KB bx H H' → HallAt H' hv h := fun kk => hall_kb hH hb kk
  obtain ⟨pal, ki, te, po, hhv, hhx⟩ := id hH
  obtain ⟨co, wa, cvs, wvs, p1, p2, p3, p4, p5⟩ := id hhx.pal
  obtain ⟨kvs, hki, hkt⟩ := id hhx.ki
  obtain ⟨oo, tvs, hte, hoo, htt⟩ := id hhx.te
  have g := Bfg.start hb
  nested_keys
  refine w_newB g fun L H1 hL g => ?_
  have hhv1 := g.kp.t _ _ hhv
  have hp1 := g.kp.t _ _ p1
  nested_keys
  refine w_newB g fun T3 H2 hT3 g => ?_
  have hT3' : H2 T3 = some (.tup [.ref co, .ref ki, .ref te]) := g.get 0 rfl
  have te_bx : te ≠ bx := by
    obtain ⟨_, _, _, hbx, _⟩ := hb
    exact ne_of hte hbx (fun z => by cases z)
  have rows_ : ∀ {H'} (i : Nat) (u : V), KB bx H H' → [V.ref co, .ref ki, .ref te][i]? = some u → RowsOk H' u := by
    intro H' i u kk e
    match i, e with
    | 0, e =>
      cases (Option.some.inj e)
      exact ⟨cvs, .inr (.inl ⟨co, rfl, kk.t _ _ p2⟩), by rw [p3.len]; exact hG.nc, by rw [p3.len]; exact hG.cols, ts_rows (p3.mono kk.t) fun x => ⟨_, _, rfl⟩⟩
    | 1, e =>
      cases (Option.some.inj e)
      exact ⟨kvs, .inr (.inl ⟨ki, rfl, kk.t _ _ hki⟩), by rw [hkt.len]; exact hG.nk, by rw [hkt.len]; exact hG.kinds, ts_rows (hkt.mono kk.t) fun x => ⟨_, _, rfl⟩⟩
    | 2, e =>
      cases (Option.some.inj e)
      exact ⟨tvs, .inl ⟨te, oo, rfl, kk.kp _ _ hte te_bx⟩, by rw [htt.len]; exact hG.nt, by rw [htt.len]; exact hG.teams, ts_rows (htt.mono kk.t) fun x => ⟨_, _, rfl⟩⟩
    | k + 3, e => simp at e
  have g := (g.sub (D' := [(L, .lst [])]) (List.sublist_cons_self _ _))
  have k2 := g.kp
  have L0 : H2 L ≠ none := by rw [g.get 0 rfl]; exact fun z => by cases z
  have L_T : L ≠ T3 := ne_of (g.get 0 rfl) hT3' (fun z => by cases z)
  nested_keys
  refine for_tup (K := K) (a := T3) (xs := [.ref co, .ref ki, .ref te]) (fun i σ H' => ∃ (ss : List Str) (v3 : Option V), ss.length = i ∧ Bfg bx (n + 2 * i) H [(L, .lst (ss.map V.str))] H' ∧ Tp H2 H' ∧ σ = [some (.ref bx), some (.ref hv), some (.ref L), v3, none, none, none, none, none, none])
    ⟨[], _, rfl, g, Tp.refl, rfl⟩ (fun i σ H' _ ⟨_, _, _, _, t, _⟩ => SqT.of (t _ _ hT3')) ?_ ?_
  · rintro i u σ H' hu ⟨ss, v3, hss, g, t2, rfl⟩
    have hi : i < 3 := get_lt hu
    obtain ⟨_, _, _, _, hhv', _⟩ := hHk g.kp
    have hhv' := g.kp.t _ _ hhv
    nested_keys
    refine w_takeT g (by omega) (by omega) (by omega) fun d0 G0 x0 y0 g t0 => ?_
    have hhv0 := g.kp.t _ _ hhv
    nested_keys
    refine ite_d (fun e => ?_) (fun e => ?_)
    · obtain ⟨vs, hpk, hv0, hv1, hvr⟩ := rows_ i u g.kp hu
      nested_keys
      refine w_pickT g (by omega) hpk hv0 (by omega) fun j v G1 hj g t1 => ?_
      obtain ⟨a, s, r, rfl, ha⟩ := hvr v (List.mem_of_getElem? hj)
      have ha := t1 _ _ ha
      nested_keys
      refine .inr (.inl (w_ixT ha (atI_nat (j := 0) rfl) ?_))
      nested_keys
      refine w_appBT 0 g rfl (by rw [List.length_map]; omega) hL fun H3 g3 t3 => ?_
      nested_keys
      refine ⟨ss ++ [s], _, by simp [hss], ?_, ((t2.trans t0).trans t1).trans t3, rfl⟩
      rw [List.map_append]
      exact g3.le (by omega)
    · nested_keys
      refine w_appBT 0 g rfl (by rw [List.length_map]; omega) hL fun H3 g3 t3 => ?_
      nested_keys
      refine ⟨ss ++ [h.odd], _, by simp [hss], ?_, (t2.trans t0).trans t3, rfl⟩
      rw [List.map_append]
      exact g3.le (by omega)
  · rintro σ H' ⟨ss, v3, hss, g, t2, rfl⟩
    have hss : ss.length = 3 := hss
    match ss, hss, g with
    | [s1, s2, s3], _, g =>
    have hL' : H' L = some (.lst [.str s1, .str s2, .str s3]) := g.get 0 rfl
    have hhv' := g.kp.t _ _ hhv
    have hpo := hhx.po
    nested_keys
    refine ⟨L, _, rfl, SqL.of hL', rfl, ?_⟩
    nested_keys
    have g := (g.sub (D' := []) (List.nil_sublist _)).le (show n + 2 * 3 ≤ n + 6 by omega)
    refine w_take g (by omega) (by omega) (by omega) fun d0 G0 x0 y0 g => ?_
    have hhv0 := g.kp.t _ _ hhv
    have fin : ∀ (pot : Str) (G : Hp) (m : Nat), m ≤ n + 8 → Bfg bx m H [] G → ∀ v3 : Option V, Nx (tSeq (tPar 8 9 (tCons (tCall spTake [] E0 (tCons (tVar 0) (tCons (tC (V.int 16)) tNil))) (tCons (tOp (rI0 fun i j => V.int (i + j)) (tC (V.int 1)) (tCall spTake [] E0 (tCons (tVar 0) (tCons (tOp (rIxL K) (tLst (tCons (tC (V.int 2)) (tCons (tC (V.int 2)) (tCons (tC (V.int 5)) (tCons (tC (V.int 12)) tNil))))) (tCall spTake [] E0 (tCons (tVar 0) (tCons (tC (V.int 4)) tNil)))) tNil)))) tNil)))
        (tSeq (tIfS (tTest (tOp (rI0 fun i j => V.bl (decide (i < j))) (tVar 8) (tC (V.int 5)))) (tRet (tTup (tCons (tC (V.str "fill")) (tCons (tVar 7) (tCons (tVar 4) tNil))))) tNext)
        (tSeq (tIfS (tTest (tOp (rI0 fun i j => V.bl (decide (i < j))) (tVar 8) (tC (V.int 11)))) (tRet (tTup (tCons (tC (V.str "gather")) (tCons (tVar 6) (tCons (tVar 7) (tCons (tVar 5) (tCons (tVar 9) tNil))))))) tNext)
        (tSeq (tIfS (tTest (tOp (rI0 fun i j => V.bl (decide (i < j))) (tVar 8) (tC (V.int 13)))) (tRet (tTup (tCons (tC (V.str "wash")) (tCons (tVar 7) (tCons (tCall spTake [] E0 (tCons (tVar 0) (tCons (tC (V.int 6)) tNil))) tNil))))) tNext)
        (tRet (tOp (rIxL K) (tLst (tCons (tTup (tCons (tC (V.str "empty")) (tCons (tVar 7) tNil))) (tCons (tTup (tCons (tC (V.str "break")) (tCons (tVar 7) tNil))) (tCons (tTup (tCons (tC (V.str "new")) (tCons (tVar 7) (tCons (tCall spTake [] E0 (tCons (tVar 0) (tCons (tC (V.int 5)) tNil))) tNil)))) tNil)))) (tOp (rI0 fun i j => V.int (i - j)) (tVar 8) (tC (V.int 13)))))))) { nx := fun x H' => Q V.non H', rt := Q })
        [some (.ref bx), some (.ref hv), some (.ref L), v3, some (.str s1), some (.str s2), some (.str s3), some (.str pot), none, none] G := by
      intro pot G m hm g v3
      nested_keys
      refine w_take g (by omega) (by omega) (by omega) fun way G1 w0 w1 g => ?_
      nested_keys
      refine w_newB g fun l4 G2 hl4 g => ?_
      nested_keys
      refine w_take g (by omega) (by omega) (by omega) fun d1 G3 x1 y1 g => ?_
      obtain ⟨j1, u1, rfl, e1, e2⟩ := at_lt (xs := [V.int 2, .int 2, .int 5, .int 12]) x1 y1
      have hu : ∃ t : Int, u1 = .int t ∧ 1 ≤ t ∧ t ≤ 12 := by
        match j1, e1 with
        | 0, e => exact ⟨_, (Option.some.inj e).symm, by omega, by omega⟩
        | 1, e => exact ⟨_, (Option.some.inj e).symm, by omega, by omega⟩
        | 2, e => exact ⟨_, (Option.some.inj e).symm, by omega, by omega⟩
        | 3, e => exact ⟨_, (Option.some.inj e).symm, by omega, by omega⟩
        | k + 4, e => simp at e
      obtain ⟨t, rfl, t1, t12⟩ := hu
      nested_keys
      refine w_take g (by omega) (by omega) (by omega) fun many G4 z0 z1 g => ?_
      nested_keys
      refine ite_d (fun e5 => ?_) (fun e5 => ?_)
      · nested_keys
        refine w_newB g fun q G5 hq g => ?_
        exact k q (.fill pot s1) G5 trivial (g.get 0 rfl) (g.box.le (by omega)) g.kp
      nested_keys
      refine ite_d (fun e11 => ?_) (fun e11 => ?_)
      · nested_keys
        refine w_newB g fun q G5 hq g => ?_
        exact k q (.gather s3 pot s2 (1 + many)) G5 (show 0 ≤ 1 + many by omega) (g.get 0 rfl) (g.box.le (by omega)) g.kp
      nested_keys
      refine ite_d (fun e13 => ?_) (fun e13 => ?_)
      · nested_keys
        refine w_take g (by omega) (by omega) (by omega) fun hs G5 a0 a1 g => ?_
        nested_keys
        refine w_newB g fun q G6 hq g => ?_
        exact k q (.wash pot hs) G6 trivial (g.get 0 rfl) (g.box.le (by omega)) g.kp
      nested_keys
      refine w_newB g fun q1 G5 hq1 g => ?_
      nested_keys
      refine w_newB g fun q2 G6 hq2 g => ?_
      nested_keys
      refine w_take g (by omega) (by omega) (by omega) fun hs G7 a0 a1 g => ?_
      nested_keys
      refine w_newB g fun q3 G8 hq3 g => ?_
      nested_keys
      refine w_newB g fun ql G9 hql g => ?_
      nested_keys
      obtain ⟨j, x, ej, f1, f2⟩ := at_lt (xs := [V.ref q1, .ref q2, .ref q3]) (v := way - 13) (by omega) (by show way - 13 < 3; omega)
      refine w_ixL (g.get 0 rfl) f2 ?_
      match j, f1 with
      | 0, e => cases e; exact k q1 (.emp pot) G9 trivial (g.get 3 rfl) (g.box.le (by omega)) g.kp
      | 1, e => cases e; exact k q2 (.brk pot) G9 trivial (g.get 2 rfl) (g.box.le (by omega)) g.kp
      | 2, e => cases e; exact k q3 (.new pot hs) G9 trivial (g.get 1 rfl) (g.box.le (by omega)) g.kp
      | k + 3, e => simp at e
    nested_keys
    refine ite_d (fun e => ?_) (fun e => ?_)
    · nested_keys
      refine w_pick (xs := h.pots.map V.str) g (by omega) (.inr (.inl ⟨po, rfl, g.kp.t _ _ hpo⟩)) (by rw [List.length_map]; exact hG.np) (by rw [List.length_map]; have := hG.pots; omega) fun j v G1 hj g => ?_
      rw [List.getElem?_map] at hj
      obtain ⟨p, hp, rfl⟩ := Option.map_eq_some_iff.mp hj
      exact fin p G1 _ (by omega) g _
    · refine w_ixT hhv0 rfl ?_
      exact fin h.odd G0 _ (by omega) g _

end K87

namespace K87
open PySem PySem.Spec PyProof.Rows L2
local macro_rules | `(tactic| kxs_still) => `(tactic| with_unfolding_all rfl)
local macro_rules | `(tactic| lcg_sub) => `(tactic| first
  | assumption
  | (apply Cfg.get (i := 0) <;> first | assumption | kxs_still)
  | (apply Cfg.get (i := 1) <;> first | assumption | kxs_still)
  | (apply Cfg.get (i := 2) <;> first | assumption | kxs_still)
  | (apply Cfg.get (i := 3) <;> first | assumption | kxs_still)
  | (apply Cfg.get (i := 4) <;> first | assumption | kxs_still)
  | (apply Cfg.get (i := 5) <;> first | assumption | kxs_still)
  | (apply Cfg.get (i := 6) <;> first | assumption | kxs_still)
  | (apply Cfg.get (i := 7) <;> first | assumption | kxs_still)
  | (apply Cfg.get (i := 8) <;> first | assumption | kxs_still)
  | (apply Cfg.get (i := 9) <;> first | assumption | kxs_still)
  | (apply Cfg.get (i := 0) <;> first | (apply Bfg.toCfg; assumption) | kxs_still)
  | (apply Cfg.get (i := 1) <;> first | (apply Bfg.toCfg; assumption) | kxs_still)
  | (apply Cfg.get (i := 2) <;> first | (apply Bfg.toCfg; assumption) | kxs_still)
  | (apply Cfg.get (i := 3) <;> first | (apply Bfg.toCfg; assumption) | kxs_still)
  | (apply Cfg.get (i := 4) <;> first | (apply Bfg.toCfg; assumption) | kxs_still)
  | (apply Cfg.get (i := 5) <;> first | (apply Bfg.toCfg; assumption) | kxs_still)
  | (apply Cfg.get (i := 6) <;> first | (apply Bfg.toCfg; assumption) | kxs_still)
  | (apply Cfg.get (i := 7) <;> first | (apply Bfg.toCfg; assumption) | kxs_still)
  | (apply Cfg.get (i := 8) <;> first | (apply Bfg.toCfg; assumption) | kxs_still)
  | (apply Cfg.get (i := 9) <;> first | (apply Bfg.toCfg; assumption) | kxs_still))
local macro_rules | `(tactic| kas_types) => `(tactic| first
  | assumption | decide | omega | exact Or.inl (by omega) | exact Or.inr (by omega) | exact ⟨by omega, by omega⟩ | exact ⟨by omega, by omega, by omega⟩)
local macro_rules | `(tactic| keq_hits) => `(tactic| simp only [u_var, u_c, u_op, u_un, u_test, u_tB, u_bl, u_I0, u_eqS, u_eqI, u_neS, u_neI, u_seq, u_next, u_asg, u_name, u_ret, u_retN, u_drop, u_ifS, u_ifE, u_and, u_or, u_not, u_andV, u_orV, u_notV, u_nil, u_cons, u_call, u_cb, u_tup, u_lst, u_sub, u_gNil, u_gCons, u_bm, u_m1, u_isS, u_sl, u_noPart, u_part, u_partk, u_par, u_par2, u_for, u_lc, u_rng1, u_itL, u_itT, u_yes, u_fldI, u_putI, u_newI, u_methI, u_make, u_some, u_i0, u_i1, u_K, L2.start, wipe, List.map_cons, List.map_nil, List.length_cons, List.length_nil, List.replicate_succ, List.replicate_zero, List.cons_append, List.nil_append, List.set_cons_zero, List.set_cons_succ, ite_true, ite_false, if_true, if_false, Bool.false_eq_true, colV, washV, kindV, teamV, rowV, coolV, deedV, batRef_none, batRef_some, u_par3, u_par33, u_augI, u_dget, u_din, u_dnotin, u_dget2, u_dget1, u_dpop1, u_dput, u_setD, u_dnewK, u_dnewT, decide_true, decide_false, Bool.not_true, Bool.not_false, Option.map_none, Option.map_some, Option.isSome_none, Option.isSome_some, Option.getD_some, Option.getD_none, vn_non, vn_ref, vn_str, vn_int, wd_fill_fill, wd_fill_gather, wd_fill_wash, wd_fill_empty, wd_fill_break, wd_fill_new, wd_gather_fill, wd_gather_gather, wd_gather_wash, wd_gather_empty, wd_gather_break, wd_gather_new, wd_wash_fill, wd_wash_gather, wd_wash_wash, wd_wash_empty, wd_wash_break, wd_wash_new, wd_empty_fill, wd_empty_gather, wd_empty_wash, wd_empty_empty, wd_empty_break, wd_empty_new, wd_break_fill, wd_break_gather, wd_break_wash, wd_break_empty, wd_break_break, wd_break_new, wd_new_fill, wd_new_gather, wd_new_wash, wd_new_empty, wd_new_break, wd_new_new, wd_nil, wd_none, wd_broken, wd_busy, wd_glass, wd_name, wd_cold, wd_rank, wd_less, wd_full, wd_whole, inw_fill, inw_gather, inw_wash, inw_empty, inw_break, inw_new, u_itemsT, u_itemsK, u_keysK, u_lk, u_ckw, eq_self, true_and, and_true])
local macro_rules | `(tactic| nested_keys) => `(tactic| repeat first
  | (with_reducible apply w_nx)
  | (with_reducible apply w_blk)
  | (with_reducible apply w_I; (· with_unfolding_all kas_types))
  | (with_reducible apply w_ixT; (· lcg_sub); (· kxs_still))
  | (with_reducible apply w_ixL; (· lcg_sub); (· kxs_still))
  | (with_reducible apply w_fldI; (· lcg_sub); (· kxs_still))
  | (with_reducible apply w_methI; (· lcg_sub))
  | (with_reducible apply w_augO; (· lcg_sub); (· kxs_still))
  | (with_reducible apply w_dgetS; (· lcg_sub); (· assumption))
  | (with_reducible apply w_dinS; (· lcg_sub))
  | (with_reducible apply w_dnotinS; (· lcg_sub))
  | (with_reducible apply w_isD; (· lcg_sub))
  | (with_reducible apply w_inT; (· lcg_sub); (· with_unfolding_all rfl))
  | (with_reducible apply w_sz; (· with_unfolding_all exact Nat.le_of_ble_eq_true rfl))
  | (with_reducible apply w_gTup; (· lcg_sub); (· kxs_still))
  | (with_reducible apply w_tyL; (· lcg_sub))
  | (with_reducible apply w_rng1k; (· with_unfolding_all kas_types); (· with_unfolding_all kas_types))
  | (with_reducible apply w_itLk; (· lcg_sub))
  | (with_reducible apply w_itTk; (· lcg_sub))
  | (with_reducible apply w_lenL; (· lcg_sub))
  | (with_reducible apply w_lenT; (· lcg_sub))
  | (with_reducible apply w_lenS; (· with_unfolding_all kas_types))
  | (with_reducible apply w_ixaL; (· lcg_sub); (· kxs_still))
  | (with_reducible apply w_ixaT; (· lcg_sub); (· kxs_still))
  | (with_reducible apply w_ixaS; (· with_unfolding_all kas_types); (· kxs_still))
  | (with_reducible apply w_ixS; (· with_unfolding_all kas_types); (· kxs_still))
  | (with_reducible apply w_slL; (· lcg_sub))
  | (with_reducible apply w_slS; (· with_unfolding_all kas_types))
  | (with_reducible apply w_addS; (· with_unfolding_all kas_types))
  | (with_reducible apply w_listL; (· lcg_sub))
  | (with_reducible apply w_tupL; (· lcg_sub))
  | (with_reducible apply w_divmod; (· with_unfolding_all kas_types))
  | (simp only [u_var, u_c, u_op, u_un, u_test, u_tB, u_bl, u_I0, u_eqS, u_eqI, u_neS, u_neI, u_seq, u_next, u_asg, u_name, u_ret, u_retN, u_drop, u_ifS, u_ifE, u_and, u_or, u_not, u_andV, u_orV, u_notV, u_nil, u_cons, u_call, u_cb, u_tup, u_lst, u_sub, u_gNil, u_gCons, u_bm, u_m1, u_isS, u_sl, u_noPart, u_part, u_partk, u_par, u_par2, u_for, u_lc, u_rng1, u_itL, u_itT, u_yes, u_fldI, u_putI, u_newI, u_methI, u_make, u_some, u_i0, u_i1, u_K, L2.start, wipe, List.map_cons, List.map_nil, List.length_cons, List.length_nil, List.replicate_succ, List.replicate_zero, List.cons_append, List.nil_append, List.set_cons_zero, List.set_cons_succ, ite_true, ite_false, if_true, if_false, Bool.false_eq_true, colV, washV, kindV, teamV, rowV, coolV, deedV, batRef_none, batRef_some, u_par3, u_par33, u_augI, u_dget, u_din, u_dnotin, u_dget2, u_dget1, u_dpop1, u_dput, u_setD, u_dnewK, u_dnewT, decide_true, decide_false, Bool.not_true, Bool.not_false, Option.map_none, Option.map_some, Option.isSome_none, Option.isSome_some, Option.getD_some, Option.getD_none, vn_non, vn_ref, vn_str, vn_int, wd_fill_fill, wd_fill_gather, wd_fill_wash, wd_fill_empty, wd_fill_break, wd_fill_new, wd_gather_fill, wd_gather_gather, wd_gather_wash, wd_gather_empty, wd_gather_break, wd_gather_new, wd_wash_fill, wd_wash_gather, wd_wash_wash, wd_wash_empty, wd_wash_break, wd_wash_new, wd_empty_fill, wd_empty_gather, wd_empty_wash, wd_empty_empty, wd_empty_break, wd_empty_new, wd_break_fill, wd_break_gather, wd_break_wash, wd_break_empty, wd_break_break, wd_break_new, wd_new_fill, wd_new_gather, wd_new_wash, wd_new_empty, wd_new_break, wd_new_new, wd_nil, wd_none, wd_broken, wd_busy, wd_glass, wd_name, wd_cold, wd_rank, wd_less, wd_full, wd_whole, inw_fill, inw_gather, inw_wash, inw_empty, inw_break, inw_new, u_itemsT, u_itemsK, u_keysK, u_lk, u_ckw, eq_self, true_and, and_true])
  | (with_reducible apply w_eq; (· kxs_still))
  | (with_reducible apply w_ne; (· kxs_still)))
@[reducible] def stV (x : Int × Deed × Addr) : List V := [.int x.1, .ref x.2.2]
def StOk (H : Hp) (x : Int × Deed × Addr) : Prop := H x.2.2 = some (.tup (deedV x.2.1)) ∧ DeedOk x.2.1 ∧ 0 ≤ x.1
def spStory : Sp := fun vs H Q _ => ∃ (bx hv : Addr) (n m : Nat) (h : Hall), vs = [.ref bx, .ref hv, .int m] ∧ BoxAt H bx n ∧ n ≤ 800000 ∧ HallAt H hv h ∧ HallGood h ∧ m ≤ 70 ∧
  ∀ (p : Addr) (us : List V) (xs : List (Int × Deed × Addr)) (H' : Hp), H p = none → xs.length = m → H' p = some (.lst us) → Ts H' stV us xs → (∀ x ∈ xs, StOk H' x) → xs.Pairwise (fun a b => a.1 ≤ b.1) → BoxAt H' bx (n + 2000) → KB bx H H' → Q (.ref p) H'
theorem C_a_story {P : Program} {w : World} {K : PySem.W.Frag} {mg : Str → Option Value} {base : Heap} (T : Txt K mg) : Cal P w K mg base 4 "_law_a_story" ["_law_box", "_law_hall", "_law_many"] spStory := by
  have C_a_deed := C_a_deed (P := P) (w := w) (base := base) T
  have C_take := C_take (P := P) (w := w) (base := base) T
  refine cal_mk T 53 rfl T.g_a_story sc_a_story rfl rfl (fun _ _ _ _ _ _ us hl => match us, hl with | [_, _, _], _ => rfl) (fun vs H Q E h => ?_) (fun f cdv A outer s H vs Q E hr h => ?_)
  · obtain ⟨bx, hv, n, m, h, rfl, hb, hn, hH, hG, hm, k⟩ := h
    rfl
  obtain ⟨bx, hv, n, m, h, rfl, hb, hn, hH, hG, hm, k⟩ := h
  refine ⟨_, (pss_cons (ps_par (i := 3) (j := 4) rfl sc_a_story.nd rfl rfl (by decide) rfl rfl (pa_cons (pe_lst pa_nil) (pa_cons (pe_cal C_take (hr.mono (by decide)) rfl (pa_cons (pv 0) (pa_cons pe_int pa_nil))) pa_nil)) (by rfl))
 (pss_cons (ps_for PassesOwn.never rfl (pi_range1 rfl T.f_range (pa_cons (pv 2) pa_nil)) (pg_name (i := 5) sc_a_story.nd rfl (Or.inl rfl)) (pss_cons (ps_expr (pe_bmK (K := K) rfl PySem.F.plainAttrs_list PySem.F.slot_list_append PySem.F.type_list_append mt_appendM (pv 3) (pa_cons (pe_tup (pa_cons (pv 4) (pa_cons (pe_cal C_a_deed hr rfl (pa_cons (pv 0) (pa_cons (pv 1) pa_nil))) pa_nil))) pa_nil)))
 (pss_one (ps_set (i := 4) sc_a_story.nd rfl (Or.inl rfl) (pe_op op_add (pv 4) (pe_ix (ix_listK (K := K) rfl) (pe_lst (pa_cons pe_int (pa_cons pe_int (pa_cons (pe_cal C_take (hr.mono (by decide)) rfl (pa_cons (pv 0) (pa_cons pe_int pa_nil))) (pa_cons (pe_cal C_take (hr.mono (by decide)) rfl (pa_cons (pv 0) (pa_cons pe_int pa_nil))) pa_nil))))) (pe_cal C_take (hr.mono (by decide)) rfl (pa_cons (pv 0) (pa_cons pe_int pa_nil))) (fun _ _ => rfl)))))))
 (pss_one (ps_ret (pv 3))))), ?_⟩
  have g := Bfg.start hb
  nested_keys
  refine w_newB g fun p H1 hp g => ?_
  nested_keys
  refine w_take g (by omega) (by omega) (by omega) fun h0 H2 x0 y0 g => ?_
  nested_keys
  refine for_range (lo := 0) (n := (m : Int).toNat) (fun i σ H' => ∃ (us : List V) (xs : List (Int × Deed × Addr)) (hour : Int) (v5 : Option V), xs.length = i ∧ Ts H' stV us xs ∧ (∀ x ∈ xs, StOk H' x ∧ x.1 ≤ hour) ∧ 0 ≤ hour ∧ xs.Pairwise (fun a b => a.1 ≤ b.1) ∧ Bfg bx (n + 1 + 24 * i) H [(p, .lst us)] H' ∧ σ = [some (.ref bx), some (.ref hv), some (.int m), some (.ref p), some (.int hour), v5])
    ⟨[], [], h0, _, rfl, Ts.nil, by simp, x0, .nil, g, rfl⟩ ?_ ?_
  · rintro i σ H' hi ⟨us, xs, hour, v5, hxl, hts, hxs, h00, hpw, g, rfl⟩
    have hHk := hall_kb hH hb g.kp
    nested_keys
    refine ⟨bx, hv, _, h, rfl, g.box, by omega, hHk, hG, fun q d H3 hd hq hb3 k3 => ?_⟩
    have g := g.draw k3 hb3
    nested_keys
    refine w_newBT g fun tp H4 htp g t4 => ?_
    have htp4 : H4 tp = some (.tup [.int hour, .ref q]) := g.get 0 rfl
    have hul : us.length = i := by rw [hts.len, hxl]
    nested_keys
    refine w_appBT 1 g rfl (by omega) hp fun H5 g t5 => ?_
    have g := g.sub (D' := [(p, .lst (us ++ [.ref tp]))]) (List.sublist_cons_self _ _)
    nested_keys
    refine w_takeT g (by omega) (by omega) (by omega) fun d1 H6 x1 y1 g t6 => ?_
    nested_keys
    refine w_takeT g (by omega) (by omega) (by omega) fun d2 H7 x2 y2 g t7 => ?_
    nested_keys
    refine w_newBT g fun ls H8 hls g t8 => ?_
    nested_keys
    refine w_takeT g (by omega) (by omega) (by omega) fun d3 H9 x3 y3 g t9 => ?_
    obtain ⟨j3, v3, rfl, e1, e2⟩ := at_lt (xs := [V.int 0, .int 1, .int d1, .int d2]) x3 y3
    have hsv : ∃ s : Int, v3 = .int s ∧ 0 ≤ s := by
      match j3, e1 with
      | 0, e => exact ⟨_, (Option.some.inj e).symm, by omega⟩
      | 1, e => exact ⟨_, (Option.some.inj e).symm, by omega⟩
      | 2, e => exact ⟨_, (Option.some.inj e).symm, by omega⟩
      | 3, e => exact ⟨_, (Option.some.inj e).symm, by omega⟩
      | k + 4, e => simp at e
    obtain ⟨s, rfl, s0⟩ := hsv
    have t59 := ((t5.trans t6).trans t7).trans (t8.trans t9)
    have t49 := t4.trans t59
    have tall := k3.t.trans t49
    nested_keys
    refine ⟨us ++ [.ref tp], xs ++ [(hour, d, q)], hour + s, _, by simp [hxl], (hts.mono tall).snoc (t59 _ _ htp4), fun x mx => ?_, by omega, ?_, (g.sub (D' := [(p, .lst (us ++ [.ref tp]))]) (List.sublist_cons_self _ _)).le (by omega), rfl⟩
    · rcases List.mem_append.mp mx with mx | mx
      · obtain ⟨⟨q1, q2, q3⟩, q4⟩ := hxs x mx
        exact ⟨⟨tall _ _ q1, q2, q3⟩, by omega⟩
      · rw [List.mem_singleton.mp mx]
        exact ⟨⟨t49 _ _ hq, hd, h00⟩, show hour ≤ hour + s by omega⟩
    · rw [List.pairwise_append]
      refine ⟨hpw, List.pairwise_singleton _ _, fun a ma b mb => ?_⟩
      rw [List.mem_singleton.mp mb]
      exact (hxs a ma).2
  · rintro σ H' ⟨us, xs, hour, v5, hxl, hts, hxs, h00, hpw, g, rfl⟩
    nested_keys
    exact k p us xs H' hp (by omega) (g.get 0 rfl) hts (fun x mx => (hxs x mx).1) hpw (g.box.le (by omega)) g.kp

end K87

namespace K87
open PySem PySem.Spec PyProof.Rows L2
local macro_rules | `(tactic| kxs_still) => `(tactic| with_unfolding_all rfl)
local macro_rules | `(tactic| lcg_sub) => `(tactic| first
  | assumption
  | (apply Cfg.get (i := 0) <;> first | assumption | kxs_still)
  | (apply Cfg.get (i := 1) <;> first | assumption | kxs_still)
  | (apply Cfg.get (i := 2) <;> first | assumption | kxs_still)
  | (apply Cfg.get (i := 3) <;> first | assumption | kxs_still)
  | (apply Cfg.get (i := 4) <;> first | assumption | kxs_still)
  | (apply Cfg.get (i := 5) <;> first | assumption | kxs_still)
  | (apply Cfg.get (i := 6) <;> first | assumption | kxs_still)
  | (apply Cfg.get (i := 7) <;> first | assumption | kxs_still)
  | (apply Cfg.get (i := 8) <;> first | assumption | kxs_still)
  | (apply Cfg.get (i := 9) <;> first | assumption | kxs_still)
  | (apply Cfg.get (i := 0) <;> first | (apply Bfg.toCfg; assumption) | kxs_still)
  | (apply Cfg.get (i := 1) <;> first | (apply Bfg.toCfg; assumption) | kxs_still)
  | (apply Cfg.get (i := 2) <;> first | (apply Bfg.toCfg; assumption) | kxs_still)
  | (apply Cfg.get (i := 3) <;> first | (apply Bfg.toCfg; assumption) | kxs_still)
  | (apply Cfg.get (i := 4) <;> first | (apply Bfg.toCfg; assumption) | kxs_still)
  | (apply Cfg.get (i := 5) <;> first | (apply Bfg.toCfg; assumption) | kxs_still)
  | (apply Cfg.get (i := 6) <;> first | (apply Bfg.toCfg; assumption) | kxs_still)
  | (apply Cfg.get (i := 7) <;> first | (apply Bfg.toCfg; assumption) | kxs_still)
  | (apply Cfg.get (i := 8) <;> first | (apply Bfg.toCfg; assumption) | kxs_still)
  | (apply Cfg.get (i := 9) <;> first | (apply Bfg.toCfg; assumption) | kxs_still))
local macro_rules | `(tactic| kas_types) => `(tactic| first
  | assumption | decide | omega | exact Or.inl (by omega) | exact Or.inr (by omega) | exact ⟨by omega, by omega⟩ | exact ⟨by omega, by omega, by omega⟩)
local macro_rules | `(tactic| keq_hits) => `(tactic| simp only [u_var, u_c, u_op, u_un, u_test, u_tB, u_bl, u_I0, u_eqS, u_eqI, u_neS, u_neI, u_seq, u_next, u_asg, u_name, u_ret, u_retN, u_drop, u_ifS, u_ifE, u_and, u_or, u_not, u_andV, u_orV, u_notV, u_nil, u_cons, u_call, u_cb, u_tup, u_lst, u_sub, u_gNil, u_gCons, u_bm, u_m1, u_isS, u_sl, u_noPart, u_part, u_partk, u_par, u_par2, u_for, u_lc, u_rng1, u_itL, u_itT, u_yes, u_fldI, u_putI, u_newI, u_methI, u_make, u_some, u_i0, u_i1, u_K, L2.start, wipe, List.map_cons, List.map_nil, List.length_cons, List.length_nil, List.replicate_succ, List.replicate_zero, List.cons_append, List.nil_append, List.set_cons_zero, List.set_cons_succ, ite_true, ite_false, if_true, if_false, Bool.false_eq_true, colV, washV, kindV, teamV, rowV, coolV, deedV, batRef_none, batRef_some, u_par3, u_par33, u_augI, u_dget, u_din, u_dnotin, u_dget2, u_dget1, u_dpop1, u_dput, u_setD, u_dnewK, u_dnewT, decide_true, decide_false, Bool.not_true, Bool.not_false, Option.map_none, Option.map_some, Option.isSome_none, Option.isSome_some, Option.getD_some, Option.getD_none, vn_non, vn_ref, vn_str, vn_int, wd_fill_fill, wd_fill_gather, wd_fill_wash, wd_fill_empty, wd_fill_break, wd_fill_new, wd_gather_fill, wd_gather_gather, wd_gather_wash, wd_gather_empty, wd_gather_break, wd_gather_new, wd_wash_fill, wd_wash_gather, wd_wash_wash, wd_wash_empty, wd_wash_break, wd_wash_new, wd_empty_fill, wd_empty_gather, wd_empty_wash, wd_empty_empty, wd_empty_break, wd_empty_new, wd_break_fill, wd_break_gather, wd_break_wash, wd_break_empty, wd_break_break, wd_break_new, wd_new_fill, wd_new_gather, wd_new_wash, wd_new_empty, wd_new_break, wd_new_new, wd_nil, wd_none, wd_broken, wd_busy, wd_glass, wd_name, wd_cold, wd_rank, wd_less, wd_full, wd_whole, inw_fill, inw_gather, inw_wash, inw_empty, inw_break, inw_new, u_itemsT, u_itemsK, u_keysK, u_lk, u_ckw, eq_self, true_and, and_true])
local macro_rules | `(tactic| nested_keys) => `(tactic| repeat first
  | (with_reducible apply w_nx)
  | (with_reducible apply w_blk)
  | (with_reducible apply w_I; (· with_unfolding_all kas_types))
  | (with_reducible apply w_ixT; (· lcg_sub); (· kxs_still))
  | (with_reducible apply w_ixL; (· lcg_sub); (· kxs_still))
  | (with_reducible apply w_fldI; (· lcg_sub); (· kxs_still))
  | (with_reducible apply w_methI; (· lcg_sub))
  | (with_reducible apply w_augO; (· lcg_sub); (· kxs_still))
  | (with_reducible apply w_dgetS; (· lcg_sub); (· assumption))
  | (with_reducible apply w_dinS; (· lcg_sub))
  | (with_reducible apply w_dnotinS; (· lcg_sub))
  | (with_reducible apply w_isD; (· lcg_sub))
  | (with_reducible apply w_inT; (· lcg_sub); (· with_unfolding_all rfl))
  | (with_reducible apply w_sz; (· with_unfolding_all exact Nat.le_of_ble_eq_true rfl))
  | (with_reducible apply w_gTup; (· lcg_sub); (· kxs_still))
  | (with_reducible apply w_tyL; (· lcg_sub))
  | (with_reducible apply w_rng1k; (· with_unfolding_all kas_types); (· with_unfolding_all kas_types))
  | (with_reducible apply w_itLk; (· lcg_sub))
  | (with_reducible apply w_itTk; (· lcg_sub))
  | (with_reducible apply w_lenL; (· lcg_sub))
  | (with_reducible apply w_lenT; (· lcg_sub))
  | (with_reducible apply w_lenS; (· with_unfolding_all kas_types))
  | (with_reducible apply w_ixaL; (· lcg_sub); (· kxs_still))
  | (with_reducible apply w_ixaT; (· lcg_sub); (· kxs_still))
  | (with_reducible apply w_ixaS; (· with_unfolding_all kas_types); (· kxs_still))
  | (with_reducible apply w_ixS; (· with_unfolding_all kas_types); (· kxs_still))
  | (with_reducible apply w_slL; (· lcg_sub))
  | (with_reducible apply w_slS; (· with_unfolding_all kas_types))
  | (with_reducible apply w_addS; (· with_unfolding_all kas_types))
  | (with_reducible apply w_listL; (· lcg_sub))
  | (with_reducible apply w_tupL; (· lcg_sub))
  | (with_reducible apply w_divmod; (· with_unfolding_all kas_types))
  | (simp only [u_var, u_c, u_op, u_un, u_test, u_tB, u_bl, u_I0, u_eqS, u_eqI, u_neS, u_neI, u_seq, u_next, u_asg, u_name, u_ret, u_retN, u_drop, u_ifS, u_ifE, u_and, u_or, u_not, u_andV, u_orV, u_notV, u_nil, u_cons, u_call, u_cb, u_tup, u_lst, u_sub, u_gNil, u_gCons, u_bm, u_m1, u_isS, u_sl, u_noPart, u_part, u_partk, u_par, u_par2, u_for, u_lc, u_rng1, u_itL, u_itT, u_yes, u_fldI, u_putI, u_newI, u_methI, u_make, u_some, u_i0, u_i1, u_K, L2.start, wipe, List.map_cons, List.map_nil, List.length_cons, List.length_nil, List.replicate_succ, List.replicate_zero, List.cons_append, List.nil_append, List.set_cons_zero, List.set_cons_succ, ite_true, ite_false, if_true, if_false, Bool.false_eq_true, colV, washV, kindV, teamV, rowV, coolV, deedV, batRef_none, batRef_some, u_par3, u_par33, u_augI, u_dget, u_din, u_dnotin, u_dget2, u_dget1, u_dpop1, u_dput, u_setD, u_dnewK, u_dnewT, decide_true, decide_false, Bool.not_true, Bool.not_false, Option.map_none, Option.map_some, Option.isSome_none, Option.isSome_some, Option.getD_some, Option.getD_none, vn_non, vn_ref, vn_str, vn_int, wd_fill_fill, wd_fill_gather, wd_fill_wash, wd_fill_empty, wd_fill_break, wd_fill_new, wd_gather_fill, wd_gather_gather, wd_gather_wash, wd_gather_empty, wd_gather_break, wd_gather_new, wd_wash_fill, wd_wash_gather, wd_wash_wash, wd_wash_empty, wd_wash_break, wd_wash_new, wd_empty_fill, wd_empty_gather, wd_empty_wash, wd_empty_empty, wd_empty_break, wd_empty_new, wd_break_fill, wd_break_gather, wd_break_wash, wd_break_empty, wd_break_break, wd_break_new, wd_new_fill, wd_new_gather, wd_new_wash, wd_new_empty, wd_new_break, wd_new_new, wd_nil, wd_none, wd_broken, wd_busy, wd_glass, wd_name, wd_cold, wd_rank, wd_less, wd_full, wd_whole, inw_fill, inw_gather, inw_wash, inw_empty, inw_break, inw_new, u_itemsT, u_itemsK, u_keysK, u_lk, u_ckw, eq_self, true_and, and_true])
  | (with_reducible apply w_eq; (· kxs_still))
  | (with_reducible apply w_ne; (· kxs_still)))
def spDraws : Sp := fun vs H Q _ => ∃ (cp : Addr) (cs : List Int) (k : Nat), vs = [.ref cp, .int k] ∧ H cp = some (.lst (cs.map V.int)) ∧ k < cs.length ∧ cs.length ≤ 2 ∧ ∀ p H', H p = none → BoxAt H' p 0 → Ex H H' → Q (.ref p) H'
theorem C_draws {P : Program} {w : World} {K : PySem.W.Frag} {mg : Str → Option Value} {base : Heap} (T : Txt K mg) : Cal P w K mg base 1 "_law_draws" ["_law_script", "_law_k"] spDraws := by
  refine cal_mk T 44 rfl T.g_draws sc_draws rfl rfl (fun _ _ _ _ _ _ us hl => match us, hl with | [_, _], _ => rfl) (fun vs H Q E h => ?_) (fun f cdv A outer s H vs Q E hr h => ?_)
  · obtain ⟨cp, cs, k, rfl, hcp, hk, hl, q⟩ := h
    rfl
  obtain ⟨cp, cs, k, rfl, hcp, hk, hl, q⟩ := h
  refine ⟨_, (pss_cons (ps_set (i := 2) sc_draws.nd rfl (Or.inl rfl) (pe_ifExp (pt_cmpR op_lt (pv 1) (pe_callB (call_lenK (K := K) rfl) (by rfl) T.f_len (by decide +kernel) (pa_cons (pv 0) pa_nil)) (nomark _)) (pe_ix (ix_listK (K := K) rfl) (pv 0) (pv 1) (fun _ _ => rfl)) pe_int))
 (pss_one (ps_ret (pe_lst (pa_cons (pe_op op_mul (pe_callB call_abs (by rfl) T.f_abs (by decide +kernel) (pa_cons (pv 2) pa_nil)) (pe_callTy call_int1 (by rfl) T.f_int (by decide +kernel) (pa_cons (pe_cmpR op_ge (pe_callB call_abs (by rfl) T.f_abs (by decide +kernel) (pa_cons (pv 2) pa_nil)) (pe_op op_pow pe_int pe_int) (nomark _)) pa_nil))) (pa_cons (pe_op op_add (pe_op op_add (pe_op op_mod (pv 2) pe_int) (pe_op op_mul pe_int (pv 1))) pe_int) (pa_cons pe_int pa_nil))))))), ?_⟩
  obtain ⟨c, hc⟩ : ∃ c, cs[k]? = some c := ⟨cs[k], List.getElem?_eq_getElem hk⟩
  have hat : atI (cs.map V.int) (k : Int) = some (.int c) := atI_nat (by rw [List.getElem?_map, hc]; rfl)
  nested_keys
  rw [List.length_map, decide_eq_true (by omega : (k : Int) < (cs.length : Int))]
  nested_keys
  refine ⟨c, rfl, c, rfl, ?_⟩
  nested_keys
  refine .inr ⟨_, rfl, ?_⟩
  generalize hb : decide ((10 : Int) ^ Int.toNat 18 ≤ if c < 0 then -c else c) = b
  have hf : (0 : Int) ≤ (if b = true then 1 else 0) ∧ (if b = true then (1 : Int) else 0) ≤ 1 := by cases b <;> decide
  have ha : (0 : Int) ≤ (if c < 0 then -c else c) := by split <;> omega
  generalize (if b = true then (1 : Int) else 0) = f at hf
  generalize (if c < 0 then -c else c) = a at ha
  refine w_I (.inr ⟨by omega, by omega⟩) ?_
  nested_keys
  intro p hp
  have m0 := Int.emod_nonneg c (show (2305843009213693951 : Int) ≠ 0 by decide)
  have m1 := Int.emod_lt_of_pos c (show (0 : Int) < 2305843009213693951 by decide)
  exact q p _ hp ⟨_, _, _, upd_same, Int.mul_nonneg ha hf.1, by omega, by omega, by omega, by omega⟩ (Kp.new hp)
theorem sqL_ex {K : PySem.W.Frag} {H H' : Hp} {a : Addr} {xs : List V} (h : SqL K H a xs) (k : Ex H H') : SqL K H' a xs := by
  rcases h with (h | ⟨o, h⟩) | h
  · exact .inl (.inl (k.exget h))
  · exact .inl (.inr ⟨o, k.exget h⟩)
  · exact .inr h
def spFolded (K : PySem.W.Frag) : Sp := fun vs H Q _ => ∃ (sa : Addr) (ns : List Int), vs = [.ref sa, .int 2] ∧ SqL K H sa (ns.map V.int) ∧ ns.length ≤ 1000 ∧ ∀ (p : Addr) (cs : List Int) (H' : Hp), H p = none → Ex H H' → H' p = some (.lst (cs.map V.int)) → 0 < cs.length → cs.length ≤ 2 → Q (.ref p) H'
theorem C_folded {P : Program} {w : World} {K : PySem.W.Frag} {mg : Str → Option Value} {base : Heap} (T : Txt K mg) : Cal P w K mg base 1 "_law_folded" ["_law_script", "_law_many"] (spFolded K) := by
  refine cal_mk T 43 rfl T.g_folded sc_folded rfl rfl (fun _ _ _ _ _ _ us hl => match us, hl with | [_, _], _ => rfl) (fun vs H Q E h => ?_) (fun f cdv A outer s H vs Q E hr h => ?_)
  · obtain ⟨sa, ns, rfl, hsa, hl, q⟩ := h
    rfl
  obtain ⟨sa, ns, rfl, hsa, hl, q⟩ := h
  refine ⟨_, (pss_cons (ps_set (i := 2) sc_folded.nd rfl (Or.inl rfl) (pe_callTy (call_listK (K := K) rfl) (by rfl) T.f_list (by decide +kernel) (pa_cons (pe_slice (sl_listK (K := K) rfl) (pv 0) po_none (po_some (pv 1))) pa_nil)))
 (pss_cons (ps_for PassesOwn.never rfl (pi_enumK (K := K) rfl (by rfl) T.f_enumerate (pa_cons (pe_slice (sl_listK (K := K) rfl) (pv 0) (po_some (pv 1)) (po_some pe_int)) pa_nil)) (pg_tupK (K := K) (n := 2) rfl rfl (pgs_cons (pg_name (i := 3) sc_folded.nd rfl (Or.inl rfl)) (pgs_cons (pg_name (i := 4) sc_folded.nd rfl (Or.inl rfl)) pgs_nil))) (pss_one (ps_asg (pe_op op_add (pe_ix (ix_listK (K := K) rfl) (pv 2) (pe_op op_mod (pv 3) (pv 1)) (fun _ _ => rfl)) (pe_op op_mul (pv 4) (pe_op op_add (pv 3) pe_int))) (pg_sub (pv 2) (pe_op op_mod (pv 3) (pv 1)) set_list))))
 (pss_one (ps_ret (pe_ifExp (pt_cmpR (op_neDK (K := K) rfl hr.units) (pv 2) (pe_lst pa_nil) (nomark _)) (pv 2) (pe_lst (pa_cons pe_int pa_nil))))))), ?_⟩
  have ec : cutV (ns.map V.int) none (some 2) = (ns.take 2).map V.int := by rw [cut_take _ (by decide), ← List.map_take]; rfl
  have ed : cutV (ns.map V.int) (some 2) (some 63) = ((ns.drop 2).take (min 63 ns.length - min 2 ns.length)).map V.int := by
    unfold cutV
    rw [show (2 : Int) = ((2 : Nat) : Int) from rfl, show (63 : Int) = ((63 : Nat) : Int) from rfl, HT.sIx_nat, HT.sIx_nat, List.length_map, ← List.map_drop, ← List.map_take]
    congr 1
    by_cases h : 2 ≤ ns.length
    · rw [Nat.min_eq_left h]
    · have e0 : ns.drop (min 2 ns.length) = ns.drop 2 := by rw [Nat.min_eq_right (by omega), List.drop_of_length_le (Nat.le_refl _), List.drop_of_length_le (by omega)]
      rw [e0]
  nested_keys
  refine ⟨sa, ns.map V.int, rfl, hsa, fun p1 hp1 => ?_⟩
  rw [ec]
  have g : Cfg no H [(p1, .lst ((ns.take 2).map V.int))] (upd H p1 (.lst ((ns.take 2).map V.int))) := Cfg.nil.new hp1
  show rListOf K [.ref p1] (upd H p1 (.lst ((ns.take 2).map V.int))) _
  generalize upd H p1 (.lst ((ns.take 2).map V.int)) = H1 at g
  nested_keys
  refine w_new g fun ce H2 hce g => ?_
  have g := g.sub (D' := [(ce, .lst ((ns.take 2).map V.int))]) (by simp)
  have up : ∀ {H' D}, Cfg no H D H' → SqL K H' sa (ns.map V.int) := fun g => sqL_ex hsa g.kp
  nested_keys
  simp only [u_enum]
  nested_keys
  refine ⟨sa, ns.map V.int, rfl, up g, fun p2 hp2 => ?_⟩
  rw [ed]
  have hp2H := g.kp.nn hp2
  have g := g.new (o := .lst (((ns.drop 2).take (min 63 ns.length - min 2 ns.length)).map V.int)) hp2
  show rEnum K [.ref p2] _ (upd H2 p2 (.lst (((ns.drop 2).take (min 63 ns.length - min 2 ns.length)).map V.int)))
  generalize upd H2 p2 (.lst (((ns.drop 2).take (min 63 ns.length - min 2 ns.length)).map V.int)) = H3 at g
  have hp23 : H3 p2 = some (.lst (((ns.drop 2).take (min 63 ns.length - min 2 ns.length)).map V.int)) := g.get 0 rfl
  refine ⟨p2, _, rfl, SqL.of hp23, ?_⟩
  generalize hds : (ns.drop 2).take (min 63 ns.length - min 2 ns.length) = ds at g hp23
  have hdl : 0 < ds.length → 2 ≤ ns.length := fun h => by
    rw [← hds, List.length_take, List.length_drop] at h; omega
  refine for_it walk_enum (fun i σ H' => ∃ (cs : List Int) (v3 v4 : Option V), cs.length = min 2 ns.length ∧ Cfg no H [(p2, .lst (ds.map V.int)), (ce, .lst (cs.map V.int))] H' ∧ σ = [some (.ref sa), some (.int 2), some (.ref ce), v3, v4])
    ⟨ns.take 2, _, _, by rw [List.length_take], g, rfl⟩ (fun i σ H' _ ⟨_, _, _, _, g, _⟩ => SqL.of (g.get 0 rfl)) ?_ ?_
  · rintro i v σ H' H4 hi ⟨cs, v3, v4, hcl, g, rfl⟩ ⟨T, x, y, rfl, hT, rfl, e1, e2⟩
    rw [List.length_map] at hi
    cases e1
    dsimp only at e2
    rw [List.getElem?_map] at e2
    obtain ⟨c, hc, rfl⟩ := Option.map_eq_some_iff.mp e2
    have hc2 : cs.length = 2 := by have := hdl (by omega); omega
    have gT := g.new (o := .tup [.int (i : Nat), .int c]) hT
    show gTup K 2 _ (.ref T) _ (upd H' T (.tup [.int (i : Nat), .int c])) _
    generalize upd H' T (.tup [.int (i : Nat), .int c]) = H5 at gT
    have hi2 : i % 2 < cs.length := by omega
    have em : ((i : Int) % 2) = ((i % 2 : Nat) : Int) := rfl
    have hat : atI (cs.map V.int) ((i : Int) % 2) = some (.int cs[i % 2]) := by
      rw [em]
      exact atI_nat (by rw [List.getElem?_map, List.getElem?_eq_getElem hi2]; rfl)
    have hce5 : H5 ce = some (.lst (cs.map V.int)) := gT.get 2 rfl
    nested_keys
    have hds2 : ds.length ≤ 1000 := by
      rw [← hds, List.length_take, List.length_drop]; omega
    refine w_I (.inr ⟨by omega, by omega⟩) ?_
    nested_keys
    have hj : ixN (cs.map V.int).length ((i : Int) % 2) = some (i % 2) := by
      rw [em]
      exact Evl.ixN_nat (by rw [List.length_map]; exact hi2)
    refine w_setG 2 gT rfl hj (.inr hce) fun H6 g6 => ?_
    nested_keys
    refine ⟨cs.set (i % 2) (cs[i % 2] + c * ((i : Int) + 2)), _, _, by rw [List.length_set]; exact hcl, ?_, rfl⟩
    rw [List.map_set]
    exact g6.sub (List.sublist_cons_self _ _)
  · rintro σ H' ⟨cs, v3, v4, hcl, g, rfl⟩
    nested_keys
    intro e he
    have g := g.new (o := .lst []) he
    show rNeD K (.ref ce) (.ref e) (upd H' e (.lst [])) _
    generalize upd H' e (.lst []) = H5 at g
    have hc5 : H5 ce = some (.lst (cs.map V.int)) := g.get 2 rfl
    have he5 : H5 e = some (.lst []) := g.get 0 rfl
    have hl2 : cs.length ≤ 2 := by omega
    match cs, hl2, hc5 with
    | [], _, hc5 =>
      refine ⟨.list [], .list [], .lst (SqL.of hc5) .nil, .lst (SqL.of he5) .nil, rfl, rfl, ?_⟩
      rw [SeqAt.eqv_refl _ rfl]
      nested_keys
      refine w_new g fun p H6 hp g => ?_
      exact q p [0] H6 hp g.kp (g.get 0 rfl) (by decide) (by decide)
    | [a], _, hc5 =>
      refine ⟨.list [.int a], .list [], .lst (SqL.of hc5) (.cons (.int a) .nil), .lst (SqL.of he5) .nil, rfl, rfl, ?_⟩
      rw [show PyData.eqv (.list [.int a]) (.list []) = false by simp [PyData.eqv, PyData.eqvAll]]
      nested_keys
      exact q ce [a] H5 hce g.kp hc5 (Nat.succ_pos _) (show 1 ≤ 2 by decide)
    | [a, b], _, hc5 =>
      refine ⟨.list [.int a, .int b], .list [], .lst (SqL.of hc5) (.cons (.int a) (.cons (.int b) .nil)), .lst (SqL.of he5) .nil, rfl, rfl, ?_⟩
      rw [show PyData.eqv (.list [.int a, .int b]) (.list []) = false by simp [PyData.eqv, PyData.eqvAll]]
      nested_keys
      exact q ce [a, b] H5 hce g.kp hc5 (Nat.succ_pos _) (show 2 ≤ 2 by decide)

end K87

namespace K87
open PySem PySem.Spec PyProof.Rows L2
local macro_rules | `(tactic| kxs_still) => `(tactic| with_unfolding_all rfl)
local macro_rules | `(tactic| lcg_sub) => `(tactic| first
  | assumption
  | (apply Cfg.get (i := 0) <;> first | assumption | kxs_still)
  | (apply Cfg.get (i := 1) <;> first | assumption | kxs_still)
  | (apply Cfg.get (i := 2) <;> first | assumption | kxs_still)
  | (apply Cfg.get (i := 3) <;> first | assumption | kxs_still)
  | (apply Cfg.get (i := 4) <;> first | assumption | kxs_still)
  | (apply Cfg.get (i := 5) <;> first | assumption | kxs_still)
  | (apply Cfg.get (i := 6) <;> first | assumption | kxs_still)
  | (apply Cfg.get (i := 7) <;> first | assumption | kxs_still)
  | (apply Cfg.get (i := 8) <;> first | assumption | kxs_still)
  | (apply Cfg.get (i := 9) <;> first | assumption | kxs_still)
  | (apply Cfg.get (i := 0) <;> first | (apply Bfg.toCfg; assumption) | kxs_still)
  | (apply Cfg.get (i := 1) <;> first | (apply Bfg.toCfg; assumption) | kxs_still)
  | (apply Cfg.get (i := 2) <;> first | (apply Bfg.toCfg; assumption) | kxs_still)
  | (apply Cfg.get (i := 3) <;> first | (apply Bfg.toCfg; assumption) | kxs_still)
  | (apply Cfg.get (i := 4) <;> first | (apply Bfg.toCfg; assumption) | kxs_still)
  | (apply Cfg.get (i := 5) <;> first | (apply Bfg.toCfg; assumption) | kxs_still)
  | (apply Cfg.get (i := 6) <;> first | (apply Bfg.toCfg; assumption) | kxs_still)
  | (apply Cfg.get (i := 7) <;> first | (apply Bfg.toCfg; assumption) | kxs_still)
  | (apply Cfg.get (i := 8) <;> first | (apply Bfg.toCfg; assumption) | kxs_still)
  | (apply Cfg.get (i := 9) <;> first | (apply Bfg.toCfg; assumption) | kxs_still))
local macro_rules | `(tactic| kas_types) => `(tactic| first
  | assumption | decide | omega | exact Or.inl (by omega) | exact Or.inr (by omega) | exact ⟨by omega, by omega⟩ | exact ⟨by omega, by omega, by omega⟩)
local macro_rules | `(tactic| keq_hits) => `(tactic| simp only [u_var, u_c, u_op, u_un, u_test, u_tB, u_bl, u_I0, u_eqS, u_eqI, u_neS, u_neI, u_seq, u_next, u_asg, u_name, u_ret, u_retN, u_drop, u_ifS, u_ifE, u_and, u_or, u_not, u_andV, u_orV, u_notV, u_nil, u_cons, u_call, u_cb, u_tup, u_lst, u_sub, u_gNil, u_gCons, u_bm, u_m1, u_isS, u_sl, u_noPart, u_part, u_partk, u_par, u_par2, u_for, u_lc, u_rng1, u_itL, u_itT, u_yes, u_fldI, u_putI, u_newI, u_methI, u_make, u_some, u_i0, u_i1, u_K, L2.start, wipe, List.map_cons, List.map_nil, List.length_cons, List.length_nil, List.replicate_succ, List.replicate_zero, List.cons_append, List.nil_append, List.set_cons_zero, List.set_cons_succ, ite_true, ite_false, if_true, if_false, Bool.false_eq_true, colV, washV, kindV, teamV, rowV, coolV, deedV, batRef_none, batRef_some, u_par3, u_par33, u_augI, u_dget, u_din, u_dnotin, u_dget2, u_dget1, u_dpop1, u_dput, u_setD, u_dnewK, u_dnewT, decide_true, decide_false, Bool.not_true, Bool.not_false, Option.map_none, Option.map_some, Option.isSome_none, Option.isSome_some, Option.getD_some, Option.getD_none, vn_non, vn_ref, vn_str, vn_int, wd_fill_fill, wd_fill_gather, wd_fill_wash, wd_fill_empty, wd_fill_break, wd_fill_new, wd_gather_fill, wd_gather_gather, wd_gather_wash, wd_gather_empty, wd_gather_break, wd_gather_new, wd_wash_fill, wd_wash_gather, wd_wash_wash, wd_wash_empty, wd_wash_break, wd_wash_new, wd_empty_fill, wd_empty_gather, wd_empty_wash, wd_empty_empty, wd_empty_break, wd_empty_new, wd_break_fill, wd_break_gather, wd_break_wash, wd_break_empty, wd_break_break, wd_break_new, wd_new_fill, wd_new_gather, wd_new_wash, wd_new_empty, wd_new_break, wd_new_new, wd_nil, wd_none, wd_broken, wd_busy, wd_glass, wd_name, wd_cold, wd_rank, wd_less, wd_full, wd_whole, inw_fill, inw_gather, inw_wash, inw_empty, inw_break, inw_new, u_itemsT, u_itemsK, u_keysK, u_lk, u_ckw, eq_self, true_and, and_true])
local macro_rules | `(tactic| nested_keys) => `(tactic| repeat first
  | (with_reducible apply w_nx)
  | (with_reducible apply w_blk)
  | (with_reducible apply w_I; (· with_unfolding_all kas_types))
  | (with_reducible apply w_ixT; (· lcg_sub); (· kxs_still))
  | (with_reducible apply w_ixL; (· lcg_sub); (· kxs_still))
  | (with_reducible apply w_fldI; (· lcg_sub); (· kxs_still))
  | (with_reducible apply w_methI; (· lcg_sub))
  | (with_reducible apply w_augO; (· lcg_sub); (· kxs_still))
  | (with_reducible apply w_dgetS; (· lcg_sub); (· assumption))
  | (with_reducible apply w_dinS; (· lcg_sub))
  | (with_reducible apply w_dnotinS; (· lcg_sub))
  | (with_reducible apply w_isD; (· lcg_sub))
  | (with_reducible apply w_inT; (· lcg_sub); (· with_unfolding_all rfl))
  | (with_reducible apply w_sz; (· with_unfolding_all exact Nat.le_of_ble_eq_true rfl))
  | (with_reducible apply w_gTup; (· lcg_sub); (· kxs_still))
  | (with_reducible apply w_tyL; (· lcg_sub))
  | (with_reducible apply w_rng1k; (· with_unfolding_all kas_types); (· with_unfolding_all kas_types))
  | (with_reducible apply w_itLk; (· lcg_sub))
  | (with_reducible apply w_itTk; (· lcg_sub))
  | (with_reducible apply w_lenL; (· lcg_sub))
  | (with_reducible apply w_lenT; (· lcg_sub))
  | (with_reducible apply w_lenS; (· with_unfolding_all kas_types))
  | (with_reducible apply w_ixaL; (· lcg_sub); (· kxs_still))
  | (with_reducible apply w_ixaT; (· lcg_sub); (· kxs_still))
  | (with_reducible apply w_ixaS; (· with_unfolding_all kas_types); (· kxs_still))
  | (with_reducible apply w_ixS; (· with_unfolding_all kas_types); (· kxs_still))
  | (with_reducible apply w_slL; (· lcg_sub))
  | (with_reducible apply w_slS; (· with_unfolding_all kas_types))
  | (with_reducible apply w_addS; (· with_unfolding_all kas_types))
  | (with_reducible apply w_listL; (· lcg_sub))
  | (with_reducible apply w_tupL; (· lcg_sub))
  | (with_reducible apply w_divmod; (· with_unfolding_all kas_types))
  | (simp only [u_var, u_c, u_op, u_un, u_test, u_tB, u_bl, u_I0, u_eqS, u_eqI, u_neS, u_neI, u_seq, u_next, u_asg, u_name, u_ret, u_retN, u_drop, u_ifS, u_ifE, u_and, u_or, u_not, u_andV, u_orV, u_notV, u_nil, u_cons, u_call, u_cb, u_tup, u_lst, u_sub, u_gNil, u_gCons, u_bm, u_m1, u_isS, u_sl, u_noPart, u_part, u_partk, u_par, u_par2, u_for, u_lc, u_rng1, u_itL, u_itT, u_yes, u_fldI, u_putI, u_newI, u_methI, u_make, u_some, u_i0, u_i1, u_K, L2.start, wipe, List.map_cons, List.map_nil, List.length_cons, List.length_nil, List.replicate_succ, List.replicate_zero, List.cons_append, List.nil_append, List.set_cons_zero, List.set_cons_succ, ite_true, ite_false, if_true, if_false, Bool.false_eq_true, colV, washV, kindV, teamV, rowV, coolV, deedV, batRef_none, batRef_some, u_par3, u_par33, u_augI, u_dget, u_din, u_dnotin, u_dget2, u_dget1, u_dpop1, u_dput, u_setD, u_dnewK, u_dnewT, decide_true, decide_false, Bool.not_true, Bool.not_false, Option.map_none, Option.map_some, Option.isSome_none, Option.isSome_some, Option.getD_some, Option.getD_none, vn_non, vn_ref, vn_str, vn_int, wd_fill_fill, wd_fill_gather, wd_fill_wash, wd_fill_empty, wd_fill_break, wd_fill_new, wd_gather_fill, wd_gather_gather, wd_gather_wash, wd_gather_empty, wd_gather_break, wd_gather_new, wd_wash_fill, wd_wash_gather, wd_wash_wash, wd_wash_empty, wd_wash_break, wd_wash_new, wd_empty_fill, wd_empty_gather, wd_empty_wash, wd_empty_empty, wd_empty_break, wd_empty_new, wd_break_fill, wd_break_gather, wd_break_wash, wd_break_empty, wd_break_break, wd_break_new, wd_new_fill, wd_new_gather, wd_new_wash, wd_new_empty, wd_new_break, wd_new_new, wd_nil, wd_none, wd_broken, wd_busy, wd_glass, wd_name, wd_cold, wd_rank, wd_less, wd_full, wd_whole, inw_fill, inw_gather, inw_wash, inw_empty, inw_break, inw_new, u_itemsT, u_itemsK, u_keysK, u_lk, u_ckw, eq_self, true_and, and_true])
  | (with_reducible apply w_eq; (· kxs_still))
  | (with_reducible apply w_ne; (· kxs_still)))
@[reducible] def pairV (r : Row) : List V := [.int r.hour, .int r.number]
theorem lc_pairs {K : PySem.W.Frag} {rp : Addr} {rvs : List V} {rows : List Row} {H : Hp} {QT : VK} {v0 v1 v2 v3 v4 v5 v6 v7 v8 v9 v10 v11 : Option V} (hrp : H rp = some (.lst rvs)) (hts : Ts H rowV rvs rows) (hlen : rows.length ≤ 1000)
    (q : ∀ p ps H', H p = none → Ex H H' → H' p = some (.lst ps) → Ts H' pairV ps rows → QT (.ref p) H') :
    Lc (Itl K rp) (gName 10) tYes (tSl (rSlT K) (tVar 10) tNoPart (tPart (tC (.int 2)))) [10] QT [v0, v1, v2, v3, v4, v5, v6, v7, v8, v9, v10, v11] H := by
  intro U hU
  have hl := hts.len
  refine lc_list (K := K) (a := rp) (xs := rvs) (fun i H' => ∃ us, us.length = i ∧ Cfg no H [(U, .lst us)] H' ∧ Ts H' pairV us (rows.take i)) ⟨[], rfl, Cfg.nil.new hU, Ts.nil⟩ (fun i H' _ ⟨us, _, g, _⟩ => SqL.of (g.kp.exget hrp)) ?_ ?_
  · rintro i v H' hv ⟨us, hus, g, ht⟩
    obtain ⟨r, t, hr, rfl, hrt⟩ := hts.get hv
    have hrt := g.kp.t _ _ hrt
    have hi := get_lt hr
    nested_keys
    refine ⟨t, rowV r, rfl, SqT.of hrt, (by show ¬ (HT.sIx 7 0 none = 0 ∧ HT.sIx 7 7 (some 2) = 7); decide), fun s hs => ?_⟩
    have ks : Ex H' (upd H' s (.tup (pairV r))) := Kp.new hs
    show ∃ acc, _
    have g := g.ex ks
    have gw := g.wr (o := .lst (us ++ [.ref s])) 0 rfl (fun _ z => by cases z) (.inr hU)
    have tw : Tp _ (upd (upd H' s (.tup (pairV r))) U (.lst (us ++ [.ref s]))) := tp_wr g.hd (fun _ z => by cases z)
    refine ⟨_, g.hd, Nat.lt_of_lt_of_le (show us.length < 100000 by omega) (by decide), us ++ [V.ref s], by simp [hus], gw, ?_⟩
    rw [take_snoc hr]
    exact ((ht.mono ks.t).mono tw).snoc (tw _ _ upd_same)
  · rintro H1 ⟨us, hus, g, ht⟩
    rw [hl, List.take_length] at ht
    exact q U us H1 hU g.kp (g.get 0 rfl) ht
theorem shaped_tups {α : Type} {g : α → List PyData} {xs : List α} (hl : ∀ x ∈ xs, PyData.canLayAll0 (g x) = true) (hd : ∀ x ∈ xs, PyData.depthAll (g x) ≤ 3) : SeqAt.shaped (.list (xs.map fun x => .tuple (g x))) = true := by
  have q1 : ∀ (l : List α), (∀ x ∈ l, PyData.canLayAll0 (g x) = true) → PyData.canLayAll0 (l.map fun x => PyData.tuple (g x)) = true := by
    intro l
    induction l with
    | nil => intro _; simp [PyData.canLayAll0]
    | cons x r ih =>
      intro h
      rw [List.map_cons]
      simp only [PyData.canLayAll0, PyData.canLay0, Bool.and_eq_true]
      exact ⟨h x (List.mem_cons_self ..), ih fun y m => h y (List.mem_cons_of_mem _ m)⟩
  have q2 : ∀ (l : List α), (∀ x ∈ l, PyData.depthAll (g x) ≤ 3) → PyData.depthAll (l.map fun x => PyData.tuple (g x)) ≤ 4 := by
    intro l
    induction l with
    | nil => intro _; simp [PyData.depthAll]
    | cons x r ih =>
      intro h
      rw [List.map_cons]
      simp only [PyData.depthAll, PyData.depth]
      have a := h x (List.mem_cons_self ..)
      have b := ih fun y m => h y (List.mem_cons_of_mem _ m)
      omega
  unfold SeqAt.shaped
  rw [Bool.and_eq_true]
  refine ⟨?_, decide_eq_true ?_⟩
  · simp only [PyData.canLay0]
    exact q1 xs hl
  · simp only [PyData.depth]
    have := q2 xs hd
    omega
theorem ts_dp {α : Type} {K : PySem.W.Frag} {H : Hp} {f : α → List V} {g : α → List PyData} {vs : List V} {xs : List α} (h : Ts H f vs xs) (hfg : ∀ x, DpAll K H (f x) (g x)) : DpAll K H vs (xs.map fun x => .tuple (g x)) := by
  have h2 : Paired (fun v x => ∃ a, v = V.ref a ∧ H a = some (.tup (f x))) vs xs := h
  clear h
  induction h2 with
  | nil => exact .nil
  | cons q t ih =>
    obtain ⟨a, rfl, ha⟩ := q
    exact .cons (.tup (SqT.of ha) (hfg _)) ih
@[reducible] def optD : Option Int → PyData
  | none => .none
  | some i => .int i
@[reducible] def rowD (r : Row) : List PyData := [.int r.hour, .int r.number, .str r.word, .str r.pot, .int r.many, .str r.colour, optD r.source]
@[reducible] def pairD (r : Row) : List PyData := [.int r.hour, .int r.number]
theorem row_dp {K : PySem.W.Frag} {H : Hp} (r : Row) : DpAll K H (rowV r) (rowD r) := by
  refine .cons (.int _) (.cons (.int _) (.cons (.str _) (.cons (.str _) (.cons (.int _) (.cons (.str _) (.cons ?_ .nil))))))
  cases r.source with
  | none => exact .non
  | some i => exact .int i
theorem pair_dp {K : PySem.W.Frag} {H : Hp} (r : Row) : DpAll K H (pairV r) (pairD r) := .cons (.int _) (.cons (.int _) .nil)
theorem pairs_shaped (rows : List Row) : SeqAt.shaped (.list (rows.map fun r => .tuple (pairD r))) = true :=
  shaped_tups (fun r _ => by simp [PyData.canLayAll0, PyData.canLay0]) (fun r _ => by simp [PyData.depthAll, PyData.depth])
theorem rows_shaped (rows : List Row) (h : ∀ r ∈ rows, sOk r.word = true ∧ sOk r.pot = true ∧ sOk r.colour = true) : SeqAt.shaped (.list (rows.map fun r => .tuple (rowD r))) = true :=
  shaped_tups (fun r m => by
    obtain ⟨a, b, c⟩ := h r m
    have a : PyData.canLay0 (.str r.word) = true := a
    have b : PyData.canLay0 (.str r.pot) = true := b
    have c : PyData.canLay0 (.str r.colour) = true := c
    simp only [PyData.canLayAll0, a, b, c, Bool.true_and, Bool.and_true]
    cases r.source <;> simp [PyData.canLay0]) (fun r _ => by
    cases hs : r.source <;> simp [PyData.depthAll, PyData.depth, hs])
theorem same_rows {K : PySem.W.Frag} {H : Hp} {p p' : Addr} {vs ws : List V} {rows : List Row} {QT : V → Hp → Prop} (h1 : H p = some (.lst vs)) (h2 : H p' = some (.lst ws)) (t1 : Ts H rowV vs rows) (t2 : Ts H rowV ws rows) (h : ∀ r ∈ rows, sOk r.word = true ∧ sOk r.pot = true ∧ sOk r.colour = true)
    (q : QT (.bl false) H) : rNeD K (.ref p) (.ref p') H QT := w_neD1 (.lst (SqL.of h1) (ts_dp t1 row_dp)) (.lst (SqL.of h2) (ts_dp t2 row_dp)) (rows_shaped rows h) q
theorem same_pairs {K : PySem.W.Frag} {H : Hp} {p p' : Addr} {vs ws : List V} {rows : List Row} {QT : V → Hp → Prop} (h1 : H p = some (.lst vs)) (h2 : H p' = some (.lst ws)) (t1 : Ts H pairV vs rows) (t2 : Ts H pairV ws rows)
    (q : QT (.bl false) H) : rNeD K (.ref p) (.ref p') H QT := w_neD1 (.lst (SqL.of h1) (ts_dp t1 pair_dp)) (.lst (SqL.of h2) (ts_dp t2 pair_dp)) (pairs_shaped rows) q
/-- in order already -/
@[reducible] def pairK (r : Row) : List Key := [.inl r.hour, .inl r.number]
theorem pair_lt (a b : Row) : SK.kLt (pairK a) (pairK b) = decide (a.hour < b.hour ∨ (a.hour = b.hour ∧ a.number < b.number)) := by
  show HT.lexLt [a.hour, a.number] [b.hour, b.number] = _
  rw [HT.lexLt_cons, HT.lexLt_cons]
  have e0 : HT.lexLt [] [] = false := rfl
  rw [e0]
  by_cases e : a.hour = b.hour
  · rw [if_pos e]
    by_cases f : a.number = b.number
    · rw [if_pos f]
      exact (decide_eq_false (by omega)).symm
    · rw [if_neg f]
      exact decide_eq_decide.mpr (by omega)
  · rw [if_neg e]
    exact decide_eq_decide.mpr (by omega)
theorem pairs_sorted {rows : List Row} (h : rows.Pairwise fun a b => a.hour < b.hour ∨ (a.hour = b.hour ∧ a.number < b.number)) : srt pairK rows = rows ∧ (rows.map pairK).Nodup := by
  have hk : ∀ {a b : Row}, pairK a = pairK b → a.hour = b.hour ∧ a.number = b.number := fun e => by
    have q := List.cons.inj e
    have q2 := List.cons.inj q.2
    exact ⟨Sum.inl.inj q.1, Sum.inl.inj q2.1⟩
  refine ⟨sorted_one (κ := pairK) (srt_perm rows) (srt_sorted rows) (h.imp fun {a b} q => ?_) (fun _ _ _ _ => rfl) (fun x mx y my e => ?_), ?_⟩
  · rw [pair_lt]
    exact decide_eq_false (by omega)
  · have mx := (srt_perm (κ := pairK) rows).mem_iff.mp mx
    have my := (srt_perm (κ := pairK) rows).mem_iff.mp my
    obtain ⟨i, hi, ei⟩ := List.mem_iff_getElem.mp mx
    obtain ⟨j, hj, ej⟩ := List.mem_iff_getElem.mp my
    have q := List.pairwise_iff_getElem.mp h
    obtain ⟨e1, e2⟩ := hk e
    rcases Nat.lt_trichotomy i j with l | l | l
    · have := q i j hi hj l
      rw [ei, ej] at this; omega
    · subst l; rw [← ei, ← ej]
    · have := q j i hj hi l
      rw [ei, ej] at this; omega
  · rw [List.Nodup, List.pairwise_map]
    refine h.imp fun {a b} q e => ?_
    obtain ⟨e1, e2⟩ := hk e
    omega
theorem lc_upto {K : PySem.W.Frag} {rp : Addr} {rvs : List V} {rows : List Row} {H : Hp} {QT : VK} {n : Int} {v0 v1 v2 v3 v5 v6 v7 v8 v9 v10 v11 : Option V} (hrp : H rp = some (.lst rvs)) (hts : Ts H rowV rvs rows) (hlen : rows.length ≤ 1000)
    (q : ∀ p ps H', H p = none → Ex H H' → H' p = some (.lst ps) → Ts H' rowV ps (rows.filter fun r => decide (r.hour ≤ n)) → QT (.ref p) H') :
    Lc (Itl K rp) (gName 10) (tTest (tOp (rI0 fun i j => V.bl (decide (i ≤ j))) (tOp (rIxT K) (tVar 10) (tC (V.int 0))) (tVar 4))) (tVar 10) [10] QT [v0, v1, v2, v3, some (.int n), v5, v6, v7, v8, v9, v10, v11] H := by
  intro U hU
  have hl := hts.len
  refine lc_list (K := K) (a := rp) (xs := rvs) (fun i H' => ∃ us, us.length ≤ i ∧ Cfg no H [(U, .lst us)] H' ∧ Ts H' rowV us ((rows.take i).filter fun r => decide (r.hour ≤ n))) ⟨[], Nat.le_refl _, Cfg.nil.new hU, Ts.nil⟩ (fun i H' _ ⟨us, _, g, _⟩ => SqL.of (g.kp.exget hrp)) ?_ ?_
  · rintro i v H' hv ⟨us, hus, g, ht⟩
    obtain ⟨r, t, hr, rfl, hrt⟩ := hts.get hv
    have hrt := g.kp.t _ _ hrt
    have hi := get_lt hr
    nested_keys
    rw [filt_snoc hr]
    refine ite_d (fun e => ?_) (fun e => ?_)
    · nested_keys
      have gw := g.wr (o := .lst (us ++ [.ref t])) 0 rfl (fun _ z => by cases z) (.inr hU)
      refine ⟨_, g.hd, Nat.lt_of_lt_of_le (show us.length < 100000 by omega) (by decide), us ++ [V.ref t], by rw [List.length_append]; simp; omega, gw, ?_⟩
      rw [if_pos (decide_eq_true e)]
      have tw : Tp H' (upd H' U (.lst (us ++ [.ref t]))) := tp_wr g.hd (fun _ z => by cases z)
      exact (ht.mono tw).snoc (tw _ _ hrt)
    · refine ⟨us, by omega, g, ?_⟩
      rw [if_neg (by simp [e]), List.append_nil]
      exact ht
  · rintro H1 ⟨us, hus, g, ht⟩
    rw [hl, List.take_length] at ht
    exact q U us H1 hU g.kp (g.get 0 rfl) ht

end K87

namespace K87
open PySem PySem.Spec PyProof.Rows L2
local macro_rules | `(tactic| kxs_still) => `(tactic| with_unfolding_all rfl)
local macro_rules | `(tactic| lcg_sub) => `(tactic| first
  | assumption
  | (apply Cfg.get (i := 0) <;> first | assumption | kxs_still)
  | (apply Cfg.get (i := 1) <;> first | assumption | kxs_still)
  | (apply Cfg.get (i := 2) <;> first | assumption | kxs_still)
  | (apply Cfg.get (i := 3) <;> first | assumption | kxs_still)
  | (apply Cfg.get (i := 4) <;> first | assumption | kxs_still)
  | (apply Cfg.get (i := 5) <;> first | assumption | kxs_still)
  | (apply Cfg.get (i := 6) <;> first | assumption | kxs_still)
  | (apply Cfg.get (i := 7) <;> first | assumption | kxs_still)
  | (apply Cfg.get (i := 8) <;> first | assumption | kxs_still)
  | (apply Cfg.get (i := 9) <;> first | assumption | kxs_still)
  | (apply Cfg.get (i := 0) <;> first | (apply Bfg.toCfg; assumption) | kxs_still)
  | (apply Cfg.get (i := 1) <;> first | (apply Bfg.toCfg; assumption) | kxs_still)
  | (apply Cfg.get (i := 2) <;> first | (apply Bfg.toCfg; assumption) | kxs_still)
  | (apply Cfg.get (i := 3) <;> first | (apply Bfg.toCfg; assumption) | kxs_still)
  | (apply Cfg.get (i := 4) <;> first | (apply Bfg.toCfg; assumption) | kxs_still)
  | (apply Cfg.get (i := 5) <;> first | (apply Bfg.toCfg; assumption) | kxs_still)
  | (apply Cfg.get (i := 6) <;> first | (apply Bfg.toCfg; assumption) | kxs_still)
  | (apply Cfg.get (i := 7) <;> first | (apply Bfg.toCfg; assumption) | kxs_still)
  | (apply Cfg.get (i := 8) <;> first | (apply Bfg.toCfg; assumption) | kxs_still)
  | (apply Cfg.get (i := 9) <;> first | (apply Bfg.toCfg; assumption) | kxs_still))
local macro_rules | `(tactic| kas_types) => `(tactic| first
  | assumption | decide | omega | exact Or.inl (by omega) | exact Or.inr (by omega) | exact ⟨by omega, by omega⟩ | exact ⟨by omega, by omega, by omega⟩)
local macro_rules | `(tactic| keq_hits) => `(tactic| simp only [u_var, u_c, u_op, u_un, u_test, u_tB, u_bl, u_I0, u_eqS, u_eqI, u_neS, u_neI, u_seq, u_next, u_asg, u_name, u_ret, u_retN, u_drop, u_ifS, u_ifE, u_and, u_or, u_not, u_andV, u_orV, u_notV, u_nil, u_cons, u_call, u_cb, u_tup, u_lst, u_sub, u_gNil, u_gCons, u_bm, u_m1, u_isS, u_sl, u_noPart, u_part, u_partk, u_par, u_par2, u_for, u_lc, u_rng1, u_itL, u_itT, u_yes, u_fldI, u_putI, u_newI, u_methI, u_make, u_some, u_i0, u_i1, u_K, L2.start, wipe, List.map_cons, List.map_nil, List.length_cons, List.length_nil, List.replicate_succ, List.replicate_zero, List.cons_append, List.nil_append, List.set_cons_zero, List.set_cons_succ, ite_true, ite_false, if_true, if_false, Bool.false_eq_true, colV, washV, kindV, teamV, rowV, coolV, deedV, batRef_none, batRef_some, u_par3, u_par33, u_augI, u_dget, u_din, u_dnotin, u_dget2, u_dget1, u_dpop1, u_dput, u_setD, u_dnewK, u_dnewT, decide_true, decide_false, Bool.not_true, Bool.not_false, Option.map_none, Option.map_some, Option.isSome_none, Option.isSome_some, Option.getD_some, Option.getD_none, vn_non, vn_ref, vn_str, vn_int, wd_fill_fill, wd_fill_gather, wd_fill_wash, wd_fill_empty, wd_fill_break, wd_fill_new, wd_gather_fill, wd_gather_gather, wd_gather_wash, wd_gather_empty, wd_gather_break, wd_gather_new, wd_wash_fill, wd_wash_gather, wd_wash_wash, wd_wash_empty, wd_wash_break, wd_wash_new, wd_empty_fill, wd_empty_gather, wd_empty_wash, wd_empty_empty, wd_empty_break, wd_empty_new, wd_break_fill, wd_break_gather, wd_break_wash, wd_break_empty, wd_break_break, wd_break_new, wd_new_fill, wd_new_gather, wd_new_wash, wd_new_empty, wd_new_break, wd_new_new, wd_nil, wd_none, wd_broken, wd_busy, wd_glass, wd_name, wd_cold, wd_rank, wd_less, wd_full, wd_whole, inw_fill, inw_gather, inw_wash, inw_empty, inw_break, inw_new, u_itemsT, u_itemsK, u_keysK, u_lk, u_ckw, eq_self, true_and, and_true])
local macro_rules | `(tactic| nested_keys) => `(tactic| repeat first
  | (with_reducible apply w_nx)
  | (with_reducible apply w_blk)
  | (with_reducible apply w_I; (· with_unfolding_all kas_types))
  | (with_reducible apply w_ixT; (· lcg_sub); (· kxs_still))
  | (with_reducible apply w_ixL; (· lcg_sub); (· kxs_still))
  | (with_reducible apply w_fldI; (· lcg_sub); (· kxs_still))
  | (with_reducible apply w_methI; (· lcg_sub))
  | (with_reducible apply w_augO; (· lcg_sub); (· kxs_still))
  | (with_reducible apply w_dgetS; (· lcg_sub); (· assumption))
  | (with_reducible apply w_dinS; (· lcg_sub))
  | (with_reducible apply w_dnotinS; (· lcg_sub))
  | (with_reducible apply w_isD; (· lcg_sub))
  | (with_reducible apply w_inT; (· lcg_sub); (· with_unfolding_all rfl))
  | (with_reducible apply w_sz; (· with_unfolding_all exact Nat.le_of_ble_eq_true rfl))
  | (with_reducible apply w_gTup; (· lcg_sub); (· kxs_still))
  | (with_reducible apply w_tyL; (· lcg_sub))
  | (with_reducible apply w_rng1k; (· with_unfolding_all kas_types); (· with_unfolding_all kas_types))
  | (with_reducible apply w_itLk; (· lcg_sub))
  | (with_reducible apply w_itTk; (· lcg_sub))
  | (with_reducible apply w_lenL; (· lcg_sub))
  | (with_reducible apply w_lenT; (· lcg_sub))
  | (with_reducible apply w_lenS; (· with_unfolding_all kas_types))
  | (with_reducible apply w_ixaL; (· lcg_sub); (· kxs_still))
  | (with_reducible apply w_ixaT; (· lcg_sub); (· kxs_still))
  | (with_reducible apply w_ixaS; (· with_unfolding_all kas_types); (· kxs_still))
  | (with_reducible apply w_ixS; (· with_unfolding_all kas_types); (· kxs_still))
  | (with_reducible apply w_slL; (· lcg_sub))
  | (with_reducible apply w_slS; (· with_unfolding_all kas_types))
  | (with_reducible apply w_addS; (· with_unfolding_all kas_types))
  | (with_reducible apply w_listL; (· lcg_sub))
  | (with_reducible apply w_tupL; (· lcg_sub))
  | (with_reducible apply w_divmod; (· with_unfolding_all kas_types))
  | (simp only [u_var, u_c, u_op, u_un, u_test, u_tB, u_bl, u_I0, u_eqS, u_eqI, u_neS, u_neI, u_seq, u_next, u_asg, u_name, u_ret, u_retN, u_drop, u_ifS, u_ifE, u_and, u_or, u_not, u_andV, u_orV, u_notV, u_nil, u_cons, u_call, u_cb, u_tup, u_lst, u_sub, u_gNil, u_gCons, u_bm, u_m1, u_isS, u_sl, u_noPart, u_part, u_partk, u_par, u_par2, u_for, u_lc, u_rng1, u_itL, u_itT, u_yes, u_fldI, u_putI, u_newI, u_methI, u_make, u_some, u_i0, u_i1, u_K, L2.start, wipe, List.map_cons, List.map_nil, List.length_cons, List.length_nil, List.replicate_succ, List.replicate_zero, List.cons_append, List.nil_append, List.set_cons_zero, List.set_cons_succ, ite_true, ite_false, if_true, if_false, Bool.false_eq_true, colV, washV, kindV, teamV, rowV, coolV, deedV, batRef_none, batRef_some, u_par3, u_par33, u_augI, u_dget, u_din, u_dnotin, u_dget2, u_dget1, u_dpop1, u_dput, u_setD, u_dnewK, u_dnewT, decide_true, decide_false, Bool.not_true, Bool.not_false, Option.map_none, Option.map_some, Option.isSome_none, Option.isSome_some, Option.getD_some, Option.getD_none, vn_non, vn_ref, vn_str, vn_int, wd_fill_fill, wd_fill_gather, wd_fill_wash, wd_fill_empty, wd_fill_break, wd_fill_new, wd_gather_fill, wd_gather_gather, wd_gather_wash, wd_gather_empty, wd_gather_break, wd_gather_new, wd_wash_fill, wd_wash_gather, wd_wash_wash, wd_wash_empty, wd_wash_break, wd_wash_new, wd_empty_fill, wd_empty_gather, wd_empty_wash, wd_empty_empty, wd_empty_break, wd_empty_new, wd_break_fill, wd_break_gather, wd_break_wash, wd_break_empty, wd_break_break, wd_break_new, wd_new_fill, wd_new_gather, wd_new_wash, wd_new_empty, wd_new_break, wd_new_new, wd_nil, wd_none, wd_broken, wd_busy, wd_glass, wd_name, wd_cold, wd_rank, wd_less, wd_full, wd_whole, inw_fill, inw_gather, inw_wash, inw_empty, inw_break, inw_new, u_itemsT, u_itemsK, u_keysK, u_lk, u_ckw, eq_self, true_and, and_true])
  | (with_reducible apply w_eq; (· kxs_still))
  | (with_reducible apply w_ne; (· kxs_still)))
def spABook (K : PySem.W.Frag) : Sp := fun vs H Q _ => ∃ (hv : Addr) (h : Hall), vs = [.ref hv] ∧ HallAt H hv h ∧ ∀ (x : BookX) (H' : Hp), H x.bk = none → H x.tl = none → BookAt K H' x h [] → Ex H H' → Q (.ref x.bk) H'
theorem C_a_book {P : Program} {w : World} {K : PySem.W.Frag} {mg : Str → Option Value} {base : Heap} (T : Txt K mg) : Cal P w K mg base 3 "_law_a_book" ["_law_hall"] (spABook K) := by
  have C_Book_init := C_Book_init (P := P) (w := w) (base := base) T
  refine cal_mk T 54 rfl T.g_a_book sc_a_book rfl rfl (fun _ _ _ _ _ _ us hl => match us, hl with | [_], _ => rfl) (fun vs H Q E h => ?_) (fun f cdv A outer s H vs Q E hr h => ?_)
  · obtain ⟨hv, h, rfl, hH, k⟩ := h
    rfl
  obtain ⟨hv, h, rfl, hH, k⟩ := h
  refine ⟨_, (pss_one (ps_ret (pe_kcal C_Book_init hr rfl (pa_cons (pe_ix (ix_tupK (K := K) rfl) (pv 0) pe_int (fun _ _ => rfl)) (pa_cons (pe_ix (ix_tupK (K := K) rfl) (pv 0) pe_int (fun _ _ => rfl)) (pa_cons (pe_ix (ix_tupK (K := K) rfl) (pv 0) pe_int (fun _ _ => rfl)) (pa_cons (pe_ix (ix_tupK (K := K) rfl) (pv 0) pe_int (fun _ _ => rfl)) (pa_cons (pe_ix (ix_tupK (K := K) rfl) (pv 0) pe_int (fun _ _ => rfl)) pa_nil)))))))), ?_⟩
  obtain ⟨pal, ki, te, po, hhv, hhx⟩ := id hH
  nested_keys
  intro bk dx hbk
  intro hdx hdb
  have k1 : Ex H (upd H dx (.own bk)) := Kp.new hdx
  have k2 : Ex (upd H dx (.own bk)) (upd (upd H dx (.own bk)) bk (.ins (He.ga K "Book") dx [])) := Kp.new (by rw [upd_ne (fun z => hdb z.symm)]; exact hbk)
  have h3 : upd (upd H dx (.own bk)) bk (.ins (He.ga K "Book") dx []) bk = some (Ob (He.ga K "Book") dx [] []) := upd_same
  have k12 := k1.trans k2
  show spBookInit K _ (upd (upd H dx (.own bk)) bk (.ins (He.ga K "Book") dx [])) _ _
  generalize upd (upd H dx (.own bk)) bk (.ins (He.ga K "Book") dx []) = H3 at h3 k12
  refine ⟨⟨bk, dx, pal, ki, te, po, bk⟩, h.slots, rfl, h3, fun tl H4 htl hb4 ht4 k4 => ⟨rfl, ?_⟩⟩
  have kx : Ex H H4 := k12.call k4 fun y e => .inr (by rw [e]; exact hbk)
  have htl0 : H tl = none := k12.nn htl
  refine k ⟨bk, dx, pal, ki, te, po, tl⟩ H4 hbk htl0 ⟨hb4, hhx.kp kx fun _ _ _ z => z, ⟨[], ht4, .nil⟩, rfl, Nat.zero_le _⟩ kx

end K87

namespace K87
open PySem PySem.Spec PyProof.Rows L2
--nomac
/-! ### what a whole run answers: plain -/
structure RunGood (h : Hall) (es : List Ent) (last : Nat) : Prop where
  keys : (run_ h (upTo es last)).rows.Pairwise fun a b => a.hour < b.hour ∨ (a.hour = b.hour ∧ a.number < b.number)
  nd : ((run_ h (upTo es last)).rows.map (·.number)).Nodup
  len : (run_ h (upTo es last)).rows.length ≤ 100
  txts : ∀ r ∈ (run_ h (upTo es last)).rows, sOk r.word = true ∧ sOk r.pot = true ∧ sOk r.colour = true
  ready : ∀ r ∈ (run_ h (upTo es last)).rows, ReadyOk h es (run_ h (upTo es last)).rows r
  pre : ∀ n : Nat, n ≤ last → (run_ h (upTo es n)).rows = (run_ h (upTo es last)).rows.filter fun r => decide (r.hour ≤ (n : Int))
  led : ∀ n : Nat, n ≤ last → LedGood (run_ h (upTo es n)).rows
  meets : ∀ n : Nat, n ≤ last → ∀ p ∈ h.pots, Meets (ledOf (run_ h (upTo es n)).rows) (run_ h (upTo es n)) p
  state : ∀ n : Nat, n ≤ last → ∀ p ∈ h.pots, StateOk (run_ h (upTo es n)) n p
  made : ∀ n : Nat, n ≤ last → (run_ h (upTo es n)).made = (run_ h (upTo es n)).rows.foldl (madeF es) []
  mnd : ∀ n : Nat, n ≤ last → ((run_ h (upTo es n)).made.map (·.1)).Nodup
  gath : ∀ r ∈ (run_ h (upTo es last)).rows, GatherRow es r
  slots : SlotsOk h es (run_ h (upTo es last)).rows last
def AllGood : Prop := ∀ (h : Hall) (es : List Ent) (last : Nat), HallGood h → numbered es → (∀ e ∈ es, DeedOk e.deed ∧ 0 ≤ e.hour ∧ e.hour ≤ last) → es.length ≤ 100 → RunGood h es last

end K87

namespace K87
open PySem PySem.Spec PyProof.Rows L2
local macro_rules | `(tactic| kxs_still) => `(tactic| with_unfolding_all rfl)
local macro_rules | `(tactic| lcg_sub) => `(tactic| first
  | assumption
  | (apply Cfg.get (i := 0) <;> first | assumption | kxs_still)
  | (apply Cfg.get (i := 1) <;> first | assumption | kxs_still)
  | (apply Cfg.get (i := 2) <;> first | assumption | kxs_still)
  | (apply Cfg.get (i := 3) <;> first | assumption | kxs_still)
  | (apply Cfg.get (i := 4) <;> first | assumption | kxs_still)
  | (apply Cfg.get (i := 5) <;> first | assumption | kxs_still)
  | (apply Cfg.get (i := 6) <;> first | assumption | kxs_still)
  | (apply Cfg.get (i := 7) <;> first | assumption | kxs_still)
  | (apply Cfg.get (i := 8) <;> first | assumption | kxs_still)
  | (apply Cfg.get (i := 9) <;> first | assumption | kxs_still)
  | (apply Cfg.get (i := 0) <;> first | (apply Bfg.toCfg; assumption) | kxs_still)
  | (apply Cfg.get (i := 1) <;> first | (apply Bfg.toCfg; assumption) | kxs_still)
  | (apply Cfg.get (i := 2) <;> first | (apply Bfg.toCfg; assumption) | kxs_still)
  | (apply Cfg.get (i := 3) <;> first | (apply Bfg.toCfg; assumption) | kxs_still)
  | (apply Cfg.get (i := 4) <;> first | (apply Bfg.toCfg; assumption) | kxs_still)
  | (apply Cfg.get (i := 5) <;> first | (apply Bfg.toCfg; assumption) | kxs_still)
  | (apply Cfg.get (i := 6) <;> first | (apply Bfg.toCfg; assumption) | kxs_still)
  | (apply Cfg.get (i := 7) <;> first | (apply Bfg.toCfg; assumption) | kxs_still)
  | (apply Cfg.get (i := 8) <;> first | (apply Bfg.toCfg; assumption) | kxs_still)
  | (apply Cfg.get (i := 9) <;> first | (apply Bfg.toCfg; assumption) | kxs_still))
local macro_rules | `(tactic| kas_types) => `(tactic| first
  | assumption | decide | omega | exact Or.inl (by omega) | exact Or.inr (by omega) | exact ⟨by omega, by omega⟩ | exact ⟨by omega, by omega, by omega⟩)
local macro_rules | `(tactic| keq_hits) => `(tactic| simp only [u_var, u_c, u_op, u_un, u_test, u_tB, u_bl, u_I0, u_eqS, u_eqI, u_neS, u_neI, u_seq, u_next, u_asg, u_name, u_ret, u_retN, u_drop, u_ifS, u_ifE, u_and, u_or, u_not, u_andV, u_orV, u_notV, u_nil, u_cons, u_call, u_cb, u_tup, u_lst, u_sub, u_gNil, u_gCons, u_bm, u_m1, u_isS, u_sl, u_noPart, u_part, u_partk, u_par, u_par2, u_for, u_lc, u_rng1, u_itL, u_itT, u_yes, u_fldI, u_putI, u_newI, u_methI, u_make, u_some, u_i0, u_i1, u_K, L2.start, wipe, List.map_cons, List.map_nil, List.length_cons, List.length_nil, List.replicate_succ, List.replicate_zero, List.cons_append, List.nil_append, List.set_cons_zero, List.set_cons_succ, ite_true, ite_false, if_true, if_false, Bool.false_eq_true, colV, washV, kindV, teamV, rowV, coolV, deedV, batRef_none, batRef_some, u_par3, u_par33, u_augI, u_dget, u_din, u_dnotin, u_dget2, u_dget1, u_dpop1, u_dput, u_setD, u_dnewK, u_dnewT, decide_true, decide_false, Bool.not_true, Bool.not_false, Option.map_none, Option.map_some, Option.isSome_none, Option.isSome_some, Option.getD_some, Option.getD_none, vn_non, vn_ref, vn_str, vn_int, wd_fill_fill, wd_fill_gather, wd_fill_wash, wd_fill_empty, wd_fill_break, wd_fill_new, wd_gather_fill, wd_gather_gather, wd_gather_wash, wd_gather_empty, wd_gather_break, wd_gather_new, wd_wash_fill, wd_wash_gather, wd_wash_wash, wd_wash_empty, wd_wash_break, wd_wash_new, wd_empty_fill, wd_empty_gather, wd_empty_wash, wd_empty_empty, wd_empty_break, wd_empty_new, wd_break_fill, wd_break_gather, wd_break_wash, wd_break_empty, wd_break_break, wd_break_new, wd_new_fill, wd_new_gather, wd_new_wash, wd_new_empty, wd_new_break, wd_new_new, wd_nil, wd_none, wd_broken, wd_busy, wd_glass, wd_name, wd_cold, wd_rank, wd_less, wd_full, wd_whole, inw_fill, inw_gather, inw_wash, inw_empty, inw_break, inw_new, u_itemsT, u_itemsK, u_keysK, u_lk, u_ckw, eq_self, true_and, and_true])
local macro_rules | `(tactic| nested_keys) => `(tactic| repeat first
  | (with_reducible apply w_nx)
  | (with_reducible apply w_blk)
  | (with_reducible apply w_I; (· with_unfolding_all kas_types))
  | (with_reducible apply w_ixT; (· lcg_sub); (· kxs_still))
  | (with_reducible apply w_ixL; (· lcg_sub); (· kxs_still))
  | (with_reducible apply w_fldI; (· lcg_sub); (· kxs_still))
  | (with_reducible apply w_methI; (· lcg_sub))
  | (with_reducible apply w_augO; (· lcg_sub); (· kxs_still))
  | (with_reducible apply w_dgetS; (· lcg_sub); (· assumption))
  | (with_reducible apply w_dinS; (· lcg_sub))
  | (with_reducible apply w_dnotinS; (· lcg_sub))
  | (with_reducible apply w_isD; (· lcg_sub))
  | (with_reducible apply w_inT; (· lcg_sub); (· with_unfolding_all rfl))
  | (with_reducible apply w_sz; (· with_unfolding_all exact Nat.le_of_ble_eq_true rfl))
  | (with_reducible apply w_gTup; (· lcg_sub); (· kxs_still))
  | (with_reducible apply w_tyL; (· lcg_sub))
  | (with_reducible apply w_rng1k; (· with_unfolding_all kas_types); (· with_unfolding_all kas_types))
  | (with_reducible apply w_itLk; (· lcg_sub))
  | (with_reducible apply w_itTk; (· lcg_sub))
  | (with_reducible apply w_lenL; (· lcg_sub))
  | (with_reducible apply w_lenT; (· lcg_sub))
  | (with_reducible apply w_lenS; (· with_unfolding_all kas_types))
  | (with_reducible apply w_ixaL; (· lcg_sub); (· kxs_still))
  | (with_reducible apply w_ixaT; (· lcg_sub); (· kxs_still))
  | (with_reducible apply w_ixaS; (· with_unfolding_all kas_types); (· kxs_still))
  | (with_reducible apply w_ixS; (· with_unfolding_all kas_types); (· kxs_still))
  | (with_reducible apply w_slL; (· lcg_sub))
  | (with_reducible apply w_slS; (· with_unfolding_all kas_types))
  | (with_reducible apply w_addS; (· with_unfolding_all kas_types))
  | (with_reducible apply w_listL; (· lcg_sub))
  | (with_reducible apply w_tupL; (· lcg_sub))
  | (with_reducible apply w_divmod; (· with_unfolding_all kas_types))
  | (simp only [u_var, u_c, u_op, u_un, u_test, u_tB, u_bl, u_I0, u_eqS, u_eqI, u_neS, u_neI, u_seq, u_next, u_asg, u_name, u_ret, u_retN, u_drop, u_ifS, u_ifE, u_and, u_or, u_not, u_andV, u_orV, u_notV, u_nil, u_cons, u_call, u_cb, u_tup, u_lst, u_sub, u_gNil, u_gCons, u_bm, u_m1, u_isS, u_sl, u_noPart, u_part, u_partk, u_par, u_par2, u_for, u_lc, u_rng1, u_itL, u_itT, u_yes, u_fldI, u_putI, u_newI, u_methI, u_make, u_some, u_i0, u_i1, u_K, L2.start, wipe, List.map_cons, List.map_nil, List.length_cons, List.length_nil, List.replicate_succ, List.replicate_zero, List.cons_append, List.nil_append, List.set_cons_zero, List.set_cons_succ, ite_true, ite_false, if_true, if_false, Bool.false_eq_true, colV, washV, kindV, teamV, rowV, coolV, deedV, batRef_none, batRef_some, u_par3, u_par33, u_augI, u_dget, u_din, u_dnotin, u_dget2, u_dget1, u_dpop1, u_dput, u_setD, u_dnewK, u_dnewT, decide_true, decide_false, Bool.not_true, Bool.not_false, Option.map_none, Option.map_some, Option.isSome_none, Option.isSome_some, Option.getD_some, Option.getD_none, vn_non, vn_ref, vn_str, vn_int, wd_fill_fill, wd_fill_gather, wd_fill_wash, wd_fill_empty, wd_fill_break, wd_fill_new, wd_gather_fill, wd_gather_gather, wd_gather_wash, wd_gather_empty, wd_gather_break, wd_gather_new, wd_wash_fill, wd_wash_gather, wd_wash_wash, wd_wash_empty, wd_wash_break, wd_wash_new, wd_empty_fill, wd_empty_gather, wd_empty_wash, wd_empty_empty, wd_empty_break, wd_empty_new, wd_break_fill, wd_break_gather, wd_break_wash, wd_break_empty, wd_break_break, wd_break_new, wd_new_fill, wd_new_gather, wd_new_wash, wd_new_empty, wd_new_break, wd_new_new, wd_nil, wd_none, wd_broken, wd_busy, wd_glass, wd_name, wd_cold, wd_rank, wd_less, wd_full, wd_whole, inw_fill, inw_gather, inw_wash, inw_empty, inw_break, inw_new, u_itemsT, u_itemsK, u_keysK, u_lk, u_ckw, eq_self, true_and, and_true])
  | (with_reducible apply w_eq; (· kxs_still))
  | (with_reducible apply w_ne; (· kxs_still)))
theorem BookAt.kpl {K : PySem.W.Frag} {S : Addr → Prop} {H H' : Hp} {x : BookX} {h : Hall} {es : List Ent} (b : BookAt K H x h es) (k : Kp S H H') (hS : ∀ a, S a → ∃ xs, H a = some (.lst xs)) (ht : ¬ S x.tl) : BookAt K H' x h es := by
  obtain ⟨evs, h1, h2⟩ := b.tl
  refine ⟨k.get b.bk fun z => ?_, b.hall.kp k fun o tvs e z => ?_, ⟨evs, k.get h1 ht, paired_mono h2 fun v e q => q.kp k fun a dx da e z => ?_⟩, b.num, b.few⟩
  · obtain ⟨xs, e⟩ := hS _ z
    rw [b.bk] at e; cases e
  · obtain ⟨xs, e2⟩ := hS _ z
    rw [e] at e2; cases e2
  · obtain ⟨xs, e2⟩ := hS _ z
    rw [e] at e2; cases e2
theorem w_appBK {bx : Addr} {n : Nat} {H0 H : Hp} {DD : List (Addr × HO)} {QT : V → Hp → Prop} {p : Addr} {xs : List V} {v : V} (i : Nat) (g : Bfg bx n H0 DD H) (h : DD[i]? = some (p, .lst xs)) (hz : xs.length < 100000) (hs : H0 p = none)
    (q : ∀ H', Bfg bx n H0 (DD.set i (p, .lst (xs ++ [v]))) H' → Kp (fun y => y = p) H H' → QT .non H') : rAppend (.ref p) [v] H QT := ⟨p, xs, v, rfl, rfl, g.get i h, Nat.lt_of_lt_of_le hz (by decide), q _ (g.wr i h (fun _ z => by cases z) hs) (Kp.wr rfl (g.get i h) fun _ z => by cases z)⟩
theorem w_newBK {bx : Addr} {n : Nat} {H0 H : Hp} {DD : List (Addr × HO)} {o : HO} {QT : V → Hp → Prop} (g : Bfg bx n H0 DD H) (q : ∀ (p : Addr) (H' : Hp), H0 p = none → Bfg bx n H0 ((p, o) :: DD) H' → Ex H H' → H' p = some o → QT (.ref p) H') : New o QT H := fun p hp => q p _ (g.kp.nn hp) (g.new hp) (Kp.new hp) upd_same
theorem box_lst {H : Hp} {bx : Addr} {n : Nat} (h : BoxAt H bx n) : ∀ a, bxS bx a → ∃ xs, H a = some (.lst xs) := fun a z => by
  obtain ⟨_, _, _, e, _⟩ := h
  exact ⟨_, by rw [show a = bx from z]; exact e⟩
theorem StOk.up {H H' : Hp} {x : Int × Deed × Addr} (h : StOk H x) (t : Tp H H') : StOk H' x := ⟨t _ _ h.1, h.2⟩
theorem hall_kpl {S : Addr → Prop} {hv : Addr} {H H' : Hp} {h : Hall} (hH : HallAt H hv h) (k : Kp S H H') (hS : ∀ a, S a → ∃ xs, H a = some (.lst xs)) : HallAt H' hv h := by
  obtain ⟨pal, ki, te, po, h1, h2⟩ := hH
  exact ⟨pal, ki, te, po, k.t _ _ h1, h2.kp k fun o tvs e z => by
    obtain ⟨xs, e2⟩ := hS _ z
    rw [e] at e2; cases e2⟩
theorem two_ways {c : Bool} {R : V → Hp → Prop} {x : V} {H : Hp} {vs : List V} {E : XK} (P : V → Hp → Prop) (hP : ∀ v H', P v H' → R v H') (h1 : P x H) (h2 : spShuf vs H P E) : if c = true then R x H else spShuf vs H R E := by
  cases c
  · rw [if_neg Bool.false_ne_true]
    obtain ⟨bx, n, a, xs, e, hb, hn, ha, hne, hl, k⟩ := h2
    exact ⟨bx, n, a, xs, e, hb, hn, ha, hne, hl, fun p ys H' a1 a2 a3 a4 a5 => hP _ _ (k p ys H' a1 a2 a3 a4 a5)⟩
  · rw [if_pos rfl]; exact hP _ _ h1
theorem Bfg.part {bx t : Addr} {n : Nat} {H0 H H' : Hp} {D : List (Addr × HO)} (g : Bfg bx n H0 D H) (k : Kp (fun y => y = t) H H') (h0 : H0 t = none) (hD : ∀ x ∈ D, x.1 ≠ t) (hb : t ≠ bx) : Bfg bx n H0 D H' := ⟨g.toCfg.call k (fun y e => .inr (by rw [e]; exact h0)) hD, by
  obtain ⟨a, b, c, e, r⟩ := g.box
  exact ⟨a, b, c, k.get e (Ne.symm hb), r⟩, g.out⟩
theorem atI_last {α : Type} {xs : List α} {v : α} (h : xs[xs.length - 1]? = some v) (h0 : 0 < xs.length) : atI xs (-1) = some v := by
  unfold atI ixN
  rw [if_neg (by omega), if_pos (by omega), show (-1 + (xs.length : Int)).toNat = xs.length - 1 by omega]
  exact h
theorem w_makeAcc {K : PySem.W.Frag} {b : BookX} {h : Hall} {es : List Ent} {hour : Int} {H : Hp} {QT : V → Hp → Prop} (hB : BookAt K H b h es) (hok : HallOk h) (hd : ∀ e ∈ es, DeedOk e.deed)
    (q : ∀ (x : AccX) (S : Addr → Prop) (H0 : Hp) (n : Nat) (H' : Hp), Ex H H' → H x.pa = none → AccAt K h hour x S H0 n H' (run_ h (upTo es hour)) → n ≤ 1000 → QT (.ref x.pa) H') : rMakeI (He.ga K "Account") (spAccount K) [.ref b.bk, .int hour] QT H := by
  intro pa dx hpa hdx hdb
  have k1 : Ex H (upd H dx (.own pa)) := Kp.new hdx
  have k2 : Ex (upd H dx (.own pa)) (upd (upd H dx (.own pa)) pa (.ins (He.ga K "Account") dx [])) := Kp.new (by rw [upd_ne (fun z => hdb z.symm)]; exact hpa)
  have h3 : upd (upd H dx (.own pa)) pa (.ins (He.ga K "Account") dx []) pa = some (Ob (He.ga K "Account") dx [] []) := upd_same
  have k12 := k1.trans k2
  show spAccount K _ (upd (upd H dx (.own pa)) pa (.ins (He.ga K "Account") dx [])) _ _
  generalize upd (upd H dx (.own pa)) pa (.ins (He.ga K "Account") dx []) = H3 at h3 k12
  refine ⟨pa, dx, b, h, es, hour, rfl, h3, hB.ex k12, hok, hd, fun x S H0 n H' hx hA hn k4 => ⟨rfl, ?_⟩⟩
  subst hx
  exact q x S H0 n H' (k12.call k4 fun y e => .inr (by rw [e]; exact hpa)) hpa hA hn
theorem led_ex {H H' : Hp} {F O : Addr} {L : Led} (h : LedAt H F O L) (k : Ex H H') : LedAt H' F O L := by
  obtain ⟨a, b, c, d, e, i⟩ := h
  exact ⟨a, b, c, d, e, i.ex k⟩
/-- no hour past 120 -/
def cap (x : Int × Deed × Addr) : Int × Deed × Addr := (if (120 : Int) < x.1 then 120 else x.1, x.2)
theorem cap_mono {x y : Int × Deed × Addr} (h : x.1 ≤ y.1) : (cap x).1 ≤ (cap y).1 := by
  unfold cap
  show (if (120 : Int) < x.1 then 120 else x.1) ≤ (if (120 : Int) < y.1 then 120 else y.1)
  split <;> split <;> omega
theorem cap_le (x : Int × Deed × Addr) : (cap x).1 ≤ 120 := by
  unfold cap
  show (if (120 : Int) < x.1 then 120 else x.1) ≤ 120
  split <;> omega
theorem cap_nn {x : Int × Deed × Addr} (h : 0 ≤ x.1) : 0 ≤ (cap x).1 := by
  unfold cap
  show 0 ≤ (if (120 : Int) < x.1 then 120 else x.1)
  split <;> omega
def spRight : Sp := fun vs H Q _ => ∃ (bx : Addr), vs = [.ref bx] ∧ BoxAt H bx 0 ∧ AllGood ∧ ∀ H', KB bx H H' → Q (.bl true) H'
theorem C_right {P : Program} {w : World} {K : PySem.W.Frag} {mg : Str → Option Value} {base : Heap} (T : Txt K mg) : Cal P w K mg base 11 "_law_right" ["_law_box"] spRight := by
  have C_Account_init := C_Account_init (P := P) (w := w) (base := base) T
  have C_Account_rows := C_Account_rows (P := P) (w := w) (base := base) T
  have C_Book_enter := C_Book_enter (P := P) (w := w) (base := base) T
  have C_a_book := C_a_book (P := P) (w := w) (base := base) T
  have C_a_hall := C_a_hall (P := P) (w := w) (base := base) T
  have C_a_story := C_a_story (P := P) (w := w) (base := base) T
  have C_led_back := C_led_back (P := P) (w := w) (base := base) T
  have C_left_right := C_left_right (P := P) (w := w) (base := base) T
  have C_pieces_right := C_pieces_right (P := P) (w := w) (base := base) T
  have C_ready_right := C_ready_right (P := P) (w := w) (base := base) T
  have C_shuffled := C_shuffled (P := P) (w := w) (base := base) T
  have C_slots_right := C_slots_right (P := P) (w := w) (base := base) T
  have C_take := C_take (P := P) (w := w) (base := base) T
  refine cal_mk T 60 rfl T.g_right sc_right rfl rfl (fun _ _ _ _ _ _ us hl => match us, hl with | [_], _ => rfl) (fun vs H Q E h => ?_) (fun f cdv A outer s H vs Q E hr h => ?_)
  · obtain ⟨bx, rfl, hb, hall, k⟩ := h
    rfl
  obtain ⟨bx, rfl, hb, hall, k⟩ := h
  refine ⟨_, (pss_cons (ps_par (i := 1) (j := 2) rfl sc_right.nd rfl rfl (by decide) rfl rfl (pa_cons (pe_cal C_a_hall (hr.mono (by decide)) rfl (pa_cons (pv 0) (pa_cons pe_bl pa_nil))) (pa_cons (pe_lst pa_nil) pa_nil)) (by rfl))
 (pss_cons (ps_set (i := 3) sc_right.nd rfl (Or.inl rfl) (pe_cal C_a_book (hr.mono (by decide)) rfl (pa_cons (pv 1) pa_nil)))
 (pss_cons (ps_for PassesOwn.never rfl (pi_listK (K := K) rfl (pe_cal C_a_story (hr.mono (by decide)) rfl (pa_cons (pv 0) (pa_cons (pv 1) (pa_cons (pe_op op_add pe_int (pe_cal C_take (hr.mono (by decide)) rfl (pa_cons (pv 0) (pa_cons pe_int pa_nil)))) pa_nil))))) (pg_tupK (K := K) (n := 2) rfl rfl (pgs_cons (pg_name (i := 4) sc_right.nd rfl (Or.inr rfl)) (pgs_cons (pg_name (i := 5) sc_right.nd rfl (Or.inl rfl)) pgs_nil))) (pss_one (ps_expr (pe_bmK (K := K) rfl PySem.F.plainAttrs_list PySem.F.slot_list_append PySem.F.type_list_append mt_appendM (pv 2) (pa_cons (pe_tup (pa_cons (pe_callB (call_min2 (by rfl)) (by rfl) T.f_min (by decide +kernel) (pa_cons (pv 4) (pa_cons pe_int pa_nil))) (pa_cons (pv 5) pa_nil))) pa_nil)))))
 (pss_cons (ps_for PassesOwn.never rfl (pi_listK (K := K) rfl (pe_ifExp (pt_cmpR op_eq (pe_cal C_take (hr.mono (by decide)) rfl (pa_cons (pv 0) (pa_cons pe_int pa_nil))) pe_int (nomark _)) (pv 2) (pe_cal C_shuffled (hr.mono (by decide)) rfl (pa_cons (pv 0) (pa_cons (pv 2) pa_nil))))) (pg_tupK (K := K) (n := 2) rfl rfl (pgs_cons (pg_name (i := 4) sc_right.nd rfl (Or.inr rfl)) (pgs_cons (pg_name (i := 5) sc_right.nd rfl (Or.inl rfl)) pgs_nil))) (pss_one (ps_expr (pe_mcalI (ns := f_Book) (by decide +kernel) (pv 3) T.c_Book C_Book_enter (hr.mono (by decide)) (pa_cons (pv 5) (pa_cons (pv 4) pa_nil))))))
 (pss_cons (ps_set (i := 6) sc_right.nd rfl (Or.inr rfl) (pe_op op_add (pe_ix (ix_tupK (K := K) rfl) (pe_ix (ix_listK (K := K) rfl) (pv 2) (pe_un un_neg pe_int) (fun _ _ => rfl)) pe_int (fun _ _ => rfl)) pe_int))
 (pss_cons (ps_set (i := 7) sc_right.nd rfl (Or.inl rfl) (pe_mcalI0 (ns := f_Account) (by decide +kernel) (pe_kcal C_Account_init (hr.mono (by decide)) rfl (pa_cons (pv 3) (pa_cons (pv 6) pa_nil))) T.c_Account C_Account_rows (hr.mono (by decide))))
 (pss_cons (ps_if (PW.pt (pw_or (pt_cmpR (op_neDK (K := K) rfl hr.units) (pe_lc (own := [("_law_row", 10)]) rfl sc_right.nd (pi_listK (K := K) rfl (pv 7)) (blkOk_by (own := [("_law_row", 10)]) (N := n_right) (sc := defScope s_right) (by decide +kernel)) (fun _ _ _ _ _ => (pg_name (i := 10) sc_right.nd rfl (Or.inl rfl))) (fun _ _ _ _ _ => pts_nil) (fun _ _ _ _ _ => (pe_slice (sl_tupK (K := K) rfl) (pv 10) po_none (po_some pe_int)))) (pe_callB (cr_sortedXK (K := K) rfl) (by rfl) T.f_sorted (by decide +kernel) (pa_cons (pe_lc (own := [("_law_row", 10)]) rfl sc_right.nd (pi_listK (K := K) rfl (pv 7)) (blkOk_by (own := [("_law_row", 10)]) (N := n_right) (sc := defScope s_right) (by decide +kernel)) (fun _ _ _ _ _ => (pg_name (i := 10) sc_right.nd rfl (Or.inl rfl))) (fun _ _ _ _ _ => pts_nil) (fun _ _ _ _ _ => (pe_slice (sl_tupK (K := K) rfl) (pv 10) po_none (po_some pe_int)))) pa_nil)) (nomark _)) (pw_or1 (pt_not (pt_val (pe_cal C_ready_right (hr.mono (by decide)) rfl (pa_cons (pv 1) (pa_cons (pv 3) (pa_cons (pv 7) pa_nil))))))))) (pss_one (ps_ret pe_bl)) pss_nil)
 (pss_cons (ps_for PassesOwn.never rfl (pi_listK (K := K) rfl (pe_op op_cat (pe_lst (pa_cons (pv 6) pa_nil)) (pe_lc (own := [("_law_turn", 11)]) rfl sc_right.nd (pi_range1 rfl T.f_range (pa_cons pe_int pa_nil)) (blkOk_by (own := [("_law_turn", 11)]) (N := n_right) (sc := defScope s_right) (by decide +kernel)) (fun _ _ _ _ _ => (pg_name (i := 11) sc_right.nd rfl (Or.inl rfl))) (fun _ _ _ _ _ => pts_nil) (fun _ _ _ _ _ => (pe_cal C_take (hr.mono (by decide)) rfl (pa_cons (pv 0) (pa_cons (pe_op op_add (pv 6) pe_int) pa_nil))))))) (pg_name (i := 4) sc_right.nd rfl (Or.inr rfl)) (pss_cons (ps_set (i := 8) sc_right.nd rfl (Or.inl rfl) (pe_kcal C_Account_init (hr.mono (by decide)) rfl (pa_cons (pv 3) (pa_cons (pv 4) pa_nil))))
 (pss_cons (ps_set (i := 9) sc_right.nd rfl (Or.inl rfl) (pe_cal C_led_back (hr.mono (by decide)) rfl (pa_cons (pv 1) (pa_cons (pe_mcalI0 (ns := f_Account) (by decide +kernel) (pv 8) T.c_Account C_Account_rows (hr.mono (by decide))) pa_nil))))
 (pss_cons (ps_if (PW.pt (pw_or (pt_cmpR (op_neDK (K := K) rfl hr.units) (pe_mcalI0 (ns := f_Account) (by decide +kernel) (pv 8) T.c_Account C_Account_rows (hr.mono (by decide))) (pe_lc (own := [("_law_row", 10)]) rfl sc_right.nd (pi_listK (K := K) rfl (pv 7)) (blkOk_by (own := [("_law_row", 10)]) (N := n_right) (sc := defScope s_right) (by decide +kernel)) (fun _ _ _ _ _ => (pg_name (i := 10) sc_right.nd rfl (Or.inl rfl))) (fun _ _ _ _ _ => (pts_one (pt_cmpR op_le (pe_ix (ix_tupK (K := K) rfl) (pv 10) pe_int (fun _ _ => rfl)) (pv 4) (nomark _)))) (fun _ _ _ _ _ => (pv 10))) (nomark _)) (pw_or1 (pt_cmpR op_isN (pv 9) pe_non (nomark _))))) (pss_one (ps_ret pe_bl)) pss_nil)
 (pss_one (ps_if (PW.pt (pw_or (pt_not (pt_val (pe_cal C_left_right (hr.mono (by decide)) rfl (pa_cons (pv 1) (pa_cons (pv 8) (pa_cons (pv 9) pa_nil)))))) (pw_or1 (pt_not (pt_val (pe_cal C_pieces_right (hr.mono (by decide)) rfl (pa_cons (pv 3) (pa_cons (pv 8) pa_nil)))))))) (pss_one (ps_ret pe_bl)) pss_nil))))))
 (pss_one (ps_ret (pe_cal C_slots_right hr rfl (pa_cons (pv 1) (pa_cons (pv 3) (pa_cons (pv 7) (pa_cons (pv 6) pa_nil))))))))))))))), ?_⟩
  nested_keys
  refine ⟨bx, 0, rfl, hb, by omega, fun hv h H1 hG hH hb1 k1 => ?_⟩
  have g := (Bfg.start hb).draw k1 hb1
  nested_keys
  refine w_newBK g fun st H2 hst g k2 hst2 => ?_
  have hH2 := hH.ex k2
  have hb2 := g.box
  have st_bx : st ≠ bx := g.out _ (List.mem_cons_self ..)
  nested_keys
  refine ⟨hv, h, rfl, hH2, fun x H3 hbk htl hB k3 => ?_⟩
  have htl0 : H x.tl = none := g.kp.nn htl
  have g := g.ex k3
  have tl_st : x.tl ≠ st := fun e => by rw [e, hst2] at htl; cases htl
  have tl_bx : x.tl ≠ bx := fun e => by
    obtain ⟨_, _, _, e2, _⟩ := hb2
    rw [e, e2] at htl; cases htl
  have hH3 := hH2.ex k3
  nested_keys
  refine ⟨bx, 1000, 51, rfl, g.box.le (by omega), by omega, by omega, by omega, fun t H4 t0 t1 hb4 k4 => ?_⟩
  have g := g.draw k4 hb4
  have hst4 : H4 st = some (.lst []) := g.get 0 rfl
  have hB4 := hB.kpl k4 (box_lst (hb2.ex k3)) tl_bx
  have hH4 := hall_kb hH3 (hb2.ex k3) k4
  obtain ⟨m, hm, hm20, hm70⟩ : ∃ m : Nat, (20 + t : Int) = (m : Int) ∧ 20 ≤ m ∧ m ≤ 70 := ⟨(20 + t).toNat, by omega, by omega, by omega⟩
  nested_keys
  rw [hm]
  refine ⟨bx, hv, 1001, m, h, rfl, hb4, by omega, hH4, hG, hm70, fun p us xs H5 hp hxl hus hts hxs hpw hb5 k5 => ?_⟩
  have g := g.draw k5 hb5
  have hB5 := hB4.kpl k5 (box_lst hb4) tl_bx
  have hH5 := hall_kb hH4 hb4 k5
  have hst5 : H5 st = some (.lst []) := g.get 0 rfl
  have p_st : p ≠ st := fun e => by
    rw [e, hst4] at hp; cases hp
  nested_keys
  refine for_list (K := K) (a := p) (xs := us) (fun i σ H' => ∃ (ws : List V) (v4 v5 : Option V), Ts H' stV ws ((xs.take i).map cap) ∧ ws.length = i ∧ Bfg bx 3001 H [(st, .lst ws)] H' ∧ BookAt K H' x h [] ∧ Kp (fun y => y = st) H5 H' ∧
      σ = [some (.ref bx), some (.ref hv), some (.ref st), some (.ref x.bk), v4, v5, none, none, none, none, none, none])
    ⟨[], _, _, .nil, rfl, g.le (by omega), hB5, Kp.refl, rfl⟩ (fun i σ H' _ ⟨_, _, _, _, _, _, _, kk, _⟩ => SqL.of (kk.get hus p_st)) ?_ ?_
  · rintro i v σ H' hv' ⟨ws, v4, v5, hw, hwl, g, hBi, kk, rfl⟩
    obtain ⟨y, a, hy, rfl, ha⟩ := hts.get hv'
    have ha := kk.t _ _ ha
    have hi := get_lt hv'
    have hul := hts.len
    nested_keys
    refine ⟨y.1, 120, rfl, Nat.le_of_ble_eq_true rfl, ?_⟩
    refine w_newBK g fun tp H6 htp g k6 htp6 => ?_
    have hst6 : H6 st = some (.lst ws) := g.get 1 rfl
    refine w_appBK 1 g rfl (by omega) hst fun H7 g k7 => ?_
    have g := g.sub (D' := [(st, .lst (ws ++ [.ref tp]))]) (List.sublist_cons_self _ _)
    refine ⟨ws ++ [.ref tp], _, _, ?_, by simp [hwl], g, (hBi.ex k6).kpl k7 (fun a e => ?_) (fun e => tl_st e), kk.trans (k6.ex.trans k7), rfl⟩
    · rw [take_snoc hy, List.map_append]
      exact ((hw.mono k6.t).mono k7.t).snoc (x := cap y) (k7.t _ _ htp6)
    · exact ⟨ws, by rw [show a = st from e]; exact hst6⟩
  rintro σ H6 ⟨ws, v4, v5, hw, hwl, g, hB6, kk, rfl⟩
  have hul := hts.len
  rw [List.take_of_length_le (by omega)] at hw
  have hH6 : HallAt H6 hv h := hall_kpl hH5 kk fun a e => ⟨[], by rw [show a = st from e]; exact hst5⟩
  have hok6 : ∀ y ∈ xs, StOk H6 y := fun y my => (hxs y my).up kk.t
  nested_keys
  have hst6 : H6 st = some (.lst ws) := g.get 0 rfl
  have hb6 := g.box
  refine ⟨bx, 3001, 2, rfl, hb6, by omega, by omega, by omega, fun t2 H7 _ _ hb7 k7 => ?_⟩
  have g := g.draw k7 hb7
  have hB7 := hB6.kpl k7 (box_lst hb6) tl_bx
  have hH7 := hall_kb hH6 hb6 k7
  have hw7 := hw.mono k7.t
  have hok7 : ∀ y ∈ xs, StOk H7 y := fun y my => (hok6 y my).up k7.t
  have hst7 : H7 st = some (.lst ws) := g.get 0 rfl
  nested_keys
  refine two_ways (fun v H8 => ∃ (L : Addr) (zs : List (Int × Deed × Addr)) (ls : List V), v = .ref L ∧ zs.Perm (xs.map cap) ∧ H8 L = some (.lst ls) ∧ Ts H8 stV ls zs ∧ L ≠ x.tl ∧ Bfg bx 5000 H [(st, .lst ws)] H8 ∧ BookAt K H8 x h [] ∧ HallAt H8 hv h ∧ Tp H7 H8) ?_
    ⟨st, _, ws, rfl, List.Perm.refl _, hst7, hw7, tl_st.symm, g.le (by omega), hB7, hH7, Tp.refl⟩
    ⟨bx, _, st, ws, rfl, hb7, by omega, hst7, st_bx, by omega, fun p' ys H8 hp' hpm hp8 hb8 k8 => ?_⟩
  rotate_left
  · obtain ⟨zs, hz, hz2⟩ := paired_perm hpm hw7
    exact ⟨p', zs, ys, rfl, hz, hp8, Ts.mono hz2 k8.t, (fun e => by
      obtain ⟨_, q, _⟩ := hB7.tl
      rw [← e, hp'] at q; cases q), (g.draw k8 hb8).le (by omega), hB7.kpl k8 (box_lst hb7) tl_bx, hall_kb hH7 hb7 k8, k8.t⟩
  rintro v H8 ⟨L, zs, ls, rfl, hzp, hL8, hls, L_tl, g, hB8, hH8, t8⟩
  have hok8 : ∀ y ∈ xs, StOk H8 y := fun y my => (hok7 y my).up t8
  nested_keys
  have hzl : zs.length = xs.length := by rw [hzp.length_eq, List.length_map]
  refine for_list (K := K) (a := L) (xs := ls) (fun i σ H' => ∃ (es : List Ent) (v4 v5 : Option V), es.length = i ∧ (∀ e ∈ es, ∃ z ∈ zs, e.hour = z.1 ∧ e.deed = z.2.1) ∧ Bfg bx 5000 H [(st, .lst ws)] H' ∧ BookAt K H' x h es ∧ HallAt H' hv h ∧ Kp (fun y => y = x.tl) H8 H' ∧
      σ = [some (.ref bx), some (.ref hv), some (.ref st), some (.ref x.bk), v4, v5, none, none, none, none, none, none])
    ⟨[], _, _, rfl, (fun e m => by cases m), g, hB8, hH8, Kp.refl, rfl⟩ (fun i σ H' _ ⟨_, _, _, _, _, _, _, _, kk, _⟩ => SqL.of (kk.get hL8 L_tl)) ?_ ?_
  · rintro i v σ H' hv' ⟨es, v4, v5, hel, hes, g, hB', hH', kk, rfl⟩
    obtain ⟨z, a, hz, rfl, ha⟩ := hls.get hv'
    have ha := kk.t _ _ ha
    have hi := get_lt hz
    have hbk' := hB'.bk
    have hzd : StOk H' z := by
      obtain ⟨y, my, ey⟩ := List.mem_map.mp (hzp.mem_iff.mp (List.mem_of_getElem? hz))
      have q := (hok8 y my).up kk.t
      rw [← ey]
      exact ⟨q.1, q.2.1, cap_nn q.2.2⟩
    nested_keys
    refine ⟨x, h, es, z.2.2, z.2.1, z.1, rfl, hB', by omega, hzd.1, fun w H9 hB9 k9 => ?_⟩
    have htl' : ∃ xs, H' x.tl = some (.lst xs) := by
      obtain ⟨q, e, _⟩ := hB'.tl
      exact ⟨_, e⟩
    have g := g.part k9 htl0 (fun y m => by rw [List.mem_singleton.mp m]; exact tl_st.symm) tl_bx
    nested_keys
    refine ⟨_, _, _, ?_, ?_, g, hB9, hall_kpl hH' k9 fun a e => by rw [show a = x.tl from e]; exact htl', kk.trans k9, rfl⟩
    · rw [List.length_append, hel]; rfl
    · intro e m
      rcases List.mem_append.mp m with m | m
      · exact hes e m
      · rw [List.mem_singleton.mp m]
        exact ⟨z, List.mem_of_getElem? hz, rfl, rfl⟩
  rintro σ H9 ⟨es, v4, v5, hel, hes, g, hB9, hH9, kk, rfl⟩
  have hll := hls.len
  have hst9 : H9 st = some (.lst ws) := g.get 0 rfl
  have hwl' : ws.length = xs.length := by omega
  obtain ⟨y0, hy0⟩ : ∃ y, xs[xs.length - 1]? = some y := ⟨_, List.getElem?_eq_getElem (by omega)⟩
  obtain ⟨a0, ha0, ht0⟩ := hw7.get' (i := xs.length - 1) (x := cap y0) (by rw [List.getElem?_map, hy0]; rfl)
  have ht0 := (t8.trans kk.t) _ _ ht0
  have hat0 : atI ws (-1) = some (.ref a0) := atI_last (by rw [hwl']; exact ha0) (by omega)
  nested_keys
  refine ⟨1, rfl, ?_⟩
  refine w_ixL hst9 hat0 ?_
  refine w_ixT ht0 (atI_nat (j := 0) rfl) ?_
  obtain ⟨last, hlast, hl6⟩ : ∃ last : Nat, (cap y0).1 + 6 = (last : Int) ∧ last ≤ 126 := by
    have q1 := cap_le y0
    have q2 := cap_nn (x := y0) (hok8 y0 (List.mem_of_getElem? hy0)).2.2
    exact ⟨((cap y0).1 + 6).toNat, by omega, by omega⟩
  nested_keys
  rw [hlast]
  have hbk9 := hB9.bk
  nested_keys
  have hgood : ∀ e ∈ es, DeedOk e.deed ∧ 0 ≤ e.hour ∧ e.hour ≤ (last : Int) := by
    intro e m
    obtain ⟨z, mz, e1, e2⟩ := hes e m
    obtain ⟨y, my, ey⟩ := List.mem_map.mp (hzp.mem_iff.mp mz)
    obtain ⟨j, hj⟩ := List.mem_iff_getElem?.mp my
    have hjl := get_lt hj
    have hle : y.1 ≤ y0.1 := by
      by_cases ej : j = xs.length - 1
      · rw [ej, hy0] at hj
        rw [Option.some.inj hj]
        exact Int.le_refl _
      · have q := List.pairwise_iff_getElem.mp hpw j (xs.length - 1) hjl (by omega) (by omega)
        rw [List.getElem?_eq_getElem hjl] at hj
        rw [List.getElem?_eq_getElem (by omega)] at hy0
        rw [Option.some.inj hj, Option.some.inj hy0] at q
        exact q
    have q := hok8 y my
    rw [e1, e2, ← ey]
    refine ⟨q.2.1, cap_nn q.2.2, ?_⟩
    have := cap_mono hle
    omega
  have hR := hall h es last hG hB9.num hgood (by omega)
  refine w_makeAcc hB9 hG.toHallOk (fun e m => (hgood e m).1) fun ax S0 H00 n0 H10 k10 hpa hA hn0 => ?_
  obtain ⟨_, _, _, _, hI⟩ := id hA
  have hacc := hI.acc
  clear hI
  nested_keys
  refine ⟨h, last, ax, S0, H00, n0, _, rfl, hA, fun rp rvs H11 hrp k11 hrp11 hrow => ?_⟩
  have rp_bx : rp ≠ bx := fun e => by
    obtain ⟨_, _, _, e2, _⟩ := g.box
    rw [e, k10.exget e2] at hrp; cases hrp
  have k911 := k10.trans k11
  have g := g.ex k911
  have hB11 := hB9.ex k911
  have hH11 := hH9.ex k911
  clear hA hacc
  nested_keys
  have hrl : (run_ h (upTo es last)).rows.length ≤ 1000 := by have := hR.len; omega
  generalize hrows : (run_ h (upTo es last)).rows = rows at hrow hrl
  refine lc_pairs hrp11 hrow hrl fun p1 ps1 H12 hp1 k12 hq1 hP1 => ?_
  have hrp12 := k12.exget hrp11
  have hrow12 := hrow.mono k12.t
  nested_keys
  refine lc_pairs hrp12 hrow12 hrl fun p2 ps2 H13 hp2 k13 hq2 hP2 => ?_
  have hkeys : rows.Pairwise fun a b => a.hour < b.hour ∨ (a.hour = b.hour ∧ a.number < b.number) := by rw [← hrows]; exact hR.keys
  refine w_sortX (f := pairV) (κ := pairK) (rest := fun _ => []) hq2 hP2 (fun _ => rfl) (fun _ z => by cases z) (fun _ _ => rfl) (pairs_sorted hkeys).2 fun ys p3 hp3 hy3 hyl => ?_
  rw [(pairs_sorted hkeys).1] at hy3
  have k14 : Ex H13 (upd H13 p3 (.lst ys)) := Kp.new hp3
  refine same_pairs ((k13.trans k14).exget hq1) upd_same (hP1.mono (k13.trans k14).t) hy3 ?_
  have k1114 := (k12.trans k13).trans k14
  have g := g.ex k1114
  have hB14 := hB11.ex k1114
  have hH14 := hH11.ex k1114
  have hrp14 := k1114.exget hrp11
  have hrow14 := hrow.mono k1114.t
  generalize upd H13 p3 (.lst ys) = H14 at g hB14 hH14 hrp14 hrow14
  clear hrp11 hrow hrp12 hrow12 k12 k13 k14 k1114 hy3 hq1 hq2 hP1 hP2
  nested_keys
  refine ⟨hv, rp, x, h, es, rvs, rows, rfl, hH14, hB14, hrp14, hrow14, by rw [← hrows]; exact hR.nd, hrl, by rw [← hrows]; exact hR.ready, fun H15 k15 => ?_⟩
  have g := g.ex k15
  have hB15 := hB14.ex k15
  have hH15 := hH14.ex k15
  have hrp15 := k15.exget hrp14
  have hrow15 := hrow14.mono k15.t
  nested_keys
  refine w_newBK g fun l1 H16 hl1 g k16 hl16 => ?_
  have hB16 := hB15.ex k16
  have hH16 := hH15.ex k16
  have hrp16 := k16.exget hrp15
  have hrow16 := hrow15.mono k16.t
  clear hrow15 hrp15 hrp14 hrow14
  nested_keys
  intro D hD
  have D0 := g.kp.nn hD
  have kD : Ex H16 (upd H16 D (.lst [])) := Kp.new hD
  have g := g.new (o := .lst []) hD
  have hB17 := hB16.ex kD
  have hH17 := hH16.ex kD
  have hrp17 := kD.exget hrp16
  have hrow17 := hrow16.mono kD.t
  have D_tl : x.tl ≠ D := fun e => by
    obtain ⟨_, q, _⟩ := hB16.tl
    rw [e, hD] at q; cases q
  have D_rp : rp ≠ D := fun e => by rw [e, hD] at hrp16; cases hrp16
  have hD17 : upd H16 D (.lst []) D = some (.lst []) := upd_same
  obtain ⟨H17, e17⟩ : ∃ X, X = upd H16 D (.lst []) := ⟨_, rfl⟩
  rw [← e17] at g hB17 hH17 hrp17 hrow17 hD17
  have hS17 : ∀ a, (a = bx ∨ a = D) → ∃ xs, H17 a = some (.lst xs) := fun a e => by
    rcases e with e | e
    · exact box_lst g.box a e
    · exact ⟨[], by rw [e]; exact hD17⟩
  refine lc_range (lo := 0) (n := (6 : Int).toNat) (fun i H' => ∃ ts : List Int, ts.length = i ∧ (∀ t ∈ ts, 0 ≤ t ∧ t ≤ (last : Int)) ∧ Bfg bx (5000 + i) H [(D, .lst (ts.map V.int)), (l1, .lst [.int last]), (st, .lst ws)] H' ∧ Kp (fun y => y = bx ∨ y = D) H17 H')
    ⟨[], rfl, (fun t m => by cases m), by rw [← e17]; exact g, by rw [← e17]; exact Kp.refl⟩ ?_ ?_
  · rintro i H' hi ⟨ts, htl, hts', g, kk⟩
    nested_keys
    refine ⟨bx, 5000 + i, _, rfl, g.box, by omega, by omega, by omega, fun v H2 v0 v1 hb2 k2 => ?_⟩
    have g := g.draw k2 hb2
    have gw := g.wr (o := .lst (ts.map V.int ++ [.int v])) 0 rfl (fun _ z => by cases z) D0
    refine ⟨_, g.hd, small1000 (by rw [List.length_map]; omega), ts ++ [v], by simp [htl], ?_, by rw [List.map_append]; exact gw.le (by omega), (kk.trans (k2.mono fun y e => .inl e)).trans (Kp.wr (.inr rfl) g.hd fun _ z => by cases z)⟩
    intro t m
    rcases List.mem_append.mp m with m | m
    · exact hts' t m
    · rw [List.mem_singleton.mp m]; exact ⟨v0, by omega⟩
  rintro H18 ⟨ts, htl, hts', g, kk⟩
  have hB18 := hB17.kpl kk hS17 (fun e => e.elim tl_bx D_tl)
  have hH18 := hall_kpl hH17 kk hS17
  have hrp18 := kk.get hrp17 (fun e => e.elim rp_bx D_rp)
  have hrow18 := hrow17.mono kk.t
  clear hrow17 hrow16 hrp17 hrp16
  nested_keys
  refine ⟨l1, D, [.int last], ts.map V.int, rfl, rfl, g.get 1 rfl, g.get 0 rfl, (by rw [List.length_map]; exact Nat.le_trans (show 1 + ts.length ≤ 100 by have : ts.length = 6 := htl; omega) (by decide)), fun lp hlp => ?_⟩
  have hours : ∀ (j : Nat) (v : V), ([V.int last] ++ ts.map V.int)[j]? = some v → ∃ n : Nat, v = .int n ∧ n ≤ last := by
    intro j v e
    rcases List.mem_append.mp (List.mem_of_getElem? e) with m | m
    · exact ⟨last, List.mem_singleton.mp m, Nat.le_refl _⟩
    · obtain ⟨z, mz, rfl⟩ := List.mem_map.mp m
      obtain ⟨z0, z1⟩ := hts' z mz
      exact ⟨z.toNat, by rw [Int.toNat_of_nonneg z0], by omega⟩
  generalize hhs : [V.int last] ++ ts.map V.int = hs at hours
  show rItL K (.ref lp) _ (upd H18 lp (.lst hs))
  have klp : Ex H18 (upd H18 lp (.lst hs)) := Kp.new hlp
  have hlp19 : upd H18 lp (.lst hs) lp = some (.lst hs) := upd_same
  have g := g.ex klp
  have hB19 := hB18.ex klp
  have hH19 := hH18.ex klp
  have hrp19 := klp.exget hrp18
  have hrow19 := hrow18.mono klp.t
  generalize upd H18 lp (.lst hs) = H19 at g hB19 hH19 hrp19 hrow19 hlp19
  clear klp hrow18 hrp18
  have htxt : ∀ r ∈ rows, sOk r.word = true ∧ sOk r.pot = true ∧ sOk r.colour = true := by rw [← hrows]; exact hR.txts
  nested_keys
  refine for_list (K := K) (a := lp) (xs := hs) (fun i σ H' => ∃ v4 v5 v8 v9 v10 v11 : Option V, Ex H19 H' ∧
      σ = [some (.ref bx), some (.ref hv), some (.ref st), some (.ref x.bk), v4, v5, some (.int last), some (.ref rp), v8, v9, v10, v11])
    ⟨_, _, _, _, _, _, Kp.refl, rfl⟩ (fun i σ H' _ ⟨_, _, _, _, _, _, kk, _⟩ => SqL.of (kk.exget hlp19)) ?_ ?_
  · rintro i v σ H' hv' ⟨v4, v5, v8, v9, v10, v11, kk, rfl⟩
    obtain ⟨n, rfl, hn⟩ := hours _ _ hv'
    have hB' := hB19.ex kk
    have hH' := hH19.ex kk
    have hrp' := kk.exget hrp19
    have hrow' := hrow19.mono kk.t
    have hpre : (run_ h (upTo es n)).rows = rows.filter fun r => decide (r.hour ≤ (n : Int)) := by rw [← hrows]; exact hR.pre n hn
    have hln : (run_ h (upTo es n)).rows.length ≤ 1000 := by rw [hpre]; exact Nat.le_trans (List.length_filter_le _ _) hrl
    have htn : ∀ r ∈ (run_ h (upTo es n)).rows, sOk r.word = true ∧ sOk r.pot = true ∧ sOk r.colour = true := by rw [hpre]; exact fun r m => htxt r (List.mem_filter.mp m).1
    nested_keys
    refine w_makeAcc hB' hG.toHallOk (fun e m => (hgood e m).1) fun ax S0 H00 n0 H1 k1' hpa hA hn0 => ?_
    have hacc : H1 ax.pa = some (accO K ax n h.slots) := by
      obtain ⟨_, _, _, _, hI⟩ := id hA
      exact hI.acc
    nested_keys
    refine ⟨h, n, ax, S0, H00, n0, _, rfl, hA, fun rp2 rvs2 H2 hrp2 k2' hq2 hrow2 => ?_⟩
    nested_keys
    refine ⟨_, rp2, rvs2, _, rfl, hq2, hrow2, hln, hR.led n hn, (fun r m => (htn r m).2), fun q F O H3 k3' hq hL => ?_⟩
    have k13' := k2'.trans k3'
    have hA3 := hA.ex k13'
    have hacc3 := k13'.exget hacc
    nested_keys
    refine ⟨h, n, ax, S0, H00, n0, _, rfl, hA3, fun rp4 rvs4 H4 hrp4 k4' hq4 hrow4 => ?_⟩
    have kk4 := (kk.trans k1').trans (k13'.trans k4')
    have hrp5 := kk4.exget hrp19
    nested_keys
    refine lc_upto hrp5 (hrow19.mono kk4.t) hrl fun p6 ps6 H6 hp6 k6 hq6 ht6 => ?_
    rw [← hpre] at ht6
    refine same_rows (k6.exget hq4) hq6 (hrow4.mono k6.t) ht6 htn ?_
    have k36 := k4'.trans k6
    have k16 := (k1'.trans k13').trans k36
    have hA6 := hA3.ex k36
    have hq36 := k36.exget hq
    nested_keys
    refine ⟨hv, q, F, O, _, h, n, ax, S0, H00, n0, _, rfl, hH'.ex (k1'.trans (k13'.trans k36)), hA6, hq36, led_ex hL k36, hR.meets n hn, hR.state n hn, fun H7 k7 => ?_⟩
    have hA7 := hA6.ex k7
    nested_keys
    refine ⟨x, es, h, n, ax, S0, H00, n0, _, rfl, hB'.ex ((k1'.trans (k13'.trans k36)).trans k7), hA7, hn0, hR.made n hn, hR.mnd n hn, (fun r m => hR.gath r (by rw [hrows]; rw [hpre] at m; exact (List.mem_filter.mp m).1)), fun H8' k8' => ?_⟩
    nested_keys
    exact ⟨_, _, _, _, _, _, (kk.trans (k1'.trans (k13'.trans k36))).trans (k7.trans k8'), rfl⟩
  rintro σ H20 ⟨v4, v5, v8, v9, v10, v11, kk, rfl⟩
  nested_keys
  refine ⟨hv, rp, x, h, es, rvs, rows, last, rfl, hH19.ex kk, hG.toHallOk, hB19.ex kk, (fun e m => (hgood e m).1), kk.exget hrp19, hrow19.mono kk.t, hrl, by omega, by rw [← hrows]; exact hR.slots, fun H21 k21 => ?_⟩
  have g := (g.ex kk).ex k21
  exact k H21 g.kp

end K87

namespace K87
open PySem PySem.Spec PyProof.Rows L2
local macro_rules | `(tactic| kxs_still) => `(tactic| with_unfolding_all rfl)
local macro_rules | `(tactic| lcg_sub) => `(tactic| first
  | assumption
  | (apply Cfg.get (i := 0) <;> first | assumption | kxs_still)
  | (apply Cfg.get (i := 1) <;> first | assumption | kxs_still)
  | (apply Cfg.get (i := 2) <;> first | assumption | kxs_still)
  | (apply Cfg.get (i := 3) <;> first | assumption | kxs_still)
  | (apply Cfg.get (i := 4) <;> first | assumption | kxs_still)
  | (apply Cfg.get (i := 5) <;> first | assumption | kxs_still)
  | (apply Cfg.get (i := 6) <;> first | assumption | kxs_still)
  | (apply Cfg.get (i := 7) <;> first | assumption | kxs_still)
  | (apply Cfg.get (i := 8) <;> first | assumption | kxs_still)
  | (apply Cfg.get (i := 9) <;> first | assumption | kxs_still)
  | (apply Cfg.get (i := 0) <;> first | (apply Bfg.toCfg; assumption) | kxs_still)
  | (apply Cfg.get (i := 1) <;> first | (apply Bfg.toCfg; assumption) | kxs_still)
  | (apply Cfg.get (i := 2) <;> first | (apply Bfg.toCfg; assumption) | kxs_still)
  | (apply Cfg.get (i := 3) <;> first | (apply Bfg.toCfg; assumption) | kxs_still)
  | (apply Cfg.get (i := 4) <;> first | (apply Bfg.toCfg; assumption) | kxs_still)
  | (apply Cfg.get (i := 5) <;> first | (apply Bfg.toCfg; assumption) | kxs_still)
  | (apply Cfg.get (i := 6) <;> first | (apply Bfg.toCfg; assumption) | kxs_still)
  | (apply Cfg.get (i := 7) <;> first | (apply Bfg.toCfg; assumption) | kxs_still)
  | (apply Cfg.get (i := 8) <;> first | (apply Bfg.toCfg; assumption) | kxs_still)
  | (apply Cfg.get (i := 9) <;> first | (apply Bfg.toCfg; assumption) | kxs_still))
local macro_rules | `(tactic| kas_types) => `(tactic| first
  | assumption | decide | omega | exact Or.inl (by omega) | exact Or.inr (by omega) | exact ⟨by omega, by omega⟩ | exact ⟨by omega, by omega, by omega⟩)
local macro_rules | `(tactic| keq_hits) => `(tactic| simp only [u_var, u_c, u_op, u_un, u_test, u_tB, u_bl, u_I0, u_eqS, u_eqI, u_neS, u_neI, u_seq, u_next, u_asg, u_name, u_ret, u_retN, u_drop, u_ifS, u_ifE, u_and, u_or, u_not, u_andV, u_orV, u_notV, u_nil, u_cons, u_call, u_cb, u_tup, u_lst, u_sub, u_gNil, u_gCons, u_bm, u_m1, u_isS, u_sl, u_noPart, u_part, u_partk, u_par, u_par2, u_for, u_lc, u_rng1, u_itL, u_itT, u_yes, u_fldI, u_putI, u_newI, u_methI, u_make, u_some, u_i0, u_i1, u_K, L2.start, wipe, List.map_cons, List.map_nil, List.length_cons, List.length_nil, List.replicate_succ, List.replicate_zero, List.cons_append, List.nil_append, List.set_cons_zero, List.set_cons_succ, ite_true, ite_false, if_true, if_false, Bool.false_eq_true, colV, washV, kindV, teamV, rowV, coolV, deedV, batRef_none, batRef_some, u_par3, u_par33, u_augI, u_dget, u_din, u_dnotin, u_dget2, u_dget1, u_dpop1, u_dput, u_setD, u_dnewK, u_dnewT, decide_true, decide_false, Bool.not_true, Bool.not_false, Option.map_none, Option.map_some, Option.isSome_none, Option.isSome_some, Option.getD_some, Option.getD_none, vn_non, vn_ref, vn_str, vn_int, wd_fill_fill, wd_fill_gather, wd_fill_wash, wd_fill_empty, wd_fill_break, wd_fill_new, wd_gather_fill, wd_gather_gather, wd_gather_wash, wd_gather_empty, wd_gather_break, wd_gather_new, wd_wash_fill, wd_wash_gather, wd_wash_wash, wd_wash_empty, wd_wash_break, wd_wash_new, wd_empty_fill, wd_empty_gather, wd_empty_wash, wd_empty_empty, wd_empty_break, wd_empty_new, wd_break_fill, wd_break_gather, wd_break_wash, wd_break_empty, wd_break_break, wd_break_new, wd_new_fill, wd_new_gather, wd_new_wash, wd_new_empty, wd_new_break, wd_new_new, wd_nil, wd_none, wd_broken, wd_busy, wd_glass, wd_name, wd_cold, wd_rank, wd_less, wd_full, wd_whole, inw_fill, inw_gather, inw_wash, inw_empty, inw_break, inw_new, u_itemsT, u_itemsK, u_keysK, u_lk, u_ckw, eq_self, true_and, and_true])
local macro_rules | `(tactic| nested_keys) => `(tactic| repeat first
  | (with_reducible apply w_nx)
  | (with_reducible apply w_blk)
  | (with_reducible apply w_I; (· with_unfolding_all kas_types))
  | (with_reducible apply w_ixT; (· lcg_sub); (· kxs_still))
  | (with_reducible apply w_ixL; (· lcg_sub); (· kxs_still))
  | (with_reducible apply w_fldI; (· lcg_sub); (· kxs_still))
  | (with_reducible apply w_methI; (· lcg_sub))
  | (with_reducible apply w_augO; (· lcg_sub); (· kxs_still))
  | (with_reducible apply w_dgetS; (· lcg_sub); (· assumption))
  | (with_reducible apply w_dinS; (· lcg_sub))
  | (with_reducible apply w_dnotinS; (· lcg_sub))
  | (with_reducible apply w_isD; (· lcg_sub))
  | (with_reducible apply w_inT; (· lcg_sub); (· with_unfolding_all rfl))
  | (with_reducible apply w_sz; (· with_unfolding_all exact Nat.le_of_ble_eq_true rfl))
  | (with_reducible apply w_gTup; (· lcg_sub); (· kxs_still))
  | (with_reducible apply w_tyL; (· lcg_sub))
  | (with_reducible apply w_rng1k; (· with_unfolding_all kas_types); (· with_unfolding_all kas_types))
  | (with_reducible apply w_itLk; (· lcg_sub))
  | (with_reducible apply w_itTk; (· lcg_sub))
  | (with_reducible apply w_lenL; (· lcg_sub))
  | (with_reducible apply w_lenT; (· lcg_sub))
  | (with_reducible apply w_lenS; (· with_unfolding_all kas_types))
  | (with_reducible apply w_ixaL; (· lcg_sub); (· kxs_still))
  | (with_reducible apply w_ixaT; (· lcg_sub); (· kxs_still))
  | (with_reducible apply w_ixaS; (· with_unfolding_all kas_types); (· kxs_still))
  | (with_reducible apply w_ixS; (· with_unfolding_all kas_types); (· kxs_still))
  | (with_reducible apply w_slL; (· lcg_sub))
  | (with_reducible apply w_slS; (· with_unfolding_all kas_types))
  | (with_reducible apply w_addS; (· with_unfolding_all kas_types))
  | (with_reducible apply w_listL; (· lcg_sub))
  | (with_reducible apply w_tupL; (· lcg_sub))
  | (with_reducible apply w_divmod; (· with_unfolding_all kas_types))
  | (simp only [u_var, u_c, u_op, u_un, u_test, u_tB, u_bl, u_I0, u_eqS, u_eqI, u_neS, u_neI, u_seq, u_next, u_asg, u_name, u_ret, u_retN, u_drop, u_ifS, u_ifE, u_and, u_or, u_not, u_andV, u_orV, u_notV, u_nil, u_cons, u_call, u_cb, u_tup, u_lst, u_sub, u_gNil, u_gCons, u_bm, u_m1, u_isS, u_sl, u_noPart, u_part, u_partk, u_par, u_par2, u_for, u_lc, u_rng1, u_itL, u_itT, u_yes, u_fldI, u_putI, u_newI, u_methI, u_make, u_some, u_i0, u_i1, u_K, L2.start, wipe, List.map_cons, List.map_nil, List.length_cons, List.length_nil, List.replicate_succ, List.replicate_zero, List.cons_append, List.nil_append, List.set_cons_zero, List.set_cons_succ, ite_true, ite_false, if_true, if_false, Bool.false_eq_true, colV, washV, kindV, teamV, rowV, coolV, deedV, batRef_none, batRef_some, u_par3, u_par33, u_augI, u_dget, u_din, u_dnotin, u_dget2, u_dget1, u_dpop1, u_dput, u_setD, u_dnewK, u_dnewT, decide_true, decide_false, Bool.not_true, Bool.not_false, Option.map_none, Option.map_some, Option.isSome_none, Option.isSome_some, Option.getD_some, Option.getD_none, vn_non, vn_ref, vn_str, vn_int, wd_fill_fill, wd_fill_gather, wd_fill_wash, wd_fill_empty, wd_fill_break, wd_fill_new, wd_gather_fill, wd_gather_gather, wd_gather_wash, wd_gather_empty, wd_gather_break, wd_gather_new, wd_wash_fill, wd_wash_gather, wd_wash_wash, wd_wash_empty, wd_wash_break, wd_wash_new, wd_empty_fill, wd_empty_gather, wd_empty_wash, wd_empty_empty, wd_empty_break, wd_empty_new, wd_break_fill, wd_break_gather, wd_break_wash, wd_break_empty, wd_break_break, wd_break_new, wd_new_fill, wd_new_gather, wd_new_wash, wd_new_empty, wd_new_break, wd_new_new, wd_nil, wd_none, wd_broken, wd_busy, wd_glass, wd_name, wd_cold, wd_rank, wd_less, wd_full, wd_whole, inw_fill, inw_gather, inw_wash, inw_empty, inw_break, inw_new, u_itemsT, u_itemsK, u_keysK, u_lk, u_ckw, eq_self, true_and, and_true])
  | (with_reducible apply w_eq; (· kxs_still))
  | (with_reducible apply w_ne; (· kxs_still)))
def spLaw (K : PySem.W.Frag) : Sp := fun vs H Q _ => ∃ (sa : Addr) (ns : List Int), vs = [.ref sa] ∧ SqL K H sa (ns.map V.int) ∧ ns.length ≤ 1000 ∧ AllGood ∧ ∀ H', Ex H H' → Q (.bl true) H'
theorem B_law {P : Program} {w : World} {K : PySem.W.Frag} {mg : Str → Option Value} {base : Heap} (T : Txt K mg) : BodyOk P w K mg base 11 d_law n_law (spLaw K) := by
  have C_draws := C_draws (P := P) (w := w) (base := base) T
  have C_folded := C_folded (P := P) (w := w) (base := base) T
  have C_right := C_right (P := P) (w := w) (base := base) T
  intro f cdv A outer s H vs Q E hr h
  obtain ⟨sa, ns, rfl, hsa, hl, hall, k⟩ := h
  refine ⟨_, (pss_cons (ps_set (i := 1) sc_law.nd rfl (Or.inr rfl) (pe_cal C_folded (hr.mono (by decide)) rfl (pa_cons (pv 0) (pa_cons pe_int pa_nil))))
 (pss_one (ps_ret (pe_callB (cr_allK (K := K) rfl rfl) (by rfl) T.f_all (by decide +kernel) (pa_cons (pe_lc (own := [("_law_k", 2)]) rfl sc_law.nd (pi_range1 rfl T.f_range (pa_cons (pe_callB (call_lenK (K := K) rfl) (by rfl) T.f_len (by decide +kernel) (pa_cons (pv 1) pa_nil)) pa_nil)) (blkOk_by (own := [("_law_k", 2)]) (N := n_law) (sc := defScope s_law) (by decide +kernel)) (fun _ _ _ _ _ => (pg_name (i := 2) sc_law.nd rfl (Or.inl rfl))) (fun _ _ _ _ _ => pts_nil) (fun _ _ _ _ _ => (pe_cal C_right hr rfl (pa_cons (pe_cal C_draws (hr.mono (by decide)) rfl (pa_cons (pv 1) (pa_cons (pv 2) pa_nil))) pa_nil)))) pa_nil))))), ?_⟩
  nested_keys
  refine ⟨sa, ns, rfl, hsa, hl, fun p cs H1 hp k1 h1 hc0 hc2 => ?_⟩
  nested_keys
  rw [List.length_map]
  nested_keys
  intro U hU
  refine lc_range (lo := 0) (n := (cs.length : Int).toNat) (fun i H' => ∃ us : List V, us.length = i ∧ (∀ u ∈ us, u = .bl true) ∧ Cfg no H1 [(U, .lst us)] H') ⟨[], rfl, (fun u m => by cases m), Cfg.nil.new hU⟩ ?_ ?_
  · rintro i H' hi ⟨us, hus, hu, g⟩
    have hp' := g.kp.exget h1
    nested_keys
    refine ⟨p, cs, i, by simp, hp', by omega, hc2, fun bx H2 hbx hb2 k2 => ?_⟩
    refine ⟨bx, rfl, hb2, hall, fun H3 k3 => ?_⟩
    have kk : Ex H' H3 := k2.call k3 fun y e => .inr (by rw [show y = bx from e]; exact hbx)
    have g := g.ex kk
    have gw := g.wr (o := .lst (us ++ [.bl true])) 0 rfl (fun _ z => by cases z) (.inr hU)
    refine ⟨_, g.hd, small1000 (by omega), us ++ [V.bl true], by simp [hus], ?_, gw⟩
    intro u m
    rcases List.mem_append.mp m with m | m
    · exact hu u m
    · exact List.mem_singleton.mp m
  · rintro H2 ⟨us, hus, hu, g⟩
    have e : us = (List.replicate us.length true).map V.bl := by
      rw [List.map_replicate]
      exact List.eq_replicate_iff.mpr ⟨rfl, hu⟩
    refine ⟨U, List.replicate us.length true, rfl, SqL.of (by rw [← e]; exact g.get 0 rfl), ?_⟩
    have ea : (List.replicate us.length true).all id = true := by simp
    rw [ea]
    exact k H2 (k1.trans g.kp)

end K87

namespace K87
open PySem PySem.Spec PyProof.Rows L2
--nomac
theorem fn_mk {P : Program} {w : World} {K : PySem.W.Frag} {mg : Str → Option Value} {d : He.DefD} {N : List Str} {p : Str} {k : Nat} {sp : Sp} {x : Str} {f : Addr} (T : Txt K mg) (i : Nat) (hi : fn[i]? = some d) (hx : mg x = some (.ref (He.fAd K d.at_))) (hf : mg x = some (.ref f)) (S : FnScope N [p] d.scope)
    (hd : d.dvs K = []) (hk : d.kws K = []) (hbn : BindN d [p]) (len : ∀ vs H Q E, sp vs H Q E → vs.length = 1) (hb : ∀ base, BodyOk P w K mg base k d N sp) :
    ∃ fd : FuncData, (∀ (s : Shared) (v : Value), BindsTo s fd ⟨[v], []⟩ [(p, v)]) ∧ ∀ base : Heap, FnOk P w K mg base CX0 (k + 1) f fd [p] sp := by
  obtain ⟨fd, F⟩ := T.says.def_ i hi
  have e := hx.symm.trans hf
  cases e
  have F' := F
  rw [hd, hk] at F'
  have b := FunD.bindsA (ps := [p]) F' hbn
  exact ⟨fd, fun s v => b s [v] rfl, fun base => fn_ok F S len (hb base)⟩

end K87

namespace K87
open PySem PySem.Spec PyProof.Rows L2
--nomac
theorem txt {w : World} {h : Heap} {K : PySem.W.Frag} {mg : Str → Option Value} (X : K.In h) (G : h.Ns mainGlobals mg) (c : He.SaysX fa fn [] [] exN w h K) : Txt K mg :=
  ⟨c.t.d, fun i x e => He.glo_ok X G (c.t.d.fact i (f := .glo x) e), fun i x e => He.free_ok X G (c.t.d.fact i (f := .free x) e), He.tupB_ok (vs := [.str "", .non]) c.more _⟩
theorem facts {P : Program} {w : World} {h : Heap} {K : PySem.W.Frag} {mg : Str → Option Value} {f : Addr} (hall : AllGood) (X : K.In h) (G : h.Ns mainGlobals mg) (hfa : mg ("law" : Str) = some (.ref f)) (c : He.SaysX fa fn [] [] exN w h K) :
    ∃ fd : FuncData, (∀ (s : Shared) (v : Value), BindsTo s fd ⟨[v], []⟩ [("_law_script", v)]) ∧ ∀ base : Heap, FnOk P w K mg base CX0 12 f fd ["_law_script"] (spLaw K) :=
  fn_mk (txt X G c) 61 rfl (txt X G c).g_law hfa sc_law rfl rfl (fun _ _ _ _ _ _ us hl => match us, hl with | [_], _ => rfl) (fun vs H Q E h => by
    obtain ⟨sa, ns, rfl, _⟩ := h
    rfl) (fun base => B_law (txt X G c))
end K87
open PySem PySem.W PySem.Calls PyProof.Rows
theorem fin_ (hall : K87.AllGood) : PySem.Challenge.rw_potround_k87_whole_pieces_walked_back.Holds := by
  w_on; o_law
  refine HandSHeadRun.head_any (r := OpenLaw.row PySem.Challenge.rw_potround_k87_whole_pieces_walked_back) (q := view (OpenLaw.row PySem.Challenge.rw_potround_k87_whole_pieces_walked_back).prog [41]) (H := K87.hk) (ob := K87.ob) (M := 4000) (loose := K87.loose) (d := HandSHeadRun.topDef (OpenLaw.row PySem.Challenge.rw_potround_k87_whole_pieces_walked_back).prog 41) (kwd := []) K87.ob_eq
    (by kernel_rfl) (fun s => by kernel_rfl) K87.run (by kernel_rfl) (by kernel_rfl) (by kernel_rfl) (by rfl) (by first | assumption | decide +kernel) (by decide +kernel) ⟨rfl, rfl, rfl, rfl, rfl, by decide +kernel⟩ ?hw ?hc
  case hw => w_witness2
  case hc =>
    refine L2.walk_ofE (l := PySem.Challenge.rw_potround_k87_whole_pieces_walked_back) (n := 63) (k := 12) (x := "_law_script") (CX := L2.CX0) rfl (by decide) (by kernel_rfl) ⟨rfl, by decide, by decide⟩ ?F (fun _ _ _ _ z => z)
    intro w mg fa h Y G hmg0
    obtain ⟨K, KX, c⟩ := Y
    have hmg : mg ("law" : PySem.Str) = some (.ref fa) := by
      have e : (HandSHeadRun.topDef (OpenLaw.row PySem.Challenge.rw_potround_k87_whole_pieces_walked_back).prog 41).name = ("law" : PySem.Str) := by kernel_rfl
      rw [← e]
      exact hmg0
    obtain ⟨fd, hb, hF⟩ := K87.facts (P := (PySem.Challenge.rw_potround_k87_whole_pieces_walked_back).prog) (w := w) hall KX G hmg c
    exact ⟨K, fd, K87.spLaw K, KX, hb, fun H a ns hl _ hS => ⟨a, ns, rfl, hS, by omega, hall, fun _ _ => rfl⟩, fun base _ _ => hF base⟩
namespace K87

end K87

namespace K87
open PySem PySem.Spec PyProof.Rows L2
--nomac
/-! ### a run's rows: plain -/
theorem step_rows (h : Hall) (a : Acc) (e : Ent) : (step h a e).rows = a.rows ∨ ∃ r : Row, (step h a e).rows = a.rows ++ [r] ∧ r.hour = e.hour ∧ r.number = e.number ∧ r.word = e.deed.word ∧ r.pot = e.deed.pot := by
  unfold step
  by_cases hv : voidWord h a e.hour e.deed = ""
  · rw [if_pos hv]
    refine .inr ⟨rowOf e.hour e.number e.deed (midStep h a e.hour e.number e.deed).2.1 (midStep h a e.hour e.number e.deed).2.2, rfl, ?_⟩
    unfold rowOf
    split <;> exact ⟨rfl, rfl, rfl, rfl⟩
  · rw [if_neg hv]; exact .inl rfl
theorem run_app (h : Hall) (l m : List Ent) : run_ h (l ++ m) = m.foldl (step h) (run_ h l) := List.foldl_append ..
theorem run_snoc (h : Hall) (l : List Ent) (e : Ent) : run_ h (l ++ [e]) = step h (run_ h l) e := by rw [run_app]; rfl
@[reducible] def rk (r : Row) : Int × Int := (r.hour, r.number)
@[reducible] def ek (e : Ent) : Int × Int := (e.hour, e.number)
/-- what a further run adds -/
theorem fold_rows (h : Hall) : ∀ (m : List Ent) (a : Acc), ∃ add : List Row, (m.foldl (step h) a).rows = a.rows ++ add ∧ (add.map rk).Sublist (m.map ek) ∧ ∀ r ∈ add, ∃ e ∈ m, r.hour = e.hour ∧ r.number = e.number ∧ r.word = e.deed.word ∧ r.pot = e.deed.pot
  | [], a => ⟨[], by simp, List.nil_sublist _, fun r m => by cases m⟩
  | e :: m, a => by
    obtain ⟨add, h1, h2, h3⟩ := fold_rows h m (step h a e)
    rw [List.foldl_cons, h1]
    rcases step_rows h a e with q | ⟨r, q, q1, q2, q3, q4⟩
    · exact ⟨add, by rw [q], h2.cons _, fun r m => by
        obtain ⟨e', m', z⟩ := h3 r m
        exact ⟨e', List.mem_cons_of_mem _ m', z⟩⟩
    · refine ⟨r :: add, by rw [q, List.append_assoc]; rfl, ?_, fun r' m => ?_⟩
      · rw [List.map_cons, List.map_cons, show rk r = ek e by unfold rk ek; rw [q1, q2]]
        exact h2.cons₂ _
      · rcases List.mem_cons.mp m with m | m
        · rw [m]; exact ⟨e, List.mem_cons_self .., q1, q2, q3, q4⟩
        · obtain ⟨e', m', z⟩ := h3 r' m
          exact ⟨e', List.mem_cons_of_mem _ m', z⟩
theorem run_rows (h : Hall) (l : List Ent) : ((run_ h l).rows.map rk).Sublist (l.map ek) ∧ ∀ r ∈ (run_ h l).rows, ∃ e ∈ l, r.hour = e.hour ∧ r.number = e.number ∧ r.word = e.deed.word ∧ r.pot = e.deed.pot := by
  obtain ⟨add, h1, h2, h3⟩ := fold_rows h l acc0
  have e : (run_ h l).rows = add := by
    show (l.foldl (step h) acc0).rows = add
    rw [h1]; rfl
  rw [e]; exact ⟨h2, h3⟩
theorem ent_lt (a b : Ent) : SK.kLt (entK a) (entK b) = decide (a.hour < b.hour ∨ (a.hour = b.hour ∧ a.number < b.number)) := by
  show HT.lexLt [a.hour, a.number] [b.hour, b.number] = _
  rw [HT.lexLt_cons, HT.lexLt_cons]
  have e0 : HT.lexLt [] [] = false := rfl
  rw [e0]
  by_cases e : a.hour = b.hour
  · rw [if_pos e]
    by_cases f : a.number = b.number
    · rw [if_pos f]
      exact (decide_eq_false (by omega)).symm
    · rw [if_neg f]
      exact decide_eq_decide.mpr (by omega)
  · rw [if_neg e]
    exact decide_eq_decide.mpr (by omega)
abbrev Before (a b : Ent) : Prop := a.hour < b.hour ∨ (a.hour = b.hour ∧ a.number < b.number)
theorem sortE_before {es : List Ent} (hn : (es.map (·.number)).Nodup) : (sortE es).Pairwise Before := by
  have h1 : (sortE es).Pairwise fun x y => SK.kLt (entK y) (entK x) = false := srt_sorted es
  have h2 : ((sortE es).map (·.number)).Nodup := ((srt_perm (κ := entK) es).map _).nodup_iff.mpr hn
  have h3 : (sortE es).Pairwise fun x y => x.number ≠ y.number := List.pairwise_map.mp h2
  refine (h1.and h3).imp fun {a b} q => ?_
  obtain ⟨q1, q2⟩ := q
  rw [ent_lt] at q1
  have q1 := of_decide_eq_false q1
  show a.hour < b.hour ∨ (a.hour = b.hour ∧ a.number < b.number)
  omega
/-- sorted by hour: what is up to an hour comes first -/
theorem split_hour (n : Int) : ∀ {l : List Ent}, l.Pairwise Before → l = l.filter (fun e => decide (e.hour ≤ n)) ++ l.filter (fun e => !decide (e.hour ≤ n))
  | [], _ => rfl
  | e :: l, h => by
    have h := List.pairwise_cons.mp h
    have ih := split_hour n h.2
    by_cases q : e.hour ≤ n
    · rw [List.filter_cons_of_pos (by simpa using q), List.filter_cons_of_neg (by simpa using q), List.cons_append, ← ih]
    · have e1 : l.filter (fun e => decide (e.hour ≤ n)) = [] := List.filter_eq_nil_iff.mpr fun x m => by
        have q2 : Before e x := h.1 x m
        have q2 : e.hour < x.hour ∨ (e.hour = x.hour ∧ e.number < x.number) := q2
        simp only [decide_eq_true_eq]
        omega
      rw [e1, List.nil_append] at ih
      rw [List.filter_cons_of_neg (by simpa using q), List.filter_cons_of_pos (by simpa using q), e1, List.nil_append, ← ih]
theorem upTo_before {es : List Ent} (hn : (es.map (·.number)).Nodup) (n : Int) : (upTo es n).Pairwise Before := (sortE_before hn).filter _
theorem upTo_nd {es : List Ent} (hn : (es.map (·.number)).Nodup) (n : Int) : ((upTo es n).map (·.number)).Nodup := by
  have h2 : ((sortE es).map (·.number)).Nodup := ((srt_perm (κ := entK) es).map _).nodup_iff.mpr hn
  exact (List.filter_sublist.map _).nodup h2
theorem upTo_mem {es : List Ent} {n : Int} {e : Ent} (h : e ∈ upTo es n) : e ∈ es ∧ e.hour ≤ n := by
  have q := List.mem_filter.mp h
  exact ⟨(srt_perm (κ := entK) es).mem_iff.mp q.1, of_decide_eq_true q.2⟩
theorem upTo_len (es : List Ent) (n : Int) : (upTo es n).length ≤ es.length := by
  rw [← (srt_perm (κ := entK) es).length_eq]
  exact List.length_filter_le _ _
/-- a later hour: more entries behind -/
theorem upTo_more {es : List Ent} (hn : (es.map (·.number)).Nodup) {n m : Int} (hnm : n ≤ m) : ∃ l, upTo es m = upTo es n ++ l ∧ ∀ e ∈ l, n < e.hour := by
  refine ⟨(upTo es m).filter (fun e => !decide (e.hour ≤ n)), ?_, fun e he => ?_⟩
  · have q := split_hour n (upTo_before hn m)
    have e1 : (upTo es m).filter (fun e => decide (e.hour ≤ n)) = upTo es n := by
      unfold upTo
      rw [List.filter_filter]
      refine List.filter_congr fun e _ => ?_
      by_cases z : e.hour ≤ n
      · rw [decide_eq_true z, decide_eq_true (by omega : e.hour ≤ m)]; rfl
      · rw [decide_eq_false z]; rfl
    rw [e1] at q
    exact q
  · have q := (List.mem_filter.mp he).2
    have q : ¬ e.hour ≤ n := by simpa using q
    omega
theorem rows_pre {h : Hall} {es : List Ent} (hn : (es.map (·.number)).Nodup) {n m : Int} (hnm : n ≤ m) : (run_ h (upTo es n)).rows = (run_ h (upTo es m)).rows.filter fun r => decide (r.hour ≤ n) := by
  obtain ⟨l, e, hl⟩ := upTo_more hn hnm
  obtain ⟨add, h1, _, h3⟩ := fold_rows h l (run_ h (upTo es n))
  rw [e, run_app, h1, List.filter_append]
  have e1 : (run_ h (upTo es n)).rows.filter (fun r => decide (r.hour ≤ n)) = (run_ h (upTo es n)).rows := List.filter_eq_self.mpr fun r m => by
    obtain ⟨e, me, q, _⟩ := (run_rows h (upTo es n)).2 r m
    exact decide_eq_true (by rw [q]; exact (upTo_mem me).2)
  have e2 : add.filter (fun r => decide (r.hour ≤ n)) = [] := List.filter_eq_nil_iff.mpr fun r m => by
    obtain ⟨e, me, q, _⟩ := h3 r m
    have := hl e me
    simp only [decide_eq_true_eq]
    omega
  rw [e1, e2, List.append_nil]
theorem rows_keys {h : Hall} {es : List Ent} (hn : (es.map (·.number)).Nodup) (n : Int) : (run_ h (upTo es n)).rows.Pairwise fun a b => a.hour < b.hour ∨ (a.hour = b.hour ∧ a.number < b.number) := by
  have q : ((upTo es n).map ek).Pairwise fun a b => a.1 < b.1 ∨ (a.1 = b.1 ∧ a.2 < b.2) := List.pairwise_map.mpr (upTo_before hn n)
  exact List.pairwise_map.mp (q.sublist (run_rows h (upTo es n)).1)
theorem rows_nd {h : Hall} {es : List Ent} (hn : (es.map (·.number)).Nodup) (n : Int) : ((run_ h (upTo es n)).rows.map (·.number)).Nodup := by
  have q := ((run_rows h (upTo es n)).1.map Prod.snd).nodup (by rw [List.map_map]; exact upTo_nd hn n)
  rw [List.map_map] at q
  exact q
theorem rows_len (h : Hall) (es : List Ent) (n : Int) : (run_ h (upTo es n)).rows.length ≤ es.length := by
  have q := (run_rows h (upTo es n)).1.length_le
  rw [List.length_map, List.length_map] at q
  exact Nat.le_trans q (upTo_len es n)
theorem word_gather {d : Deed} (h : d.word = wGather) : ∃ t p k m, d = .gather t p k m := by
  cases d with
  | gather t p k m => exact ⟨t, p, k, m, rfl⟩
  | fill p c => exact absurd h (by show wFill ≠ wGather; decide)
  | wash p hs => exact absurd h (by show wWash ≠ wGather; decide)
  | emp p => exact absurd h (by show wEmpty ≠ wGather; decide)
  | brk p => exact absurd h (by show wBreak ≠ wGather; decide)
  | new p hs => exact absurd h (by show wNew ≠ wGather; decide)
theorem word_sOk (d : Deed) : sOk d.word = true := by
  cases d with
  | gather t p k m => show sOk wGather = true; decide +kernel
  | fill p c => show sOk wFill = true; decide +kernel
  | wash p hs => show sOk wWash = true; decide +kernel
  | emp p => show sOk wEmpty = true; decide +kernel
  | brk p => show sOk wBreak = true; decide +kernel
  | new p hs => show sOk wNew = true; decide +kernel
theorem rows_gather {h : Hall} {es : List Ent} (n : Int) : ∀ r ∈ (run_ h (upTo es n)).rows, GatherRow es r := fun r m hw => by
  obtain ⟨e, me, _, q2, q3, _⟩ := (run_rows h (upTo es n)).2 r m
  obtain ⟨t, p, k, mm, ed⟩ := word_gather (q3.symm.trans hw)
  exact ⟨e, t, p, k, mm, (upTo_mem me).1, q2.symm, ed⟩

end K87

namespace K87
open PySem PySem.Spec PyProof.Rows L2
--nomac
/-! ### what holds of each pot along a run: plain -/
def Fed (h : Hall) (l : List Ent) (rows : List Row) (p : Str) (q : Pot) (b : Bat) : Prop := ∃ e c, e ∈ l ∧ e.number = b.source ∧ e.deed = .fill p c ∧ isCol h c ∧ b.ready = readyAt h c e.hour ∧ (b.colour = "" ∨ b.colour = c) ∧ q.tills ≤ e.hour ∧ ∃ r ∈ rows, r.number = b.source ∧ r.word = wFill ∧ r.hour = e.hour
structure PotInv (h : Hall) (l : List Ent) (rows : List Row) (p : Str) (q : Pot) : Prop where
  bat : ∀ b, q.bat = some b → q.whole = true ∧ 0 < b.left ∧ Fed h l rows p q b
  word : q.word = "washing" ∨ q.word = "warming"
theorem Fed.more {h : Hall} {l l' : List Ent} {rows rows' : List Row} {p : Str} {q : Pot} {b : Bat} (f : Fed h l rows p q b) : Fed h (l ++ l') (rows ++ rows') p q b := by
  obtain ⟨e, c, h1, h2, h3, h4, h5, h6, h7, r, h8, h9⟩ := f
  exact ⟨e, c, List.mem_append_left _ h1, h2, h3, h4, h5, h6, h7, r, List.mem_append_left _ h8, h9⟩
theorem PotInv.more {h : Hall} {l l' : List Ent} {rows rows' : List Row} {p : Str} {q : Pot} (i : PotInv h l rows p q) : PotInv h (l ++ l') (rows ++ rows') p q :=
  ⟨fun b e => ⟨(i.bat b e).1, (i.bat b e).2.1, (i.bat b e).2.2.more⟩, i.word⟩
theorem potInv0 (h : Hall) (p : Str) : PotInv h [] [] p Pot.fresh := ⟨fun b e => (by cases e), .inl rfl⟩
/-- some taken, the rest stays -/
theorem PotInv.taken {h : Hall} {l : List Ent} {rows : List Row} {p : Str} {q : Pot} {b : Bat} {m : Int} (i : PotInv h l rows p q) (hb : q.bat = some b) (hm : m ≤ b.left) : PotInv h l rows p (q.taken b m) := by
  unfold Pot.taken
  by_cases z : b.left - m = 0
  · rw [if_pos z]; exact ⟨fun b e => (by cases e), i.word⟩
  · rw [if_neg z]
    refine ⟨fun b' e => ?_, i.word⟩
    cases e
    obtain ⟨h1, h2, f⟩ := i.bat b hb
    exact ⟨h1, show 0 < b.left - m by omega, f⟩
theorem bare_ok {q : Pot} {hour : Int} (e : q.bareWord hour = "") : q.whole = true ∧ q.tills ≤ hour ∧ q.bat = none := by
  unfold Pot.bareWord at e
  cases hw : q.whole with
  | false =>
    rw [hw, if_pos (by decide)] at e
    exact absurd e (by decide)
  | true =>
    rw [hw, if_neg (by decide)] at e
    by_cases hb : q.busy hour = true
    · rw [if_pos hb] at e; exact absurd e (by decide)
    · rw [if_neg hb] at e
      refine ⟨rfl, ?_, ?_⟩
      · unfold Pot.busy at hb
        have : ¬ hour < q.tills := by simpa using hb
        omega
      · cases hbt : q.bat with
        | none => rfl
        | some b =>
          rw [hbt] at e
          have e : ("glass" : Str) = "" := e
          exact absurd e (by decide)
theorem col_row {h : Hall} {c : Str} (hc : isCol h c) : ∃ r, colRow h c = some r ∧ r ∈ h.cols := by
  unfold colRow
  cases hf : h.cols.find? fun r => decide (r.1 = c) with
  | some r => exact ⟨r, rfl, List.mem_of_find?_eq_some hf⟩
  | none =>
    obtain ⟨r, m, e⟩ := List.mem_map.mp hc
    have := List.find?_eq_none.mp hf r m
    exact absurd (decide_eq_true e) (by simpa using this)
theorem upd_inv {h : Hall} {l : List Ent} {rows : List Row} {a : Acc} {p0 : Str} {q : Pot} (i : ∀ p, PotInv h l rows p (a.pots p)) (j : PotInv h l rows p0 q) : ∀ p, PotInv h l rows p (updP a.pots p0 q p) := fun p => by
  unfold updP
  by_cases e : p = p0
  · rw [if_pos e, e]; exact j
  · rw [if_neg e]; exact i p
theorem gather_ok {h : Hall} {a : Acc} {hour m : Int} {t k : Str} {b : Bat} (e : gatherWord h a hour t k m b = "") : b.ready ≤ hour ∧ m ≤ b.left ∧ m ≤ ((free h a.cool hour).length : Int) := by
  unfold gatherWord at e
  by_cases h1 : hour < b.ready
  · rw [if_pos h1] at e; exact absurd e (by decide)
  rw [if_neg h1] at e
  by_cases h2 : teamOf h t < rankOf h k
  · rw [if_pos h2] at e; exact absurd e (by decide)
  rw [if_neg h2] at e
  by_cases h3 : b.left < m
  · rw [if_pos h3] at e; exact absurd e (by decide)
  rw [if_neg h3] at e
  by_cases h4 : ((free h a.cool hour).length : Int) < m
  · rw [if_pos h4] at e; exact absurd e (by decide)
  exact ⟨by omega, by omega, by omega⟩
def bareOf (a : Acc) (hour : Int) : Deed → Prop
  | .fill p _ => (a.pots p).bareWord hour = ""
  | .wash p _ => (a.pots p).bareWord hour = ""
  | .brk p => (a.pots p).whole = true
  | .new p _ => (a.pots p).whole = false
  | _ => True
theorem void_bare {h : Hall} {a : Acc} {hour : Int} {d : Deed} (e : voidWord h a hour d = "") : bareOf a hour d := by
  have hn := void_names e
  unfold voidWord at e
  rw [hn] at e
  have e := e
  cases d with
  | fill p c => exact e
  | wash p hs => exact e
  | gather t p k m => trivial
  | emp p => trivial
  | brk p =>
    cases hw : (a.pots p).whole with
    | true => exact hw
    | false =>
      have e : (if (a.pots p).whole = true then ("" : Str) else "broken") = "" := e
      rw [hw, if_neg (by decide)] at e; exact absurd e (by decide)
  | new p hs =>
    cases hw : (a.pots p).whole with
    | false => exact hw
    | true =>
      have e : (if (a.pots p).whole = true then ("whole" : Str) else "") = "" := e
      rw [hw, if_pos rfl] at e; exact absurd e (by decide)
theorem pot_step {h : Hall} (hG : HallGood h) {l : List Ent} {a : Acc} {e : Ent} (i : ∀ p, PotInv h l a.rows p (a.pots p)) : ∀ p, PotInv h (l ++ [e]) (step h a e).rows p ((step h a e).pots p) := by
  unfold step
  by_cases hv : voidWord h a e.hour e.deed = ""
  · rw [if_pos hv]
    have hn := void_names hv
    have hbare := void_bare hv
    have im : ∀ rows' p, PotInv h (l ++ [e]) (a.rows ++ rows') p (a.pots p) := fun rows' p => (i p).more
    show ∀ p, PotInv h (l ++ [e]) (a.rows ++ [rowOf e.hour e.number e.deed (midStep h a e.hour e.number e.deed).2.1 (midStep h a e.hour e.number e.deed).2.2]) p ((midStep h a e.hour e.number e.deed).1.pots p)
    cases hd : e.deed with
    | fill p c =>
      rw [hd] at hn hbare
      obtain ⟨b1, b2, b3⟩ := bare_ok hbare
      have hc := (names_fill hn).2
      obtain ⟨r, hr, hrm⟩ := col_row hc
      unfold midStep
      dsimp only
      rw [hr]
      refine upd_inv (im _) ⟨fun b eb => ?_, (i p).word⟩
      cases eb
      have hgr : 1 ≤ r.2.2.2 := hG.gath r hrm
      refine ⟨b1, show 0 < r.2.2.2 by omega, e, c, List.mem_append_right _ (List.mem_singleton.mpr rfl), rfl, hd, hc, ?_, ?_, b2, _, List.mem_append_right _ (List.mem_singleton.mpr rfl), rfl, rfl, rfl⟩
      · show e.hour + r.2.1 + r.2.2.1 = readyAt h c e.hour
        unfold readyAt; rw [hr]
      · by_cases z : (a.pots p).streaked h c = true
        · exact .inl (if_pos z)
        · exact .inr (if_neg z)
    | gather t p k m =>
      rw [hd] at hv
      obtain ⟨b, _, hb, hg⟩ := void_gather hv
      unfold midStep
      dsimp only
      rw [hb]
      exact upd_inv (im _) ((im _ p).taken hb (gather_ok hg).2.1)
    | emp p =>
      rw [hd] at hv
      obtain ⟨b, hb⟩ := void_emp hv
      unfold midStep
      dsimp only
      rw [hb]
      exact upd_inv (im _) ((im _ p).taken hb (Int.le_refl _))
    | brk p => exact upd_inv (im _) ⟨fun b eb => (by cases eb), (i p).word⟩
    | wash p hs =>
      rw [hd] at hbare
      obtain ⟨b1, b2, b3⟩ := bare_ok hbare
      exact upd_inv (im _) ⟨fun b eb => (by
        have eb : (a.pots p).bat = some b := eb
        rw [b3] at eb; cases eb), .inl rfl⟩
    | new p hs =>
      rw [hd] at hbare
      have hw : (a.pots p).whole = false := hbare
      exact upd_inv (im _) ⟨fun b eb => (by
        have eb : (a.pots p).bat = some b := eb
        have q := ((i p).bat b eb).1
        rw [hw] at q; cases q), .inr rfl⟩
  · rw [if_neg hv]
    intro p
    have q := (i p).more (l' := [e]) (rows' := [])
    rw [List.append_nil] at q
    exact q
theorem pot_run {h : Hall} (hG : HallGood h) (l : List Ent) : ∀ p, PotInv h l (run_ h l).rows p ((run_ h l).pots p) := by
  have gen : ∀ (m l : List Ent) (a : Acc), (∀ p, PotInv h l a.rows p (a.pots p)) → ∀ p, PotInv h (l ++ m) (m.foldl (step h) a).rows p ((m.foldl (step h) a).pots p) := by
    intro m
    induction m with
    | nil => intro l a i; rw [List.append_nil]; exact i
    | cons e r ih =>
      intro l a i
      have q := ih (l ++ [e]) (step h a e) (pot_step hG i)
      rw [List.append_assoc] at q
      exact q
  exact gen l [] acc0 (potInv0 h)
theorem state_ok {h : Hall} {l : List Ent} {a : Acc} {n : Int} {p : Str} (i : PotInv h l a.rows p (a.pots p)) (hl : ∀ e ∈ l, e.hour ≤ n) : StateOk a n p := by
  unfold StateOk Pot.wordOf
  cases hb : (a.pots p).bat with
  | some b =>
    obtain ⟨hw, _, e, c, me, _, _, _, _, _, ht, _⟩ := i.bat b hb
    have hle := hl e me
    have nb : (a.pots p).busy n = false := decide_eq_false (by omega)
    rw [hw, if_neg (by decide), nb, if_neg (by decide)]
    dsimp only
    rw [show (some b).isSome = true from rfl]
    split
    · decide
    · split <;> decide
  | none =>
    dsimp only
    split
    · decide
    · split
      · rcases i.word with w | w <;> (rw [w]; decide)
      · decide

end K87

namespace K87
open PySem PySem.Spec PyProof.Rows L2
--nomac
theorem col_sOk {h : Hall} (hG : HallGood h) {c : Str} (hc : c = "" ∨ isCol h c) : sOk c = true := by
  rcases hc with e | e
  · rw [e]; decide +kernel
  · obtain ⟨r, m, q⟩ := List.mem_map.mp e
    rw [← q]; exact hG.cstr r m
theorem PotInv.colour {h : Hall} {l : List Ent} {rows : List Row} {p : Str} {q : Pot} {b : Bat} (i : PotInv h l rows p q) (hb : q.bat = some b) : b.colour = "" ∨ isCol h b.colour := by
  obtain ⟨_, _, e, c, _, _, _, hc, _, hcol, _⟩ := i.bat b hb
  rcases hcol with z | z
  · exact .inl z
  · exact .inr (by rw [z]; exact hc)
/-- the row of a deed: its colour -/
theorem row_colour {h : Hall} {l : List Ent} {a : Acc} {e : Ent} (i : ∀ p, PotInv h l a.rows p (a.pots p)) (hv : voidWord h a e.hour e.deed = "") :
    (rowOf e.hour e.number e.deed (midStep h a e.hour e.number e.deed).2.1 (midStep h a e.hour e.number e.deed).2.2).colour = "" ∨ isCol h (rowOf e.hour e.number e.deed (midStep h a e.hour e.number e.deed).2.1 (midStep h a e.hour e.number e.deed).2.2).colour := by
  have hn := void_names hv
  cases hd : e.deed with
  | fill p c =>
    rw [hd] at hn
    have hc := (names_fill hn).2
    obtain ⟨r, hr, _⟩ := col_row hc
    unfold midStep
    dsimp only
    rw [hr]
    unfold rowOf
    dsimp only
    split
    · exact .inl rfl
    · exact .inr hc
  | gather t p k m =>
    rw [hd] at hv
    obtain ⟨b, _, hb, _⟩ := void_gather hv
    unfold midStep
    dsimp only
    rw [hb]
    exact (i p).colour hb
  | emp p =>
    rw [hd] at hv
    obtain ⟨b, hb⟩ := void_emp hv
    unfold midStep
    dsimp only
    rw [hb]
    exact (i p).colour hb
  | brk p =>
    unfold midStep
    dsimp only
    cases hb : (a.pots p).bat with
    | none => exact .inl rfl
    | some b => exact (i p).colour hb
  | wash p hs => exact .inl rfl
  | new p hs => exact .inl rfl
theorem rows_txts {h : Hall} (hG : HallGood h) (l : List Ent) : ∀ r ∈ (run_ h l).rows, sOk r.word = true ∧ sOk r.pot = true ∧ sOk r.colour = true := by
  have gen : ∀ (m l : List Ent) (a : Acc), (∀ p, PotInv h l a.rows p (a.pots p)) → (∀ r ∈ a.rows, sOk r.word = true ∧ sOk r.pot = true ∧ sOk r.colour = true) → ∀ r ∈ (m.foldl (step h) a).rows, sOk r.word = true ∧ sOk r.pot = true ∧ sOk r.colour = true := by
    intro m
    induction m with
    | nil => intro l a _ q; exact q
    | cons e t ih =>
      intro l a i q
      refine ih (l ++ [e]) (step h a e) (pot_step hG i) fun r m => ?_
      unfold step at m
      by_cases hv : voidWord h a e.hour e.deed = ""
      · rw [if_pos hv] at m
        rcases List.mem_append.mp (show r ∈ a.rows ++ [rowOf e.hour e.number e.deed (midStep h a e.hour e.number e.deed).2.1 (midStep h a e.hour e.number e.deed).2.2] from m) with m | m
        · exact q r m
        · have hc := col_sOk hG (row_colour i hv)
          have e1 : r = _ := List.mem_singleton.mp m
          have hp : sOk e.deed.pot = true := hG.pstr _ (names_pot (void_names hv))
          rw [e1]
          refine ⟨?_, ?_, hc⟩
          · unfold rowOf; split <;> exact word_sOk e.deed
          · unfold rowOf; split <;> exact hp
      · rw [if_neg hv] at m; exact q r m
  exact gen l [] acc0 (potInv0 h) (fun r m => by cases m)
theorem ready_more {h : Hall} {l l' : List Ent} {rows rows' : List Row} {r : Row} (hl : ∀ e ∈ l, e ∈ l') (hr : ∀ x ∈ rows, x ∈ rows') (q : ReadyOk h l rows r) : ReadyOk h l' rows' r := by
  refine ⟨fun w => ?_, fun w => ?_⟩
  · obtain ⟨n, e, p, c, r0, h1, h2, h3, h4, h5, h6, h7⟩ := q.1 w
    exact ⟨n, e, p, c, r0, h1, hl e h2, h3, h4, h5, hr r0 h6, h7⟩
  · obtain ⟨e, p, c, h1, h2⟩ := q.2 w
    exact ⟨e, p, c, hl e h1, h2⟩
theorem row_ready {h : Hall} {l : List Ent} {a : Acc} {e : Ent} (i : ∀ p, PotInv h l a.rows p (a.pots p)) (hv : voidWord h a e.hour e.deed = "") (rows : List Row) (hr : ∀ x ∈ a.rows, x ∈ rows) :
    ReadyOk h (l ++ [e]) rows (rowOf e.hour e.number e.deed (midStep h a e.hour e.number e.deed).2.1 (midStep h a e.hour e.number e.deed).2.2) := by
  have hn := void_names hv
  have hw : (rowOf e.hour e.number e.deed (midStep h a e.hour e.number e.deed).2.1 (midStep h a e.hour e.number e.deed).2.2).word = e.deed.word := by unfold rowOf; split <;> rfl
  refine ⟨fun w => ?_, fun w => ?_⟩
  · rw [hw] at w
    obtain ⟨t, p, k, m, hd⟩ := word_gather w
    rw [hd] at hv ⊢
    obtain ⟨b, _, hb, hg⟩ := void_gather hv
    obtain ⟨_, _, e', c, me, en, ed, hc, hrd, _, _, r0, mr, rn, rw_, rh⟩ := (i p).bat b hb
    refine ⟨b.source, e', p, c, r0, ?_, List.mem_append_left _ me, en, ed, hc, hr r0 mr, rn, rw_, ?_⟩
    · unfold midStep
      dsimp only
      rw [hb]; rfl
    · rw [rh, ← hrd]
      have q := (gather_ok hg).1
      unfold rowOf
      split <;> exact q
  · rw [hw] at w
    cases hd : e.deed with
    | fill p c =>
      rw [hd] at hn
      obtain ⟨r, hr, _⟩ := col_row (names_fill hn).2
      refine ⟨e, p, c, List.mem_append_right _ (List.mem_singleton.mpr rfl), ?_, hd, ?_⟩
      · unfold rowOf; split <;> rfl
      · unfold midStep
        dsimp only
        rw [hr]
        unfold rowOf
        dsimp only
        split
        · exact .inl rfl
        · exact .inr rfl
    | gather t p k m => rw [hd] at w; exact absurd w (by show wGather ≠ wFill; decide)
    | wash p hs => rw [hd] at w; exact absurd w (by show wWash ≠ wFill; decide)
    | emp p => rw [hd] at w; exact absurd w (by show wEmpty ≠ wFill; decide)
    | brk p => rw [hd] at w; exact absurd w (by show wBreak ≠ wFill; decide)
    | new p hs => rw [hd] at w; exact absurd w (by show wNew ≠ wFill; decide)
theorem rows_ready {h : Hall} (hG : HallGood h) (l : List Ent) : ∀ r ∈ (run_ h l).rows, ReadyOk h l (run_ h l).rows r := by
  have gen : ∀ (m l : List Ent) (a : Acc), (∀ p, PotInv h l a.rows p (a.pots p)) → (∀ r ∈ a.rows, ReadyOk h l a.rows r) → ∀ r ∈ (m.foldl (step h) a).rows, ReadyOk h (l ++ m) (m.foldl (step h) a).rows r := by
    intro m
    induction m with
    | nil => intro l a _ q; rw [List.append_nil]; exact q
    | cons e t ih =>
      intro l a i q
      have z := ih (l ++ [e]) (step h a e) (pot_step hG i) fun r m => ?_
      · rw [List.append_assoc] at z
        exact z
      unfold step at m ⊢
      by_cases hv : voidWord h a e.hour e.deed = ""
      · rw [if_pos hv] at m ⊢
        rcases List.mem_append.mp (show r ∈ a.rows ++ [rowOf e.hour e.number e.deed (midStep h a e.hour e.number e.deed).2.1 (midStep h a e.hour e.number e.deed).2.2] from m) with m | m
        · exact ready_more (fun e => List.mem_append_left _) (fun x => List.mem_append_left _) (q r m)
        · rw [List.mem_singleton.mp m]
          exact row_ready i hv _ fun x => List.mem_append_left _
      · rw [if_neg hv] at m ⊢
        exact ready_more (fun e => List.mem_append_left _) (fun x z => z) (q r m)
  exact gen l [] acc0 (potInv0 h) (fun r m => by cases m)

end K87

namespace K87
open PySem PySem.Spec PyProof.Rows L2
--nomac
theorem putM_nd_ {l : List ((Str × Str) × Int)} {k : Str × Str} {v : Int} (h : (l.map (·.1)).Nodup) : ((putM l k v).map (·.1)).Nodup := by
  unfold putM
  by_cases m : k ∈ l.map (·.1)
  · rw [if_pos m, List.map_map]
    have e : l.map ((fun x => x.1) ∘ fun e => if e.1 = k then (k, v) else e) = l.map (·.1) := List.map_congr_left fun x _ => by
      show (if x.1 = k then (k, v) else x).1 = x.1
      by_cases z : x.1 = k
      · rw [if_pos z]; exact z.symm
      · rw [if_neg z]
    rw [e]; exact h
  · rw [if_neg m, List.map_append, List.nodup_append]
    refine ⟨h, by simp, fun x mx y my z => ?_⟩
    have e : y = k := List.mem_singleton.mp my
    exact m (by rw [← e, ← z]; exact mx)
theorem made_nd (es : List Ent) : ∀ (rows : List Row) (m : List ((Str × Str) × Int)), (m.map (·.1)).Nodup → ((rows.foldl (madeF es) m).map (·.1)).Nodup
  | [], _, h => h
  | r :: t, m, h => by
    rw [List.foldl_cons]
    refine made_nd es t _ ?_
    unfold madeF
    split
    · exact putM_nd_ h
    · exact h
theorem made_step {h : Hall} {es : List Ent} (hn : numbered es) {a : Acc} {e : Ent} (me : e ∈ es) (i : a.made = a.rows.foldl (madeF es) []) : (step h a e).made = (step h a e).rows.foldl (madeF es) [] := by
  unfold step
  by_cases hv : voidWord h a e.hour e.deed = ""
  · rw [if_pos hv]
    show (midStep h a e.hour e.number e.deed).1.made = (a.rows ++ [rowOf e.hour e.number e.deed (midStep h a e.hour e.number e.deed).2.1 (midStep h a e.hour e.number e.deed).2.2]).foldl (madeF es) []
    rw [List.foldl_append, ← i]
    show _ = madeF es a.made _
    have hw : (rowOf e.hour e.number e.deed (midStep h a e.hour e.number e.deed).2.1 (midStep h a e.hour e.number e.deed).2.2).word = e.deed.word := by unfold rowOf; split <;> rfl
    have other : e.deed.word ≠ wGather → (midStep h a e.hour e.number e.deed).1.made = a.made → (midStep h a e.hour e.number e.deed).1.made = madeF es a.made (rowOf e.hour e.number e.deed (midStep h a e.hour e.number e.deed).2.1 (midStep h a e.hour e.number e.deed).2.2) := fun z z2 => by
      unfold madeF
      rw [hw, if_neg z, z2]
    have hk := kd_of hn me
    cases hd : e.deed with
    | gather t p k m =>
      rw [hd] at hv hk
      obtain ⟨b, _, hb, _⟩ := void_gather hv
      unfold midStep
      dsimp only
      rw [hb]
      have hk : kd es e.number = k := hk
      show putM a.made (k, b.colour) (getM a.made (k, b.colour) + m) = if wGather = wGather then putM a.made (kd es e.number, b.colour) (getM a.made (kd es e.number, b.colour) + m) else a.made
      rw [if_pos rfl, hk]
    | fill p c =>
      rw [hd] at other
      refine other (by show wFill ≠ wGather; decide) ?_
      unfold midStep; dsimp only; split <;> rfl
    | emp p =>
      rw [hd] at other
      refine other (by show wEmpty ≠ wGather; decide) ?_
      unfold midStep; dsimp only; split <;> rfl
    | wash p hs => rw [hd] at other; exact other (by show wWash ≠ wGather; decide) rfl
    | brk p => rw [hd] at other; exact other (by show wBreak ≠ wGather; decide) rfl
    | new p hs => rw [hd] at other; exact other (by show wNew ≠ wGather; decide) rfl
  · rw [if_neg hv]; exact i
theorem made_run {h : Hall} {es : List Ent} (hn : numbered es) {l : List Ent} (hl : ∀ e ∈ l, e ∈ es) : (run_ h l).made = (run_ h l).rows.foldl (madeF es) [] := by
  have gen : ∀ (m : List Ent) (a : Acc), (∀ e ∈ m, e ∈ es) → a.made = a.rows.foldl (madeF es) [] → (m.foldl (step h) a).made = (m.foldl (step h) a).rows.foldl (madeF es) [] := by
    intro m
    induction m with
    | nil => intro a _ q; exact q
    | cons e t ih => intro a hm q; exact ih _ (fun x mx => hm x (List.mem_cons_of_mem _ mx)) (made_step hn (hm e (List.mem_cons_self ..)) q)
  exact gen l acc0 hl rfl

end K87

namespace K87
open PySem PySem.Spec PyProof.Rows L2
--nomac
/-! ### what the law walks back, pot by pot: plain -/
def PotLed (L : Led) (p : Str) (q : Pot) : Prop := match q.bat with
  | none => L.opens p = none
  | some b => L.opens p = some b.source ∧ ∃ f, L.fills b.source = some f ∧ f.pot = p ∧ f.colour = b.colour ∧ f.left = b.left
theorem PotLed.meets {L : Led} {a : Acc} {p : Str} (i : PotLed L p (a.pots p)) : Meets L a p := by
  unfold Meets
  unfold PotLed at i
  cases hb : (a.pots p).bat with
  | none => rw [hb] at i; exact i
  | some b =>
    rw [hb] at i
    obtain ⟨h1, f, h2, _, h4, h5⟩ := i
    exact ⟨h1, f, h2, h4, h5⟩
theorem updF_at {α β : Type} [DecidableEq α] (f : α → β) (k : α) (v : β) : updF f k v k = v := if_pos rfl
theorem updF_off {α β : Type} [DecidableEq α] (f : α → β) {k m : α} (v : β) (h : m ≠ k) : updF f k v m = f m := if_neg h
/-- some is taken out of a batch -/
theorem led_take {L : Led} {pots : Str → Pot} {p : Str} {b : Bat} {r : Row} (i : ∀ p, PotLed L p (pots p)) (hb : (pots p).bat = some b) (hw : r.word ≠ wFill) (hs : r.source = some b.source) (hp : r.pot = p) (hc : r.colour = b.colour) (hm : 0 ≤ b.left - r.many) (hz : r.word = wGather ∨ b.left - r.many = 0) :
    LedOk L r ∧ ∀ (q' : Pot), (q'.bat = if b.left - r.many = 0 then none else some { b with left := b.left - r.many }) → ∀ s, PotLed (ledF L r) s (updP pots p q' s) := by
  have ip := i p
  unfold PotLed at ip
  rw [hb] at ip
  obtain ⟨h1, f, h2, h3, h4, h5⟩ := ip
  refine ⟨.take b.source f hw hs h2 (by rw [hp]; exact h1) (by rw [hp]; exact h3) (by rw [hc]; exact h4) (by rw [h5]; exact hm) (by rw [h5]; exact hz), fun q' hq s => ?_⟩
  have eL : ledF L r = ⟨updF L.fills b.source (some { f with left := f.left - r.many }), if f.left - r.many = 0 then updF L.opens r.pot none else L.opens⟩ := by
    unfold ledF
    rw [if_neg hw, hs]
    dsimp only
    rw [h2]
  rw [eL, h5, hp]
  unfold updP
  by_cases e : s = p
  · rw [if_pos e, e]
    unfold PotLed
    rw [hq]
    by_cases z : b.left - r.many = 0
    · rw [if_pos z, if_pos z]
      exact updF_at _ _ _
    · rw [if_neg z, if_neg z]
      exact ⟨h1, _, updF_at _ _ _, h3, h4, rfl⟩
  · rw [if_neg e]
    have is := i s
    unfold PotLed at is ⊢
    have eo : (if b.left - r.many = 0 then updF L.opens p none else L.opens) s = L.opens s := by
      split
      · exact updF_off _ _ e
      · rfl
    cases hbs : (pots s).bat with
    | none => rw [hbs] at is; exact eo.trans is
    | some b' =>
      rw [hbs] at is
      obtain ⟨g1, f', g2, g3, g4, g5⟩ := is
      have ne : b'.source ≠ b.source := fun z => by
        rw [z, h2] at g2
        rw [← Option.some.inj g2] at g3
        exact e (g3.symm.trans h3)
      exact ⟨eo.trans g1, f', (updF_off _ _ ne).trans g2, g3, g4, g5⟩
/-- a row that has no source changes nothing of the led -/
theorem led_none {L : Led} {r : Row} (hw : r.word ≠ wFill) (hs : r.source = none) : ledF L r = L := by
  unfold ledF
  rw [if_neg hw, hs]
theorem led_same {L : Led} {pots : Str → Pot} {p : Str} {q' : Pot} (i : ∀ p, PotLed L p (pots p)) (hb : (pots p).bat = none) (hq : q'.bat = none) : ∀ s, PotLed L s (updP pots p q' s) := fun s => by
  unfold updP
  by_cases e : s = p
  · rw [if_pos e, e]
    have ip := i p
    unfold PotLed at ip ⊢
    rw [hb] at ip
    rw [hq]
    exact ip
  · rw [if_neg e]; exact i s
/-- a pot is filled -/
theorem led_fill {L : Led} {pots : Str → Pot} {p : Str} {q' : Pot} {t : Bat} {r : Row} (i : ∀ p, PotLed L p (pots p)) (hb : (pots p).bat = none) (hq : q'.bat = some t) (hw : r.word = wFill) (hs : r.source = some r.number) (hp : r.pot = p) (ht : t.source = r.number) (hc : t.colour = r.colour) (hm : t.left = r.many)
    (hf : ∀ s b, (pots s).bat = some b → b.source ≠ r.number) : LedOk L r ∧ ∀ s, PotLed (ledF L r) s (updP pots p q' s) := by
  have ip := i p
  unfold PotLed at ip
  rw [hb] at ip
  refine ⟨.fill hw hs (by rw [hp]; exact ip), fun s => ?_⟩
  have eL : ledF L r = ⟨updF L.fills r.number (some ⟨r.hour, r.pot, r.colour, r.many⟩), updF L.opens r.pot (some r.number)⟩ := by
    unfold ledF
    rw [if_pos hw]
  rw [eL, hp]
  unfold updP
  by_cases e : s = p
  · rw [if_pos e, e]
    unfold PotLed
    rw [hq]
    exact ⟨by rw [ht]; exact updF_at _ _ _, ⟨r.hour, p, r.colour, r.many⟩, by rw [ht]; exact updF_at _ _ _, rfl, hc.symm, hm.symm⟩
  · rw [if_neg e]
    have is := i s
    unfold PotLed at is ⊢
    cases hbs : (pots s).bat with
    | none => rw [hbs] at is; exact (updF_off _ _ e).trans is
    | some b' =>
      rw [hbs] at is
      obtain ⟨g1, f', g2, g3, g4, g5⟩ := is
      exact ⟨(updF_off _ _ e).trans g1, f', (updF_off _ _ (hf s b' hbs)).trans g2, g3, g4, g5⟩

end K87

namespace K87
open PySem PySem.Spec PyProof.Rows L2
--nomac
@[reducible] def rowAt (h : Hall) (a : Acc) (e : Ent) : Row := rowOf e.hour e.number e.deed (midStep h a e.hour e.number e.deed).2.1 (midStep h a e.hour e.number e.deed).2.2
theorem taken_bt (q : Pot) (b : Bat) (m : Int) : (q.taken b m).bat = if b.left - m = 0 then none else some { b with left := b.left - m } := by
  unfold Pot.taken; split <;> rfl
theorem led_step {h : Hall} {l : List Ent} {a : Acc} {e : Ent} {L : Led} (i : ∀ p, PotInv h l a.rows p (a.pots p)) (j : ∀ p, PotLed L p (a.pots p)) (hok : DeedOk e.deed) (hfr : ∀ x ∈ l, x.number ≠ e.number) (hv : voidWord h a e.hour e.deed = "") :
    LedOk L (rowAt h a e) ∧ ∀ s, PotLed (ledF L (rowAt h a e)) s ((midStep h a e.hour e.number e.deed).1.pots s) := by
  have hn := void_names hv
  have hbare := void_bare hv
  have hsrc : ∀ s b, (a.pots s).bat = some b → b.source ≠ e.number := fun s b hb => by
    obtain ⟨_, _, e', c, me, en, _⟩ := (i s).bat b hb
    rw [← en]; exact hfr e' me
  unfold rowAt
  cases hd : e.deed with
  | fill p c =>
    rw [hd] at hn hbare
    obtain ⟨_, _, hb⟩ := bare_ok hbare
    obtain ⟨r, hr, _⟩ := col_row (names_fill hn).2
    unfold midStep
    dsimp only
    rw [hr]
    exact led_fill j hb rfl rfl rfl rfl rfl rfl rfl hsrc
  | gather t p k m =>
    rw [hd] at hv
    obtain ⟨b, _, hb, hg⟩ := void_gather hv
    have hm := (gather_ok hg).2.1
    unfold midStep
    dsimp only
    rw [hb]
    have q := led_take (r := rowOf e.hour e.number (.gather t p k m) m (some { b with left := b.left - m })) j hb (by show wGather ≠ wFill; decide) rfl rfl rfl (show 0 ≤ b.left - m by omega) (.inl rfl)
    exact ⟨q.1, q.2 _ (taken_bt _ _ _)⟩
  | emp p =>
    rw [hd] at hv
    obtain ⟨b, hb⟩ := void_emp hv
    unfold midStep
    dsimp only
    rw [hb]
    have q := led_take (r := rowOf e.hour e.number (.emp p) b.left (some { b with left := b.left - b.left })) j hb (by show wEmpty ≠ wFill; decide) rfl rfl rfl (show 0 ≤ b.left - b.left by omega) (.inr (show b.left - b.left = 0 by omega))
    exact ⟨q.1, q.2 _ (taken_bt _ _ _)⟩
  | brk p =>
    unfold midStep
    dsimp only
    cases hb : (a.pots p).bat with
    | none =>
      dsimp only
      have ip := j p
      unfold PotLed at ip
      rw [hb] at ip
      refine ⟨.none (by show wBreak ≠ wFill; decide) (by show wBreak ≠ wGather; decide) (by show wBreak ≠ wEmpty; decide) rfl ip rfl rfl, ?_⟩
      rw [led_none (by show wBreak ≠ wFill; decide) rfl]
      exact led_same j hb rfl
    | some b =>
      dsimp only
      have q := led_take (r := rowOf e.hour e.number (.brk p) b.left (some b)) j hb (by show wBreak ≠ wFill; decide) rfl rfl rfl (show 0 ≤ b.left - b.left by omega) (.inr (show b.left - b.left = 0 by omega))
      exact ⟨q.1, q.2 _ (by
        have z : b.left - (rowOf e.hour e.number (Deed.brk p) b.left (some b)).many = 0 := show b.left - b.left = 0 by omega
        rw [if_pos z])⟩
  | wash p hs =>
    rw [hd] at hbare
    obtain ⟨_, _, hb⟩ := bare_ok hbare
    have ip := j p
    unfold PotLed at ip
    rw [hb] at ip
    unfold midStep
    refine ⟨.none (by show wWash ≠ wFill; decide) (by show wWash ≠ wGather; decide) (by show wWash ≠ wEmpty; decide) rfl ip rfl rfl, ?_⟩
    rw [led_none (by show wWash ≠ wFill; decide) rfl]
    exact led_same j hb hb
  | new p hs =>
    rw [hd] at hbare
    have hw : (a.pots p).whole = false := hbare
    have hb : (a.pots p).bat = none := by
      cases hb : (a.pots p).bat with
      | none => rfl
      | some b =>
        have q := ((i p).bat b hb).1
        rw [hw] at q; cases q
    have ip := j p
    unfold PotLed at ip
    rw [hb] at ip
    unfold midStep
    refine ⟨.none (by show wNew ≠ wFill; decide) (by show wNew ≠ wGather; decide) (by show wNew ≠ wEmpty; decide) rfl ip rfl rfl, ?_⟩
    rw [led_none (by show wNew ≠ wFill; decide) rfl]
    exact led_same j hb hb
theorem ledGood_snoc {rows : List Row} {r : Row} (g : LedGood rows) (hr : LedOk (ledOf rows) r) : LedGood (rows ++ [r]) := fun j x hj => by
  by_cases e : j < rows.length
  · rw [List.getElem?_append_left e] at hj
    rw [List.take_append_of_le_length (by omega)]
    exact g j x hj
  · have hjl := (List.getElem?_eq_some_iff.mp hj).1
    rw [List.length_append, List.length_singleton] at hjl
    have ej : j = rows.length := by omega
    subst ej
    rw [List.getElem?_append_right (Nat.le_refl _), Nat.sub_self] at hj
    have ex : r = x := Option.some.inj hj
    rw [← ex, List.take_append_of_le_length (Nat.le_refl _), List.take_length]
    exact hr
theorem led_run {h : Hall} (hG : HallGood h) (l : List Ent) (hnd : (l.map (·.number)).Nodup) (hok : ∀ e ∈ l, DeedOk e.deed) : LedGood (run_ h l).rows ∧ ∀ p, PotLed (ledOf (run_ h l).rows) p ((run_ h l).pots p) := by
  have gen : ∀ (m l : List Ent) (a : Acc), ((l ++ m).map (·.number)).Nodup → (∀ e ∈ m, DeedOk e.deed) → (∀ p, PotInv h l a.rows p (a.pots p)) → LedGood a.rows → (∀ p, PotLed (ledOf a.rows) p (a.pots p)) →
      LedGood (m.foldl (step h) a).rows ∧ ∀ p, PotLed (ledOf (m.foldl (step h) a).rows) p ((m.foldl (step h) a).pots p) := by
    intro m
    induction m with
    | nil => intro l a _ _ _ g j; exact ⟨g, j⟩
    | cons e t ih =>
      intro l a hnd hok i g j
      have hfr : ∀ x ∈ l, x.number ≠ e.number := fun x mx z => by
        rw [List.map_append, List.nodup_append] at hnd
        exact hnd.2.2 x.number (List.mem_map.mpr ⟨x, mx, rfl⟩) e.number (List.mem_map.mpr ⟨e, List.mem_cons_self .., rfl⟩) z
      have hnd' : (((l ++ [e]) ++ t).map (·.number)).Nodup := by rw [List.append_assoc]; exact hnd
      have hok' : ∀ x ∈ t, DeedOk x.deed := fun x mx => hok x (List.mem_cons_of_mem _ mx)
      have i' := pot_step hG (e := e) i
      rw [List.foldl_cons]
      by_cases hv : voidWord h a e.hour e.deed = ""
      · obtain ⟨q1, q2⟩ := led_step i j (hok e (List.mem_cons_self ..)) hfr hv
        have er : (step h a e).rows = a.rows ++ [rowAt h a e] := by unfold step; rw [if_pos hv]; rfl
        have ep : (step h a e).pots = (midStep h a e.hour e.number e.deed).1.pots := by unfold step; rw [if_pos hv]; rfl
        refine ih (l ++ [e]) (step h a e) hnd' hok' i' (by rw [er]; exact ledGood_snoc g q1) fun s => ?_
        rw [er, ep]
        unfold ledOf
        rw [List.foldl_append]
        exact q2 s
      · have es : step h a e = a := by unfold step; rw [if_neg hv]
        rw [es] at i' ⊢
        exact ih (l ++ [e]) a hnd' hok' i' g j
  refine gen l [] acc0 hnd hok (potInv0 h) (fun j x hj => by cases hj) fun p => ?_
  show (ledOf []).opens p = none
  rfl

end K87

namespace K87
open PySem PySem.Spec PyProof.Rows L2
--nomac
/-! ### what cools, hour by hour: plain -/
theorem cool_pos {h : Hall} (hG : HallGood h) {k : Str} (hk : k ∈ h.kinds.map (·.1)) : 1 ≤ coolOf h k := by
  obtain ⟨x, hx⟩ := lastOf_some hk
  have q : 1 ≤ x.2 := hG.cool _ (lastOf_mem hx)
  unfold coolOf kindR
  rw [hx]; exact q
@[reducible] def isG (r : Row) : Bool := decide (r.word = wGather)
def Fits (h : Hall) (es : List Ent) (ly : List Cool) (r : Row) : Prop := 0 ≤ r.many ∧ r.many ≤ ((freeOf h.slots (ly.map (·.slot))).length : Int) ∧ kd es r.number ∈ h.kinds.map (·.1) ∧ GatherRow es r
def GFit (h : Hall) (es : List Ent) (t : Int) (ly : List Cool) (g : List Row) : Prop := ∀ (i : Nat) (r : Row), g[i]? = some r → Fits h es ((g.take i).foldl (lieF h es t) ly) r
theorem gfit_cons {h : Hall} {es : List Ent} {t : Int} {ly : List Cool} {r : Row} {g : List Row} (h0 : Fits h es ly r) (ht : GFit h es t (lieF h es t ly r) g) : GFit h es t ly (r :: g) := fun i x hi => by
  cases i with
  | zero =>
    have e : r = x := Option.some.inj hi
    rw [← e]; exact h0
  | succ i => exact ht i x hi
theorem active_app (x y : List Cool) (t : Int) : active (x ++ y) t = active x t ++ active y t := List.filter_append ..
theorem active_new {h : Hall} (hG : HallGood h) {cool : List Cool} {t : Int} {k c : Str} {m : Int} (hk : k ∈ h.kinds.map (·.1)) : active (newCool h cool t k c m) t = newCool h cool t k c m := List.filter_eq_self.mpr fun x mx => by
  obtain ⟨s, _, e⟩ := List.mem_map.mp mx
  have q := cool_pos hG hk
  rw [← e]
  exact decide_eq_true (show t < t + coolOf h k by omega)
/-- one entry: nothing, a row that cools nothing, a gather's row -/
theorem step_cool {h : Hall} (hG : HallGood h) {es : List Ent} (hn : numbered es) (a : Acc) {e : Ent} {t : Int} (me : e ∈ es) (et : e.hour = t) (hok : DeedOk e.deed) :
    ((step h a e).rows = a.rows ∧ (step h a e).cool = a.cool) ∨
    (∃ r : Row, (step h a e).rows = a.rows ++ [r] ∧ r.hour = t ∧ r.word ≠ wGather ∧ (step h a e).cool = a.cool) ∨
    (∃ r : Row, (step h a e).rows = a.rows ++ [r] ∧ r.hour = t ∧ r.word = wGather ∧ active (step h a e).cool t = lieF h es t (active a.cool t) r ∧ Fits h es (active a.cool t) r) := by
  unfold step
  by_cases hv : voidWord h a e.hour e.deed = ""
  · rw [if_pos hv]
    have hw : (rowOf e.hour e.number e.deed (midStep h a e.hour e.number e.deed).2.1 (midStep h a e.hour e.number e.deed).2.2).word = e.deed.word := by unfold rowOf; split <;> rfl
    have hh : (rowOf e.hour e.number e.deed (midStep h a e.hour e.number e.deed).2.1 (midStep h a e.hour e.number e.deed).2.2).hour = e.hour := by unfold rowOf; split <;> rfl
    have other : e.deed.word ≠ wGather → (midStep h a e.hour e.number e.deed).1.cool = a.cool → (∃ r : Row, (doneStep h a e.hour e.number e.deed).rows = a.rows ++ [r] ∧ r.hour = t ∧ r.word ≠ wGather ∧ (doneStep h a e.hour e.number e.deed).cool = a.cool) := fun z z2 =>
      ⟨_, rfl, hh.trans et, by rw [hw]; exact z, z2⟩
    have hk := kd_of hn me
    have hnm := void_names hv
    cases hd : e.deed with
    | gather tm p k m =>
      rw [hd] at hv hk hok hnm
      obtain ⟨b, _, hb, hg⟩ := void_gather hv
      have hk : kd es e.number = k := hk
      have hkn := (names_gather hnm).2.2
      have hfull := (gather_ok hg).2.2
      refine .inr (.inr ⟨⟨e.hour, e.number, wGather, p, m, b.colour, some b.source⟩, ?_, et, rfl, ?_, ?_⟩)
      · unfold doneStep midStep
        dsimp only
        rw [hb]; rfl
      · have e1 : (doneStep h a e.hour e.number (.gather tm p k m)).cool = a.cool ++ newCool h a.cool e.hour k b.colour m := by
          unfold doneStep midStep
          dsimp only
          rw [hb]
        rw [e1, et, active_app, active_new hG hkn]
        unfold lieF
        dsimp only
        rw [hk]; rfl
      · refine ⟨hok, ?_, by rw [hk]; exact hkn, fun _ => ⟨e, tm, p, k, m, me, rfl, hd⟩⟩
        rw [← et]; exact hfull
    | fill p c =>
      rw [hd] at other
      refine .inr (.inl (other (by show wFill ≠ wGather; decide) ?_))
      unfold midStep; dsimp only; split <;> rfl
    | emp p =>
      rw [hd] at other
      refine .inr (.inl (other (by show wEmpty ≠ wGather; decide) ?_))
      unfold midStep; dsimp only; split <;> rfl
    | wash p hs => rw [hd] at other; exact .inr (.inl (other (by show wWash ≠ wGather; decide) rfl))
    | brk p => rw [hd] at other; exact .inr (.inl (other (by show wBreak ≠ wGather; decide) rfl))
    | new p hs => rw [hd] at other; exact .inr (.inl (other (by show wNew ≠ wGather; decide) rfl))
  · rw [if_neg hv]; exact .inl ⟨rfl, rfl⟩
/-- the entries of one hour -/
theorem fold_cool {h : Hall} (hG : HallGood h) {es : List Ent} (hn : numbered es) (t : Int) : ∀ (m : List Ent) (a : Acc), (∀ e ∈ m, e ∈ es ∧ e.hour = t ∧ DeedOk e.deed) →
    ∃ add : List Row, (m.foldl (step h) a).rows = a.rows ++ add ∧ (∀ r ∈ add, r.hour = t) ∧ active (m.foldl (step h) a).cool t = (add.filter isG).foldl (lieF h es t) (active a.cool t) ∧ GFit h es t (active a.cool t) (add.filter isG)
  | [], a, _ => ⟨[], (List.append_nil _).symm, (fun r m => by cases m), rfl, (fun i r hi => by cases hi)⟩
  | e :: m, a, hm => by
    obtain ⟨me, et, hd⟩ := hm e (List.mem_cons_self ..)
    obtain ⟨add, h1, h2, h3, h4⟩ := fold_cool hG hn t m (step h a e) (fun x mx => hm x (List.mem_cons_of_mem _ mx))
    rw [List.foldl_cons, h1, h3]
    rcases step_cool hG hn a me et hd with ⟨q1, q2⟩ | ⟨r, q1, q2, q3, q4⟩ | ⟨r, q1, q2, q3, q4, q5⟩
    · rw [q2] at h4
      exact ⟨add, by rw [q1], h2, by rw [q2], h4⟩
    · rw [q4] at h4
      have ef : (r :: add).filter isG = add.filter isG := List.filter_cons_of_neg (by simpa using q3)
      refine ⟨r :: add, by rw [q1, List.append_assoc]; rfl, fun x mx => ?_, by rw [q4, ef], by rw [ef]; exact h4⟩
      rcases List.mem_cons.mp mx with z | z
      · rw [z]; exact q2
      · exact h2 x z
    · rw [q4] at h4
      have ef : (r :: add).filter isG = r :: add.filter isG := List.filter_cons_of_pos (decide_eq_true q3)
      refine ⟨r :: add, by rw [q1, List.append_assoc]; rfl, fun x mx => ?_, by rw [q4, ef, List.foldl_cons], by rw [ef]; exact gfit_cons q5 h4⟩
      rcases List.mem_cons.mp mx with z | z
      · rw [z]; exact q2
      · exact h2 x z
theorem gAt_app (x y : List Row) (t : Int) : gAt (x ++ y) t = gAt x t ++ gAt y t := List.filter_append ..
theorem gAt_same {x : List Row} {t : Int} (hx : ∀ r ∈ x, r.hour = t) : gAt x t = x.filter isG := List.filter_congr fun r m => by
  rw [decide_eq_true (hx r m), Bool.true_and]
theorem gAt_no {x : List Row} {t : Int} (hx : ∀ r ∈ x, r.hour ≠ t) : gAt x t = [] := List.filter_eq_nil_iff.mpr fun r m => by
  rw [decide_eq_false (hx r m), Bool.false_and]; decide
theorem gAt_pre {x : List Row} {t : Int} : gAt (x.filter fun r => decide (r.hour ≤ t)) t = gAt x t := by
  unfold gAt
  rw [List.filter_filter]
  refine List.filter_congr fun r _ => ?_
  by_cases z : r.hour = t
  · rw [decide_eq_true z, decide_eq_true (show r.hour ≤ t by omega), Bool.and_true]
  · rw [decide_eq_false z, Bool.false_and, Bool.false_and]
theorem lieBase_active (c : List Cool) (n : Int) : active c (n + 1) = lieBase (active c n) (n + 1) := by
  unfold active lieBase
  rw [List.filter_filter]
  refine List.filter_congr fun x _ => ?_
  by_cases z : n + 1 < x.out
  · rw [decide_eq_true z, decide_eq_true (show n < x.out by omega)]; rfl
  · rw [decide_eq_false z]; rfl
theorem hour_cool {h : Hall} (hG : HallGood h) {es : List Ent} (hn : numbered es) {last : Nat} (hes : ∀ e ∈ es, DeedOk e.deed ∧ 0 ≤ e.hour ∧ e.hour ≤ last) : ∀ n : Nat, n ≤ last →
    active (run_ h (upTo es n)).cool n = lyAt h es (run_ h (upTo es last)).rows n ∧ GFit h es n (lyFrom h es (run_ h (upTo es last)).rows n) (gAt (run_ h (upTo es last)).rows n)
  | 0, _ => by
    have hm : ∀ e ∈ upTo es ((0 : Nat) : Int), e ∈ es ∧ e.hour = ((0 : Nat) : Int) ∧ DeedOk e.deed := fun e me => by
      obtain ⟨m1, m2⟩ := upTo_mem me
      obtain ⟨d1, d2, _⟩ := hes e m1
      exact ⟨m1, by omega, d1⟩
    obtain ⟨add, h1, h2, h3, h4⟩ := fold_cool hG hn ((0 : Nat) : Int) (upTo es ((0 : Nat) : Int)) acc0 hm
    have hp := rows_pre (h := h) (hn.nd) (show ((0 : Nat) : Int) ≤ (last : Int) by omega)
    have hr : (run_ h (upTo es ((0 : Nat) : Int))).rows = add := h1
    have eg : gAt (run_ h (upTo es last)).rows ((0 : Nat) : Int) = add.filter isG := by
      rw [← gAt_pre, ← hp, hr]
      exact gAt_same h2
    rw [eg]
    refine ⟨?_, h4⟩
    show _ = (gAt (run_ h (upTo es last)).rows 0).foldl (lieF h es 0) []
    rw [show gAt (run_ h (upTo es last)).rows 0 = add.filter isG from eg]
    exact h3
  | n + 1, hl => by
    obtain ⟨i1, _⟩ := hour_cool hG hn hes n (by omega)
    obtain ⟨l, el, hlt⟩ := upTo_more hn.nd (show (n : Int) ≤ ((n + 1 : Nat) : Int) by omega)
    have hm : ∀ e ∈ l, e ∈ es ∧ e.hour = ((n + 1 : Nat) : Int) ∧ DeedOk e.deed := fun e me => by
      have m0 : e ∈ upTo es ((n + 1 : Nat) : Int) := by rw [el]; exact List.mem_append_right _ me
      obtain ⟨m1, m2⟩ := upTo_mem m0
      have := hlt e me
      exact ⟨m1, by omega, (hes e m1).1⟩
    obtain ⟨add, h1, h2, h3, h4⟩ := fold_cool hG hn ((n + 1 : Nat) : Int) l (run_ h (upTo es n)) hm
    rw [← run_app, ← el] at h1 h3
    have hp := rows_pre (h := h) (hn.nd) (show ((n + 1 : Nat) : Int) ≤ (last : Int) by omega)
    have eb : active (run_ h (upTo es n)).cool ((n + 1 : Nat) : Int) = lieBase (lyAt h es (run_ h (upTo es last)).rows n) ((n + 1 : Nat) : Int) := by
      rw [← i1, show ((n + 1 : Nat) : Int) = (n : Int) + 1 from rfl]
      exact lieBase_active _ _
    have eg : gAt (run_ h (upTo es last)).rows ((n + 1 : Nat) : Int) = add.filter isG := by
      rw [← gAt_pre, ← hp, h1, gAt_app, gAt_same h2, gAt_no, List.nil_append]
      intro r mr
      obtain ⟨e, me, q, _⟩ := (run_rows h (upTo es n)).2 r mr
      have := (upTo_mem me).2
      omega
    rw [eb] at h3 h4
    rw [eg]
    refine ⟨?_, h4⟩
    show _ = (gAt (run_ h (upTo es last)).rows ((n + 1 : Nat) : Int)).foldl (lieF h es ((n + 1 : Nat) : Int)) (lieBase (lyAt h es (run_ h (upTo es last)).rows n) ((n + 1 : Nat) : Int))
    rw [eg]
    exact h3
/-- slots told apart, each of the hall -/
def SlotFine (h : Hall) (ly : List Cool) : Prop := (ly.map (·.slot)).Nodup ∧ ∀ c ∈ ly, c.slot ∈ rangeI h.slots.toNat
theorem slotFine_lie {h : Hall} {es : List Ent} {t : Int} {ly : List Cool} {r : Row} (f : SlotFine h ly) : SlotFine h (lieF h es t ly r) := by
  refine ⟨lieF_nd f.1, fun c mc => ?_⟩
  unfold lieF at mc
  rcases List.mem_append.mp mc with m | m
  · exact f.2 c m
  · obtain ⟨s, ms, e⟩ := List.mem_map.mp m
    rw [← e]
    exact (List.mem_filter.mp (List.mem_of_mem_take ms)).1
theorem slotFine_fold {h : Hall} {es : List Ent} {t : Int} : ∀ (g : List Row) (ly : List Cool), SlotFine h ly → SlotFine h (g.foldl (lieF h es t) ly)
  | [], _, f => f
  | _ :: g, _, f => slotFine_fold g _ (slotFine_lie f)
theorem slotFine_base {h : Hall} {ly : List Cool} {t : Int} (f : SlotFine h ly) : SlotFine h (lieBase ly t) := ⟨(List.filter_sublist.map _).nodup f.1, fun c m => f.2 c (List.mem_filter.mp m).1⟩
theorem slotFine_at (h : Hall) (es : List Ent) (rows : List Row) : ∀ n : Nat, SlotFine h (lyAt h es rows n)
  | 0 => slotFine_fold _ _ ⟨.nil, fun c m => by cases m⟩
  | n + 1 => slotFine_fold _ _ (slotFine_base (slotFine_at h es rows n))
theorem nd_length : ∀ (l l' : List Int), l.Nodup → (∀ x ∈ l, x ∈ l') → l.length ≤ l'.length
  | [], _, _, _ => Nat.zero_le _
  | x :: l, l', nd, hs => by
    have nd := List.nodup_cons.mp nd
    have mx := hs x (List.mem_cons_self ..)
    have q := nd_length l (l'.erase x) nd.2 fun y my => (List.mem_erase_of_ne (fun e => nd.1 (by rw [← e]; exact my))).mpr (hs y (List.mem_cons_of_mem _ my))
    rw [List.length_erase_of_mem mx] at q
    have := List.length_pos_of_mem mx
    rw [List.length_cons]
    omega
theorem slotFine_few {h : Hall} (hG : HallGood h) {ly : List Cool} (f : SlotFine h ly) : ly.length ≤ 60 := by
  have q := nd_length (ly.map (·.slot)) (rangeI h.slots.toNat) f.1 fun x mx => by
    obtain ⟨c, mc, e⟩ := List.mem_map.mp mx
    rw [← e]; exact f.2 c mc
  rw [List.length_map] at q
  have e : (rangeI h.slots.toNat).length = h.slots.toNat := by unfold rangeI; rw [List.length_map, List.length_range]
  rw [e] at q
  have := hG.slots
  omega
theorem slots_ok {h : Hall} (hG : HallGood h) {es : List Ent} (hn : numbered es) {last : Nat} (hes : ∀ e ∈ es, DeedOk e.deed ∧ 0 ≤ e.hour ∧ e.hour ≤ last) : SlotsOk h es (run_ h (upTo es last)).rows last :=
  ⟨fun n hl => (hour_cool hG hn hes n hl).1, fun n _ => slotFine_few hG (slotFine_at _ _ _ n), fun n _ => (slotFine_at _ _ _ n).1, fun n hl => (hour_cool hG hn hes n hl).2⟩
theorem allGood : AllGood := fun h es last hG hn hes hfew => by
  have hnd := hn.nd
  have hin : ∀ n : Int, ∀ e ∈ upTo es n, e ∈ es := fun n e m => (upTo_mem m).1
  have hok : ∀ n : Int, ∀ e ∈ upTo es n, DeedOk e.deed := fun n e m => (hes e (upTo_mem m).1).1
  have led := fun n : Nat => led_run hG (upTo es n) (upTo_nd hnd n) (hok n)
  have made := fun n : Nat => made_run (h := h) hn (hin n)
  exact {
    keys := rows_keys hnd last
    nd := rows_nd hnd last
    len := Nat.le_trans (rows_len h es last) hfew
    txts := rows_txts hG _
    ready := fun r m => ready_more (hin last) (fun _ z => z) (rows_ready hG _ r m)
    pre := fun n hl => rows_pre hnd (by omega)
    led := fun n _ => (led n).1
    meets := fun n _ p _ => ((led n).2 p).meets
    state := fun n _ p _ => state_ok (pot_run hG _ p) fun e m => (upTo_mem m).2
    made := fun n _ => made n
    mnd := fun n _ => by rw [made n]; exact made_nd es _ _ .nil
    gath := rows_gather last
    slots := slots_ok hG hn hes }

end K87
theorem PySem.Challenge.cw_potround_k87_whole_pieces_walked_back_holds : PySem.Challenge.rw_potround_k87_whole_pieces_walked_back.Holds :=
  fin_ K87.allGood
