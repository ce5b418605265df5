import PyProof.Rows.All
import Wide.All
import OpenK.AllK
import Wide.FinOn
import PyProof.EqAt
import PyProof.EqKinds
import PyProof.TupleCall
import KE.KStateDown
import KE.KIsAll
import KE.KTryMore
import HandS.ForMost
import HandS.ForExc
import HandS.Defaults
import HandS.More
import HandS.Conv
import HandS.Strs
import HandS.Zip
import HandS.IsInst
import HandS.Style
import HandS.Sort
import HandS.SortInts
import HandS.SortRule
import HandS.SetKeys
import HandS.SetFor
import HandS.ExcIs
import HandS.Flow
import HandS.DictEq
import HandS.TupLe
import HandS.Head0
import HandS.Head1
import HandS.Head2
import HandS.HeadEnd
import HandS.HeadHook1
import HandS.HeadHook2
import KE.DataMinMax
import HandS.Walk
import PySem.Challenge.RW_stormpost_k54_posts_and_names
set_option Elab.async false
set_option linter.all false
set_option maxRecDepth 100000
set_option maxHeartbeats 0
/-! The program by places; what is looked at behind its top; the facts Txt. (written by mkbase.py) -/
namespace K54
open PySem PySem.Spec PyProof.Rows L2
def top (i : Nat) : Stmt := PySem.Challenge.pw_stormpost_k54_posts_and_names.main.body.getD i (.Pass ⟨0, 0, 0, 0⟩)
abbrev s_are_signs : Stmt := top 27
abbrev s_is_way : Stmt := top 28
abbrev s_made_letter : Stmt := top 29
abbrev s_Joiner_init : Stmt := inClass (top 34) 0
abbrev s_look_late : Stmt := top 48
abbrev s_look_measure : Stmt := top 49
abbrev s_quiet_of : Stmt := top 50
abbrev s_LinkEnd_init : Stmt := inClass (top 70) 0
abbrev s_LinkEnd_up : Stmt := inClass (top 70) 9
abbrev s_is_house : Stmt := top 80
abbrev s_is_name : Stmt := top 81
abbrev s_look_at_near : Stmt := top 82
abbrev s_look_at_names : Stmt := top 83
abbrev s_made_news : Stmt := top 84
abbrev s_Map_init : Stmt := inClass (top 91) 0
abbrev s_Map_hear : Stmt := inClass (top 91) 1
abbrev s_Map_news : Stmt := inClass (top 91) 2
abbrev s_Map_wires : Stmt := inClass (top 91) 4
abbrev s_Map_copy : Stmt := inClass (top 91) 6
abbrev s_Queue_init : Stmt := inClass (top 95) 0
abbrev s_Queue_waiting : Stmt := inClass (top 95) 4
abbrev s_beside : Stmt := top 97
abbrev s_lengths_to : Stmt := top 98
abbrev s_way_of : Stmt := top 99
abbrev s_ask_house : Stmt := top 107
abbrev s_ask_name : Stmt := top 108
abbrev s_Wire_init : Stmt := inClass (top 109) 0
abbrev s_Wire_many_waiting : Stmt := inClass (top 109) 8
abbrev s_Post_init : Stmt := inClass (top 110) 0
abbrev s_Post_row_tick : Stmt := inClass (top 110) 1
abbrev s_Post_enter : Stmt := inClass (top 110) 2
abbrev s_Post_own_letter : Stmt := inClass (top 110) 3
abbrev s_Post_spread : Stmt := inClass (top 110) 5
abbrev s_Post_renew : Stmt := inClass (top 110) 6
abbrev s_Post_number : Stmt := inClass (top 110) 11
abbrev s_Post_post : Stmt := inClass (top 110) 13
abbrev s_Post_came : Stmt := inClass (top 110) 14
abbrev s_Post_grew : Stmt := inClass (top 110) 15
abbrev s_Post_take_name : Stmt := inClass (top 110) 16
abbrev s_Post_drop_name : Stmt := inClass (top 110) 17
abbrev s_Post_map_now : Stmt := inClass (top 110) 18
abbrev s_Post_book : Stmt := inClass (top 110) 19
abbrev s_Post_waiting : Stmt := inClass (top 110) 20
abbrev s_Post_events : Stmt := inClass (top 110) 21
abbrev s_law_cell_at : Stmt := top 112
abbrev s_law_whole : Stmt := top 113
abbrev s_law_alike : Stmt := top 114
abbrev s_law_mixed : Stmt := top 115
abbrev s_law_row : Stmt := top 116
abbrev s_law_kinds : Stmt := top 117
abbrev s_law_wires : Stmt := top 118
abbrev s_law_name : Stmt := top 119
abbrev s_law_news_right : Stmt := top 120
abbrev s_law_bad_posts : Stmt := top 121
abbrev s_law_post_kinds : Stmt := top 122
abbrev s_law_posts_refused : Stmt := top 123
abbrev s_law_own_letters_right : Stmt := top 124
abbrev s_law : Stmt := top 125
def ln0 : List PySem.Str := ["_wall", "PostError", "BadSign", "BadCell", "BadMeasure", "BadFate", "BadModel", "NoLink", "BadPiece", "BadLetter", "BadNews", "BadHouse", "BadName", "NoStream", "NoAsk", "BadNet", "BadText", "SIGNS", "MOST_COUNT", "MOST_WAY", "HOUSES", "KINDS", "MOST_ABOUT", "MOST_BODY", "IN_A_PIECE", "are_signs", "is_way", "made_letter", "letter_signs", "taken_from"]
def ln1 : List PySem.Str := ["letter_of", "pieces_of", "Joiner", "POWERS", "CHECKS", "PLACES", "FREE", "SUMS", "look_signs", "sums_of", "sealed", "troubles", "MOST_LATE", "MOST_LOST", "look_late", "look_measure", "quiet_of", "PRIME", "look_sign", "power", "inverse", "place_of", "one_turned", "goes_on", "two_turned", "mended", "number_signs", "signs_number", "ALL_SIGNS", "MOST_SIGNS"]
def ln2 : List PySem.Str := ["BIRTH_SIGNS", "look_at_piece", "LinkEnd", "MOST_HOUSE_maps", "MOST_NUMBER", "MOST_NEAR", "MOST_QUIET", "MOST_BIRTH", "MOST_NAMES_maps", "LONGEST_NAME", "LETTERS_maps", "is_house", "is_name", "look_at_near", "look_at_names", "made_news", "name_number", "name_of", "news_body", "SignRow", "news_read", "news_of", "Map", "same_thing", "with_letter", "Queue", "beside", "lengths_to", "way_of", "MOST_WIRES"]
def ln3 : List PySem.Str := ["MOST_HOUSE_posts", "MOST_NAMES_posts", "NAME_SIGNS", "LETTERS_posts", "READY_PIECES", "ask_house", "ask_name", "Wire", "Post", "_law_cell_at", "_law_whole", "_law_alike", "_law_mixed", "_law_row", "_law_kinds", "_law_wires", "_law_name", "_law_news_right", "_law_bad_posts", "_law_post_kinds", "_law_posts_refused", "_law_own_letters_right"]
def loose : List PySem.Str := ln0 ++ ln1 ++ ln2 ++ ln3
def as0 : List Addr := [3, 293, 292, 531, 530, 693, 692, 763, 762, 871, 870, 1027, 1026, 31, 30, 44, 43, 56, 55, 68, 67, 80, 79, 92, 91, 104, 103, 116, 115, 128, 127, 140, 139, 152, 151, 164, 163, 176, 175, 188]
def as1 : List Addr := [187, 200, 199, 219, 218, 222, 229, 228, 236, 235, 243, 242, 283, 282, 348, 347, 355, 354, 362, 361, 451, 450, 514, 513, 542, 541, 547, 546, 554, 553, 561, 560, 566, 565, 650, 649, 657, 656, 662, 661]
def as2 : List Addr := [676, 675, 690, 689, 725, 724, 753, 752, 774, 773, 781, 780, 786, 785, 793, 792, 800, 799, 814, 813, 868, 867, 887, 886, 894, 893, 901, 900, 908, 907, 922, 921, 927, 926, 960, 959, 972, 971, 979, 978]
def as3 : List Addr := [986, 985, 993, 992, 998, 997, 1005, 1004, 1012, 1011, 1017, 1016, 1024, 1023, 1038, 1037, 1045, 1044, 1052, 1051, 1059, 1058, 1066, 1065, 1073, 1072, 1078, 1077, 1083, 1082, 1090, 1089, 1095, 1094, 1102, 1101, 1109, 1108, 1114, 1113]
def as4 : List Addr := [1119, 1118]
def asAll : List Addr := as0 ++ as1 ++ as2 ++ as3 ++ as4
def d_are_signs : He.DefD := ⟨("are_signs", none), "are_signs", "are_signs", defArgs s_are_signs, defBody s_are_signs, defScope s_are_signs, [], []⟩
def d_is_way : He.DefD := ⟨("is_way", none), "is_way", "is_way", defArgs s_is_way, defBody s_is_way, defScope s_is_way, [], []⟩
def d_made_letter : He.DefD := ⟨("made_letter", none), "made_letter", "made_letter", defArgs s_made_letter, defBody s_made_letter, defScope s_made_letter, [], []⟩
def d_Joiner_init : He.DefD := ⟨("Joiner", some "__init__"), "__init__", "Joiner.__init__", defArgs s_Joiner_init, defBody s_Joiner_init, defScope s_Joiner_init, [], []⟩
def d_look_late : He.DefD := ⟨("look_late", none), "look_late", "look_late", defArgs s_look_late, defBody s_look_late, defScope s_look_late, [], []⟩
def d_look_measure : He.DefD := ⟨("look_measure", none), "look_measure", "look_measure", defArgs s_look_measure, defBody s_look_measure, defScope s_look_measure, [], []⟩
def d_quiet_of : He.DefD := ⟨("quiet_of", none), "quiet_of", "quiet_of", defArgs s_quiet_of, defBody s_quiet_of, defScope s_quiet_of, [], []⟩
def d_LinkEnd_init : He.DefD := ⟨("LinkEnd", some "__init__"), "__init__", "LinkEnd.__init__", defArgs s_LinkEnd_init, defBody s_LinkEnd_init, defScope s_LinkEnd_init, [], []⟩
def d_LinkEnd_up : He.DefD := ⟨("LinkEnd", some "up"), "up", "LinkEnd.up", defArgs s_LinkEnd_up, defBody s_LinkEnd_up, defScope s_LinkEnd_up, [], []⟩
def d_is_house : He.DefD := ⟨("is_house", none), "is_house", "is_house", defArgs s_is_house, defBody s_is_house, defScope s_is_house, [], []⟩
def d_is_name : He.DefD := ⟨("is_name", none), "is_name", "is_name", defArgs s_is_name, defBody s_is_name, defScope s_is_name, [], []⟩
def d_look_at_near : He.DefD := ⟨("look_at_near", none), "look_at_near", "look_at_near", defArgs s_look_at_near, defBody s_look_at_near, defScope s_look_at_near, [], []⟩
def d_look_at_names : He.DefD := ⟨("look_at_names", none), "look_at_names", "look_at_names", defArgs s_look_at_names, defBody s_look_at_names, defScope s_look_at_names, [], []⟩
def d_made_news : He.DefD := ⟨("made_news", none), "made_news", "made_news", defArgs s_made_news, defBody s_made_news, defScope s_made_news, [], []⟩
def d_Map_init : He.DefD := ⟨("Map", some "__init__"), "__init__", "Map.__init__", defArgs s_Map_init, defBody s_Map_init, defScope s_Map_init, [], []⟩
def d_Map_hear : He.DefD := ⟨("Map", some "hear"), "hear", "Map.hear", defArgs s_Map_hear, defBody s_Map_hear, defScope s_Map_hear, [], []⟩
def d_Map_news : He.DefD := ⟨("Map", some "news"), "news", "Map.news", defArgs s_Map_news, defBody s_Map_news, defScope s_Map_news, [], []⟩
def d_Map_wires : He.DefD := ⟨("Map", some "wires"), "wires", "Map.wires", defArgs s_Map_wires, defBody s_Map_wires, defScope s_Map_wires, [], []⟩
def d_Map_copy : He.DefD := ⟨("Map", some "copy"), "copy", "Map.copy", defArgs s_Map_copy, defBody s_Map_copy, defScope s_Map_copy, [], []⟩
def d_Queue_init : He.DefD := ⟨("Queue", some "__init__"), "__init__", "Queue.__init__", defArgs s_Queue_init, defBody s_Queue_init, defScope s_Queue_init, [], []⟩
def d_Queue_waiting : He.DefD := ⟨("Queue", some "waiting"), "waiting", "Queue.waiting", defArgs s_Queue_waiting, defBody s_Queue_waiting, defScope s_Queue_waiting, [], []⟩
def d_beside : He.DefD := ⟨("beside", none), "beside", "beside", defArgs s_beside, defBody s_beside, defScope s_beside, [], []⟩
def d_lengths_to : He.DefD := ⟨("lengths_to", none), "lengths_to", "lengths_to", defArgs s_lengths_to, defBody s_lengths_to, defScope s_lengths_to, [], []⟩
def d_way_of : He.DefD := ⟨("way_of", none), "way_of", "way_of", defArgs s_way_of, defBody s_way_of, defScope s_way_of, [], []⟩
def d_ask_house : He.DefD := ⟨("ask_house", none), "ask_house", "ask_house", defArgs s_ask_house, defBody s_ask_house, defScope s_ask_house, [], []⟩
def d_ask_name : He.DefD := ⟨("ask_name", none), "ask_name", "ask_name", defArgs s_ask_name, defBody s_ask_name, defScope s_ask_name, [], []⟩
def d_Wire_init : He.DefD := ⟨("Wire", some "__init__"), "__init__", "Wire.__init__", defArgs s_Wire_init, defBody s_Wire_init, defScope s_Wire_init, [], []⟩
def d_Wire_many_waiting : He.DefD := ⟨("Wire", some "many_waiting"), "many_waiting", "Wire.many_waiting", defArgs s_Wire_many_waiting, defBody s_Wire_many_waiting, defScope s_Wire_many_waiting, [], []⟩
def d_Post_init : He.DefD := ⟨("Post", some "__init__"), "__init__", "Post.__init__", defArgs s_Post_init, defBody s_Post_init, defScope s_Post_init, [], []⟩
def d_Post_row_tick : He.DefD := ⟨("Post", some "row_tick"), "row_tick", "Post.row_tick", defArgs s_Post_row_tick, defBody s_Post_row_tick, defScope s_Post_row_tick, [], []⟩
def d_Post_enter : He.DefD := ⟨("Post", some "enter"), "enter", "Post.enter", defArgs s_Post_enter, defBody s_Post_enter, defScope s_Post_enter, [], []⟩
def d_Post_own_letter : He.DefD := ⟨("Post", some "own_letter"), "own_letter", "Post.own_letter", defArgs s_Post_own_letter, defBody s_Post_own_letter, defScope s_Post_own_letter, [], []⟩
def d_Post_spread : He.DefD := ⟨("Post", some "spread"), "spread", "Post.spread", defArgs s_Post_spread, defBody s_Post_spread, defScope s_Post_spread, [], []⟩
def d_Post_renew : He.DefD := ⟨("Post", some "renew"), "renew", "Post.renew", defArgs s_Post_renew, defBody s_Post_renew, defScope s_Post_renew, [], []⟩
def d_Post_number : He.DefD := ⟨("Post", some "number"), "number", "Post.number", defArgs s_Post_number, defBody s_Post_number, defScope s_Post_number, [], []⟩
def d_Post_post : He.DefD := ⟨("Post", some "post"), "post", "Post.post", defArgs s_Post_post, defBody s_Post_post, defScope s_Post_post, [], []⟩
def d_Post_came : He.DefD := ⟨("Post", some "came"), "came", "Post.came", defArgs s_Post_came, defBody s_Post_came, defScope s_Post_came, [], []⟩
def d_Post_grew : He.DefD := ⟨("Post", some "grew"), "grew", "Post.grew", defArgs s_Post_grew, defBody s_Post_grew, defScope s_Post_grew, [], []⟩
def d_Post_take_name : He.DefD := ⟨("Post", some "take_name"), "take_name", "Post.take_name", defArgs s_Post_take_name, defBody s_Post_take_name, defScope s_Post_take_name, [], []⟩
def d_Post_drop_name : He.DefD := ⟨("Post", some "drop_name"), "drop_name", "Post.drop_name", defArgs s_Post_drop_name, defBody s_Post_drop_name, defScope s_Post_drop_name, [], []⟩
def d_Post_map_now : He.DefD := ⟨("Post", some "map_now"), "map_now", "Post.map_now", defArgs s_Post_map_now, defBody s_Post_map_now, defScope s_Post_map_now, [], []⟩
def d_Post_book : He.DefD := ⟨("Post", some "book"), "book", "Post.book", defArgs s_Post_book, defBody s_Post_book, defScope s_Post_book, [], []⟩
def d_Post_waiting : He.DefD := ⟨("Post", some "waiting"), "waiting", "Post.waiting", defArgs s_Post_waiting, defBody s_Post_waiting, defScope s_Post_waiting, [], []⟩
def d_Post_events : He.DefD := ⟨("Post", some "events"), "events", "Post.events", defArgs s_Post_events, defBody s_Post_events, defScope s_Post_events, [], []⟩
def d_law_cell_at : He.DefD := ⟨("_law_cell_at", none), "_law_cell_at", "_law_cell_at", defArgs s_law_cell_at, defBody s_law_cell_at, defScope s_law_cell_at, [], []⟩
def d_law_whole : He.DefD := ⟨("_law_whole", none), "_law_whole", "_law_whole", defArgs s_law_whole, defBody s_law_whole, defScope s_law_whole, [], []⟩
def d_law_alike : He.DefD := ⟨("_law_alike", none), "_law_alike", "_law_alike", defArgs s_law_alike, defBody s_law_alike, defScope s_law_alike, [], []⟩
def d_law_mixed : He.DefD := ⟨("_law_mixed", none), "_law_mixed", "_law_mixed", defArgs s_law_mixed, defBody s_law_mixed, defScope s_law_mixed, [], []⟩
def d_law_row : He.DefD := ⟨("_law_row", none), "_law_row", "_law_row", defArgs s_law_row, defBody s_law_row, defScope s_law_row, [], []⟩
def d_law_kinds : He.DefD := ⟨("_law_kinds", none), "_law_kinds", "_law_kinds", defArgs s_law_kinds, defBody s_law_kinds, defScope s_law_kinds, [], []⟩
def d_law_wires : He.DefD := ⟨("_law_wires", none), "_law_wires", "_law_wires", defArgs s_law_wires, defBody s_law_wires, defScope s_law_wires, [], []⟩
def d_law_name : He.DefD := ⟨("_law_name", none), "_law_name", "_law_name", defArgs s_law_name, defBody s_law_name, defScope s_law_name, [], []⟩
def d_law_news_right : He.DefD := ⟨("_law_news_right", none), "_law_news_right", "_law_news_right", defArgs s_law_news_right, defBody s_law_news_right, defScope s_law_news_right, [], []⟩
def d_law_bad_posts : He.DefD := ⟨("_law_bad_posts", none), "_law_bad_posts", "_law_bad_posts", defArgs s_law_bad_posts, defBody s_law_bad_posts, defScope s_law_bad_posts, [], []⟩
def d_law_post_kinds : He.DefD := ⟨("_law_post_kinds", none), "_law_post_kinds", "_law_post_kinds", defArgs s_law_post_kinds, defBody s_law_post_kinds, defScope s_law_post_kinds, [], []⟩
def d_law_posts_refused : He.DefD := ⟨("_law_posts_refused", none), "_law_posts_refused", "_law_posts_refused", defArgs s_law_posts_refused, defBody s_law_posts_refused, defScope s_law_posts_refused, [], []⟩
def d_law_own_letters_right : He.DefD := ⟨("_law_own_letters_right", none), "_law_own_letters_right", "_law_own_letters_right", defArgs s_law_own_letters_right, defBody s_law_own_letters_right, defScope s_law_own_letters_right, [], []⟩
def d_law : He.DefD := ⟨("law", none), "law", "law", defArgs s_law, defBody s_law, defScope s_law, [], []⟩
def fn0 : List He.DefD := [d_are_signs, d_is_way, d_made_letter, d_Joiner_init, d_look_late, d_look_measure, d_quiet_of, d_LinkEnd_init, d_LinkEnd_up, d_is_house, d_is_name, d_look_at_near, d_look_at_names, d_made_news, d_Map_init, d_Map_hear, d_Map_news, d_Map_wires, d_Map_copy, d_Queue_init]
def fn1 : List He.DefD := [d_Queue_waiting, d_beside, d_lengths_to, d_way_of, d_ask_house, d_ask_name, d_Wire_init, d_Wire_many_waiting, d_Post_init, d_Post_row_tick, d_Post_enter, d_Post_own_letter, d_Post_spread, d_Post_renew, d_Post_number, d_Post_post, d_Post_came, d_Post_grew, d_Post_take_name, d_Post_drop_name]
def fn2 : List He.DefD := [d_Post_map_now, d_Post_book, d_Post_waiting, d_Post_events, d_law_cell_at, d_law_whole, d_law_alike, d_law_mixed, d_law_row, d_law_kinds, d_law_wires, d_law_name, d_law_news_right, d_law_bad_posts, d_law_post_kinds, d_law_posts_refused, d_law_own_letters_right, d_law]
def fn : List He.DefD := fn0 ++ fn1 ++ fn2
def fa0 : List He.Fa := [.glo "are_signs", .glo "is_way", .glo "made_letter", .glo "look_late", .glo "look_measure", .glo "quiet_of", .glo "is_house", .glo "is_name", .glo "look_at_near", .glo "look_at_names", .glo "made_news", .glo "beside", .glo "lengths_to", .glo "way_of", .glo "ask_house", .glo "ask_name", .glo "_law_cell_at", .glo "_law_whole", .glo "_law_alike", .glo "_law_mixed", .glo "_law_row", .glo "_law_kinds", .glo "_law_wires", .glo "_law_name", .glo "_law_news_right", .glo "_law_bad_posts", .glo "_law_post_kinds", .glo "_law_posts_refused", .glo "_law_own_letters_right", .glo "law", .glo "Joiner", .glo "LinkEnd", .glo "Map", .glo "Queue", .glo "Wire", .glo "Post", .glo "PostError", .glo "BadSign", .glo "BadCell", .glo "BadMeasure"]
def fa1 : List He.Fa := [.glo "BadFate", .glo "BadModel", .glo "NoLink", .glo "BadPiece", .glo "BadLetter", .glo "BadNews", .glo "BadHouse", .glo "BadName", .glo "NoStream", .glo "NoAsk", .glo "BadNet", .glo "BadText", .glo "KINDS", .free "len", .free "set", .free "min", .free "max", .free "tuple", .free "all", .free "sorted", .free "range", .free "isinstance", .free "list", .free "sum", .free "bool", .free "int", .free "str", .free "ValueError", .int "SIGNS" 97, .int "MOST_COUNT" 900000, .int "MOST_WAY" 6, .int "HOUSES" 32, .int "MOST_ABOUT" 4, .int "MOST_BODY" 56, .int "MOST_LATE" 6, .int "MOST_LOST" 4, .int "MOST_HOUSE_maps" 31, .int "MOST_NUMBER" 900000, .int "MOST_NEAR" 5, .int "MOST_QUIET" 10]
def fa2 : List He.Fa := [.int "MOST_BIRTH" 9000, .int "MOST_NAMES_maps" 4, .int "LONGEST_NAME" 4, .int "MOST_WIRES" 5, .int "MOST_HOUSE_posts" 31, .int "MOST_NAMES_posts" 4, .int "NAME_SIGNS" 4, .str "LETTERS_maps" " abcdefghijklmnopqrstuvwxyz", .str "LETTERS_posts" "abcdefghijklmnopqrstuvwxyz", .cls "Joiner", .mkr "Joiner", .noat "Joiner" "so_far", .cls "LinkEnd", .mkr "LinkEnd", .noat "LinkEnd" "quiet_ticks", .noat "LinkEnd" "side_number", .noat "LinkEnd" "own_birth", .noat "LinkEnd" "other_birth", .noat "LinkEnd" "own_pair", .noat "LinkEnd" "now_tick", .noat "LinkEnd" "heard_tick", .noat "LinkEnd" "pieces_left", .noat "LinkEnd" "piece_number", .noat "LinkEnd" "piece_count", .noat "LinkEnd" "events_told", .cls "Map", .mkr "Map", .noat "Map" "kept_news", .cls "Queue", .mkr "Queue", .noat "Queue" "first_row", .noat "Queue" "other_row", .noat "Queue" "under_way", .noat "Queue" "to_come", .cls "Wire", .mkr "Wire", .noat "Wire" "house", .noat "Wire" "quiet", .noat "Wire" "link", .noat "Wire" "queue"]
def fa3 : List He.Fa := [.noat "Wire" "joiner", .noat "Wire" "given", .noat "Wire" "fresh", .cls "Post", .mkr "Post", .noat "Post" "own", .noat "Post" "lines", .noat "Post" "done", .noat "Post" "made", .noat "Post" "called", .noat "Post" "chart", .noat "Post" "news_number", .noat "Post" "out", .noat "Post" "rows", .noat "Post" "told", .noat "Post" "grown", .meth "LinkEnd" "up", .meth "Map" "hear", .meth "Map" "news", .meth "Map" "wires", .meth "Map" "copy", .meth "Queue" "waiting", .meth "Wire" "many_waiting", .meth "Post" "row_tick", .meth "Post" "enter", .meth "Post" "own_letter", .meth "Post" "spread", .meth "Post" "renew", .meth "Post" "number", .meth "Post" "post", .meth "Post" "came", .meth "Post" "grew", .meth "Post" "take_name", .meth "Post" "drop_name", .meth "Post" "map_now", .meth "Post" "book", .meth "Post" "waiting", .meth "Post" "events", .exc "BadName", .exm "BadName" "PostError" true]
def fa4 : List He.Fa := [.exc "BadHouse", .exm "BadHouse" "PostError" true, .exc "BadLetter", .exm "BadLetter" "PostError" true]
def fa : List He.Fa := fa0 ++ fa1 ++ fa2 ++ fa3 ++ fa4
/-- isinstance of an error of the class x against the class y -/
def kitB (K : PySem.W.Frag) (x y : Str) (b : Bool) : Bool := decide (PySem.W.kitOne K (.ref (He.ga K x)) (.ref (He.ga K y)) = some b)
def excB (K : PySem.W.Frag) (x : Str) : Bool := He.eqO (PySem.W.findIn K (.ref (He.ga K x)) "__getattribute__") (some (some (.builtin "BaseException.__getattribute__"))) && (He.eqO (PySem.W.findIn K (.ref (He.ga K x)) "__getattr__") (some none) &&
  (PySem.W.hasDictIn K (He.ga K x) && (He.eqO (PySem.W.findIn K (.ref (He.ga K x)) "__class__") (some (some (.builtin "object.__class__"))) && (He.eqO (PySem.W.specialIn K (.builtin "object.__class__") "__get__") (some (some (.builtin "getset_descriptor.__get__"))) &&
  (decide (PySem.W.takesIn K (.builtin "object.__class__") = some true) && (decide (PySem.W.mroIn K (He.ga K x) (.type "object") = some true) && decide (PySem.W.kitOne K (.ref (He.ga K x)) (.type "ValueError") = some true)))))))
def kinds : List He.Dv := [.str "news", .str "part", .str "had", .str "ask", .str "answer"]
def kits1 : List (Str × Str × Bool) := [("BadName", "BadSign", false), ("BadName", "BadCell", false), ("BadName", "BadMeasure", false), ("BadName", "BadFate", false), ("BadName", "BadModel", false), ("BadName", "NoLink", false), ("BadName", "BadPiece", false), ("BadName", "BadLetter", false), ("BadName", "BadNews", false), ("BadName", "BadHouse", false), ("BadName", "BadName", true), ("BadName", "NoStream", false), ("BadName", "NoAsk", false), ("BadName", "BadNet", false), ("BadName", "BadText", false), ("BadHouse", "BadSign", false), ("BadHouse", "BadCell", false), ("BadHouse", "BadMeasure", false), ("BadHouse", "BadFate", false), ("BadHouse", "BadModel", false), ("BadHouse", "NoLink", false), ("BadHouse", "BadPiece", false), ("BadHouse", "BadLetter", false)]
def kits2 : List (Str × Str × Bool) := [("BadHouse", "BadNews", false), ("BadHouse", "BadHouse", true), ("BadHouse", "BadName", false), ("BadHouse", "NoStream", false), ("BadHouse", "NoAsk", false), ("BadHouse", "BadNet", false), ("BadHouse", "BadText", false), ("BadLetter", "BadSign", false), ("BadLetter", "BadCell", false), ("BadLetter", "BadMeasure", false), ("BadLetter", "BadFate", false), ("BadLetter", "BadModel", false), ("BadLetter", "NoLink", false), ("BadLetter", "BadPiece", false), ("BadLetter", "BadLetter", true), ("BadLetter", "BadNews", false), ("BadLetter", "BadHouse", false), ("BadLetter", "BadName", false), ("BadLetter", "NoStream", false), ("BadLetter", "NoAsk", false), ("BadLetter", "BadNet", false), ("BadLetter", "BadText", false)]
def kits : List (Str × Str × Bool) := kits1 ++ kits2
def ex (K : PySem.W.Frag) : Bool := excB K "BadName" && (excB K "BadHouse" && (excB K "BadLetter" && (He.tupB K "KINDS" kinds && kits.all fun q => kitB K q.1 q.2.1 q.2.2)))
/-! ### the Hook -/
abbrev Al : Type := He.AlD × Bool
def obs (g : Addr → Option Obj) : Al := (He.obsD fa fn (He.frG g asAll), ex (He.frG g asAll))
def hk : PySem.W.Hook where
  α := Al
  obs := fun s => obs s.heap.get?
  val := fun _ => (He.valD fn, true)
  says := fun _ h => ∃ K : PySem.W.Frag, K.In h ∧ He.SaysD fa fn K ∧ ex K = true
  of := fun _ _ e => ⟨_, He.frG_in, congrArg (fun z : Al => z.1) e, congrArg (fun z : Al => z.2) e⟩
  keeps := fun _ _ _ ⟨K, hK, c⟩ k => ⟨K, PySem.W.Frag.In.keeps hK k, c⟩
def ob (s : PySem.W.SharedT) : Al := obs (HandSHeadRun.getT s)
theorem ob_eq (s : PySem.W.SharedT) : ob s = hk.obs s.abs := by
  have e : HandSHeadRun.getT s = s.abs.heap.get? := funext fun a => HandSHeadRun.getT_eq s a
  show obs (HandSHeadRun.getT s) = obs s.abs.heap.get?
  rw [e]
abbrev R : PySem.W.OpenRow := PySem.W.OpenLaw.row PySem.Challenge.rw_stormpost_k54_posts_and_names
noncomputable abbrev endS (w : World) (os : OsState) : Option PySem.W.SharedT := HandSHeadRun.endF (HandSHeadRun.stepQ (HandSHeadRun.denQ HandSHeadRun.tabQ) R.prog w) 9300 R.prog w os
open PySem.W PySem.Calls in
theorem run1 (w : World) (os : OsState) : (endS w os).map (fun s => (HandSHeadRun.looksF R.prog (boot_heap w.params) s.abs, HandSHeadRun.seenQ (PySem.W.view R.prog [125]) loose (importedModules R.prog.main.body) (fun s => PySem.W.xlAt (PySem.W.view R.prog [125]) [] s && PySem.W.recOk R.toRowW.records s) s.abs)) = some (true, PySem.W.openGood (PySem.W.view R.prog [125]) loose) := by
  kernel_rfl
theorem run2 (w : World) (os : OsState) : (endS w os).map ob = some (He.valD fn, true) := by
  kernel_rfl
open PySem.W PySem.Calls in
theorem run (w : World) : HandSHeadRun.RunEq R (PySem.W.view R.prog [125]) hk ob 9300 loose w := by
  intro os
  obtain ⟨s, hs, h1⟩ := Option.map_eq_some_iff.mp (run1 w os)
  obtain ⟨s', hs', h2⟩ := Option.map_eq_some_iff.mp (run2 w os)
  have e : s = s' := Option.some.inj (hs.symm.trans hs')
  subst e
  have hs2 : HandSHeadRun.endF (HandSHeadRun.stepQ (HandSHeadRun.denQ HandSHeadRun.tabQ) R.prog w) 9300 R.prog w os = some s := hs
  rw [hs2]
  obtain ⟨h3, h4⟩ := Prod.mk.inj h1
  show some (_, _, _) = some (_, _, _)
  rw [h3, h4, h2]
  rfl
/-! ### the facts -/
structure Txt (K : PySem.W.Frag) (mg : Str → Option Value) : Prop where
  g_are_signs : mg "are_signs" = some (.ref (He.ga K "are_signs"))
  g_is_way : mg "is_way" = some (.ref (He.ga K "is_way"))
  g_made_letter : mg "made_letter" = some (.ref (He.ga K "made_letter"))
  g_look_late : mg "look_late" = some (.ref (He.ga K "look_late"))
  g_look_measure : mg "look_measure" = some (.ref (He.ga K "look_measure"))
  g_quiet_of : mg "quiet_of" = some (.ref (He.ga K "quiet_of"))
  g_is_house : mg "is_house" = some (.ref (He.ga K "is_house"))
  g_is_name : mg "is_name" = some (.ref (He.ga K "is_name"))
  g_look_at_near : mg "look_at_near" = some (.ref (He.ga K "look_at_near"))
  g_look_at_names : mg "look_at_names" = some (.ref (He.ga K "look_at_names"))
  g_made_news : mg "made_news" = some (.ref (He.ga K "made_news"))
  g_beside : mg "beside" = some (.ref (He.ga K "beside"))
  g_lengths_to : mg "lengths_to" = some (.ref (He.ga K "lengths_to"))
  g_way_of : mg "way_of" = some (.ref (He.ga K "way_of"))
  g_ask_house : mg "ask_house" = some (.ref (He.ga K "ask_house"))
  g_ask_name : mg "ask_name" = some (.ref (He.ga K "ask_name"))
  g_law_cell_at : mg "_law_cell_at" = some (.ref (He.ga K "_law_cell_at"))
  g_law_whole : mg "_law_whole" = some (.ref (He.ga K "_law_whole"))
  g_law_alike : mg "_law_alike" = some (.ref (He.ga K "_law_alike"))
  g_law_mixed : mg "_law_mixed" = some (.ref (He.ga K "_law_mixed"))
  g_law_row : mg "_law_row" = some (.ref (He.ga K "_law_row"))
  g_law_kinds : mg "_law_kinds" = some (.ref (He.ga K "_law_kinds"))
  g_law_wires : mg "_law_wires" = some (.ref (He.ga K "_law_wires"))
  g_law_name : mg "_law_name" = some (.ref (He.ga K "_law_name"))
  g_law_news_right : mg "_law_news_right" = some (.ref (He.ga K "_law_news_right"))
  g_law_bad_posts : mg "_law_bad_posts" = some (.ref (He.ga K "_law_bad_posts"))
  g_law_post_kinds : mg "_law_post_kinds" = some (.ref (He.ga K "_law_post_kinds"))
  g_law_posts_refused : mg "_law_posts_refused" = some (.ref (He.ga K "_law_posts_refused"))
  g_law_own_letters_right : mg "_law_own_letters_right" = some (.ref (He.ga K "_law_own_letters_right"))
  g_law : mg "law" = some (.ref (He.ga K "law"))
  c_Joiner : mg "Joiner" = some (.ref (He.ga K "Joiner"))
  c_LinkEnd : mg "LinkEnd" = some (.ref (He.ga K "LinkEnd"))
  c_Map : mg "Map" = some (.ref (He.ga K "Map"))
  c_Queue : mg "Queue" = some (.ref (He.ga K "Queue"))
  c_Wire : mg "Wire" = some (.ref (He.ga K "Wire"))
  c_Post : mg "Post" = some (.ref (He.ga K "Post"))
  c_PostError : mg "PostError" = some (.ref (He.ga K "PostError"))
  c_BadSign : mg "BadSign" = some (.ref (He.ga K "BadSign"))
  c_BadCell : mg "BadCell" = some (.ref (He.ga K "BadCell"))
  c_BadMeasure : mg "BadMeasure" = some (.ref (He.ga K "BadMeasure"))
  c_BadFate : mg "BadFate" = some (.ref (He.ga K "BadFate"))
  c_BadModel : mg "BadModel" = some (.ref (He.ga K "BadModel"))
  c_NoLink : mg "NoLink" = some (.ref (He.ga K "NoLink"))
  c_BadPiece : mg "BadPiece" = some (.ref (He.ga K "BadPiece"))
  c_BadLetter : mg "BadLetter" = some (.ref (He.ga K "BadLetter"))
  c_BadNews : mg "BadNews" = some (.ref (He.ga K "BadNews"))
  c_BadHouse : mg "BadHouse" = some (.ref (He.ga K "BadHouse"))
  c_BadName : mg "BadName" = some (.ref (He.ga K "BadName"))
  c_NoStream : mg "NoStream" = some (.ref (He.ga K "NoStream"))
  c_NoAsk : mg "NoAsk" = some (.ref (He.ga K "NoAsk"))
  c_BadNet : mg "BadNet" = some (.ref (He.ga K "BadNet"))
  c_BadText : mg "BadText" = some (.ref (He.ga K "BadText"))
  c_KINDS : mg "KINDS" = some (.ref (He.ga K "KINDS"))
  b_len : mg "len" = none
  b_set : mg "set" = none
  b_min : mg "min" = none
  b_max : mg "max" = none
  b_tuple : mg "tuple" = none
  b_all : mg "all" = none
  b_sorted : mg "sorted" = none
  b_range : mg "range" = none
  b_isinstance : mg "isinstance" = none
  b_list : mg "list" = none
  b_sum : mg "sum" = none
  b_bool : mg "bool" = none
  b_int : mg "int" = none
  b_str : mg "str" = none
  b_ValueError : mg "ValueError" = none
  i_SIGNS : ∃ t, mg "SIGNS" = some (.int 97 t)
  i_MOST_COUNT : ∃ t, mg "MOST_COUNT" = some (.int 900000 t)
  i_MOST_WAY : ∃ t, mg "MOST_WAY" = some (.int 6 t)
  i_HOUSES : ∃ t, mg "HOUSES" = some (.int 32 t)
  i_MOST_ABOUT : ∃ t, mg "MOST_ABOUT" = some (.int 4 t)
  i_MOST_BODY : ∃ t, mg "MOST_BODY" = some (.int 56 t)
  i_MOST_LATE : ∃ t, mg "MOST_LATE" = some (.int 6 t)
  i_MOST_LOST : ∃ t, mg "MOST_LOST" = some (.int 4 t)
  i_MOST_HOUSE_maps : ∃ t, mg "MOST_HOUSE_maps" = some (.int 31 t)
  i_MOST_NUMBER : ∃ t, mg "MOST_NUMBER" = some (.int 900000 t)
  i_MOST_NEAR : ∃ t, mg "MOST_NEAR" = some (.int 5 t)
  i_MOST_QUIET : ∃ t, mg "MOST_QUIET" = some (.int 10 t)
  i_MOST_BIRTH : ∃ t, mg "MOST_BIRTH" = some (.int 9000 t)
  i_MOST_NAMES_maps : ∃ t, mg "MOST_NAMES_maps" = some (.int 4 t)
  i_LONGEST_NAME : ∃ t, mg "LONGEST_NAME" = some (.int 4 t)
  i_MOST_WIRES : ∃ t, mg "MOST_WIRES" = some (.int 5 t)
  i_MOST_HOUSE_posts : ∃ t, mg "MOST_HOUSE_posts" = some (.int 31 t)
  i_MOST_NAMES_posts : ∃ t, mg "MOST_NAMES_posts" = some (.int 4 t)
  i_NAME_SIGNS : ∃ t, mg "NAME_SIGNS" = some (.int 4 t)
  z_LETTERS_maps : ∃ t, mg "LETTERS_maps" = some (.str " abcdefghijklmnopqrstuvwxyz" t)
  z_LETTERS_posts : ∃ t, mg "LETTERS_posts" = some (.str "abcdefghijklmnopqrstuvwxyz" t)
  k_Joiner : Cls K (He.ga K "Joiner")
  m_Joiner : Mk K (He.ga K "Joiner") (He.ma K (He.ga K "Joiner") "__init__")
  n_Joiner_so_far : NoAttr K (He.ga K "Joiner") "so_far"
  k_LinkEnd : Cls K (He.ga K "LinkEnd")
  m_LinkEnd : Mk K (He.ga K "LinkEnd") (He.ma K (He.ga K "LinkEnd") "__init__")
  n_LinkEnd_quiet_ticks : NoAttr K (He.ga K "LinkEnd") "quiet_ticks"
  n_LinkEnd_side_number : NoAttr K (He.ga K "LinkEnd") "side_number"
  n_LinkEnd_own_birth : NoAttr K (He.ga K "LinkEnd") "own_birth"
  n_LinkEnd_other_birth : NoAttr K (He.ga K "LinkEnd") "other_birth"
  n_LinkEnd_own_pair : NoAttr K (He.ga K "LinkEnd") "own_pair"
  n_LinkEnd_now_tick : NoAttr K (He.ga K "LinkEnd") "now_tick"
  n_LinkEnd_heard_tick : NoAttr K (He.ga K "LinkEnd") "heard_tick"
  n_LinkEnd_pieces_left : NoAttr K (He.ga K "LinkEnd") "pieces_left"
  n_LinkEnd_piece_number : NoAttr K (He.ga K "LinkEnd") "piece_number"
  n_LinkEnd_piece_count : NoAttr K (He.ga K "LinkEnd") "piece_count"
  n_LinkEnd_events_told : NoAttr K (He.ga K "LinkEnd") "events_told"
  k_Map : Cls K (He.ga K "Map")
  m_Map : Mk K (He.ga K "Map") (He.ma K (He.ga K "Map") "__init__")
  n_Map_kept_news : NoAttr K (He.ga K "Map") "kept_news"
  k_Queue : Cls K (He.ga K "Queue")
  m_Queue : Mk K (He.ga K "Queue") (He.ma K (He.ga K "Queue") "__init__")
  n_Queue_first_row : NoAttr K (He.ga K "Queue") "first_row"
  n_Queue_other_row : NoAttr K (He.ga K "Queue") "other_row"
  n_Queue_under_way : NoAttr K (He.ga K "Queue") "under_way"
  n_Queue_to_come : NoAttr K (He.ga K "Queue") "to_come"
  k_Wire : Cls K (He.ga K "Wire")
  m_Wire : Mk K (He.ga K "Wire") (He.ma K (He.ga K "Wire") "__init__")
  n_Wire_house : NoAttr K (He.ga K "Wire") "house"
  n_Wire_quiet : NoAttr K (He.ga K "Wire") "quiet"
  n_Wire_link : NoAttr K (He.ga K "Wire") "link"
  n_Wire_queue : NoAttr K (He.ga K "Wire") "queue"
  n_Wire_joiner : NoAttr K (He.ga K "Wire") "joiner"
  n_Wire_given : NoAttr K (He.ga K "Wire") "given"
  n_Wire_fresh : NoAttr K (He.ga K "Wire") "fresh"
  k_Post : Cls K (He.ga K "Post")
  m_Post : Mk K (He.ga K "Post") (He.ma K (He.ga K "Post") "__init__")
  n_Post_own : NoAttr K (He.ga K "Post") "own"
  n_Post_lines : NoAttr K (He.ga K "Post") "lines"
  n_Post_done : NoAttr K (He.ga K "Post") "done"
  n_Post_made : NoAttr K (He.ga K "Post") "made"
  n_Post_called : NoAttr K (He.ga K "Post") "called"
  n_Post_chart : NoAttr K (He.ga K "Post") "chart"
  n_Post_news_number : NoAttr K (He.ga K "Post") "news_number"
  n_Post_out : NoAttr K (He.ga K "Post") "out"
  n_Post_rows : NoAttr K (He.ga K "Post") "rows"
  n_Post_told : NoAttr K (He.ga K "Post") "told"
  n_Post_grown : NoAttr K (He.ga K "Post") "grown"
  t_LinkEnd_up : Meth K (He.ga K "LinkEnd") "up" (He.ma K (He.ga K "LinkEnd") "up")
  t_Map_hear : Meth K (He.ga K "Map") "hear" (He.ma K (He.ga K "Map") "hear")
  t_Map_news : Meth K (He.ga K "Map") "news" (He.ma K (He.ga K "Map") "news")
  t_Map_wires : Meth K (He.ga K "Map") "wires" (He.ma K (He.ga K "Map") "wires")
  t_Map_copy : Meth K (He.ga K "Map") "copy" (He.ma K (He.ga K "Map") "copy")
  t_Queue_waiting : Meth K (He.ga K "Queue") "waiting" (He.ma K (He.ga K "Queue") "waiting")
  t_Wire_many_waiting : Meth K (He.ga K "Wire") "many_waiting" (He.ma K (He.ga K "Wire") "many_waiting")
  t_Post_row_tick : Meth K (He.ga K "Post") "row_tick" (He.ma K (He.ga K "Post") "row_tick")
  t_Post_enter : Meth K (He.ga K "Post") "enter" (He.ma K (He.ga K "Post") "enter")
  t_Post_own_letter : Meth K (He.ga K "Post") "own_letter" (He.ma K (He.ga K "Post") "own_letter")
  t_Post_spread : Meth K (He.ga K "Post") "spread" (He.ma K (He.ga K "Post") "spread")
  t_Post_renew : Meth K (He.ga K "Post") "renew" (He.ma K (He.ga K "Post") "renew")
  t_Post_number : Meth K (He.ga K "Post") "number" (He.ma K (He.ga K "Post") "number")
  t_Post_post : Meth K (He.ga K "Post") "post" (He.ma K (He.ga K "Post") "post")
  t_Post_came : Meth K (He.ga K "Post") "came" (He.ma K (He.ga K "Post") "came")
  t_Post_grew : Meth K (He.ga K "Post") "grew" (He.ma K (He.ga K "Post") "grew")
  t_Post_take_name : Meth K (He.ga K "Post") "take_name" (He.ma K (He.ga K "Post") "take_name")
  t_Post_drop_name : Meth K (He.ga K "Post") "drop_name" (He.ma K (He.ga K "Post") "drop_name")
  t_Post_map_now : Meth K (He.ga K "Post") "map_now" (He.ma K (He.ga K "Post") "map_now")
  t_Post_book : Meth K (He.ga K "Post") "book" (He.ma K (He.ga K "Post") "book")
  t_Post_waiting : Meth K (He.ga K "Post") "waiting" (He.ma K (He.ga K "Post") "waiting")
  t_Post_events : Meth K (He.ga K "Post") "events" (He.ma K (He.ga K "Post") "events")
  x_BadName : (PySem.W.excIn K (He.ga K "BadName") He.veBase "ValueError.__new__" = true ∧ PySem.W.keepIn K (.ref (He.ga K "BadName")) = true ∧ PySem.W.subIn K (.ref (He.ga K "BadName")) (.type "BaseException") = some true ∧ PySem.W.typeIn K (.ref (He.ga K "BadName")) = some (.type "type"))
  p_BadName : PySem.W.exmOne K (.ref (He.ga K "BadName")) (.ref (He.ga K "PostError")) = some true
  x_BadHouse : (PySem.W.excIn K (He.ga K "BadHouse") He.veBase "ValueError.__new__" = true ∧ PySem.W.keepIn K (.ref (He.ga K "BadHouse")) = true ∧ PySem.W.subIn K (.ref (He.ga K "BadHouse")) (.type "BaseException") = some true ∧ PySem.W.typeIn K (.ref (He.ga K "BadHouse")) = some (.type "type"))
  p_BadHouse : PySem.W.exmOne K (.ref (He.ga K "BadHouse")) (.ref (He.ga K "PostError")) = some true
  x_BadLetter : (PySem.W.excIn K (He.ga K "BadLetter") He.veBase "ValueError.__new__" = true ∧ PySem.W.keepIn K (.ref (He.ga K "BadLetter")) = true ∧ PySem.W.subIn K (.ref (He.ga K "BadLetter")) (.type "BaseException") = some true ∧ PySem.W.typeIn K (.ref (He.ga K "BadLetter")) = some (.type "type"))
  p_BadLetter : PySem.W.exmOne K (.ref (He.ga K "BadLetter")) (.ref (He.ga K "PostError")) = some true
  f_are_signs : ∃ fd, FunD K "are_signs" "are_signs" (defArgs s_are_signs) (defBody s_are_signs) (defScope s_are_signs) [] [] (He.ga K "are_signs") fd
  f_is_way : ∃ fd, FunD K "is_way" "is_way" (defArgs s_is_way) (defBody s_is_way) (defScope s_is_way) [] [] (He.ga K "is_way") fd
  f_made_letter : ∃ fd, FunD K "made_letter" "made_letter" (defArgs s_made_letter) (defBody s_made_letter) (defScope s_made_letter) [] [] (He.ga K "made_letter") fd
  f_Joiner_init : ∃ fd, FunD K "__init__" "Joiner.__init__" (defArgs s_Joiner_init) (defBody s_Joiner_init) (defScope s_Joiner_init) [] [] (He.ma K (He.ga K "Joiner") "__init__") fd
  f_look_late : ∃ fd, FunD K "look_late" "look_late" (defArgs s_look_late) (defBody s_look_late) (defScope s_look_late) [] [] (He.ga K "look_late") fd
  f_look_measure : ∃ fd, FunD K "look_measure" "look_measure" (defArgs s_look_measure) (defBody s_look_measure) (defScope s_look_measure) [] [] (He.ga K "look_measure") fd
  f_quiet_of : ∃ fd, FunD K "quiet_of" "quiet_of" (defArgs s_quiet_of) (defBody s_quiet_of) (defScope s_quiet_of) [] [] (He.ga K "quiet_of") fd
  f_LinkEnd_init : ∃ fd, FunD K "__init__" "LinkEnd.__init__" (defArgs s_LinkEnd_init) (defBody s_LinkEnd_init) (defScope s_LinkEnd_init) [] [] (He.ma K (He.ga K "LinkEnd") "__init__") fd
  f_LinkEnd_up : ∃ fd, FunD K "up" "LinkEnd.up" (defArgs s_LinkEnd_up) (defBody s_LinkEnd_up) (defScope s_LinkEnd_up) [] [] (He.ma K (He.ga K "LinkEnd") "up") fd
  f_is_house : ∃ fd, FunD K "is_house" "is_house" (defArgs s_is_house) (defBody s_is_house) (defScope s_is_house) [] [] (He.ga K "is_house") fd
  f_is_name : ∃ fd, FunD K "is_name" "is_name" (defArgs s_is_name) (defBody s_is_name) (defScope s_is_name) [] [] (He.ga K "is_name") fd
  f_look_at_near : ∃ fd, FunD K "look_at_near" "look_at_near" (defArgs s_look_at_near) (defBody s_look_at_near) (defScope s_look_at_near) [] [] (He.ga K "look_at_near") fd
  f_look_at_names : ∃ fd, FunD K "look_at_names" "look_at_names" (defArgs s_look_at_names) (defBody s_look_at_names) (defScope s_look_at_names) [] [] (He.ga K "look_at_names") fd
  f_made_news : ∃ fd, FunD K "made_news" "made_news" (defArgs s_made_news) (defBody s_made_news) (defScope s_made_news) [] [] (He.ga K "made_news") fd
  f_Map_init : ∃ fd, FunD K "__init__" "Map.__init__" (defArgs s_Map_init) (defBody s_Map_init) (defScope s_Map_init) [] [] (He.ma K (He.ga K "Map") "__init__") fd
  f_Map_hear : ∃ fd, FunD K "hear" "Map.hear" (defArgs s_Map_hear) (defBody s_Map_hear) (defScope s_Map_hear) [] [] (He.ma K (He.ga K "Map") "hear") fd
  f_Map_news : ∃ fd, FunD K "news" "Map.news" (defArgs s_Map_news) (defBody s_Map_news) (defScope s_Map_news) [] [] (He.ma K (He.ga K "Map") "news") fd
  f_Map_wires : ∃ fd, FunD K "wires" "Map.wires" (defArgs s_Map_wires) (defBody s_Map_wires) (defScope s_Map_wires) [] [] (He.ma K (He.ga K "Map") "wires") fd
  f_Map_copy : ∃ fd, FunD K "copy" "Map.copy" (defArgs s_Map_copy) (defBody s_Map_copy) (defScope s_Map_copy) [] [] (He.ma K (He.ga K "Map") "copy") fd
  f_Queue_init : ∃ fd, FunD K "__init__" "Queue.__init__" (defArgs s_Queue_init) (defBody s_Queue_init) (defScope s_Queue_init) [] [] (He.ma K (He.ga K "Queue") "__init__") fd
  f_Queue_waiting : ∃ fd, FunD K "waiting" "Queue.waiting" (defArgs s_Queue_waiting) (defBody s_Queue_waiting) (defScope s_Queue_waiting) [] [] (He.ma K (He.ga K "Queue") "waiting") fd
  f_beside : ∃ fd, FunD K "beside" "beside" (defArgs s_beside) (defBody s_beside) (defScope s_beside) [] [] (He.ga K "beside") fd
  f_lengths_to : ∃ fd, FunD K "lengths_to" "lengths_to" (defArgs s_lengths_to) (defBody s_lengths_to) (defScope s_lengths_to) [] [] (He.ga K "lengths_to") fd
  f_way_of : ∃ fd, FunD K "way_of" "way_of" (defArgs s_way_of) (defBody s_way_of) (defScope s_way_of) [] [] (He.ga K "way_of") fd
  f_ask_house : ∃ fd, FunD K "ask_house" "ask_house" (defArgs s_ask_house) (defBody s_ask_house) (defScope s_ask_house) [] [] (He.ga K "ask_house") fd
  f_ask_name : ∃ fd, FunD K "ask_name" "ask_name" (defArgs s_ask_name) (defBody s_ask_name) (defScope s_ask_name) [] [] (He.ga K "ask_name") fd
  f_Wire_init : ∃ fd, FunD K "__init__" "Wire.__init__" (defArgs s_Wire_init) (defBody s_Wire_init) (defScope s_Wire_init) [] [] (He.ma K (He.ga K "Wire") "__init__") fd
  f_Wire_many_waiting : ∃ fd, FunD K "many_waiting" "Wire.many_waiting" (defArgs s_Wire_many_waiting) (defBody s_Wire_many_waiting) (defScope s_Wire_many_waiting) [] [] (He.ma K (He.ga K "Wire") "many_waiting") fd
  f_Post_init : ∃ fd, FunD K "__init__" "Post.__init__" (defArgs s_Post_init) (defBody s_Post_init) (defScope s_Post_init) [] [] (He.ma K (He.ga K "Post") "__init__") fd
  f_Post_row_tick : ∃ fd, FunD K "row_tick" "Post.row_tick" (defArgs s_Post_row_tick) (defBody s_Post_row_tick) (defScope s_Post_row_tick) [] [] (He.ma K (He.ga K "Post") "row_tick") fd
  f_Post_enter : ∃ fd, FunD K "enter" "Post.enter" (defArgs s_Post_enter) (defBody s_Post_enter) (defScope s_Post_enter) [] [] (He.ma K (He.ga K "Post") "enter") fd
  f_Post_own_letter : ∃ fd, FunD K "own_letter" "Post.own_letter" (defArgs s_Post_own_letter) (defBody s_Post_own_letter) (defScope s_Post_own_letter) [] [] (He.ma K (He.ga K "Post") "own_letter") fd
  f_Post_spread : ∃ fd, FunD K "spread" "Post.spread" (defArgs s_Post_spread) (defBody s_Post_spread) (defScope s_Post_spread) [] [] (He.ma K (He.ga K "Post") "spread") fd
  f_Post_renew : ∃ fd, FunD K "renew" "Post.renew" (defArgs s_Post_renew) (defBody s_Post_renew) (defScope s_Post_renew) [] [] (He.ma K (He.ga K "Post") "renew") fd
  f_Post_number : ∃ fd, FunD K "number" "Post.number" (defArgs s_Post_number) (defBody s_Post_number) (defScope s_Post_number) [] [] (He.ma K (He.ga K "Post") "number") fd
  f_Post_post : ∃ fd, FunD K "post" "Post.post" (defArgs s_Post_post) (defBody s_Post_post) (defScope s_Post_post) [] [] (He.ma K (He.ga K "Post") "post") fd
  f_Post_came : ∃ fd, FunD K "came" "Post.came" (defArgs s_Post_came) (defBody s_Post_came) (defScope s_Post_came) [] [] (He.ma K (He.ga K "Post") "came") fd
  f_Post_grew : ∃ fd, FunD K "grew" "Post.grew" (defArgs s_Post_grew) (defBody s_Post_grew) (defScope s_Post_grew) [] [] (He.ma K (He.ga K "Post") "grew") fd
  f_Post_take_name : ∃ fd, FunD K "take_name" "Post.take_name" (defArgs s_Post_take_name) (defBody s_Post_take_name) (defScope s_Post_take_name) [] [] (He.ma K (He.ga K "Post") "take_name") fd
  f_Post_drop_name : ∃ fd, FunD K "drop_name" "Post.drop_name" (defArgs s_Post_drop_name) (defBody s_Post_drop_name) (defScope s_Post_drop_name) [] [] (He.ma K (He.ga K "Post") "drop_name") fd
  f_Post_map_now : ∃ fd, FunD K "map_now" "Post.map_now" (defArgs s_Post_map_now) (defBody s_Post_map_now) (defScope s_Post_map_now) [] [] (He.ma K (He.ga K "Post") "map_now") fd
  f_Post_book : ∃ fd, FunD K "book" "Post.book" (defArgs s_Post_book) (defBody s_Post_book) (defScope s_Post_book) [] [] (He.ma K (He.ga K "Post") "book") fd
  f_Post_waiting : ∃ fd, FunD K "waiting" "Post.waiting" (defArgs s_Post_waiting) (defBody s_Post_waiting) (defScope s_Post_waiting) [] [] (He.ma K (He.ga K "Post") "waiting") fd
  f_Post_events : ∃ fd, FunD K "events" "Post.events" (defArgs s_Post_events) (defBody s_Post_events) (defScope s_Post_events) [] [] (He.ma K (He.ga K "Post") "events") fd
  f_law_cell_at : ∃ fd, FunD K "_law_cell_at" "_law_cell_at" (defArgs s_law_cell_at) (defBody s_law_cell_at) (defScope s_law_cell_at) [] [] (He.ga K "_law_cell_at") fd
  f_law_whole : ∃ fd, FunD K "_law_whole" "_law_whole" (defArgs s_law_whole) (defBody s_law_whole) (defScope s_law_whole) [] [] (He.ga K "_law_whole") fd
  f_law_alike : ∃ fd, FunD K "_law_alike" "_law_alike" (defArgs s_law_alike) (defBody s_law_alike) (defScope s_law_alike) [] [] (He.ga K "_law_alike") fd
  f_law_mixed : ∃ fd, FunD K "_law_mixed" "_law_mixed" (defArgs s_law_mixed) (defBody s_law_mixed) (defScope s_law_mixed) [] [] (He.ga K "_law_mixed") fd
  f_law_row : ∃ fd, FunD K "_law_row" "_law_row" (defArgs s_law_row) (defBody s_law_row) (defScope s_law_row) [] [] (He.ga K "_law_row") fd
  f_law_kinds : ∃ fd, FunD K "_law_kinds" "_law_kinds" (defArgs s_law_kinds) (defBody s_law_kinds) (defScope s_law_kinds) [] [] (He.ga K "_law_kinds") fd
  f_law_wires : ∃ fd, FunD K "_law_wires" "_law_wires" (defArgs s_law_wires) (defBody s_law_wires) (defScope s_law_wires) [] [] (He.ga K "_law_wires") fd
  f_law_name : ∃ fd, FunD K "_law_name" "_law_name" (defArgs s_law_name) (defBody s_law_name) (defScope s_law_name) [] [] (He.ga K "_law_name") fd
  f_law_news_right : ∃ fd, FunD K "_law_news_right" "_law_news_right" (defArgs s_law_news_right) (defBody s_law_news_right) (defScope s_law_news_right) [] [] (He.ga K "_law_news_right") fd
  f_law_bad_posts : ∃ fd, FunD K "_law_bad_posts" "_law_bad_posts" (defArgs s_law_bad_posts) (defBody s_law_bad_posts) (defScope s_law_bad_posts) [] [] (He.ga K "_law_bad_posts") fd
  f_law_post_kinds : ∃ fd, FunD K "_law_post_kinds" "_law_post_kinds" (defArgs s_law_post_kinds) (defBody s_law_post_kinds) (defScope s_law_post_kinds) [] [] (He.ga K "_law_post_kinds") fd
  f_law_posts_refused : ∃ fd, FunD K "_law_posts_refused" "_law_posts_refused" (defArgs s_law_posts_refused) (defBody s_law_posts_refused) (defScope s_law_posts_refused) [] [] (He.ga K "_law_posts_refused") fd
  f_law_own_letters_right : ∃ fd, FunD K "_law_own_letters_right" "_law_own_letters_right" (defArgs s_law_own_letters_right) (defBody s_law_own_letters_right) (defScope s_law_own_letters_right) [] [] (He.ga K "_law_own_letters_right") fd
  f_law : ∃ fd, FunD K "law" "law" (defArgs s_law) (defBody s_law) (defScope s_law) [] [] (He.ga K "law") fd
  e_BadName : ExcC K (He.ga K "BadName") ∧ PySem.W.kitOne K (.ref (He.ga K "BadName")) (.type "ValueError") = some true
  e_BadHouse : ExcC K (He.ga K "BadHouse") ∧ PySem.W.kitOne K (.ref (He.ga K "BadHouse")) (.type "ValueError") = some true
  e_BadLetter : ExcC K (He.ga K "BadLetter") ∧ PySem.W.kitOne K (.ref (He.ga K "BadLetter")) (.type "ValueError") = some true
  kd : ∀ H : Hp, SqT K H (He.ga K "KINDS") [V.str "news", V.str "part", V.str "had", V.str "ask", V.str "answer"]
  q_BadName_BadSign : PySem.W.kitOne K (.ref (He.ga K "BadName")) (.ref (He.ga K "BadSign")) = some false
  q_BadName_BadCell : PySem.W.kitOne K (.ref (He.ga K "BadName")) (.ref (He.ga K "BadCell")) = some false
  q_BadName_BadMeasure : PySem.W.kitOne K (.ref (He.ga K "BadName")) (.ref (He.ga K "BadMeasure")) = some false
  q_BadName_BadFate : PySem.W.kitOne K (.ref (He.ga K "BadName")) (.ref (He.ga K "BadFate")) = some false
  q_BadName_BadModel : PySem.W.kitOne K (.ref (He.ga K "BadName")) (.ref (He.ga K "BadModel")) = some false
  q_BadName_NoLink : PySem.W.kitOne K (.ref (He.ga K "BadName")) (.ref (He.ga K "NoLink")) = some false
  q_BadName_BadPiece : PySem.W.kitOne K (.ref (He.ga K "BadName")) (.ref (He.ga K "BadPiece")) = some false
  q_BadName_BadLetter : PySem.W.kitOne K (.ref (He.ga K "BadName")) (.ref (He.ga K "BadLetter")) = some false
  q_BadName_BadNews : PySem.W.kitOne K (.ref (He.ga K "BadName")) (.ref (He.ga K "BadNews")) = some false
  q_BadName_BadHouse : PySem.W.kitOne K (.ref (He.ga K "BadName")) (.ref (He.ga K "BadHouse")) = some false
  q_BadName_BadName : PySem.W.kitOne K (.ref (He.ga K "BadName")) (.ref (He.ga K "BadName")) = some true
  q_BadName_NoStream : PySem.W.kitOne K (.ref (He.ga K "BadName")) (.ref (He.ga K "NoStream")) = some false
  q_BadName_NoAsk : PySem.W.kitOne K (.ref (He.ga K "BadName")) (.ref (He.ga K "NoAsk")) = some false
  q_BadName_BadNet : PySem.W.kitOne K (.ref (He.ga K "BadName")) (.ref (He.ga K "BadNet")) = some false
  q_BadName_BadText : PySem.W.kitOne K (.ref (He.ga K "BadName")) (.ref (He.ga K "BadText")) = some false
  q_BadHouse_BadSign : PySem.W.kitOne K (.ref (He.ga K "BadHouse")) (.ref (He.ga K "BadSign")) = some false
  q_BadHouse_BadCell : PySem.W.kitOne K (.ref (He.ga K "BadHouse")) (.ref (He.ga K "BadCell")) = some false
  q_BadHouse_BadMeasure : PySem.W.kitOne K (.ref (He.ga K "BadHouse")) (.ref (He.ga K "BadMeasure")) = some false
  q_BadHouse_BadFate : PySem.W.kitOne K (.ref (He.ga K "BadHouse")) (.ref (He.ga K "BadFate")) = some false
  q_BadHouse_BadModel : PySem.W.kitOne K (.ref (He.ga K "BadHouse")) (.ref (He.ga K "BadModel")) = some false
  q_BadHouse_NoLink : PySem.W.kitOne K (.ref (He.ga K "BadHouse")) (.ref (He.ga K "NoLink")) = some false
  q_BadHouse_BadPiece : PySem.W.kitOne K (.ref (He.ga K "BadHouse")) (.ref (He.ga K "BadPiece")) = some false
  q_BadHouse_BadLetter : PySem.W.kitOne K (.ref (He.ga K "BadHouse")) (.ref (He.ga K "BadLetter")) = some false
  q_BadHouse_BadNews : PySem.W.kitOne K (.ref (He.ga K "BadHouse")) (.ref (He.ga K "BadNews")) = some false
  q_BadHouse_BadHouse : PySem.W.kitOne K (.ref (He.ga K "BadHouse")) (.ref (He.ga K "BadHouse")) = some true
  q_BadHouse_BadName : PySem.W.kitOne K (.ref (He.ga K "BadHouse")) (.ref (He.ga K "BadName")) = some false
  q_BadHouse_NoStream : PySem.W.kitOne K (.ref (He.ga K "BadHouse")) (.ref (He.ga K "NoStream")) = some false
  q_BadHouse_NoAsk : PySem.W.kitOne K (.ref (He.ga K "BadHouse")) (.ref (He.ga K "NoAsk")) = some false
  q_BadHouse_BadNet : PySem.W.kitOne K (.ref (He.ga K "BadHouse")) (.ref (He.ga K "BadNet")) = some false
  q_BadHouse_BadText : PySem.W.kitOne K (.ref (He.ga K "BadHouse")) (.ref (He.ga K "BadText")) = some false
  q_BadLetter_BadSign : PySem.W.kitOne K (.ref (He.ga K "BadLetter")) (.ref (He.ga K "BadSign")) = some false
  q_BadLetter_BadCell : PySem.W.kitOne K (.ref (He.ga K "BadLetter")) (.ref (He.ga K "BadCell")) = some false
  q_BadLetter_BadMeasure : PySem.W.kitOne K (.ref (He.ga K "BadLetter")) (.ref (He.ga K "BadMeasure")) = some false
  q_BadLetter_BadFate : PySem.W.kitOne K (.ref (He.ga K "BadLetter")) (.ref (He.ga K "BadFate")) = some false
  q_BadLetter_BadModel : PySem.W.kitOne K (.ref (He.ga K "BadLetter")) (.ref (He.ga K "BadModel")) = some false
  q_BadLetter_NoLink : PySem.W.kitOne K (.ref (He.ga K "BadLetter")) (.ref (He.ga K "NoLink")) = some false
  q_BadLetter_BadPiece : PySem.W.kitOne K (.ref (He.ga K "BadLetter")) (.ref (He.ga K "BadPiece")) = some false
  q_BadLetter_BadLetter : PySem.W.kitOne K (.ref (He.ga K "BadLetter")) (.ref (He.ga K "BadLetter")) = some true
  q_BadLetter_BadNews : PySem.W.kitOne K (.ref (He.ga K "BadLetter")) (.ref (He.ga K "BadNews")) = some false
  q_BadLetter_BadHouse : PySem.W.kitOne K (.ref (He.ga K "BadLetter")) (.ref (He.ga K "BadHouse")) = some false
  q_BadLetter_BadName : PySem.W.kitOne K (.ref (He.ga K "BadLetter")) (.ref (He.ga K "BadName")) = some false
  q_BadLetter_NoStream : PySem.W.kitOne K (.ref (He.ga K "BadLetter")) (.ref (He.ga K "NoStream")) = some false
  q_BadLetter_NoAsk : PySem.W.kitOne K (.ref (He.ga K "BadLetter")) (.ref (He.ga K "NoAsk")) = some false
  q_BadLetter_BadNet : PySem.W.kitOne K (.ref (He.ga K "BadLetter")) (.ref (He.ga K "BadNet")) = some false
  q_BadLetter_BadText : PySem.W.kitOne K (.ref (He.ga K "BadLetter")) (.ref (He.ga K "BadText")) = some false
section
variable {K : PySem.W.Frag} {h : Heap} {mg : Str → Option Value}
theorem excB_ok {x : Str} (hs : PySem.W.subIn K (.ref (He.ga K x)) (.type "BaseException") = some true) (c : excB K x = true) : ExcC K (He.ga K x) ∧ PySem.W.kitOne K (.ref (He.ga K x)) (.type "ValueError") = some true := by
  obtain ⟨c1, c⟩ := He.ba c
  obtain ⟨c2, c⟩ := He.ba c
  obtain ⟨c3, c⟩ := He.ba c
  obtain ⟨c4, c⟩ := He.ba c
  obtain ⟨c5, c⟩ := He.ba c
  obtain ⟨c6, c⟩ := He.ba c
  obtain ⟨c7, c8⟩ := He.ba c
  exact ⟨⟨He.eqO_ok c1, He.eqO_ok c2, hs, c3, He.eqO_ok c4, He.eqO_ok c5, of_decide_eq_true c6, of_decide_eq_true c7⟩, of_decide_eq_true c8⟩
theorem kit_at (c : (kits.all fun q => kitB K q.1 q.2.1 q.2.2) = true) (i : Nat) {x y : Str} {b : Bool} (h : kits[i]? = some (x, y, b) := by rfl) : PySem.W.kitOne K (.ref (He.ga K x)) (.ref (He.ga K y)) = some b :=
  of_decide_eq_true (List.all_eq_true.mp c (x, y, b) (List.mem_of_getElem? h))
theorem txt_of (X : K.In h) (G : h.Ns mainGlobals mg) (c : He.SaysD fa fn K) (e : ex K = true) : Txt K mg := by
  obtain ⟨e1, e⟩ := He.ba e
  obtain ⟨e2, e⟩ := He.ba e
  obtain ⟨e3, e⟩ := He.ba e
  obtain ⟨e4, e5⟩ := He.ba e
  exact {
    g_are_signs := He.glo_ok X G (c.fact 0 (f := .glo "are_signs") rfl),
    g_is_way := He.glo_ok X G (c.fact 1 (f := .glo "is_way") rfl),
    g_made_letter := He.glo_ok X G (c.fact 2 (f := .glo "made_letter") rfl),
    g_look_late := He.glo_ok X G (c.fact 3 (f := .glo "look_late") rfl),
    g_look_measure := He.glo_ok X G (c.fact 4 (f := .glo "look_measure") rfl),
    g_quiet_of := He.glo_ok X G (c.fact 5 (f := .glo "quiet_of") rfl),
    g_is_house := He.glo_ok X G (c.fact 6 (f := .glo "is_house") rfl),
    g_is_name := He.glo_ok X G (c.fact 7 (f := .glo "is_name") rfl),
    g_look_at_near := He.glo_ok X G (c.fact 8 (f := .glo "look_at_near") rfl),
    g_look_at_names := He.glo_ok X G (c.fact 9 (f := .glo "look_at_names") rfl),
    g_made_news := He.glo_ok X G (c.fact 10 (f := .glo "made_news") rfl),
    g_beside := He.glo_ok X G (c.fact 11 (f := .glo "beside") rfl),
    g_lengths_to := He.glo_ok X G (c.fact 12 (f := .glo "lengths_to") rfl),
    g_way_of := He.glo_ok X G (c.fact 13 (f := .glo "way_of") rfl),
    g_ask_house := He.glo_ok X G (c.fact 14 (f := .glo "ask_house") rfl),
    g_ask_name := He.glo_ok X G (c.fact 15 (f := .glo "ask_name") rfl),
    g_law_cell_at := He.glo_ok X G (c.fact 16 (f := .glo "_law_cell_at") rfl),
    g_law_whole := He.glo_ok X G (c.fact 17 (f := .glo "_law_whole") rfl),
    g_law_alike := He.glo_ok X G (c.fact 18 (f := .glo "_law_alike") rfl),
    g_law_mixed := He.glo_ok X G (c.fact 19 (f := .glo "_law_mixed") rfl),
    g_law_row := He.glo_ok X G (c.fact 20 (f := .glo "_law_row") rfl),
    g_law_kinds := He.glo_ok X G (c.fact 21 (f := .glo "_law_kinds") rfl),
    g_law_wires := He.glo_ok X G (c.fact 22 (f := .glo "_law_wires") rfl),
    g_law_name := He.glo_ok X G (c.fact 23 (f := .glo "_law_name") rfl),
    g_law_news_right := He.glo_ok X G (c.fact 24 (f := .glo "_law_news_right") rfl),
    g_law_bad_posts := He.glo_ok X G (c.fact 25 (f := .glo "_law_bad_posts") rfl),
    g_law_post_kinds := He.glo_ok X G (c.fact 26 (f := .glo "_law_post_kinds") rfl),
    g_law_posts_refused := He.glo_ok X G (c.fact 27 (f := .glo "_law_posts_refused") rfl),
    g_law_own_letters_right := He.glo_ok X G (c.fact 28 (f := .glo "_law_own_letters_right") rfl),
    g_law := He.glo_ok X G (c.fact 29 (f := .glo "law") rfl),
    c_Joiner := He.glo_ok X G (c.fact 30 (f := .glo "Joiner") rfl),
    c_LinkEnd := He.glo_ok X G (c.fact 31 (f := .glo "LinkEnd") rfl),
    c_Map := He.glo_ok X G (c.fact 32 (f := .glo "Map") rfl),
    c_Queue := He.glo_ok X G (c.fact 33 (f := .glo "Queue") rfl),
    c_Wire := He.glo_ok X G (c.fact 34 (f := .glo "Wire") rfl),
    c_Post := He.glo_ok X G (c.fact 35 (f := .glo "Post") rfl),
    c_PostError := He.glo_ok X G (c.fact 36 (f := .glo "PostError") rfl),
    c_BadSign := He.glo_ok X G (c.fact 37 (f := .glo "BadSign") rfl),
    c_BadCell := He.glo_ok X G (c.fact 38 (f := .glo "BadCell") rfl),
    c_BadMeasure := He.glo_ok X G (c.fact 39 (f := .glo "BadMeasure") rfl),
    c_BadFate := He.glo_ok X G (c.fact 40 (f := .glo "BadFate") rfl),
    c_BadModel := He.glo_ok X G (c.fact 41 (f := .glo "BadModel") rfl),
    c_NoLink := He.glo_ok X G (c.fact 42 (f := .glo "NoLink") rfl),
    c_BadPiece := He.glo_ok X G (c.fact 43 (f := .glo "BadPiece") rfl),
    c_BadLetter := He.glo_ok X G (c.fact 44 (f := .glo "BadLetter") rfl),
    c_BadNews := He.glo_ok X G (c.fact 45 (f := .glo "BadNews") rfl),
    c_BadHouse := He.glo_ok X G (c.fact 46 (f := .glo "BadHouse") rfl),
    c_BadName := He.glo_ok X G (c.fact 47 (f := .glo "BadName") rfl),
    c_NoStream := He.glo_ok X G (c.fact 48 (f := .glo "NoStream") rfl),
    c_NoAsk := He.glo_ok X G (c.fact 49 (f := .glo "NoAsk") rfl),
    c_BadNet := He.glo_ok X G (c.fact 50 (f := .glo "BadNet") rfl),
    c_BadText := He.glo_ok X G (c.fact 51 (f := .glo "BadText") rfl),
    c_KINDS := He.glo_ok X G (c.fact 52 (f := .glo "KINDS") rfl),
    b_len := He.free_ok X G (c.fact 53 (f := .free "len") rfl),
    b_set := He.free_ok X G (c.fact 54 (f := .free "set") rfl),
    b_min := He.free_ok X G (c.fact 55 (f := .free "min") rfl),
    b_max := He.free_ok X G (c.fact 56 (f := .free "max") rfl),
    b_tuple := He.free_ok X G (c.fact 57 (f := .free "tuple") rfl),
    b_all := He.free_ok X G (c.fact 58 (f := .free "all") rfl),
    b_sorted := He.free_ok X G (c.fact 59 (f := .free "sorted") rfl),
    b_range := He.free_ok X G (c.fact 60 (f := .free "range") rfl),
    b_isinstance := He.free_ok X G (c.fact 61 (f := .free "isinstance") rfl),
    b_list := He.free_ok X G (c.fact 62 (f := .free "list") rfl),
    b_sum := He.free_ok X G (c.fact 63 (f := .free "sum") rfl),
    b_bool := He.free_ok X G (c.fact 64 (f := .free "bool") rfl),
    b_int := He.free_ok X G (c.fact 65 (f := .free "int") rfl),
    b_str := He.free_ok X G (c.fact 66 (f := .free "str") rfl),
    b_ValueError := He.free_ok X G (c.fact 67 (f := .free "ValueError") rfl),
    i_SIGNS := He.int_ok X G (c.fact 68 (f := .int "SIGNS" 97) rfl),
    i_MOST_COUNT := He.int_ok X G (c.fact 69 (f := .int "MOST_COUNT" 900000) rfl),
    i_MOST_WAY := He.int_ok X G (c.fact 70 (f := .int "MOST_WAY" 6) rfl),
    i_HOUSES := He.int_ok X G (c.fact 71 (f := .int "HOUSES" 32) rfl),
    i_MOST_ABOUT := He.int_ok X G (c.fact 72 (f := .int "MOST_ABOUT" 4) rfl),
    i_MOST_BODY := He.int_ok X G (c.fact 73 (f := .int "MOST_BODY" 56) rfl),
    i_MOST_LATE := He.int_ok X G (c.fact 74 (f := .int "MOST_LATE" 6) rfl),
    i_MOST_LOST := He.int_ok X G (c.fact 75 (f := .int "MOST_LOST" 4) rfl),
    i_MOST_HOUSE_maps := He.int_ok X G (c.fact 76 (f := .int "MOST_HOUSE_maps" 31) rfl),
    i_MOST_NUMBER := He.int_ok X G (c.fact 77 (f := .int "MOST_NUMBER" 900000) rfl),
    i_MOST_NEAR := He.int_ok X G (c.fact 78 (f := .int "MOST_NEAR" 5) rfl),
    i_MOST_QUIET := He.int_ok X G (c.fact 79 (f := .int "MOST_QUIET" 10) rfl),
    i_MOST_BIRTH := He.int_ok X G (c.fact 80 (f := .int "MOST_BIRTH" 9000) rfl),
    i_MOST_NAMES_maps := He.int_ok X G (c.fact 81 (f := .int "MOST_NAMES_maps" 4) rfl),
    i_LONGEST_NAME := He.int_ok X G (c.fact 82 (f := .int "LONGEST_NAME" 4) rfl),
    i_MOST_WIRES := He.int_ok X G (c.fact 83 (f := .int "MOST_WIRES" 5) rfl),
    i_MOST_HOUSE_posts := He.int_ok X G (c.fact 84 (f := .int "MOST_HOUSE_posts" 31) rfl),
    i_MOST_NAMES_posts := He.int_ok X G (c.fact 85 (f := .int "MOST_NAMES_posts" 4) rfl),
    i_NAME_SIGNS := He.int_ok X G (c.fact 86 (f := .int "NAME_SIGNS" 4) rfl),
    z_LETTERS_maps := He.str_ok X G (c.fact 87 (f := .str "LETTERS_maps" " abcdefghijklmnopqrstuvwxyz") rfl),
    z_LETTERS_posts := He.str_ok X G (c.fact 88 (f := .str "LETTERS_posts" "abcdefghijklmnopqrstuvwxyz") rfl),
    k_Joiner := He.cls_ok (c.fact 89 (f := .cls "Joiner") rfl),
    m_Joiner := He.mkr_ok (c.fact 90 (f := .mkr "Joiner") rfl),
    n_Joiner_so_far := He.noat_ok (c.fact 91 (f := .noat "Joiner" "so_far") rfl),
    k_LinkEnd := He.cls_ok (c.fact 92 (f := .cls "LinkEnd") rfl),
    m_LinkEnd := He.mkr_ok (c.fact 93 (f := .mkr "LinkEnd") rfl),
    n_LinkEnd_quiet_ticks := He.noat_ok (c.fact 94 (f := .noat "LinkEnd" "quiet_ticks") rfl),
    n_LinkEnd_side_number := He.noat_ok (c.fact 95 (f := .noat "LinkEnd" "side_number") rfl),
    n_LinkEnd_own_birth := He.noat_ok (c.fact 96 (f := .noat "LinkEnd" "own_birth") rfl),
    n_LinkEnd_other_birth := He.noat_ok (c.fact 97 (f := .noat "LinkEnd" "other_birth") rfl),
    n_LinkEnd_own_pair := He.noat_ok (c.fact 98 (f := .noat "LinkEnd" "own_pair") rfl),
    n_LinkEnd_now_tick := He.noat_ok (c.fact 99 (f := .noat "LinkEnd" "now_tick") rfl),
    n_LinkEnd_heard_tick := He.noat_ok (c.fact 100 (f := .noat "LinkEnd" "heard_tick") rfl),
    n_LinkEnd_pieces_left := He.noat_ok (c.fact 101 (f := .noat "LinkEnd" "pieces_left") rfl),
    n_LinkEnd_piece_number := He.noat_ok (c.fact 102 (f := .noat "LinkEnd" "piece_number") rfl),
    n_LinkEnd_piece_count := He.noat_ok (c.fact 103 (f := .noat "LinkEnd" "piece_count") rfl),
    n_LinkEnd_events_told := He.noat_ok (c.fact 104 (f := .noat "LinkEnd" "events_told") rfl),
    k_Map := He.cls_ok (c.fact 105 (f := .cls "Map") rfl),
    m_Map := He.mkr_ok (c.fact 106 (f := .mkr "Map") rfl),
    n_Map_kept_news := He.noat_ok (c.fact 107 (f := .noat "Map" "kept_news") rfl),
    k_Queue := He.cls_ok (c.fact 108 (f := .cls "Queue") rfl),
    m_Queue := He.mkr_ok (c.fact 109 (f := .mkr "Queue") rfl),
    n_Queue_first_row := He.noat_ok (c.fact 110 (f := .noat "Queue" "first_row") rfl),
    n_Queue_other_row := He.noat_ok (c.fact 111 (f := .noat "Queue" "other_row") rfl),
    n_Queue_under_way := He.noat_ok (c.fact 112 (f := .noat "Queue" "under_way") rfl),
    n_Queue_to_come := He.noat_ok (c.fact 113 (f := .noat "Queue" "to_come") rfl),
    k_Wire := He.cls_ok (c.fact 114 (f := .cls "Wire") rfl),
    m_Wire := He.mkr_ok (c.fact 115 (f := .mkr "Wire") rfl),
    n_Wire_house := He.noat_ok (c.fact 116 (f := .noat "Wire" "house") rfl),
    n_Wire_quiet := He.noat_ok (c.fact 117 (f := .noat "Wire" "quiet") rfl),
    n_Wire_link := He.noat_ok (c.fact 118 (f := .noat "Wire" "link") rfl),
    n_Wire_queue := He.noat_ok (c.fact 119 (f := .noat "Wire" "queue") rfl),
    n_Wire_joiner := He.noat_ok (c.fact 120 (f := .noat "Wire" "joiner") rfl),
    n_Wire_given := He.noat_ok (c.fact 121 (f := .noat "Wire" "given") rfl),
    n_Wire_fresh := He.noat_ok (c.fact 122 (f := .noat "Wire" "fresh") rfl),
    k_Post := He.cls_ok (c.fact 123 (f := .cls "Post") rfl),
    m_Post := He.mkr_ok (c.fact 124 (f := .mkr "Post") rfl),
    n_Post_own := He.noat_ok (c.fact 125 (f := .noat "Post" "own") rfl),
    n_Post_lines := He.noat_ok (c.fact 126 (f := .noat "Post" "lines") rfl),
    n_Post_done := He.noat_ok (c.fact 127 (f := .noat "Post" "done") rfl),
    n_Post_made := He.noat_ok (c.fact 128 (f := .noat "Post" "made") rfl),
    n_Post_called := He.noat_ok (c.fact 129 (f := .noat "Post" "called") rfl),
    n_Post_chart := He.noat_ok (c.fact 130 (f := .noat "Post" "chart") rfl),
    n_Post_news_number := He.noat_ok (c.fact 131 (f := .noat "Post" "news_number") rfl),
    n_Post_out := He.noat_ok (c.fact 132 (f := .noat "Post" "out") rfl),
    n_Post_rows := He.noat_ok (c.fact 133 (f := .noat "Post" "rows") rfl),
    n_Post_told := He.noat_ok (c.fact 134 (f := .noat "Post" "told") rfl),
    n_Post_grown := He.noat_ok (c.fact 135 (f := .noat "Post" "grown") rfl),
    t_LinkEnd_up := He.meth_ok (c.fact 136 (f := .meth "LinkEnd" "up") rfl),
    t_Map_hear := He.meth_ok (c.fact 137 (f := .meth "Map" "hear") rfl),
    t_Map_news := He.meth_ok (c.fact 138 (f := .meth "Map" "news") rfl),
    t_Map_wires := He.meth_ok (c.fact 139 (f := .meth "Map" "wires") rfl),
    t_Map_copy := He.meth_ok (c.fact 140 (f := .meth "Map" "copy") rfl),
    t_Queue_waiting := He.meth_ok (c.fact 141 (f := .meth "Queue" "waiting") rfl),
    t_Wire_many_waiting := He.meth_ok (c.fact 142 (f := .meth "Wire" "many_waiting") rfl),
    t_Post_row_tick := He.meth_ok (c.fact 143 (f := .meth "Post" "row_tick") rfl),
    t_Post_enter := He.meth_ok (c.fact 144 (f := .meth "Post" "enter") rfl),
    t_Post_own_letter := He.meth_ok (c.fact 145 (f := .meth "Post" "own_letter") rfl),
    t_Post_spread := He.meth_ok (c.fact 146 (f := .meth "Post" "spread") rfl),
    t_Post_renew := He.meth_ok (c.fact 147 (f := .meth "Post" "renew") rfl),
    t_Post_number := He.meth_ok (c.fact 148 (f := .meth "Post" "number") rfl),
    t_Post_post := He.meth_ok (c.fact 149 (f := .meth "Post" "post") rfl),
    t_Post_came := He.meth_ok (c.fact 150 (f := .meth "Post" "came") rfl),
    t_Post_grew := He.meth_ok (c.fact 151 (f := .meth "Post" "grew") rfl),
    t_Post_take_name := He.meth_ok (c.fact 152 (f := .meth "Post" "take_name") rfl),
    t_Post_drop_name := He.meth_ok (c.fact 153 (f := .meth "Post" "drop_name") rfl),
    t_Post_map_now := He.meth_ok (c.fact 154 (f := .meth "Post" "map_now") rfl),
    t_Post_book := He.meth_ok (c.fact 155 (f := .meth "Post" "book") rfl),
    t_Post_waiting := He.meth_ok (c.fact 156 (f := .meth "Post" "waiting") rfl),
    t_Post_events := He.meth_ok (c.fact 157 (f := .meth "Post" "events") rfl),
    x_BadName := He.exc_ok (c.fact 158 (f := .exc "BadName") rfl),
    p_BadName := He.exm_ok (c.fact 159 (f := .exm "BadName" "PostError" true) rfl),
    x_BadHouse := He.exc_ok (c.fact 160 (f := .exc "BadHouse") rfl),
    p_BadHouse := He.exm_ok (c.fact 161 (f := .exm "BadHouse" "PostError" true) rfl),
    x_BadLetter := He.exc_ok (c.fact 162 (f := .exc "BadLetter") rfl),
    p_BadLetter := He.exm_ok (c.fact 163 (f := .exm "BadLetter" "PostError" true) rfl),
    f_are_signs := c.def_ 0 (d := d_are_signs) rfl,
    f_is_way := c.def_ 1 (d := d_is_way) rfl,
    f_made_letter := c.def_ 2 (d := d_made_letter) rfl,
    f_Joiner_init := c.def_ 3 (d := d_Joiner_init) rfl,
    f_look_late := c.def_ 4 (d := d_look_late) rfl,
    f_look_measure := c.def_ 5 (d := d_look_measure) rfl,
    f_quiet_of := c.def_ 6 (d := d_quiet_of) rfl,
    f_LinkEnd_init := c.def_ 7 (d := d_LinkEnd_init) rfl,
    f_LinkEnd_up := c.def_ 8 (d := d_LinkEnd_up) rfl,
    f_is_house := c.def_ 9 (d := d_is_house) rfl,
    f_is_name := c.def_ 10 (d := d_is_name) rfl,
    f_look_at_near := c.def_ 11 (d := d_look_at_near) rfl,
    f_look_at_names := c.def_ 12 (d := d_look_at_names) rfl,
    f_made_news := c.def_ 13 (d := d_made_news) rfl,
    f_Map_init := c.def_ 14 (d := d_Map_init) rfl,
    f_Map_hear := c.def_ 15 (d := d_Map_hear) rfl,
    f_Map_news := c.def_ 16 (d := d_Map_news) rfl,
    f_Map_wires := c.def_ 17 (d := d_Map_wires) rfl,
    f_Map_copy := c.def_ 18 (d := d_Map_copy) rfl,
    f_Queue_init := c.def_ 19 (d := d_Queue_init) rfl,
    f_Queue_waiting := c.def_ 20 (d := d_Queue_waiting) rfl,
    f_beside := c.def_ 21 (d := d_beside) rfl,
    f_lengths_to := c.def_ 22 (d := d_lengths_to) rfl,
    f_way_of := c.def_ 23 (d := d_way_of) rfl,
    f_ask_house := c.def_ 24 (d := d_ask_house) rfl,
    f_ask_name := c.def_ 25 (d := d_ask_name) rfl,
    f_Wire_init := c.def_ 26 (d := d_Wire_init) rfl,
    f_Wire_many_waiting := c.def_ 27 (d := d_Wire_many_waiting) rfl,
    f_Post_init := c.def_ 28 (d := d_Post_init) rfl,
    f_Post_row_tick := c.def_ 29 (d := d_Post_row_tick) rfl,
    f_Post_enter := c.def_ 30 (d := d_Post_enter) rfl,
    f_Post_own_letter := c.def_ 31 (d := d_Post_own_letter) rfl,
    f_Post_spread := c.def_ 32 (d := d_Post_spread) rfl,
    f_Post_renew := c.def_ 33 (d := d_Post_renew) rfl,
    f_Post_number := c.def_ 34 (d := d_Post_number) rfl,
    f_Post_post := c.def_ 35 (d := d_Post_post) rfl,
    f_Post_came := c.def_ 36 (d := d_Post_came) rfl,
    f_Post_grew := c.def_ 37 (d := d_Post_grew) rfl,
    f_Post_take_name := c.def_ 38 (d := d_Post_take_name) rfl,
    f_Post_drop_name := c.def_ 39 (d := d_Post_drop_name) rfl,
    f_Post_map_now := c.def_ 40 (d := d_Post_map_now) rfl,
    f_Post_book := c.def_ 41 (d := d_Post_book) rfl,
    f_Post_waiting := c.def_ 42 (d := d_Post_waiting) rfl,
    f_Post_events := c.def_ 43 (d := d_Post_events) rfl,
    f_law_cell_at := c.def_ 44 (d := d_law_cell_at) rfl,
    f_law_whole := c.def_ 45 (d := d_law_whole) rfl,
    f_law_alike := c.def_ 46 (d := d_law_alike) rfl,
    f_law_mixed := c.def_ 47 (d := d_law_mixed) rfl,
    f_law_row := c.def_ 48 (d := d_law_row) rfl,
    f_law_kinds := c.def_ 49 (d := d_law_kinds) rfl,
    f_law_wires := c.def_ 50 (d := d_law_wires) rfl,
    f_law_name := c.def_ 51 (d := d_law_name) rfl,
    f_law_news_right := c.def_ 52 (d := d_law_news_right) rfl,
    f_law_bad_posts := c.def_ 53 (d := d_law_bad_posts) rfl,
    f_law_post_kinds := c.def_ 54 (d := d_law_post_kinds) rfl,
    f_law_posts_refused := c.def_ 55 (d := d_law_posts_refused) rfl,
    f_law_own_letters_right := c.def_ 56 (d := d_law_own_letters_right) rfl,
    f_law := c.def_ 57 (d := d_law) rfl,
    e_BadName := excB_ok (He.exc_ok (c.fact 158 (f := .exc "BadName") rfl)).2.2.1 e1,
    e_BadHouse := excB_ok (He.exc_ok (c.fact 160 (f := .exc "BadHouse") rfl)).2.2.1 e2,
    e_BadLetter := excB_ok (He.exc_ok (c.fact 162 (f := .exc "BadLetter") rfl)).2.2.1 e3,
    kd := fun H => He.tupB_ok (vs := kinds) e4 H,
    q_BadName_BadSign := kit_at e5 0,
    q_BadName_BadCell := kit_at e5 1,
    q_BadName_BadMeasure := kit_at e5 2,
    q_BadName_BadFate := kit_at e5 3,
    q_BadName_BadModel := kit_at e5 4,
    q_BadName_NoLink := kit_at e5 5,
    q_BadName_BadPiece := kit_at e5 6,
    q_BadName_BadLetter := kit_at e5 7,
    q_BadName_BadNews := kit_at e5 8,
    q_BadName_BadHouse := kit_at e5 9,
    q_BadName_BadName := kit_at e5 10,
    q_BadName_NoStream := kit_at e5 11,
    q_BadName_NoAsk := kit_at e5 12,
    q_BadName_BadNet := kit_at e5 13,
    q_BadName_BadText := kit_at e5 14,
    q_BadHouse_BadSign := kit_at e5 15,
    q_BadHouse_BadCell := kit_at e5 16,
    q_BadHouse_BadMeasure := kit_at e5 17,
    q_BadHouse_BadFate := kit_at e5 18,
    q_BadHouse_BadModel := kit_at e5 19,
    q_BadHouse_NoLink := kit_at e5 20,
    q_BadHouse_BadPiece := kit_at e5 21,
    q_BadHouse_BadLetter := kit_at e5 22,
    q_BadHouse_BadNews := kit_at e5 23,
    q_BadHouse_BadHouse := kit_at e5 24,
    q_BadHouse_BadName := kit_at e5 25,
    q_BadHouse_NoStream := kit_at e5 26,
    q_BadHouse_NoAsk := kit_at e5 27,
    q_BadHouse_BadNet := kit_at e5 28,
    q_BadHouse_BadText := kit_at e5 29,
    q_BadLetter_BadSign := kit_at e5 30,
    q_BadLetter_BadCell := kit_at e5 31,
    q_BadLetter_BadMeasure := kit_at e5 32,
    q_BadLetter_BadFate := kit_at e5 33,
    q_BadLetter_BadModel := kit_at e5 34,
    q_BadLetter_NoLink := kit_at e5 35,
    q_BadLetter_BadPiece := kit_at e5 36,
    q_BadLetter_BadLetter := kit_at e5 37,
    q_BadLetter_BadNews := kit_at e5 38,
    q_BadLetter_BadHouse := kit_at e5 39,
    q_BadLetter_BadName := kit_at e5 40,
    q_BadLetter_NoStream := kit_at e5 41,
    q_BadLetter_NoAsk := kit_at e5 42,
    q_BadLetter_BadNet := kit_at e5 43,
    q_BadLetter_BadText := kit_at e5 44 }
end
end K54

set_option maxHeartbeats 4000000
namespace K54
open PySem PySem.Spec PyProof.Rows L2
/-! ### readings, one step each -/
section
variable {K : PySem.W.Frag} {D : Ends} {σ : L2.St} {H : Hp} {Q : VK} {QT : Bool → Hp → Prop} {QA : List V → Hp → Prop} {te ta tb tc : TE} {tA tB' tC' : TT} {t u : TS} {g : TG} {nx : L2.St → Hp → Prop} {rt : VK} {bk ct : L2.St → Hp → Prop} {tr : TA}
theorem r_seq (h : t ⟨u ⟨nx, rt, bk, ct⟩, rt, bk, ct⟩ σ H) : tSeq t u ⟨nx, rt, bk, ct⟩ σ H := h
theorem r_asg (h : te σ H fun x H1 => g x σ H1 nx) : tAsg te g ⟨nx, rt, bk, ct⟩ σ H := h
theorem r_drop (h : te σ H fun _ H1 => nx σ H1) : tDrop te ⟨nx, rt, bk, ct⟩ σ H := h
theorem r_ret (h : te σ H rt) : tRet te ⟨nx, rt, bk, ct⟩ σ H := h
theorem r_retN (h : rt .non H) : tRetN ⟨nx, rt, bk, ct⟩ σ H := h
theorem r_next (h : nx σ H) : tNext ⟨nx, rt, bk, ct⟩ σ H := h
theorem r_ifS (h : tA σ H fun b H1 => if b = true then t D σ H1 else u D σ H1) : tIfS tA t u D σ H := h
theorem r_name {i : Nat} {v : V} {σ' : L2.St} {q : L2.St → Hp → Prop} (e : σ.set i (some v) = σ') (h : q σ' H) : gName i v σ H q := by
  subst e
  exact h
theorem r_var {i : Nat} {v : V} (e : σ[i]? = some (some v)) (h : Q v H) : tVar i σ H Q := ⟨v, e, h⟩
theorem r_C {v : V} (h : Q v H) : tC v σ H Q := h
theorem r_op {r : R2} (h : ta σ H fun x H1 => tb σ H1 fun y H2 => r x y H2 Q) : tOp r ta tb σ H Q := h
theorem r_un {r : V → Hp → VK → Prop} (h : ta σ H fun x H1 => r x H1 Q) : tUn r ta σ H Q := h
theorem r_test (h : te σ H fun x H' => ∃ k, x = .bl k ∧ QT k H') : tTest te σ H QT := h
theorem r_tB (h : te σ H fun x H' => ∃ k, x = .bl k ∧ QT k H') : L2.tB te σ H QT := h
theorem r_bl {b : Bool} {q : Bool → Prop} (h : q b) : ∃ k, V.bl b = V.bl k ∧ q k := ⟨b, rfl, h⟩
theorem r_and (h : tA σ H fun c H1 => if c = true then tB' σ H1 QT else QT false H1) : tAnd tA tB' σ H QT := h
theorem r_or (h : tA σ H fun c H1 => if c = true then QT true H1 else tB' σ H1 QT) : tOr tA tB' σ H QT := h
theorem r_not (h : tA σ H fun c H1 => QT (!c) H1) : tNot tA σ H QT := h
theorem r_andV (h : ta σ H fun x H1 => ∃ c, x = .bl c ∧ if c = true then tb σ H1 Q else Q (.bl false) H1) : tAndV ta tb σ H Q := h
theorem r_orV (h : ta σ H fun x H1 => ∃ c, x = .bl c ∧ if c = true then Q (.bl true) H1 else tb σ H1 Q) : tOrV ta tb σ H Q := h
theorem r_notV (h : ta σ H fun x H1 => ∃ c, x = .bl c ∧ Q (.bl (!c)) H1) : tNotV ta σ H Q := h
theorem r_ifE (h : tA σ H fun c H1 => if c = true then ta σ H1 Q else tb σ H1 Q) : tIf tA ta tb σ H Q := h
theorem r_nil (h : QA [] H) : tNil σ H QA := h
theorem r_cons (h : ta σ H fun x H1 => tr σ H1 fun xs H2 => QA (x :: xs) H2) : tCons ta tr σ H QA := h
theorem r_cb {r : List V → Hp → VK → Prop} (h : tr σ H fun vs H1 => r vs H1 Q) : tCB r tr σ H Q := h
theorem r_call {sp : Sp} {dvs : List V} {E : XK} (h : tr σ H fun vs H1 => sp (vs ++ dvs) H1 Q E) : tCall sp dvs E tr σ H Q := h
theorem r_I0 {f : Int → Int → V} {a b : Int} (h : Q (f a b) H) : rI0 f (.int a) (.int b) H Q := ⟨a, b, rfl, rfl, h⟩
theorem r_I {C : Int → Int → Prop} {f : Int → Int → V} {a b : Int} (c : C a b) (h : Q (f a b) H) : rI C f (.int a) (.int b) H Q := ⟨a, b, rfl, rfl, c, h⟩
theorem r_eqI {a b : Int} (h : Q (.bl (decide (a = b))) H) : rEq (.int a) (.int b) H Q := ⟨rfl, by
  have e : decide (V.int a = V.int b) = decide (a = b) := by simp
  rw [e]; exact h⟩
theorem r_neI {a b : Int} (h : Q (.bl (!decide (a = b))) H) : rNe (.int a) (.int b) H Q := ⟨rfl, by
  have e : decide (V.int a = V.int b) = decide (a = b) := by simp
  rw [e]; exact h⟩
theorem r_eqS {a b : Str} (h : Q (.bl (decide (a = b))) H) : rEq (.str a) (.str b) H Q := ⟨rfl, by
  have e : decide (V.str a = V.str b) = decide (a = b) := by simp
  rw [e]; exact h⟩
theorem r_neS {a b : Str} (h : Q (.bl (!decide (a = b))) H) : rNe (.str a) (.str b) H Q := ⟨rfl, by
  have e : decide (V.str a = V.str b) = decide (a = b) := by simp
  rw [e]; exact h⟩
theorem r_tup (h : tr σ H fun xs H1 => xs.length ≤ sizeLine ∧ ∀ p, H1 p = none → Q (.ref p) (upd H1 p (.tup xs))) : tTup tr σ H Q := h
theorem r_lst (h : tr σ H fun xs H1 => xs.length ≤ sizeLine ∧ ∀ p, H1 p = none → Q (.ref p) (upd H1 p (.lst xs))) : tLst tr σ H Q := h
/-- e.f by the value of e -/
def FldAt (K : PySem.W.Frag) (f : Str) (x : V) (H : Hp) (Q : VK) : Prop := ∃ a C dx fs v, x = .ref a ∧ H a = some (.ins C dx fs) ∧ Cls K C ∧ NoAttr K C f ∧ fs.lookup f = some v ∧ Q v H
theorem r_fld {f : Str} (h : ta σ H fun x H1 => FldAt K f x H1 Q) : tFld K ta f σ H Q := h
theorem r_fldAt {f : Str} {p C dx : Addr} {fs : List (Str × V)} {v : V} (hp : H p = some (.ins C dx fs)) (c : Cls K C) (n : NoAttr K C f) (l : fs.lookup f = some v) (h : Q v H) : FldAt K f (.ref p) H Q := ⟨p, C, dx, fs, v, rfl, hp, c, n, l, h⟩
/-- e.f = v by values -/
def SetAt (K : PySem.W.Frag) (f : Str) (y x : V) (H : Hp) (q : Hp → Prop) : Prop := ∃ a C dx fs, x = .ref a ∧ H a = some (.ins C dx fs) ∧ Cls K C ∧ NoAttr K C f ∧ fs.length < 1000 ∧ q (upd H a (.ins C dx (putF f y fs)))
theorem r_set {f : Str} (h : tb σ H fun y H1 => ta σ H1 fun x H2 => SetAt K f y x H2 (nx σ)) : sFld K ta tb f ⟨nx, rt, bk, ct⟩ σ H := h
theorem r_setAt {f : Str} {y : V} {p C dx : Addr} {fs : List (Str × V)} {q : Hp → Prop} (hp : H p = some (.ins C dx fs)) (c : Cls K C) (n : NoAttr K C f) (l : fs.length < 1000) (h : q (upd H p (.ins C dx (putF f y fs)))) : SetAt K f y (.ref p) H q := ⟨p, C, dx, fs, rfl, hp, c, n, l, h⟩
/-- e.m(..) by the value of e -/
def MethAt (C : Addr) (m : Str) (sp : Sp) (dvs : List V) (E : XK) (tr : TA) (σ : L2.St) (x : V) (H : Hp) (Q : VK) : Prop := ∃ a dx fs, x = .ref a ∧ H a = some (.ins C dx fs) ∧ fs.lookup m = none ∧ tr σ H fun vs H2 => sp (x :: (vs ++ dvs)) H2 Q E
theorem r_meth {C : Addr} {m : Str} {sp : Sp} {dvs : List V} {E : XK} (h : ta σ H fun x H1 => MethAt C m sp dvs E tr σ x H1 Q) : tMeth C m sp dvs E ta tr σ H Q := h
theorem r_methAt {C : Addr} {m : Str} {sp : Sp} {dvs : List V} {E : XK} {p dx : Addr} {fs : List (Str × V)} (hp : H p = some (.ins C dx fs)) (l : fs.lookup m = none) (h : tr σ H fun vs H2 => sp (.ref p :: (vs ++ dvs)) H2 Q E) : MethAt C m sp dvs E tr σ (.ref p) H Q := ⟨p, dx, fs, rfl, hp, l, h⟩
theorem r_make {C : Addr} {sp : Sp} {dvs : List V} {E : XK} (h : tr σ H fun vs H1 => ∀ x dx, H1 x = none → H1 dx = none → dx ≠ x → sp (.ref x :: (vs ++ dvs)) (upd (upd H1 dx (.own x)) x (.ins C dx [])) (fun v H2 => v = .non ∧ Q (.ref x) H2) E) : tMake C sp dvs E tr σ H Q := h
theorem r_gcons {tg : TG} {tgs : TGs} {v : V} {vs : List V} {q : L2.St → Hp → Prop} (h : tg v σ H fun σ' H' => tgs vs σ' H' q) : gCons tg tgs (v :: vs) σ H q := ⟨v, vs, rfl, h⟩
theorem r_gnil {q : L2.St → Hp → Prop} (h : q σ H) : gNil [] σ H q := ⟨rfl, h⟩
theorem r_gtup {n : Nat} {tgs : TGs} {a : Addr} {xs : List V} {q : L2.St → Hp → Prop} (hs : SqT K H a xs) (l : xs.length = n) (h : tgs xs σ H q) : gTup K n tgs (.ref a) σ H q := ⟨a, xs, rfl, hs, l, h⟩
theorem r_sl {r : V → Option Int → Option Int → Hp → VK → Prop} {tl th : TO} (h : te σ H fun x H1 => tl σ H1 fun l H2 => th σ H2 fun u H3 => r x l u H3 Q) : tSl r te tl th σ H Q := h
theorem r_bm {T : String} {r : V → List V → Hp → VK → Prop} (h : te σ H fun x H1 => tyV K T x H1 ∧ tr σ H1 fun xs H2 => r x xs H2 Q) : tBM K T r te tr σ H Q := h
theorem r_bm0 {T : String} {r : V → List V → Hp → VK → Prop} (h : te σ H fun x H1 => tyV K T x H1 ∧ r x [] H1 Q) : tBM0 K T r te σ H Q := h
theorem r_chain {r r' : R2} (h : ta σ H fun x H1 => tb σ H1 fun y H2 => r x y H2 fun z H3 => ∃ k, z = .bl k ∧ if k = true then tc σ H3 fun w H4 => r' y w H4 Q else Q (.bl false) H3) : tChain r r' ta tb tc σ H Q := h
theorem if_dec {p : Prop} [Decidable p] {A B : Prop} (h1 : p → A) (h2 : ¬ p → B) : if decide p = true then A else B := by
  by_cases h : p
  · rw [if_pos (decide_eq_true h)]; exact h1 h
  · rw [decide_eq_false h, if_neg Bool.false_ne_true]; exact h2 h
theorem if_ndec {p : Prop} [Decidable p] {A B : Prop} (h1 : ¬ p → A) (h2 : p → B) : if (!decide p) = true then A else B := by
  by_cases h : p
  · rw [decide_eq_true h, if_neg (by simp)]; exact h2 h
  · rw [decide_eq_false h, if_pos (by simp)]; exact h1 h
theorem if_decT {p : Prop} [Decidable p] {A B : Prop} (hp : p) (h1 : A) : if decide p = true then A else B := if_dec (fun _ => h1) fun n => absurd hp n
theorem if_decF {p : Prop} [Decidable p] {A B : Prop} (hp : ¬ p) (h1 : B) : if decide p = true then A else B := if_dec (fun n => absurd n hp) fun _ => h1
theorem if_ndecT {p : Prop} [Decidable p] {A B : Prop} (hp : p) (h1 : B) : if (!decide p) = true then A else B := if_ndec (fun n => absurd hp n) fun _ => h1
theorem if_ndecF {p : Prop} [Decidable p] {A B : Prop} (hp : ¬ p) (h1 : A) : if (!decide p) = true then A else B := if_ndec (fun _ => h1) fun n => absurd n hp
theorem if_b {b : Bool} {A B : Prop} (h1 : b = true → A) (h2 : b = false → B) : if b = true then A else B := by
  cases b with
  | true => rw [if_pos rfl]; exact h1 rfl
  | false => rw [if_neg Bool.false_ne_true]; exact h2 rfl
theorem if_bT {b : Bool} {A B : Prop} (e : b = true) (h : A) : if b = true then A else B := by rw [if_pos e]; exact h
theorem if_bF {b : Bool} {A B : Prop} (e : b = false) (h : B) : if b = true then A else B := by rw [e, if_neg Bool.false_ne_true]; exact h
end
theorem if_nIn {x : V} {xs : List V} {A B : Prop} (h1 : inV x xs = false → A) (h2 : inV x xs = true → B) : if (if true = true then !inV x xs else inV x xs) = true then A else B := by
  rw [if_pos (rfl : true = true)]
  cases e : inV x xs with
  | true => exact h2 e
  | false => exact h1 e
theorem if_In {x : V} {xs : List V} {A B : Prop} (h1 : inV x xs = true → A) (h2 : inV x xs = false → B) : if (if false = true then !inV x xs else inV x xs) = true then A else B := by
  rw [if_neg Bool.false_ne_true]
  cases e : inV x xs with
  | true => exact h1 e
  | false => exact h2 e
theorem inV_str (z : Str) : ∀ l : List Str, inV (.str z) (l.map V.str) = decide (z ∈ l)
  | [] => rfl
  | y :: r => by
    have ih := inV_str z r
    unfold inV at ih ⊢
    rw [List.map_cons, List.any_cons, ih]
    by_cases e : y = z
    · subst e
      simp [eqV]
    · have e2 : ¬ z = y := fun h => e h.symm
      simp [eqV, e, e2]
theorem flat_strs : ∀ l : List Str, (l.map V.str).all flatV = true
  | [] => rfl
  | _ :: r => flat_strs r
/-- an expression that is never reached -/
theorem pe_never {X : Cx} {e : Expr} : PE X e (fun _ _ _ => False) := ⟨fun _ _ _ _ _ _ h => h.elim⟩
/-! ### heaps -/
theorem same_upd {H : Hp} {p : Addr} {o : HO} (h : H p = none) : Same H (upd H p o) := fun b u e => by
  rw [upd_ne (ne_of_none e h)]; exact e
theorem sm {H H1 : Hp} {p : Addr} {o : HO} (s : Same H H1) (h : H1 p = none) : Same H (upd H1 p o) := s.trans (same_upd h)
theorem Same.sqT {K : PySem.W.Frag} {H H' : Hp} {a : Addr} {xs : List V} (e : Same H H') (h : SqT K H a xs) : SqT K H' a xs := by
  rcases h with (h | ⟨o, h⟩) | h
  · exact .inl (.inl (e _ _ h))
  · exact .inl (.inr ⟨o, e _ _ h⟩)
  · exact .inr h
mutual
theorem dp_same {K : PySem.W.Frag} {H H' : Hp} (e : Same H H') : ∀ (d : PyData) (v : V), Dp K H v d → Dp K H' v d
  | .none, _, h => by cases h; exact .non
  | .bool b, _, h => by cases h; exact .bl b
  | .int i, _, h => by cases h; exact .int i
  | .str x, _, h => by cases h; exact .str x
  | .list ds, _, h => by
    cases h with
    | lst hs ha => exact .lst (e.seq hs) (dpAll_same e ds _ ha)
  | .tuple ds, _, h => by
    cases h with
    | tup hs ha => exact .tup (Same.sqT e hs) (dpAll_same e ds _ ha)
  | .dict _, _, h => by cases h
theorem dpAll_same {K : PySem.W.Frag} {H H' : Hp} (e : Same H H') : ∀ (ds : List PyData) (vs : List V), DpAll K H vs ds → DpAll K H' vs ds
  | [], _, h => by cases h; exact .nil
  | d :: ds, _, h => by
    cases h with
    | cons h1 h2 => exact .cons (dp_same e d _ h1) (dpAll_same e ds _ h2)
end
theorem cmpLen {n : Nat} {H : Hp} {p : Addr} {o : HO} (h : H p = none) : upd H p o p ≠ none := by rw [upd_same]; intro z; cases z
theorem dpAll_ints {K : PySem.W.Frag} {H : Hp} : ∀ ns : List Int, DpAll K H (ns.map V.int) (ns.map PyData.int)
  | [] => .nil
  | n :: r => .cons (.int n) (dpAll_ints r)
theorem dpAll_strs {K : PySem.W.Frag} {H : Hp} : ∀ ns : List Str, DpAll K H (ns.map V.str) (ns.map PyData.str)
  | [] => .nil
  | n :: r => .cons (.str n) (dpAll_strs r)
theorem dpAll_bls {K : PySem.W.Frag} {H : Hp} : ∀ ns : List Bool, DpAll K H (ns.map V.bl) (ns.map PyData.bool)
  | [] => .nil
  | n :: r => .cons (.bl n) (dpAll_bls r)
theorem dpAll_app {K : PySem.W.Frag} {H : Hp} : ∀ {vs us : List V} {ds es : List PyData}, DpAll K H vs ds → DpAll K H us es → DpAll K H (vs ++ us) (ds ++ es)
  | _, _, _, _, .nil, h => h
  | _, _, _, _, .cons a b, h => .cons a (dpAll_app b h)
theorem dpAll_len {K : PySem.W.Frag} {H : Hp} : ∀ {vs : List V} {ds : List PyData}, DpAll K H vs ds → vs.length = ds.length
  | _, _, .nil => rfl
  | _, _, .cons _ b => congrArg Nat.succ (dpAll_len b)
theorem dpAll_at {K : PySem.W.Frag} {H : Hp} : ∀ {vs : List V} {ds : List PyData} {j : Nat} {v : V}, DpAll K H vs ds → vs[j]? = some v → ∃ d, ds[j]? = some d ∧ Dp K H v d
  | _, _, j, _, .nil, h => by simp at h
  | _, _, 0, _, .cons a _, h => by
    have e := Option.some.inj h
    subst e
    exact ⟨_, rfl, a⟩
  | _, _, j + 1, _, .cons _ b, h => dpAll_at (j := j) b h
/-- what stands outside of the list M -/
def off (M : List Addr) (H : Hp) : Hp := fun b => if b ∈ M then none else H b
theorem off_some {M : List Addr} {H : Hp} {b : Addr} {o : HO} (h : off M H b = some o) : H b = some o ∧ b ∉ M := by
  unfold off at h
  by_cases e : b ∈ M
  · rw [if_pos e] at h; cases h
  · rw [if_neg e] at h; exact ⟨h, e⟩
theorem off_get {M : List Addr} {H : Hp} {b : Addr} {o : HO} (h : off M H b = some o) : H b = some o := (off_some h).1
theorem off_of {M : List Addr} {H : Hp} {b : Addr} {o : HO} (h : H b = some o) (n : b ∉ M) : off M H b = some o := by
  unfold off
  rw [if_neg n]
  exact h
theorem off_sub {M : List Addr} {H : Hp} : Same (off M H) H := fun _ _ e => off_get e
theorem off_same {M : List Addr} {H H' : Hp} (s : Same H H') : Same (off M H) (off M H') := fun b o e => off_of (s _ _ (off_get e)) (off_some e).2
theorem off_upd {M : List Addr} {H : Hp} {p : Addr} {o : HO} (h : p ∈ M) : off M (upd H p o) = off M H := by
  funext b
  unfold off
  by_cases e : b ∈ M
  · rw [if_pos e, if_pos e]
  · rw [if_neg e, if_neg e, upd_ne (fun z => e (by rw [z]; exact h))]

/-! ### readings by name -/
/-- tuple(x) -/
def rTupR (K : PySem.W.Frag) : List V → Hp → VK → Prop := fun xs H Q => ∃ p ys, xs = [V.ref p] ∧ ((SqL K H p ys ∧ ∀ l, H l = none → Q (.ref l) (upd H l (.tup ys))) ∨ (SqT K H p ys ∧ Q (.ref p) H))
theorem call_tupR {X : Cx} : CallR X (.type "tuple") (rTupR X.K) := call_tuple_of
theorem r_tupT {K : PySem.W.Frag} {H : Hp} {Q : VK} {a : Addr} {ys : List V} (h : SqT K H a ys) (q : Q (.ref a) H) : rTupR K [.ref a] H Q := ⟨a, ys, rfl, .inr ⟨h, q⟩⟩
theorem r_tupL {K : PySem.W.Frag} {H : Hp} {Q : VK} {a : Addr} {ys : List V} (h : SqL K H a ys) (q : ∀ l, H l = none → Q (.ref l) (upd H l (.tup ys))) : rTupR K [.ref a] H Q := ⟨a, ys, rfl, .inl ⟨h, q⟩⟩
theorem r_tupE {K : PySem.W.Frag} {H : Hp} {Q : VK} {a : Addr} {ys : List V} (h : SqL K H a ys ∨ SqT K H a ys) (q : ∀ H' t, Same H H' → SqT K H' t ys → Q (.ref t) H') : rTupR K [.ref a] H Q := by
  rcases h with h | h
  · exact r_tupL h fun l hl => q _ l (same_upd hl) (.of upd_same)
  · exact r_tupT h (q _ a (Same.refl _) h)
/-- len(x) -/
def rLenR (K : PySem.W.Frag) : List V → Hp → VK → Prop := fun xs H Q => ∃ x n, xs = [x] ∧ LenV K x H n ∧ Q (.int n) H
theorem call_lenR {X : Cx} : CallR X (.builtin "len") (rLenR X.K) := call_len
theorem r_lenL {K : PySem.W.Frag} {H : Hp} {Q : VK} {a : Addr} {ys : List V} (h : SqL K H a ys) (q : Q (.int ys.length) H) : rLenR K [.ref a] H Q := ⟨_, _, rfl, .inl ⟨ys, h, rfl⟩, q⟩
theorem r_lenT {K : PySem.W.Frag} {H : Hp} {Q : VK} {a : Addr} {ys : List V} (h : SqT K H a ys) (q : Q (.int ys.length) H) : rLenR K [.ref a] H Q := ⟨_, _, rfl, .inr ⟨ys, h, rfl⟩, q⟩
theorem r_lenE {K : PySem.W.Frag} {H : Hp} {Q : VK} {a : Addr} {ys : List V} (h : SqL K H a ys ∨ SqT K H a ys) (q : Q (.int ys.length) H) : rLenR K [.ref a] H Q := h.elim (fun z => r_lenL z q) fun z => r_lenT z q
theorem r_lenS {K : PySem.W.Frag} {H : Hp} {Q : VK} {z : Str} (h : z.length ≤ sizeLine) (q : Q (.int z.length) H) : rLenR K [.str z] H Q := ⟨_, _, rfl, ⟨h, rfl⟩, q⟩
/-- list(x) -/
def rListR (K : PySem.W.Frag) : List V → Hp → VK → Prop := fun xs H Q => ∃ p ys, xs = [V.ref p] ∧ (SqL K H p ys ∨ SqT K H p ys) ∧ ∀ l, H l = none → Q (.ref l) (upd H l (.lst ys))
theorem call_listR {X : Cx} : CallR X (.type "list") (rListR X.K) := call_list_of
theorem r_listR {K : PySem.W.Frag} {H : Hp} {Q : VK} {a : Addr} {ys : List V} (h : SqL K H a ys ∨ SqT K H a ys) (q : ∀ l, H l = none → Q (.ref l) (upd H l (.lst ys))) : rListR K [.ref a] H Q := ⟨a, ys, rfl, h, q⟩
/-- list(d) -/
def rListD : List V → Hp → VK → Prop := fun xs H Q => ∃ (a : Addr) (kvs : List (Key × V)), xs = [V.ref a] ∧ Rd H a (.dK kvs) ∧ ∀ p, H p = none → Q (.ref p) (upd H p (.lst (kvs.map fun kv => kV kv.1)))
theorem call_listDR {X : Cx} (hc : X.calm = true) : CallR X (.type "list") rListD := call_listD hc
theorem r_listD {H : Hp} {Q : VK} {a : Addr} {kvs : List (Key × V)} (h : Rd H a (.dK kvs)) (q : ∀ p, H p = none → Q (.ref p) (upd H p (.lst (kvs.map fun kv => kV kv.1)))) : rListD [.ref a] H Q := ⟨a, kvs, rfl, h, q⟩
/-- s in t by one sign, texts joined -/
def rSignIn (neg : Bool) : R2 := fun x y H Q => ∃ (c : Nat) (z : Str), x = .str ⟨#[c]⟩ ∧ y = .str z ∧ Q (.bl (if neg then !decide (c ∈ z.cps.toList) else decide (c ∈ z.cps.toList))) H
theorem op_signIn {X : Cx} : OpR X (compareOp .In) (rSignIn false) := fun pins s σ H x y v u Q I rx ry h => op_in_sign pins s σ H x y v u Q I rx ry h
theorem op_signNotIn {X : Cx} : OpR X (compareOp .NotIn) (rSignIn true) := fun pins s σ H x y v u Q I rx ry h => op_notIn_sign pins s σ H x y v u Q I rx ry h
theorem r_signIn {H : Hp} {Q : VK} {c : Nat} {z : Str} (q : Q (.bl (decide (c ∈ z.cps.toList))) H) : rSignIn false (.str ⟨#[c]⟩) (.str z) H Q := ⟨c, z, rfl, rfl, q⟩
theorem r_signNotIn {H : Hp} {Q : VK} {c : Nat} {z : Str} (q : Q (.bl (!decide (c ∈ z.cps.toList))) H) : rSignIn true (.str ⟨#[c]⟩) (.str z) H Q := ⟨c, z, rfl, rfl, q⟩
theorem r_in {K : PySem.W.Frag} {H : Hp} {Q : VK} {x : V} {a : Addr} {xs : List V} (h : SqL K H a xs ∨ SqT K H a xs) (fx : flatV x = true) (fs : xs.all flatV = true) (q : Q (.bl (inV x xs)) H) : rIn K false x (.ref a) H Q := ⟨a, xs, rfl, h, fx, fs, q⟩
theorem r_notIn {K : PySem.W.Frag} {H : Hp} {Q : VK} {x : V} {a : Addr} {xs : List V} (h : SqL K H a xs ∨ SqT K H a xs) (fx : flatV x = true) (fs : xs.all flatV = true) (q : Q (.bl (!inV x xs)) H) : rIn K true x (.ref a) H Q := ⟨a, xs, rfl, h, fx, fs, q⟩
theorem r_ixL {K : PySem.W.Frag} {H : Hp} {Q : VK} {p : Addr} {xs : List V} {i : Int} {v : V} (h : SqL K H p xs) (e : atI xs i = some v) (q : Q v H) : rIxL K (.ref p) (.int i) H Q := ⟨p, xs, i, v, rfl, rfl, h, e, q⟩
theorem r_ixT {K : PySem.W.Frag} {H : Hp} {Q : VK} {p : Addr} {xs : List V} {i : Int} {v : V} (h : SqT K H p xs) (e : atI xs i = some v) (q : Q v H) : rIxT K (.ref p) (.int i) H Q := ⟨p, xs, i, v, rfl, rfl, h, e, q⟩
theorem r_catR {H : Hp} {Q : VK} {a b : Addr} {xs ys : List V} (ha : H a = some (.lst xs)) (hb : H b = some (.lst ys)) (l : xs.length + ys.length ≤ sizeLine) (q : ∀ p, H p = none → Q (.ref p) (upd H p (.lst (xs ++ ys)))) : rCat (.ref a) (.ref b) H Q := ⟨_, _, _, _, rfl, rfl, ha, hb, l, q⟩
theorem r_appendR {H : Hp} {Q : VK} {l : Addr} {xs : List V} {y : V} (h : H l = some (.lst xs)) (z : xs.length < sizeLine) (q : Q .non (upd H l (.lst (xs ++ [y])))) : rAppend (.ref l) [y] H Q := ⟨l, xs, y, rfl, rfl, h, z, q⟩
theorem r_eqD {K : PySem.W.Frag} {H : Hp} {Q : VK} {x y : V} {d e : PyData} (hx : Dp K H x d) (hy : Dp K H y e) (s1 : SeqAt.shaped d = true) (s2 : SeqAt.shaped e = true) (q : Q (.bl (PyData.eqv d e)) H) : rEqD K x y H Q := ⟨d, e, hx, hy, s1, s2, q⟩
theorem r_neD {K : PySem.W.Frag} {H : Hp} {Q : VK} {x y : V} {d e : PyData} (hx : Dp K H x d) (hy : Dp K H y e) (s1 : SeqAt.shaped d = true) (s2 : SeqAt.shaped e = true) (q : Q (.bl (!PyData.eqv d e)) H) : rNeD K x y H Q := ⟨d, e, hx, hy, s1, s2, q⟩
theorem r_sortS {K : PySem.W.Frag} {H : Hp} {Q : VK} {a : Addr} {xs : List Str} (h : SqL K H a (xs.map V.str)) (l : xs.length < 64) (q : ∀ (ys : List Str) (p : Addr), ys.Perm xs → sortedS ys = true → H p = none → Q (.ref p) (upd H p (.lst (ys.map V.str)))) : rSortedS K [.ref a] H Q := ⟨a, xs, rfl, h, l, q⟩
theorem r_sortI {K : PySem.W.Frag} {H : Hp} {Q : VK} {a : Addr} {xs : List Int} (h : SqL K H a (xs.map V.int)) (l : xs.length < 64) (q : ∀ (ys : List Int) (p : Addr), ys.Perm xs → ys.Pairwise (· ≤ ·) → H p = none → Q (.ref p) (upd H p (.lst (ys.map V.int)))) : rSorted K [.ref a] H Q := ⟨a, xs, rfl, h, l, q⟩
/-- x is None, is not None -/
def rIsNon (neg : Bool) : R2 := fun x y H Q => y = .non ∧ Q (.bl (if neg then !decide (x = .non) else decide (x = .non))) H
theorem op_isNon {X : Cx} : OpR X (compareOp .Is) (rIsNon false) := fun pins s σ H x y v u Q I rx ry h => op_isN pins s σ H x y v u Q I rx ry h
theorem op_isNotNon {X : Cx} : OpR X (compareOp .IsNot) (rIsNon true) := fun pins s σ H x y v u Q I rx ry h => op_notN pins s σ H x y v u Q I rx ry h
theorem r_isNon {H : Hp} {Q : VK} {x : V} (q : Q (.bl (decide (x = .non))) H) : rIsNon false x .non H Q := ⟨rfl, q⟩
theorem r_isNotNon {H : Hp} {Q : VK} {x : V} (q : Q (.bl (!decide (x = .non))) H) : rIsNon true x .non H Q := ⟨rfl, q⟩
/-- s + t of texts -/
theorem r_slL {K : PySem.W.Frag} {H : Hp} {Q : VK} {a : Addr} {xs : List V} {lo hi : Option Int} (h : SqL K H a xs) (q : ∀ p, H p = none → Q (.ref p) (upd H p (.lst (cutV xs lo hi)))) : rSlL K (.ref a) lo hi H Q := ⟨a, xs, rfl, h, q⟩
/-! ### a def's promise with its function object put away; calls by it -/
structure Ok (P : Program) (w : World) (K : PySem.W.Frag) (mg : Str → Option Value) (base : Heap) (CX : CXT) (k : Nat) (f : Addr) (ps : List Str) (sp : Sp) : Prop where
  ex : ∃ fd, FnOk P w K mg base CX k f fd ps sp ∧ Binds K fd ps []
  kp : PySem.W.keepIn K (.ref f) = true
theorem ok_of {P : Program} {w : World} {K : PySem.W.Frag} {mg : Str → Option Value} {base : Heap} {CX : CXT} {k : Nat} {x qual : Str} {params : Arguments} {body : List Stmt} {scope : Scope} {f : Addr} {N ps : List Str} {sp : Sp}
    (F : ∃ fd, FunD K x qual params body scope [] [] f fd) (S : FnScope N ps scope)
    (bd : ∀ (kV doc pm : Value) (an : Option Addr) (cdv ct : Value) (us : List Value), us.length = ps.length → bindArgs (PySem.W.fnOf x qual params body scope .none kV doc pm an cdv ct) ⟨us, []⟩ = pure (ps.zip us))
    (len : ∀ vs H Q E, sp vs H Q E → vs.length = ps.length)
    (hbody : ∀ (cdv : Value) (A : Around) (outer : List Env) (s : Shared) (H : Hp) (vs : List V) (Q : VK) (E : XK), Room k (A.deeper (envOfC qual scope s.heap.objs.size f cdv)) → sp vs H Q E →
      ∃ t, PSs (cxOf CX P w K mg base N qual scope f cdv A outer s H E) body t ∧ t ⟨fun _ H' => Q .non H', Q, fun _ _ => False, fun _ _ => False⟩ (start N vs) H) : Ok P w K mg base CX (k + 1) f ps sp := by
  obtain ⟨fd, F⟩ := F
  exact ⟨⟨fd, F.ok S len hbody, F.bindsN bd⟩, F.kp⟩
theorem Ok.mono {P : Program} {w : World} {K : PySem.W.Frag} {mg : Str → Option Value} {base : Heap} {CX : CXT} {j k : Nat} {f : Addr} {ps : List Str} {sp : Sp} (F : Ok P w K mg base CX j f ps sp) (h : j ≤ k) : Ok P w K mg base CX k f ps sp := by
  obtain ⟨⟨fd, F1, b⟩, kp⟩ := F
  exact ⟨⟨fd, F1.mono h, b⟩, kp⟩
section
variable {X : Cx} {CX : CXT} {k : Nat} {f C : Addr} {ps : List Str} {sp : Sp} {E : XK} {ES : L2.St → XK} {x m : Str} {p pos apos : Pos} {e o : Expr} {es : List Expr} {ta : TE} {t : TA}
theorem pe_callO (F : Ok X.prog X.w X.K X.mg X.base CX k f ps sp) (hr : Room k X.A) (hg : Gl X x) (hm : X.mg x = some (.ref f)) (hx : Passes CX X E) (ha : PA X (e :: es) t) (hdb : (x == ("__debug__" : Str)) = false := by decide)
    (he : starEach (e :: es) X.env = (false, eval e X.env) :: starEach es X.env := by rfl) (hpl : (backTo pos (starEach es X.env)).any (·.1) = false := by rfl) : PE X (.Call (.Name x p) (e :: es) [] pos) (tCall sp [] E t) := by
  obtain ⟨⟨fd, F, b⟩, kp⟩ := F
  exact pe_call F hr hg hm kp b .nil hx ha hdb he hpl
theorem pe_methO {pl : Sem Bool} (he : PE X o ta) (c : Cls X.K C) (hm : Meth X.K C m f) (F : Ok X.prog X.w X.K X.mg X.base CX k f ps sp) (hr : Room k X.A) (hx : Passes CX X E) (ha : PA X (e :: es) t)
    (hst : starEach (e :: es) X.env = (false, eval e X.env) :: starEach es X.env := by rfl) (hpl : (backTo pos (starEach es X.env)).any (·.1) = false := by rfl)
    (ht : eval (.Call (.Attribute o m apos) (e :: es) [] pos) X.env = (do
      let ov ← eval o X.env
      standAt apos.atName
      let (f, first) ← holding [ov] (getMethod ov m pl)
      callWith pos f first (backTo pos (starEach (e :: es) X.env)) (backToKw pos (keywordEach [] X.env))) := by rfl) :
    PE X (.Call (.Attribute o m apos) (e :: es) [] pos) (tMeth C m sp [] E ta t) := by
  obtain ⟨⟨fd, F, b⟩, kp⟩ := F
  exact pe_meth he c hm F hr b .nil hx ha hst hpl ht
theorem pe_meth0O {pl : Sem Bool} (he : PE X o ta) (c : Cls X.K C) (hm : Meth X.K C m f) (F : Ok X.prog X.w X.K X.mg X.base CX k f ps sp) (hr : Room k X.A) (hx : Passes CX X E)
    (ht : eval (.Call (.Attribute o m apos) [] [] pos) X.env = (do
      let ov ← eval o X.env
      standAt apos.atName
      let (f, first) ← holding [ov] (getMethod ov m pl)
      callWith pos f first (backTo pos (starEach [] X.env)) (backToKw pos (keywordEach [] X.env))) := by rfl) :
    PE X (.Call (.Attribute o m apos) [] [] pos) (tMeth C m sp [] E ta tNil) := by
  obtain ⟨⟨fd, F, b⟩, kp⟩ := F
  exact pe_meth0 he c hm F hr b .nil hx ht
theorem pe_makeO (M : Mk X.K C f) (F : Ok X.prog X.w X.K X.mg X.base CX k f ps sp) (hr : Room (k + 1) X.A) (hg : Gl X x) (hm : X.mg x = some (.ref C)) (hx : Passes CX X E) (ha : PA X (e :: es) t) (hdb : (x == ("__debug__" : Str)) = false := by decide)
    (he : starEach (e :: es) X.env = (false, eval e X.env) :: starEach es X.env := by rfl) (hpl : (backTo pos (starEach es X.env)).any (·.1) = false := by rfl) : PE X (.Call (.Name x p) (e :: es) [] pos) (tMake C sp [] E t) := by
  obtain ⟨⟨fd, F, b⟩, kp⟩ := F
  exact pe_make M F hr hg hm b .nil hx ha hdb he hpl
theorem pe_make0O (M : Mk X.K C f) (F : Ok X.prog X.w X.K X.mg X.base CX k f ps sp) (hr : Room (k + 1) X.A) (hg : Gl X x) (hm : X.mg x = some (.ref C)) (hx : Passes CX X E) (hdb : (x == ("__debug__" : Str)) = false := by decide) : PE X (.Call (.Name x p) [] [] pos) (tMake C sp [] E tNil) := by
  obtain ⟨⟨fd, F, b⟩, kp⟩ := F
  exact pe_make0 M F hr hg hm b .nil hx hdb
/-- o.m(e, ..) in a try's body: what is raised is wished for at the slots -/
def tMethS (C : Addr) (m : Str) (sp : Sp) (ES : L2.St → XK) (ta : TE) (t : TA) : TE := fun σ H Q => ta σ H fun x H1 => MethAt C m sp [] (ES σ) t σ x H1 Q
theorem pe_methSO {pl : Sem Bool} (he : PE X o ta) (c : Cls X.K C) (hm : Meth X.K C m f) (F : Ok X.prog X.w X.K X.mg X.base CX k f ps sp) (hr : Room k X.A) (hx : ∀ σ, PassesAt CX X σ (ES σ)) (ha : PA X (e :: es) t)
    (hst : starEach (e :: es) X.env = (false, eval e X.env) :: starEach es X.env := by rfl) (hpl : (backTo pos (starEach es X.env)).any (·.1) = false := by rfl)
    (ht : eval (.Call (.Attribute o m apos) (e :: es) [] pos) X.env = (do
      let ov ← eval o X.env
      standAt apos.atName
      let (f, first) ← holding [ov] (getMethod ov m pl)
      callWith pos f first (backTo pos (starEach (e :: es) X.env)) (backToKw pos (keywordEach [] X.env))) := by rfl) :
    PE X (.Call (.Attribute o m apos) (e :: es) [] pos) (tMethS C m sp ES ta t) := by
  obtain ⟨⟨fd, F, b⟩, kp⟩ := F
  refine ⟨fun pins s σ H Q I h => ?_⟩
  refine PySem.W.methodCall_KW (pl := pl) (thn (he.run pins s σ H _ I h) fun u s1 ⟨x, H1, I1, rx, a, dx, fs, ex, ea, l, q⟩ => ?_) ht
  subst ex
  obtain rfl : u = Value.ref a := rx
  refine getmeth_ok I1 ea c hm l ?_
  refine PySem.W.callWith_K (first := [.ref a]) (h₀ := X.base) I.ok.mod.kin hm.kp (thn (ha.run pos pins s1 σ H1 _ I1 q) fun us s2 ⟨vs, H2, I2, r, q2⟩ => ⟨I2.kIn, ?_⟩) hst hpl
  have q3 : sp (V.ref a :: vs) H2 Q (ES σ) := by
    have z : V.ref a :: (vs ++ []) = V.ref a :: vs := by rw [List.append_nil]
    have q4 : sp (V.ref a :: (vs ++ [])) H2 Q (ES σ) := q2
    rw [z] at q4
    exact q4
  exact run_fnS (us := .ref a :: us) (vs := .ref a :: vs) F hr b (hx σ) I2 (.cons rfl r) q3
/-- C(e, ..) in a try's body -/
def tMakeS (C : Addr) (sp : Sp) (ES : L2.St → XK) (t : TA) : TE := fun σ H Q => t σ H fun vs H1 => ∀ x dx, H1 x = none → H1 dx = none → dx ≠ x → sp (.ref x :: (vs ++ [])) (upd (upd H1 dx (.own x)) x (.ins C dx [])) (fun v H2 => v = .non ∧ Q (.ref x) H2) (ES σ)
theorem pe_makeSO (M : Mk X.K C f) (F : Ok X.prog X.w X.K X.mg X.base CX k f ps sp) (hr : Room (k + 1) X.A) (hg : Gl X x) (hm : X.mg x = some (.ref C)) (hx : ∀ σ, PassesAt CX X σ (ES σ)) (ha : PA X (e :: es) t) (hdb : (x == ("__debug__" : Str)) = false := by decide)
    (he : starEach (e :: es) X.env = (false, eval e X.env) :: starEach es X.env := by rfl) (hpl : (backTo pos (starEach es X.env)).any (·.1) = false := by rfl) : PE X (.Call (.Name x p) (e :: es) [] pos) (tMakeS C sp ES t) := by
  obtain ⟨⟨fd, F, hb⟩, kp⟩ := F
  refine ⟨fun pins s σ H Q I h => ?_⟩
  refine wpAny_Call_Name_kw (ld_glob I hg hm ?_ hdb)
  refine PySem.W.callWith_K (h₀ := X.base) I.ok.mod.kin M.kp (thn (ha.run pos pins s σ H _ I h) fun us s1 ⟨vs, H1, I1, r, q⟩ => ⟨I1.kIn, ?_⟩) he hpl
  have hq := q (s1.heap.objs.size + 1) s1.heap.objs.size (I1.hok.fresh (Nat.le_succ _)) (I1.hok.fresh (Nat.le_refl _)) (Nat.ne_of_lt (Nat.lt_succ_self _))
  have I2 := Inv.made (C := C) I1
  have r2 : Vals (V.ref (s1.heap.objs.size + 1) :: (vs ++ [])) (Value.ref (s1.heap.objs.size + 1) :: (us ++ [])) := .cons rfl (r.append .nil)
  have hl : (Value.ref (s1.heap.objs.size + 1) :: us ++ []).length = ps.length := by
    have e := r2.length
    rw [F.len _ _ _ _ hq] at e
    exact e.symm
  have hbb := hb _ (Value.ref (s1.heap.objs.size + 1) :: us) I2.kIn hl
  rw [List.cons_append] at hbb
  refine wpAny_call (make_map (f := f) I1.kIn M.makes M.init (beq_iff_eq.mp M.fn) (codeAny_mono (F.run _ X.stack _ _ ⟨Value.ref (s1.heap.objs.size + 1) :: us, []⟩ (Value.ref (s1.heap.objs.size + 1) :: (us ++ [])) _ _ (ES σ) (hr.make C us [])
    (I2.env0.make C us []) hbb r2 hq) fun r s' hq' => ?_))
  cases r with
  | error e => exact hx σ pins _ _ e s' I2 hq'
  | ok fl =>
    cases fl with
    | ret u =>
      obtain ⟨v, H', I3, rv, ev, q3⟩ := I2.after hq'
      subst ev
      exact ⟨rv, ⟨V.ref (s1.heap.objs.size + 1), H', I3, rfl, q3⟩⟩
    | next => exact False.elim hq'
    | brk => exact False.elim hq'
    | cont => exact False.elim hq'
/-- a list or a tuple walked -/
def iSeq (K : PySem.W.Frag) (tl : TE) : TI := fun σ H R => tl σ H fun x H1 => ∃ a, x = .ref a ∧ (((∃ xs, SqL K H1 a xs) ∧ R (Itl K a) H1) ∨ ((∃ xs, SqT K H1 a xs) ∧ R (Itt K a) H1))
theorem pi_seq {tg l : Expr} {tl : TE} (hl : PE X l tl) : PI X tg l (iSeq X.K tl) := by
  refine ⟨fun pins s σ H R I h => ?_⟩
  refine thn (hl.run pins s σ H _ I h) fun v s1 ⟨x, H1, I1, r1, q1⟩ => ?_
  obtain ⟨a, e, hq⟩ := q1
  subst e
  cases r1
  rcases hq with ⟨⟨xs, hq⟩, q⟩ | ⟨⟨xs, hq⟩, q⟩
  · obtain ⟨its, rv, p, hz⟩ := I1.list hq
    refine wpAny_pyIter_list p.isList ⟨s1.heap.objs.size, [s1.heap.objs.size], _, _, H1, rfl, I1.kept (t' := s1.toks) fun b o e => Heap.get?_push_of_some _ e, turn_list a _, ⟨_, Heap.get?_push_size _ rfl, rfl, rfl⟩, fun b hb => ?_, q⟩
    obtain rfl := List.mem_singleton.mp hb
    exact I1.fpOk (Nat.le_refl _) (I1.hok.fresh (Nat.le_refl _))
  · obtain ⟨its, rv, p, hz⟩ := I1.tuple hq
    refine wpAny_pyIter_tuple (show s1.heap.IsTuple a its.toArray from p) ⟨s1.heap.objs.size, [s1.heap.objs.size], _, _, H1, rfl, I1.kept (t' := s1.toks) fun b o e => Heap.get?_push_of_some _ e, turn_tuple a _, ⟨_, Heap.get?_push_size _ rfl, rfl, rfl⟩, fun b hb => ?_, q⟩
    obtain rfl := List.mem_singleton.mp hb
    exact I1.fpOk (Nat.le_refl _) (I1.hok.fresh (Nat.le_refl _))
/-- a module's number, text, object by its name -/
theorem pe_gI {i : Int} (hg : Gl X x) (hm : ∃ t, X.mg x = some (.int i t)) (hd : (x == ("__debug__" : Str)) = false := by decide) : PE X (.Name x pos) (tC (.int i)) := by
  obtain ⟨t, hm⟩ := hm
  exact pe_glob hg hm ⟨t, rfl⟩ hd
theorem pe_gS {z : Str} (hg : Gl X x) (hm : ∃ t, X.mg x = some (.str z t)) (hd : (x == ("__debug__" : Str)) = false := by decide) : PE X (.Name x pos) (tC (.str z)) := by
  obtain ⟨t, hm⟩ := hm
  exact pe_glob hg hm ⟨t, rfl⟩ hd
theorem pe_gR {a : Addr} (hg : Gl X x) (hm : X.mg x = some (.ref a)) (hd : (x == ("__debug__" : Str)) = false := by decide) : PE X (.Name x pos) (tC (.ref a)) := pe_glob hg hm rfl hd
end
/-! ### min, max of a tuple of one number; its set -/
theorem alike1 (n : Int) : PySem.W.AlikeAll [PyData.int n] := by
  refine ⟨fun x hx y hy => ?_, fun x hx => ?_⟩
  · rw [List.mem_singleton.mp hx, List.mem_singleton.mp hy]
    rfl
  · rw [List.mem_singleton.mp hx]
    intro z
    cases z
section
variable {X : Cx}
def rT1 (K : PySem.W.Frag) : List V → Hp → VK → Prop := fun vs H Q => ∃ (a : Addr) (n : Int), vs = [V.ref a] ∧ SqT K H a [.int n] ∧ Q (.int n) H
theorem cr_maxT1 (hc : X.calm = true) (hu : X.A.units + 64 < cLine) : CallR X (.builtin "max") (rT1 X.K) := by
  intro pins s σ H vs us Q I r h
  obtain ⟨a, n, rfl, hs, q⟩ := h
  obtain ⟨its, rv, hl, _⟩ := I.tuple hs
  rw [Vals.ref1 r]
  cases rv with
  | cons r1 r2 =>
    cases r2
    obtain ⟨t, rfl⟩ := r1
    refine PySem.W.max_tuple_data (x := .int n) (xs := []) (I.ok.hd hc) hl (ReadsAll.cons (Reads.int n t) ReadsAll.nil) ?_ ?_ fun i v h' tk bs hv hr hk => ?_
    · exact alike1 n
    · first | (show X.A.units + 1 + _ < _; simp only [PyData.depthAll, PyData.depth]; omega) | omega
    · cases hr
      exact ⟨.int n, H, I.kept hk, ⟨_, rfl⟩, q⟩
theorem cr_minT1 (hc : X.calm = true) (hu : X.A.units + 64 < cLine) : CallR X (.builtin "min") (rT1 X.K) := by
  intro pins s σ H vs us Q I r h
  obtain ⟨a, n, rfl, hs, q⟩ := h
  obtain ⟨its, rv, hl, _⟩ := I.tuple hs
  rw [Vals.ref1 r]
  cases rv with
  | cons r1 r2 =>
    cases r2
    obtain ⟨t, rfl⟩ := r1
    refine PySem.W.min_tuple_data (x := .int n) (xs := []) (I.ok.hd hc) hl (ReadsAll.cons (Reads.int n t) ReadsAll.nil) ?_ ?_ fun i v h' tk bs hv hr hk => ?_
    · exact alike1 n
    · first | (show X.A.units + 1 + _ < _; simp only [PyData.depthAll, PyData.depth]; omega) | omega
    · cases hr
      exact ⟨.int n, H, I.kept hk, ⟨_, rfl⟩, q⟩
end
end K54

set_option maxHeartbeats 4000000
/-! len(set(t)) of a tuple of one number; len(set(xs)) of a list of unlike texts -/
namespace K54
open PySem PySem.Spec PyProof.Rows L2
section
variable {X : Cx}
/-- one step into the texts of a set -/
theorem strsNth : ∀ {us : List Value} {xs : List Str}, StrsAre us xs → ∀ {i : Nat} {v : Value}, us[i]? = some v → ∃ x t, xs[i]? = some x ∧ v = .str x t
  | _, _, .nil, i, v, h => absurd h (by simp)
  | _, _, .cons x t r, 0, v, h => ⟨x, t, rfl, (Option.some.inj h).symm⟩
  | _, _, .cons x t r, i + 1, v, h => strsNth r (i := i) h
/-- the loop that fills a set with unlike texts -/
theorem fillTexts {prog : Program} {w : World} {A : Around} {R : Result → Shared → Prop} {it : Addr} {fp wr : List Addr} {G : Array GenState → Array GenState → Prop} {n : Nat} {P : Nat → Value → Prop} {St : Nat → Shared → Prop}
    (W : WalksS prog w A.in1 it fp wr G n P St) (S : Addr) (away : S ∉ fp) (xs : List Str) (nd : xs.Nodup) (len : xs.length = n) (room : n + 1 < scanBound) (each : ∀ i v, P i v → ∃ x t, xs[i]? = some x ∧ v = .str x t) :
    ∀ (left i : Nat) (s : Shared), i + left = n → St i s → s.heap.SetOf (PySem.strKind prog w) S (fun z => decide (z ∈ xs.take i)) i →
      (∀ s', Moved (S :: wr) G s s' → s'.heap.SetOf (PySem.strKind prog w) S (fun z => decide (z ∈ xs)) n → R (.ok (.ret .none)) s') → codeAny (model prog w) A (.builtin "set.update.loop" ⟨[.ref S, .ref it], []⟩) R s := by
  have out : S ∉ wr := fun z => away (W.sub _ z)
  have keepS : ∀ {a b : Shared} {f : Str → Bool} {m : Nat}, Moved wr G a b → a.heap.SetOf (PySem.strKind prog w) S f m → b.heap.SetOf (PySem.strKind prog w) S f m := fun mv q => by
    obtain ⟨ob, e1, e2, e3, q1, q2⟩ := q
    exact ⟨ob, e1, e2, e3, mv.heap S _ out q1, q2⟩
  intro left
  induction left with
  | zero =>
    intro i s hi st q fin
    have ei : i = n := by omega
    subst ei
    refine codeAny_builtin F.entry_set_update_loop ?_
    rw [Around.under_plainId F.plain_set_update_loop _]
    refine wpAny_bind (W.done s _ _ st fun s1 mv => wpAny_pure (fin s1 (mv.mono fun b hb => List.mem_cons_of_mem _ hb) ?_))
    have q1 := keepS mv q
    have whole : xs.take i = xs := List.take_of_length_le (Nat.le_of_eq len)
    rw [whole] at q1
    exact q1
  | succ left ih =>
    intro i s hi st q fin
    have lt : i < n := by omega
    refine codeAny_builtin F.entry_set_update_loop ?_
    rw [Around.under_plainId F.plain_set_update_loop _]
    refine wpAny_bind (W.item i s _ _ lt st fun v s1 pv st1 mv => ?_)
    obtain ⟨x, t, hx, rfl⟩ := each i v pv
    have q1 := keepS mv q
    refine wpAny_bind (wpAny_holding ?_)
    unfold setAdd
    refine wpAny_holding (wpAny_bind ((PySem.strKind prog w).pyHash (k := x) (strKind_is _ _ _ _) ?_))
    refine wpAny_setAddHashed_of (knd := PySem.strKind prog w) (s := { s1 with toks := s1.toks + 1 }) (strKind_is _ _ _ _) rfl q1 (by omega) fun h' same q2 => ?_
    have fresh : x ∉ xs.take i := fun hm => by
      obtain ⟨j, hj, ej⟩ := List.mem_iff_getElem.mp hm
      have lj : j < i := by rw [List.length_take] at hj; omega
      obtain ⟨li, ei⟩ := List.getElem?_eq_some_iff.mp hx
      rw [List.getElem_take] at ej
      exact absurd (ej.trans ei.symm) (List.pairwise_iff_getElem.mp nd j i (by omega) li lj)
    have q3 : h'.SetOf (PySem.strKind prog w) S (fun z => decide (z ∈ xs.take (i + 1))) (i + 1) := by
      refine SetOf_congr q2 (fun z => ?_) ?_
      · rw [List.take_add_one, hx, Bool.eq_iff_iff]
        simp [List.mem_append]
      · simp [fresh]
    refine wpAny_pure ⟨plainId_quiet F.plain_set_update_loop _, ih (i + 1) _ (by omega) (W.frame _ s1 _ _ st1 (Nat.le_succ _) fun b hb o e => ?_) q3 fun s2 mv2 q4 => ?_⟩
    · rw [same.2 b fun z : b = S => away (z ▸ hb)]
      exact e
    · refine fin s2 (Moved.trans W.gtrans ((mv.mono fun b hb => List.mem_cons_of_mem _ hb).then_heap (Nat.le_succ _) fun b o hb e => ?_) mv2) q4
      rw [same.2 b fun z : b = S => hb (z ▸ List.mem_cons_self)]
      exact e
end
section
variable {prog : Program} {w : World} {A : Around} {E : Value → Shared → Prop} {s : Shared}
abbrev newSet (led : Bool) : Obj := { cls := .type "set", dict := none, data := .set #[] 0 (.fresh 0 0 led) }
/-- what set.__init__ leaves of the new set at the heap's end -/
def Filled (prog : Program) (w : World) (s : Shared) (xs : List Str) (s' : Shared) : Prop :=
  ∃ h' tk, s' = { s with heap := h', toks := tk } ∧ h'.SetOf (PySem.strKind prog w) s.heap.objs.size (fun z => decide (z ∈ xs)) xs.length ∧ ∀ b o, s.heap.get? b = some o → h'.get? b = some o
theorem initTexts {l : Addr} {items : Array Value} {xs : List Str} {led : Bool} (hh : A.handled = none) (hl : s.heap.IsList l items) (hi : StrsAre items.toList xs) (nd : xs.Nodup) (room : xs.length + 1 < scanBound) :
    codeAny (model prog w) A (.call (.builtin "set.__init__") ⟨[.ref s.heap.objs.size, .ref l], []⟩) (wants (fun r s' => r = .none ∧ Filled prog w s xs s') E) { s with heap := s.heap.push (newSet led) } := by
  have atS : (s.heap.push (newSet led)).get? s.heap.objs.size = some (newSet led) := Heap.get?_push_size _ rfl
  have tyS : Shared.TypeIs { s with heap := s.heap.push (newSet led) } (.ref s.heap.objs.size) "set" := ⟨_, atS, rfl⟩
  refine codeAny_call_builtin F.called_set.init.plain F.entry_set_init (check_set_init_1 tyS ?_)
  obtain ⟨⟨oc, od, dt, sl⟩, ol, c1, cap, c2⟩ := hl
  dsimp only at c1 c2
  subst c1 c2
  have lS : l < s.heap.objs.size := Heap.lt_size ol
  have ol2 := Heap.get?_push_of_some (newSet led) ol
  have lst : (s.heap.push (newSet led)).IsList l items := ⟨_, ol2, rfl, cap, rfl⟩
  have n1 := F.sub_list_set
  have n2 := F.sub_list_frozenset
  have n3 : (Value.type "list" == Value.type "dict") = false := rfl
  unfold Builtin.«set.__init__» noKeywords Builtin.Frozenset.updateFrom
  generalize hp : pyIter = walker
  wp_walk
  subst hp
  refine wpAny_pyIter_list lst (wpAny_bind (wpAny_runValue ?_))
  have sz : (s.heap.push (newSet led)).objs.size = s.heap.objs.size + 1 := Heap.size_push ..
  have a1 : l ≠ (s.heap.push (newSet led)).objs.size := by
    rw [sz]
    exact Nat.ne_of_lt (Nat.lt_succ_of_lt lS)
  have a2 : s.heap.objs.size ∉ [(s.heap.push (newSet led)).objs.size, l] := by
    rw [sz]
    intro z
    rcases List.mem_cons.mp z with z | z
    · exact absurd z (Nat.ne_of_lt (Nat.lt_succ_self _))
    · exact absurd (List.mem_singleton.mp z) (Nat.ne_of_gt lS)
  have len : xs.length = items.size := by rw [← StrsAre.len_eq hi, Array.length_toList]
  refine fillTexts ((Walks.list (show A.in1.in1.handled = none by simp [hh]) _ l a1 items).toS) s.heap.objs.size a2 xs nd len (by omega) (fun i v hv => strsNth hi (by rw [Array.getElem?_toList]; exact hv)) items.size 0 _ (Nat.zero_add _) ?begin ?start ?done
  case begin => exact ⟨⟨_, Heap.get?_push_size _ rfl, rfl, rfl⟩, lst.push _⟩
  case start =>
    refine SetOf_congr ((setObjOf_fresh (knd := PySem.strKind prog w) led).setOf (Heap.get?_push_of_some _ atS) (by unfold scanBound; omega)) (fun z => ?_) rfl
    simp
  case done =>
    rintro ⟨h', g', d', tk', os'⟩ mv q
    obtain rfl : g' = s.gens := mv.gens
    obtain rfl : d' = s.drawn := mv.drawn
    obtain rfl : os' = s.os := mv.os
    refine wpAny_pure (wpAny_pure ⟨rfl, h', tk', rfl, ?_, fun b o e => ?_⟩)
    · rw [len]
      exact q
    · have lb := Heap.lt_size e
      refine mv.heap b o (fun z => ?_) (Heap.get?_push_of_some _ (Heap.get?_push_of_some _ e))
      rw [sz] at z
      rcases List.mem_cons.mp z with z | z
      · exact absurd z (Nat.ne_of_lt lb)
      · exact absurd (List.mem_singleton.mp z) (Nat.ne_of_lt (Nat.lt_succ_of_lt lb))
theorem callSetTexts {l : Addr} {items : Array Value} {xs : List Str} {Q : Value → Shared → Prop} (hh : A.handled = none) (hl : s.heap.IsList l items) (hi : StrsAre items.toList xs) (nd : xs.Nodup) (room : xs.length + 1 < scanBound)
    (h : ∀ s', Filled prog w s xs s' → Q (.ref s.heap.objs.size) s') : wpAny (model prog w) A (call (.type "set") [.ref l]) Q E s := by
  obtain ⟨c, tl, p1⟩ := F.called_set.mro
  have p2 := F.called_set.made
  have p3 := F.called_set.sub
  have p4 := F.called_set.notType
  have p5 := F.called_set.canCreate
  have p6 := F.typeCall_set_1 (.ref l)
  have p7 := F.called_set.init.lookup
  have p8 := F.called_set.init.bind (.ref s.heap.objs.size)
  refine wpAny_call (codeAny_of_tree ?_)
  show wpAny _ _ (callAny (.type "set") _) _ _ _
  refine wpAny_pure ⟨Code.quiet_builtin _ (by decide +kernel), codeAny_builtin F.entry_type_call ?_⟩
  rw [Around.under_plain (weight_type_call_type "set" [.ref l] []) rfl]
  repeat (any_goals (first | assumption | wp_step))
  refine codeAny_mono (code_set_new_1 (.ref l) (E := E) (Q₁ := fun ob s1 => ∃ led : Bool, ob = .ref s.heap.objs.size ∧ s1 = { s with heap := s.heap.push (newSet led) }) fun led => ⟨led, rfl, rfl⟩) fun r s1 hr => ?_
  rcases r with er | (ob | _ | _ | _) <;> first | exact hr | exact hr.elim | skip
  obtain ⟨led, rfl, rfl⟩ := hr
  have atS : (s.heap.push (newSet led)).get? s.heap.objs.size = some (newSet led) := Heap.get?_push_size _ rfl
  repeat (any_goals (first | assumption | wp_step))
  refine codeAny_mono (initTexts (led := led) (E := E) (by first | exact hh | simp [hh]) hl hi nd room) fun r2 s2 hr2 => ?_
  rcases r2 with er | (u | _ | _ | _) <;> first | exact hr2 | exact hr2.elim | skip
  obtain ⟨rfl, fl⟩ := hr2
  have q := h s2 fl
  repeat (any_goals (first | assumption | wp_step))
end
/-! ### the two calls as rules -/
section
variable {X : Cx}
def tLenSetS (K : PySem.W.Frag) (ta : TE) : TE := fun σ H Q => ta σ H fun x H1 => ∃ (l : Addr) (xs : List Str), x = .ref l ∧ SqL K H1 l (xs.map V.str) ∧ xs.Nodup ∧ xs.length ≤ 1000 ∧ Q (.int xs.length) H1
theorem strsOf : ∀ {ys : List Str} {us : List Value}, Vals (ys.map V.str) us → StrsAre us ys
  | [], _, .nil => .nil
  | y :: ys, _, .cons r t => by
    obtain ⟨k, rfl⟩ := r
    exact .cons y k (strsOf t)
theorem pe_lenSetS {a : Expr} {ta : TE} {p p2 q pos : Pos} (hc : X.calm = true) (hg : Gl X "len") (hm : X.mg "len" = none) (hg2 : Gl X "set") (hm2 : X.mg "set" = none) (ha : PE X a ta)
    (na : starEach [a] X.env = (false, eval a X.env) :: starEach [] X.env := by rfl) : PE X (.Call (.Name "len" p) [.Call (.Name "set" p2) [a] [] q] [] pos) (tLenSetS X.K ta) := by
  refine ⟨fun pins s σ H Q I h => ?_⟩
  refine Call_ (ld_blt I hg hm boot_len (callWith_builtin1 (args_cons ?_ rfl) rfl rfl))
  refine Call_ (ld_blt I hg2 hm2 boot_set (callWith_type1 (args_cons (thn (ha.run pins s σ H _ I h) fun v s1 ⟨x, H1, I1, r1, q1⟩ => args_nil ?_) na) na rfl))
  obtain ⟨l, xs, rfl, hq, nd, le, q1⟩ := q1
  cases r1
  obtain ⟨its, r, pl, hz⟩ := I1.list hq
  refine callSetTexts (I1.ok.hd hc) pl.isList (by simpa using strsOf r) nd (by unfold scanBound; omega) fun s2 fl => args_nil ?_
  obtain ⟨h', tk, rfl, ⟨o, es, ep, t, ho, hex, hd, _, _, _, hf, hn⟩, kp⟩ := fl
  have I2 : Inv X pins σ H1 { s1 with heap := h', toks := tk } := I1.kept kp
  exact call_len_set ho hex hd hf (by rw [hn] <;> omega) ⟨.int xs.length, H1, I2.tok _, ⟨_, by rw [hn]⟩, q1⟩
def tLenSet1 (K : PySem.W.Frag) (ta : TE) : TE := fun σ H Q => ta σ H fun x H1 => ∃ (l : Addr) (n : Int), x = .ref l ∧ SqT K H1 l [.int n] ∧ Q (.int 1) H1
theorem pe_lenSet1 {a : Expr} {ta : TE} {p p2 q pos : Pos} (hc : X.calm = true) (hg : Gl X "len") (hm : X.mg "len" = none) (hg2 : Gl X "set") (hm2 : X.mg "set" = none) (ha : PE X a ta)
    (na : starEach [a] X.env = (false, eval a X.env) :: starEach [] X.env := by rfl) : PE X (.Call (.Name "len" p) [.Call (.Name "set" p2) [a] [] q] [] pos) (tLenSet1 X.K ta) := by
  refine ⟨fun pins s σ H Q I h => ?_⟩
  refine Call_ (ld_blt I hg hm boot_len (callWith_builtin1 (args_cons ?_ rfl) rfl rfl))
  refine Call_ (ld_blt I hg2 hm2 boot_set (callWith_type1 (args_cons (thn (ha.run pins s σ H _ I h) fun v s1 ⟨x, H1, I1, r1, q1⟩ => args_nil ?_) na) na rfl))
  obtain ⟨l, n, rfl, hq, q1⟩ := q1
  cases r1
  obtain ⟨its, r, pl, hz⟩ := I1.tuple hq
  have hit : IntsAre its [n] := by
    cases r with
    | cons r1 r2 =>
      cases r2
      obtain ⟨t, rfl⟩ := r1
      exact .cons n t .nil
  refine call_set_tupI [n] (I1.ok.hd hc) pl (by simpa using hit) (by show 1 + 1 < scanBound; decide) fun h' tk c R hc1 kp => args_nil ?_
  obtain ⟨o, es, ep, t, ho, hex, hd, _, _, mem, _, hf, hn, _⟩ := R
  have one : es.size = 1 := by
    have le : es.size ≤ 1 := by rw [hn]; exact hc1
    have m := (mem n).mp (by simp)
    have : es.size ≠ 0 := fun z => by
      have e : es = #[] := Array.eq_empty_of_size_eq_zero z
      rw [e] at m
      simp at m
    omega
  have I2 : Inv X pins σ H1 { s1 with heap := h', toks := tk } := I1.kept kp
  exact call_len_set ho hex hd hf (by rw [one]; decide) ⟨.int 1, H1, I2.tok _, ⟨_, by rw [one]; rfl⟩, q1⟩
end
end K54

set_option maxHeartbeats 4000000
/-! the promises of the defs -/
namespace K54
open PySem PySem.Spec PyProof.Rows L2
/-! ### letters -/
/-- a list or a tuple of whole numbers -/
def SqI (K : PySem.W.Frag) (H : Hp) (a : Addr) (ns : List Int) : Prop := SqL K H a (ns.map V.int) ∨ SqT K H a (ns.map V.int)
theorem SqI.same {K : PySem.W.Frag} {H H' : Hp} {a : Addr} {ns : List Int} (e : Same H H') (h : SqI K H a ns) : SqI K H' a ns := h.elim (fun z => .inl (e.seq z)) fun z => .inr (Same.sqT e z)
def isSign (n : Int) : Bool := decide (0 ≤ n ∧ n < 97)
def spAreSigns (K : PySem.W.Frag) : Sp := fun vs H Q _ => ∃ (a : Addr) (ns : List Int), vs = [.ref a] ∧ SqI K H a ns ∧ Q (.bl (ns.all isSign)) H
def spIsWay (K : PySem.W.Frag) : Sp := fun vs H Q _ => ∃ (a : Addr) (h : Int), vs = [.ref a] ∧ SqT K H a [.int h] ∧ 0 ≤ h ∧ h < 32 ∧ Q (.bl true) H
def kindsL : List Str := ["news", "part", "had", "ask", "answer"]
def okLetter (kind : Str) (about body : List Int) : Bool := decide (kind ∈ kindsL) && (decide (about.length ≤ 4) && (decide (body.length ≤ 56) && (about.all isSign && body.all isSign)))
/-- a letter as it lies: its parts -/
def LetAtK (K : PySem.W.Frag) (H : Hp) (p : Addr) (n : Int) (w : Addr) (kind : Str) (about body : List Int) : Prop :=
  ∃ ta tb, H p = some (.tup [.int n, .ref w, .str kind, .ref ta, .ref tb]) ∧ SqT K H ta (about.map V.int) ∧ SqT K H tb (body.map V.int)
def letD (n h : Int) (kind : Str) (about body : List Int) : PyData := .tuple [.int n, .tuple [.int h], .str kind, .tuple (about.map .int), .tuple (body.map .int)]
def spMadeLetter (K : PySem.W.Frag) : Sp := fun vs H Q E => ∃ (n h : Int) (w : Addr) (kind : Str) (a b : Addr) (about body : List Int), vs = [.int n, .ref w, .str kind, .ref a, .ref b] ∧ 0 ≤ n ∧ n ≤ 900000 ∧
  H w = some (.tup [.int h]) ∧ 0 ≤ h ∧ h < 32 ∧ SqI K H a about ∧ SqI K H b body ∧ about.length ≤ 1000 ∧ body.length ≤ 1000 ∧
  (okLetter kind about body = true → ∀ H' p, Same H H' → H p = none → H' p ≠ none → LetAtK K H' p n w kind about body → Q (.ref p) H') ∧ (okLetter kind about body = false → E (.ref (He.ga K "BadLetter")) none H)
/-! ### links, queues, wires -/
abbrev fl (fs : List (Str × V)) (f : Str) : Option V := fs.lookup f
def spInit0 (C : Addr) (At : Hp → Addr → Prop) : Sp := fun vs H Q _ => ∃ (p dx : Addr), vs = [.ref p] ∧ H p = some (.ins C dx []) ∧ ∀ H' : Hp, (∀ M : List Addr, (∀ b ∈ M, H b ≠ none ∧ b ≠ p) → At (off M H') p) → (∀ b o, H b = some o → b ≠ p → H' b = some o) → Q .non H'
def LinkAt (K : PySem.W.Frag) (H : Hp) (a : Addr) : Prop := ∃ dx fs, H a = some (.ins (He.ga K "LinkEnd") dx fs) ∧ fl fs "own_pair" = some .non ∧ fl fs "up" = none
def QueueAt (K : PySem.W.Frag) (H : Hp) (a : Addr) : Prop := ∃ dx fs l1 l2 l3, H a = some (.ins (He.ga K "Queue") dx fs) ∧ fl fs "first_row" = some (.ref l1) ∧ fl fs "other_row" = some (.ref l2) ∧ fl fs "under_way" = some (.ref l3) ∧
  fl fs "waiting" = none ∧ H l1 = some (.lst []) ∧ H l2 = some (.lst []) ∧ H l3 = some (.lst [])
def WireAt (K : PySem.W.Frag) (H : Hp) (a : Addr) : Prop := ∃ dx fs lk q g h, H a = some (.ins (He.ga K "Wire") dx fs) ∧ fl fs "house" = some (.int h) ∧ fl fs "link" = some (.ref lk) ∧ fl fs "queue" = some (.ref q) ∧
  fl fs "given" = some (.ref g) ∧ fl fs "many_waiting" = none ∧ LinkAt K H lk ∧ QueueAt K H q ∧ H g = some (.lst [])
theorem LinkAt.same {K : PySem.W.Frag} {H H' : Hp} {a : Addr} (s : Same H H') (h : LinkAt K H a) : LinkAt K H' a := by
  obtain ⟨dx, fs, h1, h2⟩ := h
  exact ⟨dx, fs, s _ _ h1, h2⟩
theorem QueueAt.same {K : PySem.W.Frag} {H H' : Hp} {a : Addr} (s : Same H H') (h : QueueAt K H a) : QueueAt K H' a := by
  obtain ⟨dx, fs, l1, l2, l3, h1, h2, h3, h4, h5, h6, h7, h8⟩ := h
  exact ⟨dx, fs, l1, l2, l3, s _ _ h1, h2, h3, h4, h5, s _ _ h6, s _ _ h7, s _ _ h8⟩
theorem WireAt.same {K : PySem.W.Frag} {H H' : Hp} {a : Addr} (s : Same H H') (h : WireAt K H a) : WireAt K H' a := by
  obtain ⟨dx, fs, lk, q, g, hh, h1, h2, h3, h4, h5, h6, h7, h8, h9⟩ := h
  exact ⟨dx, fs, lk, q, g, hh, s _ _ h1, h2, h3, h4, h5, h6, h7.same s, h8.same s, s _ _ h9⟩
def spLookLate : Sp := fun vs H Q _ => ∃ a : Int, vs = [.int a] ∧ 1 ≤ a ∧ a ≤ 6 ∧ Q .non H
def spLookMeasure : Sp := fun vs H Q _ => ∃ (t : Addr) (a b : Int), vs = [.ref t] ∧ H t = some (.tup [.int a, .int b]) ∧ 1 ≤ a ∧ a ≤ 6 ∧ 0 ≤ b ∧ b ≤ 4 ∧ Q .non H
def spQuietOf : Sp := fun vs H Q _ => ∃ (t : Addr) (a b : Int), vs = [.ref t] ∧ H t = some (.tup [.int a, .int b]) ∧ 1 ≤ a ∧ a ≤ 6 ∧ 0 ≤ b ∧ b ≤ 4 ∧ Q (.int (a + b)) H
def spLinkInit (K : PySem.W.Frag) : Sp := fun vs H Q _ => ∃ (p dx t : Addr) (a b side : Int), vs = [.ref p, .ref t, .int side] ∧ H p = some (.ins (He.ga K "LinkEnd") dx []) ∧ H t = some (.tup [.int a, .int b]) ∧ 1 ≤ a ∧ a ≤ 6 ∧ 0 ≤ b ∧ b ≤ 4 ∧
  ∀ H' : Hp, LinkAt K H' p → (∀ b o, H b = some o → b ≠ p → H' b = some o) → Q .non H'
def spUp (K : PySem.W.Frag) : Sp := fun vs H Q _ => ∃ a : Addr, vs = [.ref a] ∧ LinkAt K H a ∧ Q .non H
def spQWaiting (K : PySem.W.Frag) : Sp := fun vs H Q _ => ∃ a : Addr, vs = [.ref a] ∧ QueueAt K H a ∧ ∀ H' l, Same H H' → H l = none → H' l = some (.lst []) → Q (.ref l) H'
def spWireInit (K : PySem.W.Frag) : Sp := fun vs H Q _ => ∃ (p dx t : Addr) (h a b side : Int), vs = [.ref p, .int h, .ref t, .int side] ∧ H p = some (.ins (He.ga K "Wire") dx []) ∧ H t = some (.tup [.int a, .int b]) ∧ 1 ≤ a ∧ a ≤ 6 ∧ 0 ≤ b ∧ b ≤ 4 ∧
  ∀ H' : Hp, (∀ M : List Addr, (∀ b ∈ M, H b ≠ none ∧ b ≠ p) → WireAt K (off M H') p) → (∀ b o, H b = some o → b ≠ p → H' b = some o) → Q .non H'
def spManyWaiting (K : PySem.W.Frag) : Sp := fun vs H Q _ => ∃ a : Addr, vs = [.ref a] ∧ WireAt K H a ∧ ∀ H', Same H H' → Q (.int 0) H'
/-! ### news and maps -/
def alpha : List Nat := [97, 98, 99, 100, 101, 102, 103, 104, 105, 106, 107, 108, 109, 110, 111, 112, 113, 114, 115, 116, 117, 118, 119, 120, 121, 122]
def okName (z : Str) : Bool := decide (1 ≤ z.length ∧ z.length ≤ 4) && z.cps.toList.all fun c => decide (c ∈ alpha)
def NewsAt (H : Hp) (t : Addr) (h n : Int) (names : List Str) : Prop := ∃ tw tn, H t = some (.tup [.int h, .int n, .ref tw, .ref tn]) ∧ H tw = some (.tup []) ∧ H tn = some (.tup (names.map V.str))
theorem NewsAt.same {H H' : Hp} {t : Addr} {h n : Int} {names : List Str} (s : Same H H') (q : NewsAt H t h n names) : NewsAt H' t h n names := by
  obtain ⟨tw, tn, h1, h2, h3⟩ := q
  exact ⟨tw, tn, s _ _ h1, s _ _ h2, s _ _ h3⟩
def newsD (h n : Int) (names : List Str) : PyData := .tuple [.int h, .int n, .tuple [], .tuple (names.map .str)]
theorem NewsAt.dp {K : PySem.W.Frag} {H : Hp} {t : Addr} {h n : Int} {names : List Str} (q : NewsAt H t h n names) : Dp K H (.ref t) (newsD h n names) := by
  obtain ⟨tw, tn, h1, h2, h3⟩ := q
  exact .tup (.of h1) (.cons (.int _) (.cons (.int _) (.cons (.tup (.of h2) .nil) (.cons (.tup (.of h3) (dpAll_strs names)) .nil))))
structure MapAt (K : PySem.W.Frag) (H : Hp) (m d t : Addr) (h n : Int) (names : List Str) : Prop where
  ob : ∃ dm, H m = some (.ins (He.ga K "Map") dm [("kept_news", .ref d)])
  dc : H d = some (.dK [(Sum.inl h, .ref t)])
  nw : NewsAt H t h n names
theorem MapAt.same {K : PySem.W.Frag} {H H' : Hp} {m d t : Addr} {h n : Int} {names : List Str} (s : Same H H') (q : MapAt K H m d t h n names) : MapAt K H' m d t h n names := by
  obtain ⟨⟨dm, h1⟩, h2, h3⟩ := q
  exact ⟨⟨dm, s _ _ h1⟩, s _ _ h2, h3.same s⟩
def spIsHouse : Sp := fun vs H Q _ => ∃ n : Int, vs = [.int n] ∧ Q (.bl (decide (0 ≤ n ∧ n ≤ 31))) H
def spIsName : Sp := fun vs H Q _ => ∃ z : Str, vs = [.str z] ∧ okName z = true ∧ ∀ H', Same H H' → Q (.bl true) H'
def spLookNear (K : PySem.W.Frag) : Sp := fun vs H Q _ => ∃ (h : Int) (l : Addr), vs = [.int h, .ref l] ∧ SqL K H l [] ∧ ∀ H', Same H H' → Q .non H'
def spLookNames (K : PySem.W.Frag) : Sp := fun vs H Q _ => ∃ (l : Addr) (zs : List Str), vs = [.ref l] ∧ SqL K H l (zs.map V.str) ∧ zs.length ≤ 4 ∧ zs.Nodup ∧ (∀ z ∈ zs, okName z = true) ∧ ∀ H', Same H H' → Q .non H'
def spMadeNews (K : PySem.W.Frag) : Sp := fun vs H Q _ => ∃ (h n : Int) (l z : Addr) (zs : List Str), vs = [.int h, .int n, .ref l, .ref z] ∧ 0 ≤ h ∧ h ≤ 31 ∧ 0 ≤ n ∧ n ≤ 900000 ∧ SqL K H l [] ∧ SqL K H z (zs.map V.str) ∧ zs.length ≤ 4 ∧ zs.Nodup ∧ (∀ z ∈ zs, okName z = true) ∧
  ∀ H' t ys, Same H H' → H t = none → ys.Perm zs → sortedS ys = true → NewsAt H' t h n ys → Q (.ref t) H'
def spMapInit (K : PySem.W.Frag) : Sp := fun vs H Q _ => ∃ (p dx : Addr), vs = [.ref p] ∧ H p = some (.ins (He.ga K "Map") dx []) ∧ ∀ (H' : Hp) (d : Addr), H d = none → H' p = some (.ins (He.ga K "Map") dx [("kept_news", .ref d)]) → H' d = some (.dK []) → (∀ b o, H b = some o → b ≠ p → H' b = some o) → Q .non H'
def spHear (K : PySem.W.Frag) : Sp := fun vs H Q _ => ∃ (m dm d t : Addr) (h n : Int) (rest : List V) (kvs : List (Key × V)), vs = [.ref m, .ref t] ∧ H m = some (.ins (He.ga K "Map") dm [("kept_news", .ref d)]) ∧ H d = some (.dK kvs) ∧ H t = some (.tup (.int h :: .int n :: rest)) ∧
  (kvs = [] ∨ ∃ t0 h0 n0 rest0, kvs = [(Sum.inl h, .ref t0)] ∧ H t0 = some (.tup (.int h0 :: .int n0 :: rest0)) ∧ n0 < n) ∧ Q (.bl true) (upd H d (.dK [(Sum.inl h, .ref t)]))
def spMapNews (K : PySem.W.Frag) : Sp := fun vs H Q _ => ∃ (m d t : Addr) (h n : Int) (names : List Str), vs = [.ref m] ∧ MapAt K H m d t h n names ∧ ∀ H' l, Same H H' → H l = none → H' l = some (.lst [.ref t]) → Q (.ref l) H'
def spMapWires (K : PySem.W.Frag) : Sp := fun vs H Q _ => ∃ (m d t : Addr) (h n : Int) (names : List Str), vs = [.ref m] ∧ MapAt K H m d t h n names ∧ ∀ H' l, Same H H' → H l = none → H' l = some (.lst []) → Q (.ref l) H'
def spMapCopy (K : PySem.W.Frag) : Sp := fun vs H Q _ => ∃ (m d t : Addr) (h n : Int) (names : List Str), vs = [.ref m] ∧ MapAt K H m d t h n names ∧ ∀ H' a d2, Same H H' → H a = none → MapAt K H' a d2 t h n names → Q (.ref a) H'
/-! ### ways -/
def spBeside (K : PySem.W.Frag) : Sp := fun vs H Q _ => ∃ (l : Addr) (h : Int), vs = [.ref l, .int h] ∧ SqL K H l [] ∧ ∀ H' r, Same H H' → H r = none → H' r = some (.lst []) → Q (.ref r) H'
def spLengths (K : PySem.W.Frag) : Sp := fun vs H Q _ => ∃ (l : Addr) (h : Int), vs = [.ref l, .int h] ∧ SqL K H l [] ∧ ∀ H' d, Same H H' → H d = none → H' d = some (.dK [(Sum.inl h, .int 0)]) → Q (.ref d) H'
def spWayOf (K : PySem.W.Frag) : Sp := fun vs H Q _ => ∃ (m d t : Addr) (h n : Int) (names : List Str) (one other : Int), vs = [.ref m, .int one, .int other] ∧ MapAt K H m d t h n names ∧
  (one = other → ∀ H' r wt hl, Same H H' → H r = none → H' r = some (.tup [.str "way", .ref wt, .ref hl]) → H' wt = some (.tup [.int one]) → Q (.ref r) H') ∧
  (one ≠ other → ∀ H' r x, Same H H' → H r = none → H' r = some (.tup [.str "side", .ref x]) → Q (.ref r) H')
/-! ### posts -/
structure PSt where
  own : Int
  made : Int
  called : List Str
  news : List Str
  num : Int
  outD : List PyData
  rowD : List PyData
  grown : Bool
structure PAd where
  p : Addr
  d : Addr
  o : Addr
  r : Addr
def PAd.M (m : PAd) : List Addr := [m.p, m.d, m.o, m.r]
structure PIn where
  dp : Addr
  ll : Addr
  cl : Addr
  mp : Addr
  dm : Addr
  t : Addr
  tl : Addr
  ws : List Addr
  outs : List V
  rows : List V
def pf (own : Int) (lines : Addr) (made : Int) (called chart : Addr) (num : Int) (out rows told : Addr) (grown : Bool) : List (Str × V) :=
  [("own", .int own), ("lines", .ref lines), ("done", .int 0), ("made", .int made), ("called", .ref called), ("chart", .ref chart), ("news_number", .int num), ("out", .ref out), ("rows", .ref rows), ("told", .ref told), ("grown", .bl grown)]
structure PostIn (K : PySem.W.Frag) (H : Hp) (m : PAd) (st : PSt) (i : PIn) : Prop where
  obj : H m.p = some (.ins (He.ga K "Post") i.dp (pf st.own i.ll st.made i.cl i.mp st.num m.o m.r i.tl st.grown))
  dic : H m.d = some (.dK [(Sum.inl st.own, .ref i.t)])
  out : H m.o = some (.lst i.outs)
  row : H m.r = some (.lst i.rows)
  nor : m.o ≠ m.r
  lines : off m.M H i.ll = some (.lst (i.ws.map V.ref))
  wires : ∀ a ∈ i.ws, WireAt K (off m.M H) a
  cal : off m.M H i.cl = some (.lst (st.called.map V.str))
  chart : off m.M H i.mp = some (.ins (He.ga K "Map") i.dm [("kept_news", .ref m.d)])
  nws : NewsAt (off m.M H) i.t st.own st.num st.news
  tld : off m.M H i.tl = some (.lst [])
  outR : DpAll K (off m.M H) i.outs st.outD
  rowR : DpAll K (off m.M H) i.rows st.rowD
  b0 : 0 ≤ st.own ∧ st.own ≤ 31
  b1 : 0 ≤ st.made
  b2 : 0 ≤ st.num
  b3 : st.called.Nodup ∧ sortedS st.called = true ∧ st.called.length ≤ 4 ∧ ∀ z ∈ st.called, okName z = true
  b4 : i.outs.length ≤ 1000 ∧ i.rows.length ≤ 1000
  b5 : i.ws.length ≤ 5
def PostAt (K : PySem.W.Frag) (H : Hp) (m : PAd) (st : PSt) : Prop := ∃ i, PostIn K H m st i
theorem PostIn.same {K : PySem.W.Frag} {H H' : Hp} {m : PAd} {st : PSt} {i : PIn} (s : Same H H') (q : PostIn K H m st i) : PostIn K H' m st i := by
  have z : Same (off m.M H) (off m.M H') := off_same s
  exact ⟨s _ _ q.obj, s _ _ q.dic, s _ _ q.out, s _ _ q.row, q.nor, z _ _ q.lines, fun a ha => (q.wires a ha).same z, z _ _ q.cal, z _ _ q.chart, q.nws.same z, z _ _ q.tld, dpAll_same z _ _ q.outR, dpAll_same z _ _ q.rowR, q.b0, q.b1, q.b2, q.b3, q.b4, q.b5⟩
theorem PostAt.same {K : PySem.W.Frag} {H H' : Hp} {m : PAd} {st : PSt} (s : Same H H') (q : PostAt K H m st) : PostAt K H' m st := let ⟨i, q⟩ := q; ⟨i, q.same s⟩
/-- wires handed in: (house, late, lost, side) -/
structure WrT where
  house : Int
  late : Int
  lost : Int
  side : Int
def WrAt (H : Hp) (v : V) (x : WrT) : Prop := ∃ t mt, v = .ref t ∧ H t = some (.tup [.int x.house, .ref mt, .int x.side]) ∧ H mt = some (.tup [.int x.late, .int x.lost])
def WrL (H : Hp) (l : Addr) (ws : List WrT) : Prop := ∃ vs, H l = some (.lst vs) ∧ Paired (WrAt H) vs ws
def okW (x : WrT) : Prop := 1 ≤ x.late ∧ x.late ≤ 6 ∧ 0 ≤ x.lost ∧ x.lost ≤ 4
def goodH : List Int → List Int → Bool
  | _, [] => true
  | seen, h :: r => decide (0 ≤ h ∧ h ≤ 31) && (decide (h ∉ seen) && goodH (seen ++ [h]) r)
def goodPost (n : Int) (ws : List WrT) : Bool := decide (0 ≤ n ∧ n ≤ 31) && (decide (ws.length ≤ 5) && goodH [n] (ws.map (·.house)))
def spAskHouse (K : PySem.W.Frag) : Sp := fun vs H Q E => ∃ n : Int, vs = [.int n] ∧ (0 ≤ n ∧ n ≤ 31 → Q .non H) ∧ (¬ (0 ≤ n ∧ n ≤ 31) → E (.ref (He.ga K "BadHouse")) none H)
def spAskName (K : PySem.W.Frag) : Sp := fun vs H Q E => ∃ z : Str, vs = [.str z] ∧ z.length ≤ 1000 ∧ (okName z = true → Q .non H) ∧ (okName z = false → E (.ref (He.ga K "BadName")) none H)
def st0 (n : Int) : PSt := ⟨n, 0, [], [], 0, [], [], false⟩
def spPostInit (K : PySem.W.Frag) : Sp := fun vs H Q E => ∃ (p dx l : Addr) (n : Int) (ws : List WrT), vs = [.ref p, .int n, .ref l] ∧ H p = some (.ins (He.ga K "Post") dx []) ∧ WrL H l ws ∧ ws.length ≤ 1000 ∧ (∀ x ∈ ws, okW x) ∧
  (goodPost n ws = false → ∀ H', Same H H' → E (.ref (He.ga K "BadHouse")) none H') ∧
  (goodPost n ws = true → ∀ H' m, m.p = p → (∀ b o, H b = some o → b ≠ p → off m.M H' b = some o) → PostAt K H' m (st0 n) → Q .non H')
/-- a method's promise that asks a post and leaves it -/
def spPost0 (K : PySem.W.Frag) (R : Hp → PAd → PSt → VK → Prop) : Sp := fun vs H Q _ => ∃ (m : PAd) (st : PSt), vs = [.ref m.p] ∧ PostAt K H m st ∧ R H m st Q
def spRowTick (K : PySem.W.Frag) : Sp := spPost0 K fun H _ _ Q => Q (.int 0) H
def spNumber (K : PySem.W.Frag) : Sp := spPost0 K fun H _ st Q => Q (.int st.own) H
def spEvents (K : PySem.W.Frag) : Sp := spPost0 K fun H _ _ Q => ∀ l, H l = none → Q (.ref l) (upd H l (.lst []))
def spBook (K : PySem.W.Frag) : Sp := spPost0 K fun H _ st Q => ∀ H' l, Same H H' → H l = none → Dp K H' (.ref l) (.list st.rowD) → Q (.ref l) H'
def spWaiting (K : PySem.W.Frag) : Sp := spPost0 K fun H _ _ Q => ∀ H', Same H H' → Q (.int 0) H'
def spCame (K : PySem.W.Frag) : Sp := spPost0 K fun H m st Q => ∀ (m' : PAd) H', m'.p = m.p → Same (off m.M H) (off m'.M H') → PostAt K H' m' { st with outD := [] } → Dp K (off m'.M H') (.ref m.o) (.list st.outD) → Q (.ref m.o) H'
def spGrew (K : PySem.W.Frag) : Sp := spPost0 K fun H m st Q => ∀ H', Same (off m.M H) (off m.M H') → PostAt K H' m { st with grown := false } → Q (.bl st.grown) H'
def spMapNow (K : PySem.W.Frag) : Sp := spPost0 K fun H _ st Q => ∀ H' a d2 t, Same H H' → H a = none → MapAt K H' a d2 t st.own st.num st.news → Q (.ref a) H'
def spRenew (K : PySem.W.Frag) : Sp := spPost0 K fun H m st Q => st.num < 900000 ∧ ∀ H', Same (off m.M H) (off m.M H') → PostAt K H' m { st with news := st.called, num := st.num + 1, grown := true } → Q .non H'
def spSpread (K : PySem.W.Frag) : Sp := fun vs H Q _ => ∃ (m : PAd) (st : PSt) (t : Addr), vs = [.ref m.p, .ref t, .non] ∧ PostAt K H m st ∧ Q .non H
def spEnter (K : PySem.W.Frag) : Sp := fun vs H Q _ => ∃ (m : PAd) (st : PSt) (i : PIn) (word : Str) (v : V) (d : PyData), vs = [.ref m.p, .str word, v] ∧ PostIn K H m st i ∧ Dp K (off m.M H) v d ∧ st.rowD.length < 1000 ∧
  ∀ H' rows, Same (off m.M H) (off m.M H') → PostIn K H' m { st with rowD := st.rowD ++ [.tuple [.int 0, .str word, d]] } { i with rows := rows } → Q .non H'
def spOwnLetter (K : PySem.W.Frag) : Sp := fun vs H Q _ => ∃ (m : PAd) (st : PSt) (i : PIn) (w : Addr) (h : Int) (kind : Str) (a b : Addr) (about body : List Int), vs = [.ref m.p, .ref w, .str kind, .ref a, .ref b] ∧ PostIn K H m st i ∧ st.made ≤ 900000 ∧
  off m.M H w = some (.tup [.int h]) ∧ 0 ≤ h ∧ h < 32 ∧ SqI K (off m.M H) a about ∧ SqI K (off m.M H) b body ∧ about.length ≤ 1000 ∧ body.length ≤ 1000 ∧ okLetter kind about body = true ∧
  ∀ H' p, Same (off m.M H) (off m.M H') → PostIn K H' m { st with made := st.made + 1 } i → H p = none → LetAtK K (off m.M H') p st.made w kind about body → Q (.ref p) H'
def spTakeName (K : PySem.W.Frag) : Sp := fun vs H Q E => ∃ (m : PAd) (st : PSt) (z : Str), vs = [.ref m.p, .str z] ∧ PostAt K H m st ∧ st.num < 900000 ∧ z.length ≤ 1000 ∧
  (okName z = true ∧ z ∉ st.called ∧ st.called.length < 4 → ∀ H' ys, Same (off m.M H) (off m.M H') → ys.Perm (st.called ++ [z]) → PostAt K H' m { st with called := ys, news := ys, num := st.num + 1, grown := true } → Q .non H') ∧
  (¬ (okName z = true ∧ z ∉ st.called ∧ st.called.length < 4) → E (.ref (He.ga K "BadName")) none H)
def spDropName (K : PySem.W.Frag) : Sp := fun vs H Q E => ∃ (m : PAd) (st : PSt) (z : Str), vs = [.ref m.p, .str z] ∧ PostAt K H m st ∧ st.num < 900000 ∧
  (z ∈ st.called → ∀ H', Same (off m.M H) (off m.M H') → PostAt K H' m { st with called := st.called.filter fun y => decide (y ≠ z), news := st.called.filter fun y => decide (y ≠ z), num := st.num + 1, grown := true } → Q .non H') ∧
  (z ∉ st.called → E (.ref (He.ga K "BadName")) none H)
def badLet (kind : Str) (about body : List Int) : Prop := okLetter kind about body = false ∨ kind = "news"
def stPut (st : PSt) (d : PyData) : PSt := { st with made := st.made + 1, outD := st.outD ++ [d], rowD := st.rowD ++ [.tuple [.int 0, .str "put", d]] }
def spPost (K : PySem.W.Frag) : Sp := fun vs H Q E => ∃ (m : PAd) (st : PSt) (i : PIn) (goal : Int) (kind : Str) (a b : Addr) (about body : List Int), vs = [.ref m.p, .int goal, .str kind, .ref a, .ref b] ∧ PostIn K H m st i ∧ st.made < 900000 ∧ st.outD.length < 900 ∧ st.rowD.length < 900 ∧
  SqI K (off m.M H) a about ∧ SqI K (off m.M H) b body ∧ about.length ≤ 1000 ∧ body.length ≤ 1000 ∧
  (¬ (0 ≤ goal ∧ goal ≤ 31) → ∀ H', Same H H' → E (.ref (He.ga K "BadHouse")) none H') ∧
  (0 ≤ goal ∧ goal ≤ 31 → badLet kind about body → ∀ H', Same H H' → E (.ref (He.ga K "BadLetter")) none H') ∧
  (0 ≤ goal ∧ goal ≤ 31 → ¬ badLet kind about body → goal ≠ st.own → ∀ H', Same H H' → Q .non H') ∧
  (0 ≤ goal ∧ goal ≤ 31 → ¬ badLet kind about body → goal = st.own → ∀ H' p outs rows, Same (off m.M H) (off m.M H') → PostIn K H' m (stPut st (letD st.made st.own kind about body)) { i with outs := outs, rows := rows } → Dp K (off m.M H') (.ref p) (letD st.made st.own kind about body) → Q (.ref p) H')
/-! ### the law's own defs -/
def bls (l : List Bool) : HO := .lst (l.map V.bl)
def spCellAt (K : PySem.W.Frag) : Sp := fun vs H Q _ => ∃ (a : Addr) (ns : List Int) (k : Nat), vs = [.ref a, .int k] ∧ SqL K H a (ns.map V.int) ∧ ∀ z, Q (.int z) H
def spWhole : Sp := fun vs H Q _ => ∃ i : Int, vs = [.int i] ∧ Q (.bl true) H
/-- int, text, tuples and lists of such, of a depth -/
inductive Plain : Nat → PyData → Prop where
  | int (n : Nat) (i : Int) : Plain n (.int i)
  | str (n : Nat) (x : Str) : Plain n (.str x)
  | lst (n : Nat) (ds : List PyData) (h : ∀ d ∈ ds, Plain n d) (l : ds.length ≤ 1000) : Plain (n + 1) (.list ds)
  | tup (n : Nat) (ds : List PyData) (h : ∀ d ∈ ds, Plain n d) (l : ds.length ≤ 1000) : Plain (n + 1) (.tuple ds)
def spAlike (K : PySem.W.Frag) (n : Nat) : Sp := fun vs H Q _ => ∃ (v u : V) (d : PyData), vs = [v, u] ∧ Dp K H v d ∧ Dp K H u d ∧ Plain n d ∧ Q (.bl true) H
def spMixed : Sp := fun vs H Q _ => ∃ c k : Int, vs = [.int c, .int k] ∧ 0 ≤ k ∧ ∀ z, 0 ≤ z → Q (.int z) H
def spRow (K : PySem.W.Frag) : Sp := fun vs H Q _ => ∃ c many size : Int, vs = [.int c, .int many, .int size] ∧ 0 ≤ many ∧ many ≤ 100 ∧ 0 < size ∧ size < 100000 ∧ ∀ (H' : Hp) (l : Addr) (zs : List Int), Same H H' → H l = none → H' l = some (.lst (zs.map V.int)) → (zs.length : Int) = many → (∀ z ∈ zs, 0 ≤ z ∧ z < size) → Q (.ref l) H'
def spLWires : Sp := fun vs H Q _ => ∃ n c : Int, vs = [.int n, .int c] ∧ 0 ≤ n ∧ n ≤ 31 ∧ ∀ H' l ws, Same H H' → H l = none → WrL H' l ws → goodPost n ws = true → (∀ x ∈ ws, okW x) → Q (.ref l) H'
def spLName : Sp := fun vs H Q _ => ∃ c : Int, vs = [.int c] ∧ ∀ (H' : Hp) (z : Str), Same H H' → z.length ≤ 5 → (∀ c ∈ z.cps.toList, c < 1114112) → Q (.str z) H'
def spNewsRight (K : PySem.W.Frag) : Sp := fun vs H Q _ => ∃ (m : PAd) (st : PSt) (l : Addr) (zs : List Str), vs = [.ref m.p, .int st.own, .int st.num, .ref l] ∧ PostAt K H m st ∧ st.news = st.called ∧ H l = some (.lst (zs.map V.str)) ∧ zs.Perm st.called ∧ ∀ H', Same H H' → Q (.bl true) H'
/-- a bad post's number and wires in a tuple -/
def BadAt (H : Hp) (v : V) : Prop := ∃ t l n ws, v = .ref t ∧ H t = some (.tup [.int n, .ref l]) ∧ WrL H l ws ∧ ws.length ≤ 1000 ∧ (∀ x ∈ ws, okW x) ∧ goodPost n ws = false
def spBadPosts : Sp := fun vs H Q _ => ∃ (n far : Int) (l : Addr) (ws : List WrT), vs = [.int n, .ref l, .int far] ∧ 0 ≤ n ∧ n ≤ 31 ∧ 0 ≤ far ∧ WrL H l ws ∧ ws.length ≤ 1000 ∧ (∀ x ∈ ws, okW x) ∧ ∀ H' r vs', Same H H' → H r = none → H' r = some (.lst vs') → vs'.length ≤ 1000 → (∀ v ∈ vs', BadAt H' v) → Q (.ref r) H'
def spKinds (K : PySem.W.Frag) : Sp := fun vs H Q _ =>
  (∃ (m : PAd) (st : PSt) (z : Str), vs = [.ref m.p, .int 0, .str z] ∧ PostAt K H m st ∧ st.num < 900000 ∧ z.length ≤ 1000 ∧
    (okName z = true ∧ z ∉ st.called ∧ st.called.length < 4 → ∀ H' ys l, Same (off m.M H) (off m.M H') → ys.Perm (st.called ++ [z]) → PostAt K H' m { st with called := ys, news := ys, num := st.num + 1, grown := true } → off m.M H' l = some (bls []) → Q (.ref l) H') ∧
    (¬ (okName z = true ∧ z ∉ st.called ∧ st.called.length < 4) → ∀ H' l, Same H H' → H l = none → H' l = some (bls [true, false, true, false]) → Q (.ref l) H')) ∨
  (∃ (m : PAd) (st : PSt) (z : Str), vs = [.ref m.p, .int 1, .str z] ∧ PostAt K H m st ∧ st.num < 900000 ∧
    (z ∈ st.called → ∀ H' l, Same (off m.M H) (off m.M H') → PostAt K H' m { st with called := st.called.filter fun y => decide (y ≠ z), news := st.called.filter fun y => decide (y ≠ z), num := st.num + 1, grown := true } → off m.M H' l = some (bls []) → Q (.ref l) H') ∧
    (z ∉ st.called → ∀ H' l, Same H H' → H l = none → H' l = some (bls [true, false, true, false]) → Q (.ref l) H')) ∨
  (∃ (p t : V), vs = [p, .int 2, t] ∧ BadAt H t ∧ ∀ H' l, Same H H' → H l = none → H' l = some (bls [false, true, true, false]) → Q (.ref l) H')
def spPostKinds (K : PySem.W.Frag) : Sp := fun vs H Q _ => ∃ (m : PAd) (st : PSt) (goal : Int) (kind : Str) (a b : Addr) (about body : List Int), vs = [.ref m.p, .int goal, .str kind, .ref a, .ref b] ∧ PostAt K H m st ∧ st.made < 900000 ∧ st.outD.length < 900 ∧ st.rowD.length < 900 ∧
  SqI K (off m.M H) a about ∧ SqI K (off m.M H) b body ∧ about.length ≤ 1000 ∧ body.length ≤ 1000 ∧ (¬ (0 ≤ goal ∧ goal ≤ 31) ∨ badLet kind about body) ∧
  (¬ (0 ≤ goal ∧ goal ≤ 31) → ∀ H' l, Same H H' → H l = none → H' l = some (bls [true, false, true, false]) → Q (.ref l) H') ∧
  (0 ≤ goal ∧ goal ≤ 31 → ∀ H' l, Same H H' → H l = none → H' l = some (bls [false, true, true, false]) → Q (.ref l) H')
def spRefused (K : PySem.W.Frag) : Sp := fun vs H Q _ => ∃ (m : PAd) (st : PSt) (c : Int), vs = [.ref m.p, .int c] ∧ 0 ≤ c ∧ PostAt K H m st ∧ st.made < 900000 ∧ st.outD.length < 900 ∧ st.rowD.length < 900 ∧ ∀ H', Same H H' → Q (.bl true) H'
def spOwnRight (K : PySem.W.Frag) : Sp := fun vs H Q _ => ∃ (m : PAd) (st : PSt) (far : Int), vs = [.ref m.p, .int far] ∧ 0 ≤ far ∧ PostAt K H m st ∧ st.made = 0 ∧ st.outD = [] ∧ st.rowD = [] ∧ ∀ H', Q (.bl true) H'
def spLaw (K : PySem.W.Frag) : Sp := fun vs H Q _ => ∃ (a : Addr) (ns : List Int), vs = [.ref a] ∧ SqL K H a (ns.map V.int) ∧ ns.length ≤ 63 ∧ ∀ H', Q (.bl true) H'
end K54

set_option maxHeartbeats 4000000
namespace K54
open PySem PySem.Spec PyProof.Rows L2
section
variable {P : Program} {w : World} {K : PySem.W.Frag} {mg : Str → Option Value} {base : Heap}
/-- the readings of the walks -/
theorem Same.get {H H' : Hp} {b : Addr} {o : HO} (s : Same H H') (h : H b = some o) : H' b = some o := s _ _ h
def IL (K : PySem.W.Frag) (x : V) (H : Hp) (R : It → Hp → Prop) : Prop := ∃ a, x = .ref a ∧ (∃ xs, SqL K H a xs) ∧ R (Itl K a) H
theorem r_iList {K : PySem.W.Frag} {tl : TE} {σ : L2.St} {H : Hp} {R : It → Hp → Prop} (h : tl σ H fun x H1 => IL K x H1 R) : iList K tl σ H R := h
theorem r_iL {K : PySem.W.Frag} {H : Hp} {R : It → Hp → Prop} {a : Addr} {xs : List V} (h : SqL K H a xs) (q : R (Itl K a) H) : IL K (.ref a) H R := ⟨a, rfl, ⟨xs, h⟩, q⟩
def ForAt (g : TG) (tb : TS) (D : Ends) (σ : L2.St) (J : It) (H1 : Hp) : Prop := ∃ W : Nat → Nat → L2.St → Hp → Prop, (∃ m, W 0 m σ H1) ∧ ∀ i m σ H, W i m σ H →
  (J.stop i H ∧ D.nx σ H) ∨ (J.go i H ∧ ∃ N : L2.St → Hp → Prop, (∀ σ' H', N σ' H' → ∃ m', m' < m ∧ W (i + 1) m' σ' H') ∧ ∀ x H', J.yld i H x H' → g x σ H' fun σ2 H2 => tb { D with nx := N, ct := N, bk := D.nx } σ2 H2)
theorem r_for {wi : TI} {g : TG} {tb : TS} {D : Ends} {σ : L2.St} {H : Hp} (h : wi σ H fun J H1 => ForAt g tb D σ J H1) : tFor wi g tb D σ H := h
theorem f_nil {K : PySem.W.Frag} {g : TG} {tb : TS} {D : Ends} {σ : L2.St} {a : Addr} {H : Hp} (h : SqL K H a []) (q : D.nx σ H) : ForAt g tb D σ (Itl K a) H :=
  for_list (xs := []) (fun _ σ1 H1 => σ1 = σ ∧ H1 = H) ⟨rfl, rfl⟩ (fun i σ1 H1 _ e => e.2 ▸ h) (fun i x σ1 H1 e => nomatch e) (fun σ1 H1 ⟨e1, e2⟩ => by subst e1 e2; exact q)
theorem f_nilT {K : PySem.W.Frag} {g : TG} {tb : TS} {D : Ends} {σ : L2.St} {a : Addr} {H : Hp} (h : SqT K H a []) (q : D.nx σ H) : ForAt g tb D σ (Itt K a) H :=
  for_tup (xs := []) (fun _ σ1 H1 => σ1 = σ ∧ H1 = H) ⟨rfl, rfl⟩ (fun i σ1 H1 _ e => e.2 ▸ h) (fun i x σ1 H1 e => nomatch e) (fun σ1 H1 ⟨e1, e2⟩ => by subst e1 e2; exact q)
def LcAt (g : TG) (tt : TT) (te : TE) (vs : List Nat) (σ : L2.St) (Q : VK) (J : It) (H1 : Hp) : Prop := ∀ D, H1 D = none → ∃ W : Nat → Nat → Hp → Prop, (∃ m, W 0 m (upd H1 D (.lst []))) ∧ ∀ i m H, W i m H →
  (J.stop i H ∧ Q (.ref D) H) ∨ (J.go i H ∧ ∃ Nx : Hp → Prop, (∀ H', Nx H' → ∃ m', m' < m ∧ W (i + 1) m' H') ∧ ∀ x H', J.yld i H x H' → g x (wipe σ vs) H' fun σ2 H2 => wipe σ2 vs = wipe σ vs ∧ tt σ2 H2 fun b H3 =>
    if b = true then te σ2 H3 fun y H4 => ∃ acc, H4 D = some (.lst acc) ∧ acc.length < sizeLine ∧ Nx (upd H4 D (.lst (acc ++ [y]))) else Nx H3)
theorem r_lc {wi : TI} {g : TG} {tt : TT} {te : TE} {vs : List Nat} {σ : L2.St} {H : Hp} {Q : VK} (h : wi σ H fun J H1 => LcAt g tt te vs σ Q J H1) : tLc wi g tt te vs σ H Q := h
theorem l_nil {K : PySem.W.Frag} {g : TG} {tt : TT} {te : TE} {vs : List Nat} {σ : L2.St} {Q : VK} {a : Addr} {H : Hp} (h : SqL K H a []) (q : ∀ D, H D = none → Q (.ref D) (upd H D (.lst []))) : LcAt g tt te vs σ Q (Itl K a) H := fun D hD =>
  lc_list (xs := []) (fun _ H1 => H1 = upd H D (.lst [])) rfl (fun i H1 _ e => e ▸ (same_upd hD).seq h) (fun i x H1 e => nomatch e) (fun H1 e => e ▸ q D hD)
theorem l_one {K : PySem.W.Frag} {g : TG} {tt : TT} {te : TE} {vs : List Nat} {σ : L2.St} {Q : VK} {a : Addr} {x : V} {H : Hp} (h : SqL K H a [x])
    (q : ∀ D, H D = none → g x (wipe σ vs) (upd H D (.lst [])) fun σ2 H2 => wipe σ2 vs = wipe σ vs ∧ tt σ2 H2 fun b H3 => if b = true then te σ2 H3 fun y H4 => ∃ acc, H4 D = some (.lst acc) ∧ acc.length < sizeLine ∧ (fun H5 => SqL K H5 a [x] ∧ Q (.ref D) H5) (upd H4 D (.lst (acc ++ [y]))) else SqL K H3 a [x] ∧ Q (.ref D) H3) : LcAt g tt te vs σ Q (Itl K a) H := fun D hD =>
  lc_list (xs := [x]) (fun i H1 => match i with | 0 => H1 = upd H D (.lst []) | _ => SqL K H1 a [x] ∧ Q (.ref D) H1) rfl
    (fun i H1 _ e => match i, e with | 0, e => by have e : H1 = upd H D (.lst []) := e; rw [e]; exact (same_upd hD).seq h | _ + 1, e => e.1)
    (fun i y H1 hx e => match i, hx, e with | 0, hx, e => by cases hx; have e : H1 = upd H D (.lst []) := e; subst e; exact q D hD | _ + 1, hx, _ => nomatch hx) (fun H1 e => e.2)
theorem r_rU {f : Int → V} {i : Int} {H : Hp} {Q : VK} (q : Q (f i) H) : rU f (.int i) H Q := ⟨i, rfl, q⟩
theorem w_no {c : TT} {tb : TS} {nx : L2.St → Hp → Prop} {rt : VK} {bk ct : L2.St → Hp → Prop} {σ : L2.St} {H : Hp} (h : ∀ A : Hp → Prop, c σ H fun b H1 => if b = true then A H1 else nx σ H1) : tWhile c tb ⟨nx, rt, bk, ct⟩ σ H :=
  ⟨fun _ σ1 H1 => σ1 = σ ∧ H1 = H, ⟨0, rfl, rfl⟩, fun m σ1 H1 ⟨e1, e2⟩ => by subst e1 e2; exact h _⟩
theorem made_live {H : Hp} {x dx b : Addr} {o1 o2 : HO} (hb : H b ≠ none) (hx : H x = none) : upd (upd H dx o1) x o2 b ≠ none ∧ b ≠ x := by
  have n : b ≠ x := fun e => by subst e; exact hb hx
  refine ⟨?_, n⟩
  rw [upd_ne n]
  by_cases e : b = dx
  · subst e
    rw [upd_same]
    intro z
    cases z
  · rw [upd_ne e]
    exact hb
theorem upd_live {H : Hp} {p b : Addr} {o : HO} (hb : H b ≠ none) : upd H p o b ≠ none := by
  by_cases e : b = p
  · subst e
    rw [upd_same]
    intro z
    cases z
  · rw [upd_ne e]
    exact hb
theorem same_live {H H' : Hp} {b : Addr} (s : Same H H') (hb : H b ≠ none) : H' b ≠ none := by
  cases e : H b with
  | none => exact absurd e hb
  | some o =>
    rw [s _ _ e]
    intro z
    cases z
theorem live {H : Hp} {b : Addr} {o : HO} (e : H b = some o) : H b ≠ none := by
  rw [e]
  intro z
  cases z
theorem off_fresh {M : List Addr} {H : Hp} {q : Addr} (n : H q = none) : Same (off M H) (off (q :: M) H) := fun b u e => by
  obtain ⟨e1, e2⟩ := off_some e
  exact off_of e1 fun hb => (List.mem_cons.mp hb).elim (ne_of_none e1 n) e2
theorem free_back {H : Hp} {p b : Addr} {o : HO} (h : upd H p o b = none) : H b = none := by
  have n : b ≠ p := fun e => by
    subst e
    rw [upd_same] at h
    cases h
  rw [upd_ne n] at h
  exact h
theorem free_same {H H' : Hp} {b : Addr} (s : Same H H') (h : H' b = none) : H b = none := by
  cases e : H b with
  | none => rfl
  | some o => rw [s _ _ e] at h; cases h
theorem off_alloc {M M' : List Addr} {H : Hp} {q : Addr} {o : HO} (n : H q = none) (s : ∀ b ∈ M', b = q ∨ b ∈ M) : Same (off M H) (off M' (upd H q o)) := fun b u e => by
  obtain ⟨e1, e2⟩ := off_some e
  have nb : b ≠ q := ne_of_none e1 n
  exact off_of (by rw [upd_ne nb]; exact e1) fun hb => (s b hb).elim nb e2
theorem off_put {M M' : List Addr} {H : Hp} {q : Addr} {o : HO} (h : q ∈ M) (s : ∀ b ∈ M', b ∈ M) : Same (off M H) (off M' (upd H q o)) := fun b u e => by
  obtain ⟨e1, e2⟩ := off_some e
  exact off_of (by rw [upd_ne fun z => e2 (by rw [z]; exact h)]; exact e1) fun hb => e2 (s b hb)
theorem off_mono {M M' : List Addr} {H : Hp} (s : ∀ b ∈ M', b ∈ M) : Same (off M H) (off M' H) := fun b u e => by
  obtain ⟨e1, e2⟩ := off_some e
  exact off_of e1 fun hb => e2 (s b hb)
theorem LinkAt.offM {M : List Addr} {H : Hp} {a : Addr} (n : a ∉ M) (h : LinkAt K H a) : LinkAt K (off M H) a := by
  obtain ⟨dx, fs, h1, h2⟩ := h
  exact ⟨dx, fs, off_of h1 n, h2⟩
theorem made_same {H H' : Hp} {x dx : Addr} {o1 o2 : HO} (hx : H x = none) (hd : H dx = none) (keep : ∀ b o, upd (upd H dx o1) x o2 b = some o → b ≠ x → H' b = some o) : Same H H' := fun b o e =>
  keep b o (by rw [upd_ne (ne_of_none e hx), upd_ne (ne_of_none e hd)]; exact e) (ne_of_none e hx)
theorem ne_li {H : Hp} {a b C dx : Addr} {fs : List (Str × V)} {xs : List V} (h : H a = some (.lst xs)) (h' : H b = some (.ins C dx fs)) : a ≠ b := fun e => by
  subst e
  cases h.symm.trans h'
theorem LinkAt.put {H : Hp} {a p : Addr} {o : HO} (n : a ≠ p) (h : LinkAt K H a) : LinkAt K (upd H p o) a := by
  obtain ⟨dx, fs, h1, h2⟩ := h
  exact ⟨dx, fs, by rw [upd_ne n]; exact h1, h2⟩
theorem QueueAt.put {H : Hp} {a p C dx : Addr} {fs : List (Str × V)} {o : HO} (n : a ≠ p) (hp : H p = some (.ins C dx fs)) (h : QueueAt K H a) : QueueAt K (upd H p o) a := by
  obtain ⟨dx, fs, l1, l2, l3, h1, h2, h3, h4, h5, h6, h7, h8⟩ := h
  exact ⟨dx, fs, l1, l2, l3, by rw [upd_ne n]; exact h1, h2, h3, h4, h5, by rw [upd_ne (ne_li h6 hp)]; exact h6, by rw [upd_ne (ne_li h7 hp)]; exact h7, by rw [upd_ne (ne_li h8 hp)]; exact h8⟩
def IT (K : PySem.W.Frag) (x : V) (H : Hp) (R : It → Hp → Prop) : Prop := ∃ a, x = .ref a ∧ (∃ xs, SqT K H a xs) ∧ R (Itt K a) H
theorem r_iTup {tl : TE} {σ : L2.St} {H : Hp} {R : It → Hp → Prop} (h : tl σ H fun x H1 => IT K x H1 R) : iTup K tl σ H R := h
theorem r_iT {H : Hp} {R : It → Hp → Prop} {a : Addr} {xs : List V} (h : SqT K H a xs) (q : R (Itt K a) H) : IT K (.ref a) H R := ⟨a, rfl, ⟨xs, h⟩, q⟩
def IS (x : V) (H : Hp) (R : It → Hp → Prop) : Prop := ∃ z, x = .str z ∧ R (Its z) H
theorem r_iStr {tl : TE} {σ : L2.St} {H : Hp} {R : It → Hp → Prop} (h : tl σ H fun x H1 => IS x H1 R) : iStr tl σ H R := h
theorem r_iS {H : Hp} {R : It → Hp → Prop} {z : Str} (q : R (Its z) H) : IS (.str z) H R := ⟨z, rfl, q⟩
def IK (x : V) (H : Hp) (R : It → Hp → Prop) : Prop := ∃ d o, x = .ref d ∧ ((∃ kvs, H d = some (.frz o (.dK kvs)) ∧ R (Itk d o kvs) H) ∨ ∃ kvs, H d = some (.frz o (.dT kvs)) ∧ R (Itkt d o kvs) H)
theorem r_iKeys {tl : TE} {σ : L2.St} {H : Hp} {R : It → Hp → Prop} (h : tl σ H fun x H1 => IK x H1 R) : iKeys tl σ H R := h
theorem r_iK {H : Hp} {R : It → Hp → Prop} {d : Addr} {o : Obj} {kvs : List (Key × V)} (h : H d = some (.frz o (.dK kvs))) (q : R (Itk d o kvs) H) : IK (.ref d) H R := ⟨d, o, rfl, .inl ⟨kvs, h, q⟩⟩
/-- a[y], y in a by values -/
def DGetAt (x y : V) (H : Hp) (Q : VK) : Prop := ∃ a v, x = .ref a ∧ DGet H a y (some v) ∧ Q v H
theorem r_dget {td ty : TE} {σ : L2.St} {H : Hp} {Q : VK} (h : td σ H fun x H1 => ty σ H1 fun y H2 => DGetAt x y H2 Q) : tDGet td ty σ H Q := h
theorem r_dgetAt {H : Hp} {Q : VK} {a : Addr} {kvs : List (Key × V)} {k : Key} {v : V} (e : Rd H a (.dK kvs)) (g : valV kvs k = some v) (q : Q v H) : DGetAt (.ref a) (kV k) H Q := ⟨a, v, rfl, .inl ⟨kvs, k, e, rfl, g.symm⟩, q⟩
theorem r_dgetI {H : Hp} {Q : VK} {a : Addr} {kvs : List (Key × V)} {k : Int} {v : V} (e : Rd H a (.dK kvs)) (g : valV kvs (Sum.inl k) = some v) (q : Q v H) : DGetAt (.ref a) (.int k) H Q := r_dgetAt (k := Sum.inl k) e g q
def DInAt (x y : V) (H : Hp) (Q : VK) : Prop := ∃ a o, x = .ref a ∧ DGet H a y o ∧ Q (.bl o.isSome) H
theorem r_din {td ty : TE} {σ : L2.St} {H : Hp} {Q : VK} (h : ty σ H fun y H1 => td σ H1 fun x H2 => DInAt x y H2 Q) : tDIn ty td σ H Q := h
theorem r_dinI {H : Hp} {Q : VK} {a : Addr} {kvs : List (Key × V)} {k : Int} (e : Rd H a (.dK kvs)) (q : Q (.bl (valV kvs (Sum.inl k)).isSome) H) : DInAt (.ref a) (.int k) H Q := ⟨a, _, rfl, .inl ⟨kvs, Sum.inl k, e, rfl, rfl⟩, q⟩
def DNotInAt (x y : V) (H : Hp) (Q : VK) : Prop := ∃ a o, x = .ref a ∧ DGet H a y o ∧ Q (.bl (!o.isSome)) H
theorem r_dnotin {td ty : TE} {σ : L2.St} {H : Hp} {Q : VK} (h : ty σ H fun y H1 => td σ H1 fun x H2 => DNotInAt x y H2 Q) : tDNotIn ty td σ H Q := h
theorem r_dnotinI {H : Hp} {Q : VK} {a : Addr} {kvs : List (Key × V)} {k : Int} (e : Rd H a (.dK kvs)) (q : Q (.bl (!(valV kvs (Sum.inl k)).isSome)) H) : DNotInAt (.ref a) (.int k) H Q := ⟨a, _, rfl, .inl ⟨kvs, Sum.inl k, e, rfl, rfl⟩, q⟩
def DPutAt (x y v : V) (H : Hp) (q : Hp → Prop) : Prop := ∃ a H4, x = .ref a ∧ DPut H a y v H4 ∧ q H4
theorem r_dput {td ty tv : TE} {D : Ends} {σ : L2.St} {H : Hp} (h : tv σ H fun v H1 => td σ H1 fun x H2 => ty σ H2 fun y H3 => DPutAt x y v H3 (D.nx σ)) : sDPut td ty tv D σ H := h
theorem r_dputI {H : Hp} {v : V} {q : Hp → Prop} {a : Addr} {kvs : List (Key × V)} {k : Int} (e : H a = some (.dK kvs)) (l : kvs.length < sizeLine) (h : q (upd H a (.dK (putK kvs (Sum.inl k) v)))) : DPutAt (.ref a) (.int k) v H q := ⟨a, _, rfl, DPut.k (k := Sum.inl k) e l, h⟩
theorem r_dnew {σ : L2.St} {H : Hp} {Q : VK} (h : ∀ p, H p = none → Q (.ref p) (upd H p (.dK []))) : tDNewK σ H Q := h
def DispEnd (p : Addr) (Q : VK) (ps : List (V × V)) (H2 : Hp) : Prop := H2 p = some (.dK []) ∧ ∃ kvs : List (Key × V), ps = kvs.map (fun kv => (kV kv.1, kv.2)) ∧ kvs.length ≤ 15 ∧ Q (.ref p) (upd H2 p (.dK (mergeK [] kvs)))
theorem r_disp {trs : List (TE × TE)} {σ : L2.St} {H : Hp} {Q : VK} (h : ∀ p, H p = none → tPairs trs σ (upd H p (.dK [])) (DispEnd p Q)) : tDisp trs σ H Q := h
theorem r_pcons {tk tv : TE} {r : List (TE × TE)} {σ : L2.St} {H : Hp} {Q : List (V × V) → Hp → Prop} (h : tk σ H fun x H1 => tv σ H1 fun y H2 => tPairs r σ H2 fun ps H3 => Q ((x, y) :: ps) H3) : tPairs ((tk, tv) :: r) σ H Q := h
theorem r_pnil {σ : L2.St} {H : Hp} {Q : List (V × V) → Hp → Prop} (h : Q [] H) : tPairs [] σ H Q := h
theorem r_disp1 {p : Addr} {Q : VK} {k : Int} {v : V} {H : Hp} (h : H p = some (.dK [])) (q : Q (.ref p) (upd H p (.dK [(Sum.inl k, v)]))) : DispEnd p Q [(.int k, v)] H := ⟨h, [(Sum.inl k, v)], rfl, by show 1 ≤ 15; decide, q⟩
theorem if_nb {b : Bool} {A B : Prop} (h1 : b = false → A) (h2 : b = true → B) : if (!b) = true then A else B := by
  cases b with
  | true => exact h2 rfl
  | false => exact h1 rfl
/-- a for over a walk -/
theorem f_it {J : It} {n : Nat} {G : Hp → Prop} {Y : Nat → Hp → V → Hp → Prop} (w : Walk J n G Y) {g : TG} {tb : TS} {D : Ends} {σ : L2.St} {H : Hp} (Pv : Nat → L2.St → Hp → Prop) (h0 : Pv 0 σ H) (hG : ∀ i σ H, i ≤ n → Pv i σ H → G H)
    (hs : ∀ i x σ H H', i < n → Pv i σ H → Y i H x H' → g x σ H' fun σ2 H2 => tb ⟨Pv (i + 1), D.rt, D.nx, Pv (i + 1)⟩ σ2 H2) (hd : ∀ σ H, Pv n σ H → D.nx σ H) : ForAt g tb D σ J H := for_it w Pv h0 hG hs hd
theorem f_list {g : TG} {tb : TS} {nx : L2.St → Hp → Prop} {rt : VK} {bk ct : L2.St → Hp → Prop} {σ : L2.St} {a : Addr} {xs : List V} {H : Hp} (Pv : Nat → L2.St → Hp → Prop) (h0 : Pv 0 σ H) (hl : ∀ i σ H, i ≤ xs.length → Pv i σ H → SqL K H a xs)
    (hs : ∀ i x σ H, xs[i]? = some x → Pv i σ H → g x σ H fun σ2 H2 => tb ⟨Pv (i + 1), rt, nx, Pv (i + 1)⟩ σ2 H2) (hd : ∀ σ H, Pv xs.length σ H → nx σ H) : ForAt g tb ⟨nx, rt, bk, ct⟩ σ (Itl K a) H := for_list (K := K) Pv h0 hl hs hd
theorem f_str {g : TG} {tb : TS} {nx : L2.St → Hp → Prop} {rt : VK} {bk ct : L2.St → Hp → Prop} {σ : L2.St} {z : Str} {H : Hp} (Pv : Nat → L2.St → Hp → Prop) (h0 : Pv 0 σ H)
    (hs : ∀ i c σ H, z.cps.toList[i]? = some c → Pv i σ H → g (.str ⟨#[c]⟩) σ H fun σ2 H2 => tb ⟨Pv (i + 1), rt, nx, Pv (i + 1)⟩ σ2 H2) (hd : ∀ σ H, Pv z.length σ H → nx σ H) : ForAt g tb ⟨nx, rt, bk, ct⟩ σ (Its z) H := by
  refine f_it (D := ⟨nx, rt, bk, ct⟩) walk_str Pv h0 (fun _ _ _ _ _ => trivial) (fun i x σ H H' _ p y => ?_) hd
  obtain ⟨rfl, c, hc, rfl⟩ := y
  exact hs i c σ _ (by rw [Array.getElem?_toList]; exact hc) p
theorem l_it {J : It} {n : Nat} {G : Hp → Prop} {Y : Nat → Hp → V → Hp → Prop} (w : Walk J n G Y) {g : TG} {tt : TT} {te : TE} {vs : List Nat} {σ : L2.St} {Q : VK} {H : Hp} (Pv : Addr → Nat → Hp → Prop) (h0 : ∀ D, H D = none → Pv D 0 (upd H D (.lst []))) (hG : ∀ D i H, i ≤ n → Pv D i H → G H)
    (hs : ∀ D i x H H', i < n → Pv D i H → Y i H x H' → g x (wipe σ vs) H' fun σ2 H2 => wipe σ2 vs = wipe σ vs ∧ tt σ2 H2 fun b H3 =>
      if b = true then te σ2 H3 fun y H4 => ∃ acc, H4 D = some (.lst acc) ∧ acc.length < sizeLine ∧ Pv D (i + 1) (upd H4 D (.lst (acc ++ [y]))) else Pv D (i + 1) H3) (hd : ∀ D H, Pv D n H → Q (.ref D) H) : LcAt g tt te vs σ Q J H := fun D hD =>
  lc_it w (Pv D) (h0 D hD) (hG D) (hs D) (hd D)
theorem room1 {k : Nat} {A : Around} (r : Room k A) : A.units + 1 < cLine := by have := r.un; omega
theorem r_yes {σ : L2.St} {H : Hp} {QT : Bool → Hp → Prop} (h : QT true H) : tYes σ H QT := h
theorem r_ends {D : Ends} {t : TS} {σ : L2.St} {H : Hp} (h : t ⟨D.nx, D.rt, D.bk, D.ct⟩ σ H) : t D σ H := h
theorem same_back {H H' : Hp} {p : Addr} {o : HO} (s : Same (upd H p o) H') (n : H p = none) : Same H H' := (same_upd n).trans s
/-- a new list filled by a comprehension: what stood stands -/
theorem same_re {H H1 : Hp} {p : Addr} {o : HO} (n : H p = none) (s : Same H H1) : Same H (upd H1 p o) := fun b u e => by
  rw [upd_ne (ne_of_none e n)]
  exact s _ _ e
theorem r_mulR {f : Int → Int → V} {i j : Int} {H : Hp} {Q : VK} (a : -(2 ^ 64) < j) (b : j < 2 ^ 64) (q : Q (f i j) H) : rI CMul f (.int i) (.int j) H Q := r_I (.inr ⟨a, b⟩) q
theorem r_mulL {f : Int → Int → V} {i j : Int} {H : Hp} {Q : VK} (a : -(2 ^ 64) < i) (b : i < 2 ^ 64) (q : Q (f i j) H) : rI CMul f (.int i) (.int j) H Q := r_I (.inl ⟨a, b⟩) q
theorem r_mod {f : Int → Int → V} {i j : Int} {H : Hp} {Q : VK} (a : 0 < j) (q : Q (f i j) H) : rI (fun _ j => 0 < j) f (.int i) (.int j) H Q := r_I a q
theorem r_div {f : Int → Int → V} {i j : Int} {H : Hp} {Q : VK} (a : 0 < j) (b : j < 1073741824) (q : Q (f i j) H) : rI CDiv f (.int i) (.int j) H Q := r_I ⟨a, b⟩ q
theorem r_pow18 {H : Hp} {Q : VK} (q : Q (.int 1000000000000000000) H) : rI CPow (fun i j => .int (i ^ j.toNat)) (.int 10) (.int 18) H Q := r_I ⟨by decide, by decide, by decide⟩ q
theorem r_pow40 {H : Hp} {Q : VK} (q : Q (.int 10000000000000000000000000000000000000000) H) : rI CPow (fun i j => .int (i ^ j.toNat)) (.int 10) (.int 40) H Q := r_I ⟨by decide, by decide, by decide⟩ q
theorem r_pow60 {H : Hp} {Q : VK} (q : Q (.int 1000000000000000000000000000000000000000000000000000000000000) H) : rI CPow (fun i j => .int (i ^ j.toNat)) (.int 10) (.int 60) H Q := r_I ⟨by decide, by decide, by decide⟩ q
def RngAt (vs : List V) (H : Hp) (R : It → Hp → Prop) : Prop := ∃ j : Int, vs = [.int j] ∧ -(2 ^ 62) ≤ j ∧ j < 2 ^ 62 ∧ R (Itr 0 j.toNat) H
theorem r_rng {ta : TA} {σ : L2.St} {H : Hp} {R : It → Hp → Prop} (h : ta σ H fun vs H1 => RngAt vs H1 R) : iRng1 ta σ H R := h
theorem r_rngI {j : Int} {n : Nat} {H : Hp} {R : It → Hp → Prop} (e : j = n) (b : n < 1000000) (q : R (Itr 0 n) H) : RngAt [.int j] H R := by
  subst e
  exact ⟨_, rfl, by omega, by omega, by rw [Int.toNat_natCast]; exact q⟩
theorem f_rng {n : Nat} {g : TG} {tb : TS} {nx : L2.St → Hp → Prop} {rt : VK} {bk ct : L2.St → Hp → Prop} {σ : L2.St} {H : Hp} (Pv : Nat → L2.St → Hp → Prop) (h0 : Pv 0 σ H)
    (hs : ∀ (i : Nat) σ H, i < n → Pv i σ H → g (.int i) σ H fun σ2 H2 => tb ⟨Pv (i + 1), rt, nx, Pv (i + 1)⟩ σ2 H2) (hd : ∀ σ H, Pv n σ H → nx σ H) : ForAt g tb ⟨nx, rt, bk, ct⟩ σ (Itr 0 n) H :=
  for_range (lo := 0) (n := n) Pv h0 (fun i σ H hi p => by rw [Int.zero_add]; exact hs i σ H hi p) hd
theorem r_tm1 {r : V → List V → Hp → VK → Prop} {to te : TE} {σ : L2.St} {H : Hp} {Q : VK} (h : to σ H fun x H1 => (∃ a, x = .str a) ∧ te σ H1 fun y H2 => r x [y] H2 Q) : tM1 r to te σ H Q := h
/-- isinstance by the type -/
theorem r_isi {K : PySem.W.Frag} {H : Hp} {Q : VK} {x : V} {a b : String} {r : Bool} (ty : TyX K H x (.type a)) (k : L2.kitB a b = some r) (q : Q (.bl r) H) : rIsi K [x, .ty b] H Q := ⟨x, .ty b, .type a, .type b, r, rfl, .ty b, ty, L2.kit_ty k, q⟩
theorem r_isBl {a b : Bool} {H : Hp} {Q : VK} (q : Q (.bl (decide (a = b))) H) : rIsB (.bl a) (.bl b) H Q := ⟨a, b, rfl, rfl, q⟩
theorem r_notBl {a b : Bool} {H : Hp} {Q : VK} (q : Q (.bl (!decide (a = b))) H) : rNotB (.bl a) (.bl b) H Q := ⟨a, b, rfl, rfl, q⟩
theorem r_noPart {σ : L2.St} {H : Hp} {Q : Option Int → Hp → Prop} (q : Q none H) : tNoPart σ H Q := q
theorem r_part {te : TE} {σ : L2.St} {H : Hp} {Q : Option Int → Hp → Prop} (q : te σ H fun x H1 => ∃ i, x = .int i ∧ Q (some i) H1) : tPart te σ H Q := q
theorem r_partI {i : Int} {q : Option Int → Prop} (h : q (some i)) : ∃ j, V.int i = .int j ∧ q (some j) := ⟨i, rfl, h⟩
/-- new objects on a heap with its own name -/
def NTup (xs : List V) (H : Hp) (Q : VK) : Prop := xs.length ≤ sizeLine ∧ ∀ p, H p = none → Q (.ref p) (upd H p (.tup xs))
def NLst (xs : List V) (H : Hp) (Q : VK) : Prop := xs.length ≤ sizeLine ∧ ∀ p, H p = none → Q (.ref p) (upd H p (.lst xs))
theorem r_tupN {tr : TA} {σ : L2.St} {H : Hp} {Q : VK} (h : tr σ H fun xs H1 => NTup xs H1 Q) : tTup tr σ H Q := h
theorem r_lstN {tr : TA} {σ : L2.St} {H : Hp} {Q : VK} (h : tr σ H fun xs H1 => NLst xs H1 Q) : tLst tr σ H Q := h
theorem n_tup {H : Hp} {Q : VK} {xs : List V} (l : xs.length ≤ sizeLine) (h : ∀ H' p, Same H H' → H p = none → H' p = some (.tup xs) → Q (.ref p) H') : NTup xs H Q := ⟨l, fun p n => h _ p (same_upd n) n upd_same⟩
theorem n_lst {H : Hp} {Q : VK} {xs : List V} (l : xs.length ≤ sizeLine) (h : ∀ H' p, Same H H' → H p = none → H' p = some (.lst xs) → Q (.ref p) H') : NLst xs H Q := ⟨l, fun p n => h _ p (same_upd n) n upd_same⟩
theorem n_cat {H : Hp} {Q : VK} {a b : Addr} {xs ys : List V} (ha : H a = some (.lst xs)) (hb : H b = some (.lst ys)) (l : xs.length + ys.length ≤ sizeLine) (q : ∀ H' p, Same H H' → H p = none → H' p = some (.lst (xs ++ ys)) → Q (.ref p) H') : rCat (.ref a) (.ref b) H Q := ⟨_, _, _, _, rfl, rfl, ha, hb, l, fun p n => q _ p (same_upd n) n upd_same⟩
theorem r_methS {C : Addr} {m : Str} {sp : Sp} {ES : L2.St → XK} {ta : TE} {t : TA} {σ : L2.St} {H : Hp} {Q : VK} (h : ta σ H fun x H1 => MethAt C m sp [] (ES σ) t σ x H1 Q) : tMethS C m sp ES ta t σ H Q := h
theorem r_makeS {C : Addr} {sp : Sp} {ES : L2.St → XK} {t : TA} {σ : L2.St} {H : Hp} {Q : VK} (h : t σ H fun vs H1 => ∀ x dx, H1 x = none → H1 dx = none → dx ≠ x → sp (.ref x :: (vs ++ [])) (upd (upd H1 dx (.own x)) x (.ins C dx [])) (fun v H2 => v = .non ∧ Q (.ref x) H2) (ES σ)) : tMakeS C sp ES t σ H Q := h
end
end K54

local macro_rules | `(tactic| walk_at "rd") => `(tactic| repeat (first
  | with_reducible refine K54.r_seq ?_
  | with_reducible refine K54.r_asg ?_
  | with_reducible refine K54.r_ret ?_
  | with_reducible refine K54.r_ifS ?_
  | ((with_reducible refine' K54.r_var ?hv ?_); (case hv => exact rfl))
  | with_reducible refine K54.r_C ?_
  | ((with_reducible refine' K54.r_name ?hv ?_); (case hv => (first | (dsimp only [List.set, L2.start, List.map, List.replicate, List.cons_append, List.nil_append, List.length, List.append]; done) | (dsimp only [List.set, L2.start, List.map, List.replicate, List.cons_append, List.nil_append, List.length, List.append]; exact rfl) | exact rfl)))
  | with_reducible refine K54.r_test ?_
  | with_reducible refine K54.r_tB ?_
  | with_reducible refine K54.r_bl ?_
  | with_reducible refine K54.r_op ?_
  | with_reducible refine K54.r_I0 ?_
  | with_reducible refine K54.r_eqI ?_
  | with_reducible refine K54.r_neI ?_
  | with_reducible refine K54.r_eqS ?_
  | with_reducible refine K54.r_neS ?_
  | with_reducible refine K54.r_cons ?_
  | with_reducible refine K54.r_nil ?_
  | with_reducible refine K54.r_cb ?_
  | with_reducible refine K54.r_call ?_
  | with_reducible refine K54.r_fld ?_
  | with_reducible refine K54.r_set ?_
  | with_reducible refine K54.r_meth ?_
  | with_reducible refine K54.r_tup ?_
  | with_reducible refine K54.r_lst ?_
  | with_reducible refine K54.r_drop ?_
  | with_reducible refine K54.r_next ?_
  | with_reducible refine K54.r_retN ?_
  | with_reducible refine K54.r_and ?_
  | with_reducible refine K54.r_or ?_
  | with_reducible refine K54.r_not ?_
  | with_reducible refine K54.r_andV ?_
  | with_reducible refine K54.r_orV ?_
  | with_reducible refine K54.r_notV ?_
  | with_reducible refine K54.r_ifE ?_
  | with_reducible refine K54.r_un ?_
  | with_reducible refine K54.r_make ?_
  | with_reducible refine K54.r_gcons ?_
  | with_reducible refine K54.r_gnil ?_
  | with_reducible refine K54.r_sl ?_
  | with_reducible refine K54.r_bm ?_
  | with_reducible refine K54.r_bm0 ?_
  | with_reducible refine K54.r_chain ?_
  | with_reducible refine K54.r_for ?_
  | with_reducible refine K54.r_lc ?_
  | with_reducible refine K54.r_iList ?_
  | with_reducible refine K54.r_iTup ?_
  | with_reducible refine K54.r_iStr ?_
  | with_reducible refine K54.r_iKeys ?_
  | with_reducible refine K54.r_dget ?_
  | with_reducible refine K54.r_din ?_
  | with_reducible refine K54.r_dnotin ?_
  | with_reducible refine K54.r_dput ?_
  | with_reducible refine K54.r_dnew ?_
  | with_reducible refine K54.r_disp ?_
  | with_reducible refine K54.r_pcons ?_
  | with_reducible refine K54.r_pnil ?_
  | with_reducible refine K54.r_yes ?_
  | with_reducible refine K54.r_rU ?_
  | with_reducible refine K54.r_rng ?_
  | with_reducible refine K54.r_methS ?_
  | with_reducible refine K54.r_makeS ?_
  | with_reducible refine K54.r_noPart ?_
  | with_reducible refine K54.r_part ?_
  | with_reducible refine K54.r_tm1 ?_
  | with_reducible refine K54.r_pow18 ?_
  | with_reducible refine K54.r_pow40 ?_
  | with_reducible refine K54.r_pow60 ?_
  | ((with_reducible refine' K54.r_mod ?ha ?_); (case ha => omega))
  | ((with_reducible refine' K54.r_div ?ha ?hb ?_); (case ha => omega); (case hb => omega))
  | ((with_reducible refine' K54.r_mulR ?ha ?hb ?_); (case ha => omega); (case hb => omega))
  | ((with_reducible refine' K54.r_mulL ?ha ?hb ?_); (case ha => omega); (case hb => omega))))

local macro_rules | `(tactic| walk_at "rn") => `(tactic| repeat (first
  | with_reducible refine K54.r_seq ?_
  | with_reducible refine K54.r_asg ?_
  | with_reducible refine K54.r_ret ?_
  | with_reducible refine K54.r_ifS ?_
  | ((with_reducible refine' K54.r_var ?hv ?_); (case hv => exact rfl))
  | with_reducible refine K54.r_C ?_
  | ((with_reducible refine' K54.r_name ?hv ?_); (case hv => (first | (dsimp only [List.set, L2.start, List.map, List.replicate, List.cons_append, List.nil_append, List.length, List.append]; done) | (dsimp only [List.set, L2.start, List.map, List.replicate, List.cons_append, List.nil_append, List.length, List.append]; exact rfl) | exact rfl)))
  | with_reducible refine K54.r_test ?_
  | with_reducible refine K54.r_tB ?_
  | with_reducible refine K54.r_bl ?_
  | with_reducible refine K54.r_op ?_
  | with_reducible refine K54.r_I0 ?_
  | with_reducible refine K54.r_eqI ?_
  | with_reducible refine K54.r_neI ?_
  | with_reducible refine K54.r_eqS ?_
  | with_reducible refine K54.r_neS ?_
  | with_reducible refine K54.r_cons ?_
  | with_reducible refine K54.r_nil ?_
  | with_reducible refine K54.r_cb ?_
  | with_reducible refine K54.r_call ?_
  | with_reducible refine K54.r_fld ?_
  | with_reducible refine K54.r_set ?_
  | with_reducible refine K54.r_meth ?_
  | with_reducible refine K54.r_tupN ?_
  | with_reducible refine K54.r_lstN ?_
  | with_reducible refine K54.r_drop ?_
  | with_reducible refine K54.r_next ?_
  | with_reducible refine K54.r_retN ?_
  | with_reducible refine K54.r_and ?_
  | with_reducible refine K54.r_or ?_
  | with_reducible refine K54.r_not ?_
  | with_reducible refine K54.r_andV ?_
  | with_reducible refine K54.r_orV ?_
  | with_reducible refine K54.r_notV ?_
  | with_reducible refine K54.r_ifE ?_
  | with_reducible refine K54.r_un ?_
  | with_reducible refine K54.r_make ?_
  | with_reducible refine K54.r_gcons ?_
  | with_reducible refine K54.r_gnil ?_
  | with_reducible refine K54.r_sl ?_
  | with_reducible refine K54.r_bm ?_
  | with_reducible refine K54.r_bm0 ?_
  | with_reducible refine K54.r_chain ?_
  | with_reducible refine K54.r_for ?_
  | with_reducible refine K54.r_lc ?_
  | with_reducible refine K54.r_iList ?_
  | with_reducible refine K54.r_iTup ?_
  | with_reducible refine K54.r_iStr ?_
  | with_reducible refine K54.r_iKeys ?_
  | with_reducible refine K54.r_dget ?_
  | with_reducible refine K54.r_din ?_
  | with_reducible refine K54.r_dnotin ?_
  | with_reducible refine K54.r_dput ?_
  | with_reducible refine K54.r_dnew ?_
  | with_reducible refine K54.r_disp ?_
  | with_reducible refine K54.r_pcons ?_
  | with_reducible refine K54.r_pnil ?_
  | with_reducible refine K54.r_yes ?_
  | with_reducible refine K54.r_rU ?_
  | with_reducible refine K54.r_rng ?_
  | with_reducible refine K54.r_methS ?_
  | with_reducible refine K54.r_makeS ?_
  | with_reducible refine K54.r_noPart ?_
  | with_reducible refine K54.r_part ?_
  | with_reducible refine K54.r_tm1 ?_
  | with_reducible refine K54.r_pow18 ?_
  | with_reducible refine K54.r_pow40 ?_
  | with_reducible refine K54.r_pow60 ?_
  | ((with_reducible refine' K54.r_mod ?ha ?_); (case ha => omega))
  | ((with_reducible refine' K54.r_div ?ha ?hb ?_); (case ha => omega); (case hb => omega))
  | ((with_reducible refine' K54.r_mulR ?ha ?hb ?_); (case ha => omega); (case hb => omega))
  | ((with_reducible refine' K54.r_mulL ?ha ?hb ?_); (case ha => omega); (case hb => omega))))
local macro_rules | `(tactic| walk_at "ne") => `(tactic| first
  | assumption
  | exact Ne.symm (by assumption)
  | ((refine' L2.ne_of_none ?hx (by assumption)); (case hx => walk_at "hp"))
  | ((refine' Ne.symm (L2.ne_of_none ?hx (by assumption))); (case hx => walk_at "hp")))
local macro_rules | `(tactic| walk_at "hp") => `(tactic| first
  | assumption
  | exact L2.upd_same
  | ((refine' K54.Same.get ?hs ?hy); (case hs => assumption); (case hy => walk_at "hp"))
  | ((refine' Eq.trans (L2.upd_ne ?hx) ?hy); (case hx => walk_at "ne"); (case hy => walk_at "hp")))
local macro_rules | `(tactic| walk_at "lt") => `(tactic| exact of_decide_eq_true (by kernel_rfl))

namespace K54
open PySem PySem.Spec PyProof.Rows L2
section
variable {P : Program} {w : World} {K : PySem.W.Frag} {mg : Str → Option Value} {base : Heap}
theorem sc_are_signs : FnScope ["numbers", "number"] ["numbers"] (defScope s_are_signs) := ⟨rfl, rfl, rfl, by decide +kernel, rfl, by decide +kernel, by decide +kernel⟩
theorem all_take {ns : List Int} {i : Nat} {n : Int} {p : Int → Bool} (h : ns[i]? = some n) (a : (ns.take i).all p = true) (b : p n = true) : (ns.take (i + 1)).all p = true := by
  rw [List.take_add_one, h, List.all_append, a]
  simp [b]
theorem all_not {ns : List Int} {i : Nat} {n : Int} {p : Int → Bool} (h : ns[i]? = some n) (b : p n = false) : ns.all p = false := by
  rw [List.all_eq_false]
  exact ⟨n, List.mem_of_getElem? h, by simp [b]⟩
theorem okS_are_signs (T : Txt K mg) : Ok P w K mg base CX0 1 (He.ga K "are_signs") ["numbers"] (spAreSigns K) := by
  refine ok_of T.f_are_signs sc_are_signs (fun _ _ _ _ _ _ us hl => match us, hl with | [_], _ => rfl) (fun vs H Q E h => ?_) (fun cdv A outer s H vs Q E hr h => ?_)
  · obtain ⟨a, ns, rfl, _⟩ := h
    rfl
  · obtain ⟨a, ns, rfl, hs, k⟩ := h
    refine ⟨_, PSs.nox (pss_cons (ps_for PassesOwn.never rfl (pi_seq (pv 0)) (pg_name (i := 1) sc_are_signs.nd rfl (Or.inl rfl)) (pss_one (ps_if (PW.pt (pw_or (pt_cmpR (op_lt) (pv 1) pe_int (nomark _)) (pw_or1 (pt_cmpR (op_ge) (pv 1) (pe_gI rfl T.i_SIGNS) (nomark _))))) (pss_one (ps_ret pe_bl)) pss_nil)))
 (pss_one (ps_ret pe_bl))), ?_⟩
    walk_at "rd"
    have turn : ∀ (i : Nat) (x : V) (σ : L2.St) (H1 : Hp), (ns.map V.int)[i]? = some x → (∃ v, σ = [some (.ref a), v]) ∧ H1 = H ∧ (ns.take i).all isSign = true → ∃ n, x = .int n ∧ ns[i]? = some n := fun i x σ H1 hx _ => by
      rw [List.getElem?_map] at hx
      cases e : ns[i]? with
      | none => rw [e] at hx; cases hx
      | some n => rw [e] at hx; exact ⟨n, (Option.some.inj hx).symm, rfl⟩
    rcases hs with hs | hs
    · refine ⟨_, rfl, a, rfl, .inl ⟨⟨_, hs⟩, for_list (K := K) (a := a) (xs := ns.map V.int) (fun i σ H1 => (∃ v, σ = [some (.ref a), v]) ∧ H1 = H ∧ (ns.take i).all isSign = true) ⟨⟨none, rfl⟩, rfl, rfl⟩ (fun i σ H1 _ h => h.2.1 ▸ hs) ?_ ?_⟩⟩
      · intro i x σ H1 hx h
        obtain ⟨n, rfl, hn⟩ := turn i x σ H1 hx h
        obtain ⟨⟨v, rfl⟩, rfl, al⟩ := h
        walk_at "rd"
        refine if_dec (fun h0 => ?_) (fun h0 => ?_)
        · walk_at "rd"
          refine iteT ?_
          walk_at "rd"
          rw [all_not (p := isSign) hn (decide_eq_false (by omega))] at k
          exact k
        · walk_at "rd"
          refine if_dec (fun h1 => ?_) (fun h1 => ?_)
          · walk_at "rd"
            rw [all_not (p := isSign) hn (decide_eq_false (by omega))] at k
            exact k
          · walk_at "rd"
            exact ⟨⟨_, rfl⟩, rfl, all_take hn al (decide_eq_true (by omega))⟩
      · rintro σ H1 ⟨_, rfl, al⟩
        walk_at "rd"
        rw [List.take_of_length_le (by rw [List.length_map]; exact Nat.le_refl _)] at al
        rw [al] at k
        exact k
    · refine ⟨_, rfl, a, rfl, .inr ⟨⟨_, hs⟩, for_tup (K := K) (a := a) (xs := ns.map V.int) (fun i σ H1 => (∃ v, σ = [some (.ref a), v]) ∧ H1 = H ∧ (ns.take i).all isSign = true) ⟨⟨none, rfl⟩, rfl, rfl⟩ (fun i σ H1 _ h => h.2.1 ▸ hs) ?_ ?_⟩⟩
      · intro i x σ H1 hx h
        obtain ⟨n, rfl, hn⟩ := turn i x σ H1 hx h
        obtain ⟨⟨v, rfl⟩, rfl, al⟩ := h
        walk_at "rd"
        refine if_dec (fun h0 => ?_) (fun h0 => ?_)
        · walk_at "rd"
          refine iteT ?_
          walk_at "rd"
          rw [all_not (p := isSign) hn (decide_eq_false (by omega))] at k
          exact k
        · walk_at "rd"
          refine if_dec (fun h1 => ?_) (fun h1 => ?_)
          · walk_at "rd"
            rw [all_not (p := isSign) hn (decide_eq_false (by omega))] at k
            exact k
          · walk_at "rd"
            exact ⟨⟨_, rfl⟩, rfl, all_take hn al (decide_eq_true (by omega))⟩
      · rintro σ H1 ⟨_, rfl, al⟩
        walk_at "rd"
        rw [List.take_of_length_le (by rw [List.length_map]; exact Nat.le_refl _)] at al
        rw [al] at k
        exact k
theorem sc_is_way : FnScope ["way"] ["way"] (defScope s_is_way) := ⟨rfl, rfl, rfl, by decide +kernel, rfl, by decide +kernel, by decide +kernel⟩
theorem okS_is_way (T : Txt K mg) : Ok P w K mg base CX0 1 (He.ga K "is_way") ["way"] (spIsWay K) := by
  refine ok_of T.f_is_way sc_is_way (fun _ _ _ _ _ _ us hl => match us, hl with | [_], _ => rfl) (fun vs H Q E h => ?_) (fun cdv A outer s H vs Q E hr h => ?_)
  · obtain ⟨a, h, rfl, _⟩ := h
    rfl
  · obtain ⟨a, h, rfl, hs, h0, h1, k⟩ := h
    refine ⟨_, PSs.nox (pss_cons (ps_if (PW.pt (pw_or (pt_cmpR (op_lt) (pe_callB (call_lenR) (by rfl) T.b_len (by decide +kernel) (pa_cons (pv 0) pa_nil)) pe_int (nomark _)) (pw_or (pt_cmpR (op_gt) (pe_callB (call_lenR) (by rfl) T.b_len (by decide +kernel) (pa_cons (pv 0) pa_nil)) (pe_gI rfl T.i_MOST_WAY) (nomark _)) (pw_or1 (pt_cmpR (op_lt) (pe_lenSet1 rfl (by rfl) T.b_len (by rfl) T.b_set (pv 0)) (pe_callB (call_lenR) (by rfl) T.b_len (by decide +kernel) (pa_cons (pv 0) pa_nil)) (nomark _)))))) (pss_one (ps_ret pe_bl)) pss_nil)
 (pss_one (ps_ret (pe_and (pe_cmpR (op_ge) (pe_callB (cr_minT1 rfl hr.units) (by rfl) T.b_min (by decide +kernel) (pa_cons (pv 0) pa_nil)) pe_int (nomark _)) (pe_one (pe_cmpR (op_lt) (pe_callB (cr_maxT1 rfl hr.units) (by rfl) T.b_max (by decide +kernel) (pa_cons (pv 0) pa_nil)) (pe_gI rfl T.i_HOUSES) (nomark _))))))), ?_⟩
    walk_at "rd"
    refine r_lenT hs ?_
    walk_at "rd"
    refine if_decF (by simp) ?_
    walk_at "rd"
    refine r_lenT hs ?_
    walk_at "rd"
    refine if_decF (by simp) ?_
    walk_at "rd"
    refine ⟨_, rfl, _, _, rfl, hs, ?_⟩
    walk_at "rd"
    refine r_lenT hs ?_
    walk_at "rd"
    refine if_decF (by simp) ?_
    walk_at "rd"
    refine ⟨_, _, rfl, hs, ?_⟩
    walk_at "rd"
    refine if_decT h0 ?_
    walk_at "rd"
    refine ⟨_, _, rfl, hs, ?_⟩
    walk_at "rd"
    rw [decide_eq_true h1]
    exact k
theorem sc_made_letter : FnScope ["count", "way", "kind", "about", "body"] ["count", "way", "kind", "about", "body"] (defScope s_made_letter) := ⟨rfl, rfl, rfl, by decide +kernel, rfl, by decide +kernel, by decide +kernel⟩
theorem okS_made_letter (T : Txt K mg) (F_is_way : Ok P w K mg base CX0 1 (He.ga K "is_way") ["way"] (spIsWay K)) (F_are_signs : Ok P w K mg base CX0 1 (He.ga K "are_signs") ["numbers"] (spAreSigns K)) :
    Ok P w K mg base (L2.CX P w) 3 (He.ga K "made_letter") ["count", "way", "kind", "about", "body"] (spMadeLetter K) := by
  refine ok_of T.f_made_letter sc_made_letter (fun _ _ _ _ _ _ us hl => match us, hl with | [_, _, _, _, _], _ => rfl) (fun vs H Q E h => ?_) (fun cdv A outer s H vs Q E hr h => ?_)
  · obtain ⟨n, h, w', kind, a, b, about, body, rfl, _⟩ := h
    rfl
  · obtain ⟨n, h, wa, kind, a, b, about, body, rfl, n0, n1, hw, h0, h1, sa, sb, la, lb, good, bad⟩ := h
    have tk := takes_of (X := cxOf (L2.CX P w) P w K mg base ["count", "way", "kind", "about", "body"] "made_letter" (defScope s_made_letter) (He.ga K "made_letter") cdv A outer s H E) (E := E) rfl rfl rfl rfl
    refine ⟨_, pss_cons (ps_if (PW.pt (pw_or (pt_cmpR (op_lt) (pv 0) pe_int (nomark _)) (pw_or (pt_cmpR (op_gt) (pv 0) (pe_gI rfl T.i_MOST_COUNT) (nomark _)) (pw_or (pt_not (pt_val (pe_callO F_is_way (hr.mono (by decide)) rfl T.g_is_way pass0 (pa_cons (pv 1) pa_nil)))) (pw_or1 (pt_cmpR (op_notIn_seq) (pv 2) (pe_gR rfl T.c_KINDS) (by rfl))))))) (pss_one (ps_raise rfl tk (pmk_own PySem.F.excBase_ValueError T.x_BadLetter.1 T.c_BadLetter T.x_BadLetter.2.1 (raises_own T.x_BadLetter.2.2.1 T.x_BadLetter.2.2.2) rfl))) pss_nil)
 (pss_cons (ps_if (PW.pt (pw_or (pt_cmpR (op_gt) (pe_callB (call_lenR) (by rfl) T.b_len (by decide +kernel) (pa_cons (pv 3) pa_nil)) (pe_gI rfl T.i_MOST_ABOUT) (nomark _)) (pw_or (pt_cmpR (op_gt) (pe_callB (call_lenR) (by rfl) T.b_len (by decide +kernel) (pa_cons (pv 4) pa_nil)) (pe_gI rfl T.i_MOST_BODY) (nomark _)) (pw_or (pt_not (pt_val (pe_callO F_are_signs (hr.mono (by decide)) rfl T.g_are_signs pass0 (pa_cons (pv 3) pa_nil)))) (pw_or1 (pt_not (pt_val (pe_callO F_are_signs (hr.mono (by decide)) rfl T.g_are_signs pass0 (pa_cons (pv 4) pa_nil))))))))) (pss_one (ps_raise rfl tk (pmk_own PySem.F.excBase_ValueError T.x_BadLetter.1 T.c_BadLetter T.x_BadLetter.2.1 (raises_own T.x_BadLetter.2.2.1 T.x_BadLetter.2.2.2) rfl))) pss_nil)
 (pss_one (ps_ret (pe_tup (pa_cons (pv 0) (pa_cons (pe_callTy (call_tupR) (by rfl) T.b_tuple (by decide +kernel) (pa_cons (pv 1) pa_nil)) (pa_cons (pv 2) (pa_cons (pe_callTy (call_tupR) (by rfl) T.b_tuple (by decide +kernel) (pa_cons (pv 3) pa_nil)) (pa_cons (pe_callTy (call_tupR) (by rfl) T.b_tuple (by decide +kernel) (pa_cons (pv 4) pa_nil)) pa_nil))))))))), ?_⟩
    walk_at "rd"
    refine if_decF (by omega) ?_
    walk_at "rd"
    refine if_decF (by omega) ?_
    walk_at "rd"
    refine ⟨_, _, rfl, .of hw, h0, h1, ?_⟩
    walk_at "rd"
    refine if_bF rfl ?_
    walk_at "rd"
    refine ⟨_, _, rfl, .inr (T.kd _), rfl, by decide, ?_⟩
    refine ⟨_, rfl, ?_⟩
    walk_at "rd"
    refine if_nIn (fun hk => ?_) (fun hk => ?_)
    · refine bad ?_
      have e : decide (kind ∈ kindsL) = false := (inV_str kind kindsL).symm.trans hk
      unfold okLetter
      rw [e] <;> rfl
    have ek : decide (kind ∈ kindsL) = true := (inV_str kind kindsL).symm.trans hk
    have eL : okLetter kind about body = (decide (about.length ≤ 4) && (decide (body.length ≤ 56) && (about.all isSign && body.all isSign))) := by
      unfold okLetter
      rw [ek, Bool.true_and]
    rw [eL] at good bad
    have lenA : LenV K (.ref a) H about.length := sa.elim (fun z => .inl ⟨_, z, (List.length_map ..).symm⟩) fun z => .inr ⟨_, z, (List.length_map ..).symm⟩
    have lenB : LenV K (.ref b) H body.length := sb.elim (fun z => .inl ⟨_, z, (List.length_map ..).symm⟩) fun z => .inr ⟨_, z, (List.length_map ..).symm⟩
    walk_at "rd"
    refine ⟨_, _, rfl, lenA, ?_⟩
    walk_at "rd"
    refine if_dec (fun hl => ?_) (fun hl => ?_)
    · walk_at "rd"
      refine iteT (bad ?_)
      rw [decide_eq_false (by omega)] <;> rfl
    rw [show decide (about.length ≤ 4) = true from decide_eq_true (by omega), Bool.true_and] at good bad
    walk_at "rd"
    refine ⟨_, _, rfl, lenB, ?_⟩
    walk_at "rd"
    refine if_dec (fun hl => ?_) (fun hl => ?_)
    · walk_at "rd"
      refine iteT (bad ?_)
      rw [decide_eq_false (by omega)] <;> rfl
    rw [show decide (body.length ≤ 56) = true from decide_eq_true (by omega), Bool.true_and] at good bad
    walk_at "rd"
    refine ⟨_, _, rfl, sa, ?_⟩
    walk_at "rd"
    cases ea : about.all isSign with
    | false =>
      rw [ea] at bad
      walk_at "rd"
      refine iteT (iteT (bad rfl))
    | true =>
    rw [ea, Bool.true_and] at good bad
    walk_at "rd"
    refine iteF ?_
    walk_at "rd"
    refine ⟨_, _, rfl, sb, ?_⟩
    walk_at "rd"
    cases eb : body.all isSign with
    | false => exact iteT (bad eb)
    | true =>
    walk_at "rd"
    refine iteF ?_
    walk_at "rd"
    -- the letter
    walk_at "rd"
    refine r_tupT (.of hw) ?_
    walk_at "rd"
    refine r_tupE sa fun H1 ta s1 hta => ?_
    walk_at "rd"
    refine r_tupE (sb.same s1) fun H2 tb s2 htb => ?_
    walk_at "rd"
    refine ⟨by show 5 ≤ sizeLine; decide, fun p hp => ?_⟩
    have s3 := sm (o := .tup [V.int n, V.ref wa, V.str kind, V.ref ta, V.ref tb]) (s1.trans s2) hp
    exact good eb _ p s3 ((s1.trans s2).free hp) (by rw [upd_same]; intro z; cases z) ⟨ta, tb, upd_same, Same.sqT (sm s2 hp) hta, Same.sqT (same_upd hp) htb⟩

end
end K54

namespace K54
open PySem PySem.Spec PyProof.Rows L2
section
variable {P : Program} {w : World} {K : PySem.W.Frag} {mg : Str → Option Value} {base : Heap}
theorem sc_look_late : FnScope ["late"] ["late"] (defScope s_look_late) := ⟨rfl, rfl, rfl, by decide +kernel, rfl, by decide +kernel, by decide +kernel⟩
theorem okS_look_late (T : Txt K mg) : Ok P w K mg base CX0 1 (He.ga K "look_late") ["late"] spLookLate := by
  refine ok_of T.f_look_late sc_look_late (fun _ _ _ _ _ _ us hl => match us, hl with | [_], _ => rfl) (fun vs H Q E h => ?_) (fun cdv A outer s H vs Q E hr h => ?_)
  · obtain ⟨a, rfl, _⟩ := h
    rfl
  · obtain ⟨a, rfl, h1, h2, k⟩ := h
    refine ⟨_, PSs.nox (pss_one (ps_if (PW.pt (pw_or (pt_cmpR (op_lt) (pv 0) pe_int (nomark _)) (pw_or1 (pt_cmpR (op_gt) (pv 0) (pe_gI rfl T.i_MOST_LATE) (nomark _))))) (pss_one ps_never) pss_nil)), ?_⟩
    walk_at "rd"
    refine if_decF (by omega) ?_
    walk_at "rd"
    refine if_decF (by omega) ?_
    walk_at "rd"
    exact k
theorem sc_look_measure : FnScope ["measure", "late", "lost"] ["measure"] (defScope s_look_measure) := ⟨rfl, rfl, rfl, by decide +kernel, rfl, by decide +kernel, by decide +kernel⟩
theorem okS_look_measure (T : Txt K mg) (F_look_late : Ok P w K mg base CX0 1 (He.ga K "look_late") ["late"] spLookLate) : Ok P w K mg base CX0 2 (He.ga K "look_measure") ["measure"] spLookMeasure := by
  refine ok_of T.f_look_measure sc_look_measure (fun _ _ _ _ _ _ us hl => match us, hl with | [_], _ => rfl) (fun vs H Q E h => ?_) (fun cdv A outer s H vs Q E hr h => ?_)
  · obtain ⟨t, a, b, rfl, _⟩ := h
    rfl
  · obtain ⟨t, a, b, rfl, ht, h1, h2, h3, h4, k⟩ := h
    refine ⟨_, PSs.nox (pss_cons (ps_asg (pv 0) (pg_tup rfl (pgs_cons (pg_name (i := 1) sc_look_measure.nd rfl (Or.inl rfl)) (pgs_cons (pg_name (i := 2) sc_look_measure.nd rfl (Or.inl rfl)) pgs_nil)) (by rfl)))
 (pss_cons (ps_expr (pe_callO F_look_late (hr.mono (by decide)) rfl T.g_look_late pass0 (pa_cons (pv 1) pa_nil)))
 (pss_one (ps_if (PW.pt (pw_or (pt_cmpR (op_lt) (pv 2) pe_int (nomark _)) (pw_or1 (pt_cmpR (op_gt) (pv 2) (pe_gI rfl T.i_MOST_LOST) (nomark _))))) (pss_one ps_never) pss_nil)))), ?_⟩
    walk_at "rd"
    refine r_gtup (.of ht) rfl ?_
    walk_at "rd"
    refine ⟨_, rfl, h1, h2, ?_⟩
    walk_at "rd"
    refine if_decF (by omega) ?_
    walk_at "rd"
    refine if_decF (by omega) ?_
    walk_at "rd"
    exact k
theorem sc_quiet_of : FnScope ["measure"] ["measure"] (defScope s_quiet_of) := ⟨rfl, rfl, rfl, by decide +kernel, rfl, by decide +kernel, by decide +kernel⟩
theorem okS_quiet_of (T : Txt K mg) (F_look_measure : Ok P w K mg base CX0 2 (He.ga K "look_measure") ["measure"] spLookMeasure) : Ok P w K mg base CX0 3 (He.ga K "quiet_of") ["measure"] spQuietOf := by
  refine ok_of T.f_quiet_of sc_quiet_of (fun _ _ _ _ _ _ us hl => match us, hl with | [_], _ => rfl) (fun vs H Q E h => ?_) (fun cdv A outer s H vs Q E hr h => ?_)
  · obtain ⟨t, a, b, rfl, _⟩ := h
    rfl
  · obtain ⟨t, a, b, rfl, ht, h1, h2, h3, h4, k⟩ := h
    refine ⟨_, PSs.nox (pss_cons (ps_expr (pe_callO F_look_measure (hr.mono (by decide)) rfl T.g_look_measure pass0 (pa_cons (pv 0) pa_nil)))
 (pss_one (ps_ret (pe_op op_add (pe_ix ix_tup (pv 0) pe_int (fun _ _ => rfl)) (pe_ix ix_tup (pv 0) pe_int (fun _ _ => rfl)))))), ?_⟩
    walk_at "rd"
    refine ⟨_, _, _, rfl, ht, h1, h2, h3, h4, ?_⟩
    walk_at "rd"
    refine r_ixT (.of ht) (atI_nat (j := 0) rfl) ?_
    walk_at "rd"
    refine r_ixT (.of ht) (atI_nat (j := 1) rfl) ?_
    walk_at "rd"
    exact k
theorem sc_LinkEnd_init : FnScope ["self", "measure", "side"] ["self", "measure", "side"] (defScope s_LinkEnd_init) := ⟨rfl, rfl, rfl, by decide +kernel, rfl, by decide +kernel, by decide +kernel⟩
theorem okS_LinkEnd_init (T : Txt K mg) (F_quiet_of : Ok P w K mg base CX0 3 (He.ga K "quiet_of") ["measure"] spQuietOf) : Ok P w K mg base CX0 4 (He.ma K (He.ga K "LinkEnd") "__init__") ["self", "measure", "side"] (spLinkInit K) := by
  refine ok_of T.f_LinkEnd_init sc_LinkEnd_init (fun _ _ _ _ _ _ us hl => match us, hl with | [_, _, _], _ => rfl) (fun vs H Q E h => ?_) (fun cdv A outer s H vs Q E hr h => ?_)
  · obtain ⟨p, dx, t, a, b, side, rfl, _⟩ := h
    rfl
  · obtain ⟨p, dx, t, a, b, side, rfl, hp, ht, h1, h2, h3, h4, k⟩ := h
    refine ⟨_, PSs.nox (pss_cons (ps_fld (pv 0) (pe_callO F_quiet_of (hr.mono (by decide)) rfl T.g_quiet_of pass0 (pa_cons (pv 1) pa_nil)) rfl)
 (pss_cons (ps_fld (pv 0) (pv 2) rfl)
 (pss_cons (ps_fld (pv 0) pe_int rfl)
 (pss_cons (ps_fld (pv 0) pe_int rfl)
 (pss_cons (ps_fld (pv 0) pe_non rfl)
 (pss_cons (ps_fld (pv 0) (pe_un un_neg pe_int) rfl)
 (pss_cons (ps_fld (pv 0) (pe_un un_neg pe_int) rfl)
 (pss_cons (ps_fld (pv 0) (pe_lst pa_nil) rfl)
 (pss_cons (ps_fld (pv 0) pe_int rfl)
 (pss_cons (ps_fld (pv 0) pe_int rfl)
 (pss_one (ps_fld (pv 0) (pe_lst pa_nil) rfl)))))))))))), ?_⟩
    walk_at "rd"
    refine ⟨_, _, _, rfl, ht, h1, h2, h3, h4, ?_⟩
    walk_at "rd"
    refine r_setAt (by walk_at "hp") T.k_LinkEnd T.n_LinkEnd_quiet_ticks (by walk_at "lt") ?_
    walk_at "rd"
    refine r_setAt (by walk_at "hp") T.k_LinkEnd T.n_LinkEnd_side_number (by walk_at "lt") ?_
    walk_at "rd"
    refine r_setAt (by walk_at "hp") T.k_LinkEnd T.n_LinkEnd_own_birth (by walk_at "lt") ?_
    walk_at "rd"
    refine r_setAt (by walk_at "hp") T.k_LinkEnd T.n_LinkEnd_other_birth (by walk_at "lt") ?_
    walk_at "rd"
    refine r_setAt (by walk_at "hp") T.k_LinkEnd T.n_LinkEnd_own_pair (by walk_at "lt") ?_
    walk_at "rd"
    refine r_setAt (by walk_at "hp") T.k_LinkEnd T.n_LinkEnd_now_tick (by walk_at "lt") ?_
    walk_at "rd"
    refine r_setAt (by walk_at "hp") T.k_LinkEnd T.n_LinkEnd_heard_tick (by walk_at "lt") ?_
    walk_at "rd"
    refine ⟨by decide, fun l1 n1 => ?_⟩
    walk_at "rd"
    refine r_setAt (by walk_at "hp") T.k_LinkEnd T.n_LinkEnd_pieces_left (by walk_at "lt") ?_
    walk_at "rd"
    refine r_setAt (by walk_at "hp") T.k_LinkEnd T.n_LinkEnd_piece_number (by walk_at "lt") ?_
    walk_at "rd"
    refine r_setAt (by walk_at "hp") T.k_LinkEnd T.n_LinkEnd_piece_count (by walk_at "lt") ?_
    walk_at "rd"
    refine ⟨by decide, fun l2 n2 => ?_⟩
    walk_at "rd"
    refine r_setAt (by walk_at "hp") T.k_LinkEnd T.n_LinkEnd_events_told (by walk_at "lt") ?_
    refine k _ ⟨dx, _, upd_same, by kernel_rfl, by kernel_rfl⟩ fun b o e nb => ?_
    walk_at "hp"
theorem sc_LinkEnd_up : FnScope ["self"] ["self"] (defScope s_LinkEnd_up) := ⟨rfl, rfl, rfl, by decide +kernel, rfl, by decide +kernel, by decide +kernel⟩
theorem okS_LinkEnd_up (T : Txt K mg) : Ok P w K mg base CX0 1 (He.ma K (He.ga K "LinkEnd") "up") ["self"] (spUp K) := by
  refine ok_of T.f_LinkEnd_up sc_LinkEnd_up (fun _ _ _ _ _ _ us hl => match us, hl with | [_], _ => rfl) (fun vs H Q E h => ?_) (fun cdv A outer s H vs Q E hr h => ?_)
  · obtain ⟨a, rfl, _⟩ := h
    rfl
  · obtain ⟨a, rfl, ⟨dx, fs, ha, l1, l2⟩, k⟩ := h
    refine ⟨_, PSs.nox (pss_one (ps_ret (pe_fld (pv 0) rfl))), ?_⟩
    walk_at "rd"
    exact r_fldAt ha T.k_LinkEnd T.n_LinkEnd_own_pair l1 k
theorem sc_Queue_init : FnScope ["self"] ["self"] (defScope s_Queue_init) := ⟨rfl, rfl, rfl, by decide +kernel, rfl, by decide +kernel, by decide +kernel⟩
theorem okS_Queue_init (T : Txt K mg) : Ok P w K mg base CX0 1 (He.ma K (He.ga K "Queue") "__init__") ["self"] (spInit0 (He.ga K "Queue") (QueueAt K)) := by
  refine ok_of T.f_Queue_init sc_Queue_init (fun _ _ _ _ _ _ us hl => match us, hl with | [_], _ => rfl) (fun vs H Q E h => ?_) (fun cdv A outer s H vs Q E hr h => ?_)
  · obtain ⟨p, dx, rfl, _⟩ := h
    rfl
  · obtain ⟨p, dx, rfl, hp, k⟩ := h
    refine ⟨_, PSs.nox (pss_cons (ps_fld (pv 0) (pe_lst pa_nil) rfl)
 (pss_cons (ps_fld (pv 0) (pe_lst pa_nil) rfl)
 (pss_cons (ps_fld (pv 0) (pe_lst pa_nil) rfl)
 (pss_one (ps_fld (pv 0) (pe_lst pa_nil) rfl))))), ?_⟩
    walk_at "rd"
    refine ⟨by decide, fun l1 n1 => ?_⟩
    walk_at "rd"
    refine r_setAt (by walk_at "hp") T.k_Queue T.n_Queue_first_row (by walk_at "lt") ?_
    walk_at "rd"
    refine ⟨by decide, fun l2 n2 => ?_⟩
    walk_at "rd"
    refine r_setAt (by walk_at "hp") T.k_Queue T.n_Queue_other_row (by walk_at "lt") ?_
    walk_at "rd"
    refine ⟨by decide, fun l3 n3 => ?_⟩
    walk_at "rd"
    refine r_setAt (by walk_at "hp") T.k_Queue T.n_Queue_under_way (by walk_at "lt") ?_
    walk_at "rd"
    refine ⟨by decide, fun l4 n4 => ?_⟩
    walk_at "rd"
    refine r_setAt (by walk_at "hp") T.k_Queue T.n_Queue_to_come (by walk_at "lt") ?_
    refine k _ (fun M hM => ?_) fun b o e nb => ?_
    · have f1 : H l1 = none := n1
      have f2 : H l2 = none := by
        have q1 : l2 ≠ p := Ne.symm (ne_of_none upd_same n2)
        rw [upd_ne q1] at n2
        have q2 : l2 ≠ l1 := Ne.symm (ne_of_none upd_same n2)
        rw [upd_ne q2] at n2
        exact n2
      have f3 : H l3 = none := by
        have q1 : l3 ≠ p := Ne.symm (ne_of_none upd_same n3)
        rw [upd_ne q1] at n3
        have q2 : l3 ≠ l2 := Ne.symm (ne_of_none upd_same n3)
        rw [upd_ne q2, upd_ne q1] at n3
        have q3 : l3 ≠ l1 := Ne.symm (ne_of_none upd_same n3)
        rw [upd_ne q3] at n3
        exact n3
      refine ⟨dx, _, l1, l2, l3, off_of upd_same (fun hb => (hM _ hb).2 rfl), by kernel_rfl, by kernel_rfl, by kernel_rfl, by kernel_rfl, off_of ?_ (fun hb => (hM _ hb).1 f1), off_of ?_ (fun hb => (hM _ hb).1 f2), off_of ?_ (fun hb => (hM _ hb).1 f3)⟩
      all_goals (clear f1 f2 f3; walk_at "hp")
    · walk_at "hp"
theorem sc_Queue_waiting : FnScope ["self"] ["self"] (defScope s_Queue_waiting) := ⟨rfl, rfl, rfl, by decide +kernel, rfl, by decide +kernel, by decide +kernel⟩
theorem okS_Queue_waiting (T : Txt K mg) : Ok P w K mg base CX0 1 (He.ma K (He.ga K "Queue") "waiting") ["self"] (spQWaiting K) := by
  refine ok_of T.f_Queue_waiting sc_Queue_waiting (fun _ _ _ _ _ _ us hl => match us, hl with | [_], _ => rfl) (fun vs H Q E h => ?_) (fun cdv A outer s H vs Q E hr h => ?_)
  · obtain ⟨a, rfl, _⟩ := h
    rfl
  · obtain ⟨a, rfl, ⟨dx, fs, l1, l2, l3, ha, e1, e2, e3, e4, h1, h2, h3⟩, k⟩ := h
    refine ⟨_, PSs.nox (pss_one (ps_ret (pe_op op_cat (pe_op op_cat (pe_fld (pv 0) rfl) (pe_fld (pv 0) rfl)) (pe_fld (pv 0) rfl)))), ?_⟩
    walk_at "rd"
    refine r_fldAt ha T.k_Queue T.n_Queue_under_way e3 ?_
    walk_at "rd"
    refine r_fldAt ha T.k_Queue T.n_Queue_first_row e1 ?_
    walk_at "rd"
    refine r_catR h3 h1 (by decide) fun p np => ?_
    walk_at "rd"
    refine r_fldAt (by walk_at "hp") T.k_Queue T.n_Queue_other_row e2 ?_
    walk_at "rd"
    refine r_catR upd_same (by walk_at "hp") (by decide) fun q nq => ?_
    have s1 := sm (o := .lst ([] ++ [] ++ [])) (same_upd (o := .lst ([] ++ [])) np) nq
    exact k _ q s1 ((same_upd (o := .lst ([] ++ [])) np).free nq) upd_same
theorem sc_Joiner_init : FnScope ["self"] ["self"] (defScope s_Joiner_init) := ⟨rfl, rfl, rfl, by decide +kernel, rfl, by decide +kernel, by decide +kernel⟩
theorem okS_Joiner_init (T : Txt K mg) : Ok P w K mg base CX0 1 (He.ma K (He.ga K "Joiner") "__init__") ["self"] (spInit0 (He.ga K "Joiner") (fun _ _ => True)) := by
  refine ok_of T.f_Joiner_init sc_Joiner_init (fun _ _ _ _ _ _ us hl => match us, hl with | [_], _ => rfl) (fun vs H Q E h => ?_) (fun cdv A outer s H vs Q E hr h => ?_)
  · obtain ⟨p, dx, rfl, _⟩ := h
    rfl
  · obtain ⟨p, dx, rfl, hp, k⟩ := h
    refine ⟨_, PSs.nox (pss_one (ps_fld (pv 0) (pe_lst pa_nil) rfl)), ?_⟩
    walk_at "rd"
    refine ⟨by decide, fun l1 n1 => ?_⟩
    walk_at "rd"
    refine r_setAt (by walk_at "hp") T.k_Joiner T.n_Joiner_so_far (by walk_at "lt") ?_
    refine k _ (fun _ _ => trivial) fun b o e nb => ?_
    walk_at "hp"

end
end K54

namespace K54
open PySem PySem.Spec PyProof.Rows L2
section
variable {P : Program} {w : World} {K : PySem.W.Frag} {mg : Str → Option Value} {base : Heap}
theorem sc_Wire_init : FnScope ["self", "house", "measure", "side"] ["self", "house", "measure", "side"] (defScope s_Wire_init) := ⟨rfl, rfl, rfl, by decide +kernel, rfl, by decide +kernel, by decide +kernel⟩
theorem okS_Wire_init (T : Txt K mg) (F_LinkEnd_init : Ok P w K mg base CX0 4 (He.ma K (He.ga K "LinkEnd") "__init__") ["self", "measure", "side"] (spLinkInit K))
    (F_Queue_init : Ok P w K mg base CX0 1 (He.ma K (He.ga K "Queue") "__init__") ["self"] (spInit0 (He.ga K "Queue") (QueueAt K)))
    (F_Joiner_init : Ok P w K mg base CX0 1 (He.ma K (He.ga K "Joiner") "__init__") ["self"] (spInit0 (He.ga K "Joiner") (fun _ _ => True))) :
    Ok P w K mg base CX0 6 (He.ma K (He.ga K "Wire") "__init__") ["self", "house", "measure", "side"] (spWireInit K) := by
  refine ok_of T.f_Wire_init sc_Wire_init (fun _ _ _ _ _ _ us hl => match us, hl with | [_, _, _, _], _ => rfl) (fun vs H Q E h => ?_) (fun cdv A outer s H vs Q E hr h => ?_)
  · obtain ⟨p, dx, t, h, a, b, side, rfl, _⟩ := h
    rfl
  · obtain ⟨p, dx, t, h, a, b, side, rfl, hp, ht, h1, h2, h3, h4, k⟩ := h
    refine ⟨_, PSs.nox (pss_cons (ps_fld (pv 0) (pv 1) rfl)
 (pss_cons (ps_fld (pv 0) (pe_op op_add (pe_ix ix_tup (pv 2) pe_int (fun _ _ => rfl)) (pe_ix ix_tup (pv 2) pe_int (fun _ _ => rfl))) rfl)
 (pss_cons (ps_fld (pv 0) (pe_makeO T.m_LinkEnd F_LinkEnd_init (hr.mono (by decide)) rfl T.c_LinkEnd pass0 (pa_cons (pv 2) (pa_cons (pv 3) pa_nil))) rfl)
 (pss_cons (ps_fld (pv 0) (pe_make0O T.m_Queue F_Queue_init (hr.mono (by decide)) rfl T.c_Queue pass0) rfl)
 (pss_cons (ps_fld (pv 0) (pe_make0O T.m_Joiner F_Joiner_init (hr.mono (by decide)) rfl T.c_Joiner pass0) rfl)
 (pss_cons (ps_fld (pv 0) (pe_lst pa_nil) rfl)
 (pss_one (ps_fld (pv 0) pe_bl rfl)))))))), ?_⟩
    walk_at "rd"
    refine r_setAt (by walk_at "hp") T.k_Wire T.n_Wire_house (by walk_at "lt") ?_
    walk_at "rd"
    have npt : t ≠ p := fun e => by
      subst e
      cases ht.symm.trans hp
    walk_at "rd"
    refine r_ixT (.of (by walk_at "hp")) (atI_nat (j := 0) rfl) ?_
    walk_at "rd"
    refine r_ixT (.of (by walk_at "hp")) (atI_nat (j := 1) rfl) ?_
    walk_at "rd"
    refine r_setAt (by walk_at "hp") T.k_Wire T.n_Wire_quiet (by walk_at "lt") ?_
    walk_at "rd"
    intro x1 d1 nx1 nd1 nn1
    refine ⟨x1, d1, t, a, b, side, rfl, upd_same, by walk_at "hp", h1, h2, h3, h4, fun H1 lk1 kp1 => ⟨rfl, ?_⟩⟩
    have s1 := made_same nx1 nd1 kp1
    walk_at "rd"
    have hp1 : H1 p = some _ := s1 _ _ upd_same
    have np1 : x1 ≠ p := Ne.symm (ne_of_none upd_same nx1)
    have fx1 : H x1 = none := by
      rw [upd_ne np1, upd_ne np1] at nx1
      exact nx1
    walk_at "rd"
    refine r_setAt (by walk_at "hp") T.k_Wire T.n_Wire_link (by walk_at "lt") ?_
    walk_at "rd"
    intro x2 d2 nx2 nd2 nn2
    refine ⟨x2, d2, rfl, upd_same, fun H2 qu1 kp2 => ⟨rfl, ?_⟩⟩
    have s2 := made_same nx2 nd2 kp2
    walk_at "rd"
    have hp2 := Same.get s2 (b := p) upd_same
    have np2 : x2 ≠ p := Ne.symm (ne_of_none upd_same nx2)
    walk_at "rd"
    refine r_setAt (by walk_at "hp") T.k_Wire T.n_Wire_queue (by walk_at "lt") ?_
    walk_at "rd"
    intro x3 d3 nx3 nd3 nn3
    refine ⟨x3, d3, rfl, upd_same, fun H3 _ kp3 => ⟨rfl, ?_⟩⟩
    have s3 := made_same nx3 nd3 kp3
    have hp3 := Same.get s3 (b := p) upd_same
    walk_at "rd"
    refine r_setAt (by walk_at "hp") T.k_Wire T.n_Wire_joiner (by walk_at "lt") ?_
    walk_at "rd"
    refine ⟨by decide, fun g ng => ?_⟩
    walk_at "rd"
    have np4 : p ≠ g := by walk_at "ne"
    have e1 : ∀ c o, H c = some o → c ≠ p → H1 c = some o := fun c o e nb => s1 _ _ (by rw [upd_ne nb, upd_ne nb]; exact e)
    have e2 : ∀ c o, H c = some o → c ≠ p → H2 c = some o := fun c o e nb => s2 _ _ (by rw [upd_ne nb]; exact e1 _ _ e nb)
    have e3 : ∀ c o, H c = some o → c ≠ p → H3 c = some o := fun c o e nb => s3 _ _ (by rw [upd_ne nb]; exact e2 _ _ e nb)
    have e4 : ∀ c o, H c = some o → c ≠ p → c ≠ g := fun c o e nb => ne_of_none (by rw [upd_ne nb]; exact e3 _ _ e nb) ng
    walk_at "rd"
    refine r_setAt (by walk_at "hp") T.k_Wire T.n_Wire_given (by walk_at "lt") ?_
    walk_at "rd"
    refine r_setAt (by walk_at "hp") T.k_Wire T.n_Wire_fresh (by walk_at "lt") ?_
    refine k _ (fun M hM => ?_) fun c o e nb => ?_
    · have nM : ∀ {x : Addr}, H x = none → x ∉ M := fun n hb => (hM _ hb).1 n
      have pM : p ∉ M := fun hb => (hM _ hb).2 rfl
      have gM : g ∉ M := fun hb => by
        have z := (hM _ hb).1
        cases e : H g with
        | none => exact z e
        | some o => exact e4 g o e (Ne.symm np4) rfl
      have x2M : x2 ∉ M := fun hb => by
        have z := (hM _ hb).1
        cases e : H x2 with
        | none => exact z e
        | some o => exact ne_of_none (show upd H1 p _ x2 = some o by rw [upd_ne np2]; exact e1 _ _ e np2) nx2 rfl
      have sub : ∀ b ∈ M, b ∈ p :: M := fun b hb => List.mem_cons_of_mem _ hb
      have l1 : LinkAt K (off (p :: M) H1) x1 := lk1.offM (by simp [np1, nM fx1])
      have o12 : Same (off (p :: M) H1) (off (p :: M) H2) := (off_put (List.mem_cons_self ..) fun _ h => h).trans (off_same s2)
      have q2 : QueueAt K (off (p :: M) H2) x2 := qu1 (p :: M) fun b hb => by
        rcases List.mem_cons.mp hb with rfl | hb
        · exact made_live (live upd_same) nx2
        · refine made_live ?_ nx2
          have nb : b ≠ p := (hM _ hb).2
          cases e : H b with
          | none => exact absurd e (hM _ hb).1
          | some o => exact live (show upd H1 p _ b = some o by rw [upd_ne nb]; exact e1 _ _ e nb)
      have o23 : Same (off (p :: M) H2) (off (p :: M) H3) := (off_put (List.mem_cons_self ..) fun _ h => h).trans (off_same s3)
      refine ⟨dx, _, x1, x2, g, h, off_of upd_same pM, by kernel_rfl, by kernel_rfl, by kernel_rfl, by kernel_rfl, by kernel_rfl, ((l1.same o12).same o23).same ?_, (q2.same o23).same ?_, off_of ?_ gM⟩
      · exact ((((off_put (List.mem_cons_self ..) fun _ h => h).trans (off_same (same_upd ng))).trans (off_put (List.mem_cons_self ..) fun _ h => h)).trans (off_put (List.mem_cons_self ..) sub))
      · exact ((((off_put (List.mem_cons_self ..) fun _ h => h).trans (off_same (same_upd ng))).trans (off_put (List.mem_cons_self ..) fun _ h => h)).trans (off_put (List.mem_cons_self ..) sub))
      walk_at "hp"
    · have n4 := e4 c o e nb
      have e5 := e3 c o e nb
      walk_at "hp"
theorem sc_Wire_many_waiting : FnScope ["self", "last"] ["self"] (defScope s_Wire_many_waiting) := ⟨rfl, rfl, rfl, by decide +kernel, rfl, by decide +kernel, by decide +kernel⟩
theorem okS_Wire_many_waiting (T : Txt K mg) (F_Queue_waiting : Ok P w K mg base CX0 1 (He.ma K (He.ga K "Queue") "waiting") ["self"] (spQWaiting K)) :
    Ok P w K mg base CX0 2 (He.ma K (He.ga K "Wire") "many_waiting") ["self"] (spManyWaiting K) := by
  refine ok_of T.f_Wire_many_waiting sc_Wire_many_waiting (fun _ _ _ _ _ _ us hl => match us, hl with | [_], _ => rfl) (fun vs H Q E h => ?_) (fun cdv A outer s H vs Q E hr h => ?_)
  · obtain ⟨a, rfl, _⟩ := h
    rfl
  · obtain ⟨a, rfl, ⟨dx, fs, lk, q, g, hh, h1, h2, h3, h4, h5, h6, h7, h8, h9⟩, k⟩ := h
    refine ⟨_, PSs.nox (pss_one (ps_ret (pe_op op_add (pe_callB (call_lenR) (by rfl) T.b_len (by decide +kernel) (pa_cons (pe_meth0O (pe_fld (pv 0) rfl) T.k_Queue T.t_Queue_waiting F_Queue_waiting (hr.mono (by decide)) pass0) pa_nil)) (pe_callB (call_lenR) (by rfl) T.b_len (by decide +kernel) (pa_cons (pe_lc (own := [("last", 1)]) rfl sc_Wire_many_waiting.nd (pi_list (pe_fld (pv 0) rfl)) (blkOk_by (own := [("last", 1)]) (N := ["self", "last"]) (sc := defScope s_Wire_many_waiting) (by decide +kernel)) (fun _ _ _ _ _ => (pg_name (i := 1) sc_Wire_many_waiting.nd rfl (Or.inl rfl))) (fun _ _ _ _ _ => pts_one (pt_val (pv 1))) (fun _ _ _ _ _ => (pv 1))) pa_nil))))), ?_⟩
    walk_at "rd"
    refine r_fldAt h1 T.k_Wire T.n_Wire_queue h4 ?_
    have hq := h8
    obtain ⟨qd, qf, l1, l2, l3, q1, q2, q3, q4, q5, q6, q7, q8⟩ := hq
    walk_at "rd"
    refine r_methAt q1 q5 ?_
    walk_at "rd"
    refine ⟨q, rfl, h8, fun H1 l s1 nl hl => ?_⟩
    walk_at "rd"
    refine r_lenL (.of hl) ?_
    walk_at "rd"
    refine r_fldAt (s1 _ _ h1) T.k_Wire T.n_Wire_given h5 ?_
    walk_at "rd"
    refine r_iL (.of (s1 _ _ h9)) ?_
    walk_at "rd"
    refine l_nil (.of (s1 _ _ h9)) fun D nD => ?_
    walk_at "rd"
    refine r_lenL (.of upd_same) ?_
    walk_at "rd"
    exact k _ (sm s1 nD)

end
end K54

namespace K54
open PySem PySem.Spec PyProof.Rows L2
section
variable {P : Program} {w : World} {K : PySem.W.Frag} {mg : Str → Option Value} {base : Heap}
theorem sc_is_house : FnScope ["number"] ["number"] (defScope s_is_house) := ⟨rfl, rfl, rfl, by decide +kernel, rfl, by decide +kernel, by decide +kernel⟩
theorem okS_is_house (T : Txt K mg) : Ok P w K mg base CX0 1 (He.ga K "is_house") ["number"] spIsHouse := by
  refine ok_of T.f_is_house sc_is_house (fun _ _ _ _ _ _ us hl => match us, hl with | [_], _ => rfl) (fun vs H Q E h => ?_) (fun cdv A outer s H vs Q E hr h => ?_)
  · obtain ⟨n, rfl, _⟩ := h
    rfl
  · obtain ⟨n, rfl, k⟩ := h
    refine ⟨_, PSs.nox (pss_one (ps_ret (pe_chain op_le op_le pe_int (pv 0) (pe_gI rfl T.i_MOST_HOUSE_maps)))), ?_⟩
    walk_at "rd"
    refine if_dec (fun h0 => ?_) (fun h0 => ?_)
    · walk_at "rd"
      rw [show decide (n ≤ 31) = decide (0 ≤ n ∧ n ≤ 31) from decide_eq_decide.mpr ⟨fun q => ⟨h0, q⟩, fun q => q.2⟩]
      exact k
    · rw [decide_eq_false (fun q => h0 q.1)] at k
      exact k
theorem okName_len {z : Str} (h : okName z = true) : 1 ≤ z.length ∧ z.length ≤ 4 := by
  unfold okName at h
  exact of_decide_eq_true (Bool.and_eq_true_iff.mp h).1
theorem okName_all {z : Str} (h : okName z = true) : ∀ c ∈ z.cps.toList, c ∈ alpha := by
  unfold okName at h
  intro c hc
  exact of_decide_eq_true (List.all_eq_true.mp (Bool.and_eq_true_iff.mp h).2 c hc)
theorem alpha_32 : ¬ (32 ∈ alpha) := by decide
theorem letM : ("abcdefghijklmnopqrstuvwxyz" : Str).cps.toList = alpha := by kernel_rfl
theorem letS : (" abcdefghijklmnopqrstuvwxyz" : Str).cps.toList = 32 :: alpha := by kernel_rfl
theorem all_rep : ∀ n : Nat, (List.replicate n true).all id = true
  | 0 => rfl
  | n + 1 => all_rep n
theorem rep_snoc (n : Nat) : (List.replicate n true).map V.bl ++ [V.bl true] = (List.replicate (n + 1) true).map V.bl := by
  rw [List.replicate_succ', List.map_append]
  rfl
theorem sc_is_name : FnScope ["name", "sign"] ["name"] (defScope s_is_name) := ⟨rfl, rfl, rfl, by decide +kernel, rfl, by decide +kernel, by decide +kernel⟩
theorem okS_is_name (T : Txt K mg) : Ok P w K mg base CX0 1 (He.ga K "is_name") ["name"] spIsName := by
  refine ok_of T.f_is_name sc_is_name (fun _ _ _ _ _ _ us hl => match us, hl with | [_], _ => rfl) (fun vs H Q E h => ?_) (fun cdv A outer s H vs Q E hr h => ?_)
  · obtain ⟨z, rfl, _⟩ := h
    rfl
  · obtain ⟨z, rfl, ok, k⟩ := h
    have ⟨l1, l4⟩ := okName_len ok
    have al := okName_all ok
    refine ⟨_, PSs.nox (pss_cons (ps_if (PW.pt (pw_or (pt_not (pt_chain op_le op_le pe_int (pe_callB (call_lenR) (by rfl) T.b_len (by decide +kernel) (pa_cons (pv 0) pa_nil)) (pe_gI rfl T.i_LONGEST_NAME))) (pw_or1 (pt_cmpR (op_signIn) pe_str (pv 0) (by rfl))))) (pss_one (ps_ret pe_bl)) pss_nil)
 (pss_one (ps_ret (pe_callB (cr_all rfl) (by rfl) T.b_all (by decide +kernel) (pa_cons (pe_lc (own := [("sign", 1)]) rfl sc_is_name.nd (pi_str (pv 0)) (blkOk_by (own := [("sign", 1)]) (N := ["name", "sign"]) (sc := defScope s_is_name) (by decide +kernel)) (fun _ _ _ _ _ => (pg_name (i := 1) sc_is_name.nd rfl (Or.inl rfl))) (fun _ _ _ _ _ => pts_nil) (fun _ _ _ _ _ => (pe_cmpR (op_signIn) (pv 1) (pe_gS rfl T.z_LETTERS_maps) (by rfl)))) pa_nil))))), ?_⟩
    walk_at "rd"
    refine r_lenS (Nat.le_trans l4 (by decide)) ?_
    walk_at "rd"
    refine if_decT (by omega) ?_
    walk_at "rd"
    refine if_bF (by rw [decide_eq_true (by omega)] <;> rfl) ?_
    walk_at "rd"
    refine ⟨32, z, by kernel_rfl, rfl, ?_⟩
    walk_at "rd"
    refine if_decF (fun q => alpha_32 (al _ q)) ?_
    walk_at "rd"
    refine r_iS ?_
    walk_at "rd"
    refine l_it walk_str (fun D i H1 => H D = none ∧ Same H H1 ∧ H1 D = some (.lst ((List.replicate i true).map V.bl))) (fun D hD => ⟨hD, same_upd hD, upd_same⟩) (fun _ _ _ _ _ => trivial) (fun D i x H1 H2 hi p y => ?_) (fun D H1 p => ?_)
    · obtain ⟨nD, s1, hD⟩ := p
      obtain ⟨rfl, c, hc, rfl⟩ := y
      walk_at "rd"
      refine ⟨rfl, ?_⟩
      walk_at "rd"
      refine iteT ?_
      walk_at "rd"
      refine r_signIn ?_
      rw [letS, decide_eq_true (List.mem_cons_of_mem _ (al c (List.mem_of_getElem? (by rw [Array.getElem?_toList]; exact hc))))]
      refine ⟨_, hD, by rw [List.length_map, List.length_replicate]; exact Nat.lt_of_lt_of_le hi (Nat.le_trans l4 (by decide)), ?_⟩
      rw [rep_snoc]
      exact ⟨nD, same_re nD s1, upd_same⟩
    · obtain ⟨nD, s1, hD⟩ := p
      refine ⟨D, List.replicate z.cps.size true, rfl, .of hD, ?_⟩
      walk_at "rd"
      rw [all_rep]
      exact k _ s1
theorem sc_look_at_near : FnScope ["house", "near", "seen", "other", "quiet", "pair"] ["house", "near"] (defScope s_look_at_near) := ⟨rfl, rfl, rfl, by decide +kernel, rfl, by decide +kernel, by decide +kernel⟩
theorem okS_look_at_near (T : Txt K mg) (F_is_house : Ok P w K mg base CX0 1 (He.ga K "is_house") ["number"] spIsHouse) : Ok P w K mg base CX0 2 (He.ga K "look_at_near") ["house", "near"] (spLookNear K) := by
  refine ok_of T.f_look_at_near sc_look_at_near (fun _ _ _ _ _ _ us hl => match us, hl with | [_, _], _ => rfl) (fun vs H Q E h => ?_) (fun cdv A outer s H vs Q E hr h => ?_)
  · obtain ⟨h, l, rfl, _⟩ := h
    rfl
  · obtain ⟨h, l, rfl, hl, k⟩ := h
    refine ⟨_, PSs.nox (pss_cons (ps_if (pt_cmpR (op_gt) (pe_callB (call_lenR) (by rfl) T.b_len (by decide +kernel) (pa_cons (pv 1) pa_nil)) (pe_gI rfl T.i_MOST_NEAR) (nomark _)) (pss_one ps_never) pss_nil)
 (pss_cons (ps_set (i := 2) sc_look_at_near.nd rfl (Or.inl rfl) (pe_disp (pps_cons (pv 0) pe_bl pps_nil) (by rfl) (by rfl) (fun z => by cases z) (by decide)))
 (pss_one (ps_for PassesOwn.never rfl (pi_list (pv 1)) (pg_tup rfl (pgs_cons (pg_name (i := 3) sc_look_at_near.nd rfl (Or.inl rfl)) (pgs_cons (pg_name (i := 4) sc_look_at_near.nd rfl (Or.inl rfl)) (pgs_cons (pg_name (i := 5) sc_look_at_near.nd rfl (Or.inl rfl)) pgs_nil))) (by rfl)) (pss_cons (ps_if (PW.pt (pw_or (pt_not (pt_val (pe_callO F_is_house (hr.mono (by decide)) rfl T.g_is_house pass0 (pa_cons (pv 3) pa_nil)))) (pw_or (pt_cmp (pc_din (room1 hr) (pv 3) (pv 2))) (pw_or1 (pt_not (pt_chain op_le op_le pe_int (pv 4) (pe_gI rfl T.i_MOST_QUIET))))))) (pss_one ps_never) pss_nil)
 (pss_cons (ps_if (PW.pt (pw_or (pt_not (pt_chain op_le op_le pe_int (pe_ix ix_tup (pv 5) pe_int (fun _ _ => rfl)) (pe_gI rfl T.i_MOST_BIRTH))) (pw_or1 (pt_not (pt_chain op_le op_le pe_int (pe_ix ix_tup (pv 5) pe_int (fun _ _ => rfl)) (pe_gI rfl T.i_MOST_BIRTH)))))) (pss_one ps_never) pss_nil)
 (pss_one (ps_dput (room1 hr) (pv 2) (pv 3) pe_bl rfl)))))))), ?_⟩
    walk_at "rd"
    refine r_lenL hl ?_
    walk_at "rd"
    refine if_decF (by decide) ?_
    walk_at "rd"
    intro p np
    walk_at "rd"
    refine r_disp1 upd_same ?_
    walk_at "rd"
    have s1 := same_re (o := .dK [(Sum.inl h, .bl true)]) np (same_upd (o := .dK []) np)
    walk_at "rd"
    refine r_iL (s1.seq hl) ?_
    walk_at "rd"
    refine f_nil (s1.seq hl) ?_
    exact k _ s1
theorem sc_look_at_names : FnScope ["names", "name"] ["names"] (defScope s_look_at_names) := ⟨rfl, rfl, rfl, by decide +kernel, rfl, by decide +kernel, by decide +kernel⟩
theorem okS_look_at_names (T : Txt K mg) (F_is_name : Ok P w K mg base CX0 1 (He.ga K "is_name") ["name"] spIsName) : Ok P w K mg base CX0 2 (He.ga K "look_at_names") ["names"] (spLookNames K) := by
  refine ok_of T.f_look_at_names sc_look_at_names (fun _ _ _ _ _ _ us hl => match us, hl with | [_], _ => rfl) (fun vs H Q E h => ?_) (fun cdv A outer s H vs Q E hr h => ?_)
  · obtain ⟨l, zs, rfl, _⟩ := h
    rfl
  · obtain ⟨l, zs, rfl, hl, l4, nd, oks, k⟩ := h
    refine ⟨_, PSs.nox (pss_cons (ps_if (PW.pt (pw_or (pt_cmpR (op_gt) (pe_callB (call_lenR) (by rfl) T.b_len (by decide +kernel) (pa_cons (pv 0) pa_nil)) (pe_gI rfl T.i_MOST_NAMES_maps) (nomark _)) (pw_or1 (pt_cmpR (op_lt) (pe_lenSetS rfl (by rfl) T.b_len (by rfl) T.b_set (pv 0)) (pe_callB (call_lenR) (by rfl) T.b_len (by decide +kernel) (pa_cons (pv 0) pa_nil)) (nomark _))))) (pss_one ps_never) pss_nil)
 (pss_one (ps_for PassesOwn.never rfl (pi_list (pv 0)) (pg_name (i := 1) sc_look_at_names.nd rfl (Or.inl rfl)) (pss_one (ps_if (pt_not (pt_val (pe_callO F_is_name (hr.mono (by decide)) rfl T.g_is_name pass0 (pa_cons (pv 1) pa_nil)))) (pss_one ps_never) pss_nil))))), ?_⟩
    walk_at "rd"
    refine r_lenL hl ?_
    rw [List.length_map]
    walk_at "rd"
    refine if_decF (by omega) ?_
    walk_at "rd"
    refine ⟨_, rfl, l, zs, rfl, hl, nd, by omega, ?_⟩
    walk_at "rd"
    refine r_lenL hl ?_
    rw [List.length_map]
    walk_at "rd"
    refine if_decF (by omega) ?_
    walk_at "rd"
    refine r_iL hl ?_
    walk_at "rd"
    refine f_list (xs := zs.map V.str) (fun i σ H1 => Same H H1 ∧ ∃ v, σ = [some (.ref l), v]) ⟨Same.refl _, _, rfl⟩ (fun i σ H1 _ p => p.1.seq hl) (fun i x σ H1 hx p => ?_) (fun σ H1 p => ?_)
    · obtain ⟨s1, v, rfl⟩ := p
      rw [List.getElem?_map] at hx
      obtain ⟨z, hz, rfl⟩ := Option.map_eq_some_iff.mp hx
      walk_at "rd"
      refine ⟨z, rfl, oks z (List.mem_of_getElem? hz), fun H2 s2 => ?_⟩
      walk_at "rd"
      refine if_bF rfl ?_
      walk_at "rd"
      exact ⟨s1.trans s2, _, rfl⟩
    · exact k _ p.1
theorem sc_made_news : FnScope ["house", "number", "near", "names", "wires", "other", "quiet", "pair"] ["house", "number", "near", "names"] (defScope s_made_news) := ⟨rfl, rfl, rfl, by decide +kernel, rfl, by decide +kernel, by decide +kernel⟩
theorem okS_made_news (T : Txt K mg) (F_is_house : Ok P w K mg base CX0 1 (He.ga K "is_house") ["number"] spIsHouse) (F_look_at_near : Ok P w K mg base CX0 2 (He.ga K "look_at_near") ["house", "near"] (spLookNear K))
    (F_look_at_names : Ok P w K mg base CX0 2 (He.ga K "look_at_names") ["names"] (spLookNames K)) : Ok P w K mg base CX0 3 (He.ga K "made_news") ["house", "number", "near", "names"] (spMadeNews K) := by
  refine ok_of T.f_made_news sc_made_news (fun _ _ _ _ _ _ us hl => match us, hl with | [_, _, _, _], _ => rfl) (fun vs H Q E h => ?_) (fun cdv A outer s H vs Q E hr h => ?_)
  · obtain ⟨h, n, l, z, zs, rfl, _⟩ := h
    rfl
  · obtain ⟨h, n, l, z, zs, rfl, h0, h1, n0, n1, hl, hz, l4, nd, oks, k⟩ := h
    refine ⟨_, PSs.nox (pss_cons (ps_if (PW.pt (pw_or (pt_not (pt_val (pe_callO F_is_house (hr.mono (by decide)) rfl T.g_is_house pass0 (pa_cons (pv 0) pa_nil)))) (pw_or1 (pt_not (pt_chain op_le op_le pe_int (pv 1) (pe_gI rfl T.i_MOST_NUMBER)))))) (pss_one ps_never) pss_nil)
 (pss_cons (ps_expr (pe_callO F_look_at_near (hr.mono (by decide)) rfl T.g_look_at_near pass0 (pa_cons (pv 0) (pa_cons (pv 2) pa_nil))))
 (pss_cons (ps_expr (pe_callO F_look_at_names (hr.mono (by decide)) rfl T.g_look_at_names pass0 (pa_cons (pv 3) pa_nil)))
 (pss_cons (ps_setLc (i := 4) (own := [("other", 5), ("quiet", 6), ("pair", 7)]) (g := (gTup K 3 (gCons (gName 5) (gCons (gName 6) (gCons (gName 7) gNil))))) rfl sc_made_news.nd rfl rfl (sw_true rfl rfl rfl (by decide +kernel)) (pi_list (pv 2)) (blkOk_by (own := [("other", 5), ("quiet", 6), ("pair", 7)]) (N := ["house", "number", "near", "names", "wires", "other", "quiet", "pair"]) (sc := defScope s_made_news) (by decide +kernel)) (fun _ _ _ _ _ => (pg_tup rfl (pgs_cons (pg_name (i := 5) sc_made_news.nd rfl (Or.inl rfl)) (pgs_cons (pg_name (i := 6) sc_made_news.nd rfl (Or.inl rfl)) (pgs_cons (pg_name (i := 7) sc_made_news.nd rfl (Or.inl rfl)) pgs_nil))) (by rfl))) (fun _ _ _ _ _ => pts_nil) (fun _ _ _ _ _ => (pe_tup (pa_cons (pv 5) (pa_cons (pv 6) (pa_cons (pe_tup (pa_cons (pe_ix (r := rIxT K) ix_tup (pv 7) pe_int (fun _ _ => rfl)) (pa_cons (pe_ix (r := rIxT K) ix_tup (pv 7) pe_int (fun _ _ => rfl)) pa_nil))) pa_nil))))))
 (pss_one (ps_ret (pe_tup (pa_cons (pv 0) (pa_cons (pv 1) (pa_cons (pe_callTy (call_tupR) (by rfl) T.b_tuple (by decide +kernel) (pa_cons (pe_callB (cr_sortedS) (by rfl) T.b_sorted (by decide +kernel) (pa_cons (pv 4) pa_nil)) pa_nil)) (pa_cons (pe_callTy (call_tupR) (by rfl) T.b_tuple (by decide +kernel) (pa_cons (pe_callB (cr_sortedS) (by rfl) T.b_sorted (by decide +kernel) (pa_cons (pv 3) pa_nil)) pa_nil)) pa_nil))))))))))), ?_⟩
    walk_at "rd"
    refine ⟨h, rfl, ?_⟩
    walk_at "rd"
    refine if_bF (by rw [decide_eq_true (show 0 ≤ h ∧ h ≤ 31 from ⟨h0, h1⟩)] <;> rfl) ?_
    walk_at "rd"
    refine if_decT (by omega) ?_
    walk_at "rd"
    refine if_bF (by rw [decide_eq_true (by omega)] <;> rfl) ?_
    walk_at "rd"
    refine ⟨h, l, rfl, hl, fun H1 s1 => ?_⟩
    walk_at "rd"
    refine ⟨z, zs, rfl, s1.seq hz, l4, nd, oks, fun H2 s2 => ?_⟩
    walk_at "rd"
    have s12 := s1.trans s2
    walk_at "rd"
    refine r_iL (s12.seq hl) ?_
    walk_at "rd"
    refine l_nil (s12.seq hl) fun D nD => ?_
    walk_at "rd"
    have s3 := sm (o := .lst []) s12 nD
    walk_at "rd"
    refine r_sortS (xs := []) (.of upd_same) (by decide) fun ys p pm so np => ?_
    have ey : ys = [] := List.Perm.eq_nil pm
    subst ey
    have s4 := sm (o := .lst []) s3 np
    walk_at "rd"
    refine r_tupL (.of upd_same) fun t nt => ?_
    have s5 := sm (o := .tup []) s4 nt
    walk_at "rd"
    refine r_sortS (s5.seq hz) (by omega) fun ys p2 pm2 so2 np2 => ?_
    have s6 := sm (o := .lst (ys.map V.str)) s5 np2
    walk_at "rd"
    refine r_tupL (.of upd_same) fun t2 nt2 => ?_
    have s7 := sm (o := .tup (ys.map V.str)) s6 nt2
    walk_at "rd"
    refine ⟨by show 4 ≤ sizeLine; decide, fun r nr => ?_⟩
    have s8 := sm (o := .tup [.int h, .int n, .ref t, .ref t2]) s7 nr
    refine k _ r ys s8 (s7.free nr) pm2 so2 ⟨t, t2, upd_same, ?_, ?_⟩
    all_goals walk_at "hp"

end
end K54

namespace K54
open PySem PySem.Spec PyProof.Rows L2
section
variable {P : Program} {w : World} {K : PySem.W.Frag} {mg : Str → Option Value} {base : Heap}
theorem sc_Map_init : FnScope ["self"] ["self"] (defScope s_Map_init) := ⟨rfl, rfl, rfl, by decide +kernel, rfl, by decide +kernel, by decide +kernel⟩
theorem okS_Map_init (T : Txt K mg) : Ok P w K mg base CX0 1 (He.ma K (He.ga K "Map") "__init__") ["self"] (spMapInit K) := by
  refine ok_of T.f_Map_init sc_Map_init (fun _ _ _ _ _ _ us hl => match us, hl with | [_], _ => rfl) (fun vs H Q E h => ?_) (fun cdv A outer s H vs Q E hr h => ?_)
  · obtain ⟨p, dx, rfl, _⟩ := h
    rfl
  · obtain ⟨p, dx, rfl, hp, k⟩ := h
    refine ⟨_, PSs.nox (pss_one (ps_fld (pv 0) pe_dnewK rfl)), ?_⟩
    walk_at "rd"
    intro d nd
    walk_at "rd"
    have n1 : d ≠ p := by walk_at "ne"
    walk_at "rd"
    refine r_setAt (by walk_at "hp") T.k_Map T.n_Map_kept_news (by walk_at "lt") ?_
    refine k _ d nd upd_same (by walk_at "hp") fun b o e nb => ?_
    walk_at "hp"
theorem valV_one (h : Int) (v : V) : valV [((Sum.inl h : Key), v)] (Sum.inl h) = some v := by
  unfold valV
  simp
theorem sc_Map_hear : FnScope ["self", "news"] ["self", "news"] (defScope s_Map_hear) := ⟨rfl, rfl, rfl, by decide +kernel, rfl, by decide +kernel, by decide +kernel⟩
theorem okS_Map_hear (T : Txt K mg) : Ok P w K mg base CX0 1 (He.ma K (He.ga K "Map") "hear") ["self", "news"] (spHear K) := by
  refine ok_of T.f_Map_hear sc_Map_hear (fun _ _ _ _ _ _ us hl => match us, hl with | [_, _], _ => rfl) (fun vs H Q E h => ?_) (fun cdv A outer s H vs Q E hr h => ?_)
  · obtain ⟨m, dm, d, t, h, n, rest, kvs, rfl, _⟩ := h
    rfl
  · obtain ⟨m, dm, d, t, h, n, rest, kvs, rfl, hm, hd, ht, hk, k⟩ := h
    refine ⟨_, PSs.nox (pss_cons (ps_if (PW.pt (pw_and (pt_cmp (pc_din (room1 hr) (pe_ix ix_tup (pv 1) pe_int (fun _ _ => rfl)) (pe_fld (pv 0) rfl))) (pw_and1 (pt_cmpR (op_ge) (pe_ix ix_tup (pe_dget (room1 hr) (pe_fld (pv 0) rfl) (pe_ix ix_tup (pv 1) pe_int (fun _ _ => rfl)) (fun _ _ => rfl)) pe_int (fun _ _ => rfl)) (pe_ix ix_tup (pv 1) pe_int (fun _ _ => rfl)) (nomark _))))) (pss_one (ps_ret pe_bl)) pss_nil)
 (pss_cons (ps_dput (room1 hr) (pe_fld (pv 0) rfl) (pe_ix ix_tup (pv 1) pe_int (fun _ _ => rfl)) (pv 1) rfl)
 (pss_one (ps_ret pe_bl)))), ?_⟩
    walk_at "rd"
    refine r_ixT (.of ht) (atI_nat (j := 0) rfl) ?_
    walk_at "rd"
    refine r_fldAt (by walk_at "hp") T.k_Map T.n_Map_kept_news (by first | assumption | exact rfl) ?_
    walk_at "rd"
    refine r_dinI (.inl hd) ?_
    walk_at "rd"
    have fin : putK kvs (Sum.inl h) (.ref t) = [(Sum.inl h, .ref t)] ∧ kvs.length < sizeLine := by
      rcases hk with rfl | ⟨t0, h0, n0, rest0, rfl, _⟩
      · exact ⟨rfl, by decide⟩
      · refine ⟨?_, by show 1 < sizeLine; decide⟩
        simp [putK]
    have rest2 : ∀ q : Prop, (q ↔ q) → True := fun _ _ => trivial
    rcases hk with rfl | ⟨t0, h0, n0, rest0, rfl, ht0, hlt⟩
    · walk_at "rd"
      refine if_bF rfl ?_
      walk_at "rd"
      refine iteF ?_
      walk_at "rd"
      refine r_fldAt (by walk_at "hp") T.k_Map T.n_Map_kept_news (by first | assumption | exact rfl) ?_
      walk_at "rd"
      refine r_ixT (.of ht) (atI_nat (j := 0) rfl) ?_
      walk_at "rd"
      refine r_dputI hd fin.2 ?_
      rw [fin.1]
      exact k
    · walk_at "rd"
      refine if_bT (by rw [valV_one] <;> rfl) ?_
      walk_at "rd"
      refine r_fldAt (by walk_at "hp") T.k_Map T.n_Map_kept_news (by first | assumption | exact rfl) ?_
      walk_at "rd"
      refine r_ixT (.of ht) (atI_nat (j := 0) rfl) ?_
      walk_at "rd"
      refine r_dgetI (.inl hd) (valV_one _ _) ?_
      walk_at "rd"
      refine r_ixT (.of ht0) (atI_nat (j := 1) rfl) ?_
      walk_at "rd"
      refine r_ixT (.of ht) (atI_nat (j := 1) rfl) ?_
      walk_at "rd"
      refine if_decF (by omega) ?_
      walk_at "rd"
      refine r_fldAt (by walk_at "hp") T.k_Map T.n_Map_kept_news (by first | assumption | exact rfl) ?_
      walk_at "rd"
      refine r_ixT (.of ht) (atI_nat (j := 0) rfl) ?_
      walk_at "rd"
      refine r_dputI hd fin.2 ?_
      rw [fin.1]
      exact k
theorem sc_Map_news : FnScope ["self", "house"] ["self"] (defScope s_Map_news) := ⟨rfl, rfl, rfl, by decide +kernel, rfl, by decide +kernel, by decide +kernel⟩
theorem okS_Map_news (T : Txt K mg) : Ok P w K mg base CX0 1 (He.ma K (He.ga K "Map") "news") ["self"] (spMapNews K) := by
  refine ok_of T.f_Map_news sc_Map_news (fun _ _ _ _ _ _ us hl => match us, hl with | [_], _ => rfl) (fun vs H Q E h => ?_) (fun cdv A outer s H vs Q E hr h => ?_)
  · obtain ⟨m, d, t, h, n, names, rfl, _⟩ := h
    rfl
  · obtain ⟨m, d, t, h, n, names, rfl, ⟨⟨dm, hm⟩, hd, hn⟩, k⟩ := h
    refine ⟨_, PSs.nox (pss_one (ps_ret (pe_lc (own := [("house", 1)]) rfl sc_Map_news.nd (pi_list (pe_callB (cr_sorted) (by rfl) T.b_sorted (by decide +kernel) (pa_cons (pe_callTy (call_listDR rfl) (by rfl) T.b_list (by decide +kernel) (pa_cons (pe_fld (pv 0) rfl) pa_nil)) pa_nil))) (blkOk_by (own := [("house", 1)]) (N := ["self", "house"]) (sc := defScope s_Map_news) (by decide +kernel)) (fun _ _ _ _ _ => (pg_name (i := 1) sc_Map_news.nd rfl (Or.inl rfl))) (fun _ _ _ _ _ => pts_nil) (fun _ _ _ _ _ => (pe_dget (room1 hr) (show PE _ _ (tFld K _ _) from pe_fld (pv 0) rfl) (pv 1) (fun _ _ => rfl)))))), ?_⟩
    walk_at "rd"
    refine r_fldAt (by walk_at "hp") T.k_Map T.n_Map_kept_news (by first | assumption | exact rfl) ?_
    walk_at "rd"
    refine r_listD (.inl hd) fun p np => ?_
    have s1 := same_upd (o := .lst [V.int h]) np
    walk_at "rd"
    refine r_sortI (xs := [h]) (.of upd_same) (by show 1 < 64; decide) fun ys q pm _ nq => ?_
    have ey : ys = [h] := List.perm_singleton.mp pm
    subst ey
    have s2 := sm (o := .lst [V.int h]) s1 nq
    walk_at "rd"
    refine r_iL (.of upd_same) ?_
    walk_at "rd"
    refine l_one (.of upd_same) fun D nD => ?_
    have s3 := sm (o := .lst []) s2 nD
    walk_at "rd"
    refine ⟨rfl, ?_⟩
    walk_at "rd"
    refine iteT ?_
    walk_at "rd"
    refine r_fldAt (by walk_at "hp") T.k_Map T.n_Map_kept_news (by first | assumption | exact rfl) ?_
    walk_at "rd"
    refine r_dgetI (.inl (by walk_at "hp")) (valV_one _ _) ?_
    have nq2 : q ≠ D := ne_of_none upd_same nD
    refine ⟨[], upd_same, by decide, .of (by walk_at "hp"), ?_⟩
    refine k _ D ?_ ?_ upd_same
    · have s4 := same_re (o := .lst ([] ++ [V.ref t])) nD (same_upd (o := .lst []) nD)
      exact s2.trans s4
    · exact s2.free nD
theorem sc_Map_wires : FnScope ["self", "found", "house", "other", "quiet", "pair", "back"] ["self"] (defScope s_Map_wires) := ⟨rfl, rfl, rfl, by decide +kernel, rfl, by decide +kernel, by decide +kernel⟩
theorem okS_Map_wires (T : Txt K mg) : Ok P w K mg base CX0 1 (He.ma K (He.ga K "Map") "wires") ["self"] (spMapWires K) := by
  refine ok_of T.f_Map_wires sc_Map_wires (fun _ _ _ _ _ _ us hl => match us, hl with | [_], _ => rfl) (fun vs H Q E h => ?_) (fun cdv A outer s H vs Q E hr h => ?_)
  · obtain ⟨m, d, t, h, n, names, rfl, _⟩ := h
    rfl
  · obtain ⟨m, d, t, h, n, names, rfl, ⟨⟨dm, hm⟩, hd, hn⟩, k⟩ := h
    obtain ⟨tw, tn, ht, htw, htn⟩ := hn
    refine ⟨_, PSs.nox (pss_cons (ps_set (i := 1) sc_Map_wires.nd rfl (Or.inl rfl) (pe_lst pa_nil))
 (pss_cons (ps_for PassesOwn.never rfl (pi_list (pe_callB (cr_sorted) (by rfl) T.b_sorted (by decide +kernel) (pa_cons (pe_callTy (call_listDR rfl) (by rfl) T.b_list (by decide +kernel) (pa_cons (pe_fld (pv 0) rfl) pa_nil)) pa_nil))) (pg_name (i := 2) sc_Map_wires.nd rfl (Or.inl rfl)) (pss_one (ps_for PassesOwn.never rfl (pi_tup (pe_ix ix_tup (pe_dget (room1 hr) (pe_fld (pv 0) rfl) (pv 2) (fun _ _ => rfl)) pe_int (fun _ _ => rfl))) (pg_tup rfl (pgs_cons (pg_name (i := 3) sc_Map_wires.nd rfl (Or.inl rfl)) (pgs_cons (pg_name (i := 4) sc_Map_wires.nd rfl (Or.inl rfl)) (pgs_cons (pg_name (i := 5) sc_Map_wires.nd rfl (Or.inl rfl)) pgs_nil))) (by rfl)) (pss_cons ps_never
 (pss_one ps_never)))))
 (pss_one (ps_ret (pv 1))))), ?_⟩
    walk_at "rd"
    refine ⟨by decide, fun f nf => ?_⟩
    have s0 := same_upd (o := .lst []) nf
    walk_at "rd"
    refine r_fldAt (by walk_at "hp") T.k_Map T.n_Map_kept_news (by first | assumption | exact rfl) ?_
    walk_at "rd"
    refine r_listD (.inl (by walk_at "hp")) fun p np => ?_
    have s1 := sm (o := .lst [V.int h]) s0 np
    walk_at "rd"
    refine r_sortI (xs := [h]) (.of upd_same) (by show 1 < 64; decide) fun ys q pm _ nq => ?_
    have ey : ys = [h] := List.perm_singleton.mp pm
    subst ey
    have s2 := sm (o := .lst [V.int h]) s1 nq
    have hf : upd (upd (upd H f (.lst [])) p (.lst ([h].map V.int))) q (.lst ([h].map V.int)) f = some (.lst []) := by walk_at "hp"
    walk_at "rd"
    refine r_iL (.of upd_same) ?_
    walk_at "rd"
    refine f_list (xs := [V.int h]) (fun i σ H1 => H1 = upd (upd (upd H f (.lst [])) p (.lst ([h].map V.int))) q (.lst ([h].map V.int)) ∧ ∃ a b c e g, σ = [some (.ref m), some (.ref f), a, b, c, e, g]) ⟨rfl, _, _, _, _, _, rfl⟩ (fun i σ H1 _ p => p.1 ▸ .of upd_same) (fun i x σ H1 hx p => ?_) (fun σ H1 p => ?_)
    · obtain ⟨rfl, a, b, c, e, g, rfl⟩ := p
      have ex : x = .int h := by
        cases i with
        | zero => exact (Option.some.inj hx).symm
        | succ i => exact nomatch hx
      subst ex
      walk_at "rd"
      refine r_fldAt (by walk_at "hp") T.k_Map T.n_Map_kept_news (by first | assumption | exact rfl) ?_
      walk_at "rd"
      refine r_dgetI (.inl (by walk_at "hp")) (valV_one _ _) ?_
      walk_at "rd"
      refine r_ixT (.of (s2 _ _ ht)) (atI_nat (j := 2) rfl) ?_
      walk_at "rd"
      refine r_iT (.of (s2 _ _ htw)) ?_
      walk_at "rd"
      refine f_nilT (.of (s2 _ _ htw)) ?_
      exact ⟨rfl, _, _, _, _, _, rfl⟩
    · obtain ⟨rfl, a, b, c, e, g, rfl⟩ := p
      walk_at "rd"
      exact k _ f s2 nf hf
theorem sc_Map_copy : FnScope ["self", "other", "house"] ["self"] (defScope s_Map_copy) := ⟨rfl, rfl, rfl, by decide +kernel, rfl, by decide +kernel, by decide +kernel⟩
theorem okS_Map_copy (T : Txt K mg) (F_Map_init : Ok P w K mg base CX0 1 (He.ma K (He.ga K "Map") "__init__") ["self"] (spMapInit K)) (F_Map_hear : Ok P w K mg base CX0 1 (He.ma K (He.ga K "Map") "hear") ["self", "news"] (spHear K)) :
    Ok P w K mg base CX0 3 (He.ma K (He.ga K "Map") "copy") ["self"] (spMapCopy K) := by
  refine ok_of T.f_Map_copy sc_Map_copy (fun _ _ _ _ _ _ us hl => match us, hl with | [_], _ => rfl) (fun vs H Q E h => ?_) (fun cdv A outer s H vs Q E hr h => ?_)
  · obtain ⟨m, d, t, h, n, names, rfl, _⟩ := h
    rfl
  · obtain ⟨m, d, t, h, n, names, rfl, ⟨⟨dm, hm⟩, hd, hn⟩, k⟩ := h
    obtain ⟨tw, tn, ht, htw, htn⟩ := hn
    refine ⟨_, PSs.nox (pss_cons (ps_set (i := 1) sc_Map_copy.nd rfl (Or.inl rfl) (pe_make0O T.m_Map F_Map_init (hr.mono (by decide)) rfl T.c_Map pass0))
 (pss_cons (ps_lock (ps_for PassesOwn.never rfl (pi_keys (pe_fld (pv 0) rfl)) (pg_name (i := 2) sc_Map_copy.nd rfl (Or.inl rfl)) (pss_one (ps_expr (pe_methO (pv 1) T.k_Map T.t_Map_hear F_Map_hear (hr.mono (by decide)) pass0 (pa_cons (pe_dget (room1 hr) (pe_fld (pv 0) rfl) (pv 2) (fun _ _ => rfl)) pa_nil))))))
 (pss_one (ps_ret (pv 1))))), ?_⟩
    walk_at "rd"
    intro x dx nx ndx nn
    refine ⟨x, dx, rfl, upd_same, fun H1 d2 nd2 hx1 hd2 kp => ⟨rfl, ?_⟩⟩
    have s1 := made_same nx ndx kp
    have nd2' : H d2 = none := by
      have e := (show upd (upd H dx (.own x)) x (.ins (He.ga K "Map") dx []) d2 = none from nd2)
      have n1 : d2 ≠ x := fun q => by subst q; rw [upd_same] at e; cases e
      rw [upd_ne n1] at e
      have n2 : d2 ≠ dx := fun q => by subst q; rw [upd_same] at e; cases e
      rw [upd_ne n2] at e
      exact e
    have hm1 := s1 _ _ hm
    have hd1 := s1 _ _ hd
    have nxd : d ≠ x := ne_of_none hd nx
    have ndd : d ≠ d2 := ne_of_none hd nd2'
    walk_at "rd"
    refine ⟨d, _, hd1, trivial, fun od => ?_⟩
    walk_at "rd"
    have hmd : m ≠ d := fun q => by subst q; cases hm.symm.trans hd
    walk_at "rd"
    refine r_fldAt (by walk_at "hp") T.k_Map T.n_Map_kept_news (by first | assumption | exact rfl) ?_
    have nxd2 : x ≠ d2 := fun q => by subst q; cases hx1.symm.trans hd2
    have nxd' : x ≠ d := Ne.symm nxd
    have ndd' : d2 ≠ d := Ne.symm ndd
    walk_at "rd"
    refine r_iK upd_same ?_
    walk_at "rd"
    refine f_it walk_keys (fun i σ H2 => (∃ v, σ = [some (.ref m), some (.ref x), v]) ∧ match i with
      | 0 => H2 = upd H1 d (.frz od (.dK [(Sum.inl h, .ref t)]))
      | _ => H2 = upd (upd H1 d (.frz od (.dK [(Sum.inl h, .ref t)]))) d2 (.dK [(Sum.inl h, .ref t)])) ⟨⟨none, rfl⟩, rfl⟩ (fun i σ H2 _ p => ?_) (fun i y σ H2 H3 hi p y => ?_) (fun σ H2 p => ?_)
    · match i, p with
      | 0, p => rw [p.2]; exact upd_same
      | _ + 1, p =>
        have e : H2 = upd (upd H1 d (.frz od (.dK [(Sum.inl h, .ref t)]))) d2 (.dK [(Sum.inl h, .ref t)]) := p.2
        rw [e, upd_ne ndd]
        exact upd_same
    · match i, p, y with
      | i + 1, p, y => exact absurd hi (by show ¬ i + 1 < 1; omega)
      | 0, p, y =>
        obtain ⟨⟨v, rfl⟩, e⟩ := p
        have e : H2 = upd H1 d (.frz od (.dK [(Sum.inl h, .ref t)])) := e
        subst e
        obtain ⟨rfl, k', v', e1, rfl⟩ := y
        cases e1
        walk_at "rd"
        refine r_methAt (p := x) (dx := dx) (fs := [("kept_news", .ref d2)]) (by walk_at "hp") (by kernel_rfl) ?_
        walk_at "rd"
        refine r_fldAt (by walk_at "hp") T.k_Map T.n_Map_kept_news (by first | assumption | exact rfl) ?_
        walk_at "rd"
        refine r_dgetI (.inr ⟨od, upd_same⟩) (valV_one _ _) ?_
        walk_at "rd"
        have ntd : t ≠ d := fun q => by subst q; cases ht.symm.trans hd
        refine ⟨x, dx, d2, t, h, n, _, [], rfl, by walk_at "hp", by walk_at "hp", by walk_at "hp", .inl rfl, ?_⟩
        walk_at "rd"
        exact ⟨⟨_, rfl⟩, rfl⟩
    · obtain ⟨⟨v, rfl⟩, e⟩ := p
      have e : H2 = upd (upd H1 d (.frz od (.dK [(Sum.inl h, .ref t)]))) d2 (.dK [(Sum.inl h, .ref t)]) := e
      subst e
      refine ⟨by walk_at "hp", ?_⟩
      walk_at "rd"
      have s2 : Same H (upd (upd (upd H1 d (.frz od (.dK [(Sum.inl h, .ref t)]))) d2 (.dK [(Sum.inl h, .ref t)])) d (.dK [(Sum.inl h, .ref t)])) := fun b o eb => by
        by_cases q : b = d
        · subst q
          rw [upd_same]
          exact hd.symm.trans eb
        · have q2 : b ≠ d2 := ne_of_none eb nd2'
          rw [upd_ne q, upd_ne q2, upd_ne q]
          exact s1 _ _ eb
      exact k _ x d2 s2 nx ⟨⟨dx, by walk_at "hp"⟩, by walk_at "hp", NewsAt.same s2 ⟨tw, tn, ht, htw, htn⟩⟩

end
end K54

namespace K54
open PySem PySem.Spec PyProof.Rows L2
section
variable {P : Program} {w : World} {K : PySem.W.Frag} {mg : Str → Option Value} {base : Heap}
theorem sc_beside : FnScope ["wires", "house", "found", "a", "b", "length"] ["wires", "house"] (defScope s_beside) := ⟨rfl, rfl, rfl, by decide +kernel, rfl, by decide +kernel, by decide +kernel⟩
theorem okS_beside (T : Txt K mg) : Ok P w K mg base CX0 1 (He.ga K "beside") ["wires", "house"] (spBeside K) := by
  refine ok_of T.f_beside sc_beside (fun _ _ _ _ _ _ us hl => match us, hl with | [_, _], _ => rfl) (fun vs H Q E h => ?_) (fun cdv A outer s H vs Q E hr h => ?_)
  · obtain ⟨l, h, rfl, _⟩ := h
    rfl
  · obtain ⟨l, h, rfl, hl, k⟩ := h
    refine ⟨_, PSs.nox (pss_cons (ps_set (i := 2) sc_beside.nd rfl (Or.inl rfl) (pe_lst pa_nil))
 (pss_cons (ps_for PassesOwn.never rfl (pi_list (pv 0)) (pg_tup rfl (pgs_cons (pg_name (i := 3) sc_beside.nd rfl (Or.inl rfl)) (pgs_cons (pg_name (i := 4) sc_beside.nd rfl (Or.inl rfl)) (pgs_cons (pg_name (i := 5) sc_beside.nd rfl (Or.inl rfl)) pgs_nil))) (by rfl)) (pss_one (ps_if (pt_cmpR (op_eq) (pv 3) (pv 1) (nomark _)) (pss_one (ps_expr (pe_bm PySem.F.plainAttrs_list PySem.F.slot_list_append PySem.F.type_list_append mt_append (pv 2) (pa_cons (pe_tup (pa_cons (pv 4) (pa_cons (pv 5) pa_nil))) pa_nil)))) (pss_one (ps_if (pt_cmpR (op_eq) (pv 4) (pv 1) (nomark _)) (pss_one (ps_expr (pe_bm PySem.F.plainAttrs_list PySem.F.slot_list_append PySem.F.type_list_append mt_append (pv 2) (pa_cons (pe_tup (pa_cons (pv 3) (pa_cons (pv 5) pa_nil))) pa_nil)))) pss_nil)))))
 (pss_one (ps_ret (pe_callB (cr_sortedS) (by rfl) T.b_sorted (by decide +kernel) (pa_cons (pv 2) pa_nil)))))), ?_⟩
    walk_at "rd"
    refine ⟨by decide, fun f nf => ?_⟩
    have s0 := same_upd (o := .lst []) nf
    walk_at "rd"
    refine r_iL (s0.seq hl) ?_
    walk_at "rd"
    refine f_nil (s0.seq hl) ?_
    walk_at "rd"
    refine r_sortS (xs := []) (.of upd_same) (by decide) fun ys p pm so np => ?_
    have ey : ys = [] := List.Perm.eq_nil pm
    subst ey
    exact k _ p (sm s0 np) (s0.free np) upd_same
theorem sc_lengths_to : FnScope ["wires", "goal", "far", "changed", "house", "other", "length"] ["wires", "goal"] (defScope s_lengths_to) := ⟨rfl, rfl, rfl, by decide +kernel, rfl, by decide +kernel, by decide +kernel⟩
theorem okS_lengths_to (T : Txt K mg) (F_beside : Ok P w K mg base CX0 1 (He.ga K "beside") ["wires", "house"] (spBeside K)) : Ok P w K mg base CX0 2 (He.ga K "lengths_to") ["wires", "goal"] (spLengths K) := by
  refine ok_of T.f_lengths_to sc_lengths_to (fun _ _ _ _ _ _ us hl => match us, hl with | [_, _], _ => rfl) (fun vs H Q E h => ?_) (fun cdv A outer s H vs Q E hr h => ?_)
  · obtain ⟨l, h, rfl, _⟩ := h
    rfl
  · obtain ⟨l, h, rfl, hl, k⟩ := h
    refine ⟨_, PSs.nox (pss_cons (ps_set (i := 2) sc_lengths_to.nd rfl (Or.inl rfl) (pe_disp (pps_cons (pv 1) pe_int pps_nil) (by rfl) (by rfl) (fun z => by cases z) (by decide)))
 (pss_cons (ps_set (i := 3) sc_lengths_to.nd rfl (Or.inl rfl) pe_bl)
 (pss_cons (ps_while PassesOwn.never (pt_val (pv 3)) (pss_cons (ps_set (i := 3) sc_lengths_to.nd rfl (Or.inl rfl) pe_bl)
 (pss_one (ps_for PassesOwn.never rfl (pi_list (pe_callTy (call_listDR rfl) (by rfl) T.b_list (by decide +kernel) (pa_cons (pv 2) pa_nil))) (pg_name (i := 4) sc_lengths_to.nd rfl (Or.inl rfl)) (pss_one (ps_for PassesOwn.never rfl (pi_list (pe_callO F_beside (hr.mono (by decide)) rfl T.g_beside pass0 (pa_cons (pv 0) (pa_cons (pv 4) pa_nil)))) (pg_tup rfl (pgs_cons (pg_name (i := 5) sc_lengths_to.nd rfl (Or.inl rfl)) (pgs_cons (pg_name (i := 6) sc_lengths_to.nd rfl (Or.inl rfl)) pgs_nil)) (by rfl)) (pss_one ps_never)))))))
 (pss_one (ps_ret (pv 2)))))), ?_⟩
    walk_at "rd"
    intro d nd
    walk_at "rd"
    refine r_disp1 upd_same ?_
    walk_at "rd"
    have s0 := same_re (o := .dK [(Sum.inl h, .int 0)]) nd (same_upd (o := .dK []) nd)
    refine while_by (fun σ H1 => (∃ b a c e, σ = [some (.ref l), some (.int h), some (.ref d), some (.bl b), a, c, e]) ∧ Same H H1 ∧ H1 d = some (.dK [(Sum.inl h, .int 0)]))
      (fun σ _ => match σ[3]? with | some (some (V.bl true)) => 1 | _ => 0) ⟨⟨true, _, _, _, rfl⟩, s0, upd_same⟩ (fun σ H1 p => ?_) (fun σ H1 Q Q' m ⟨v, e, k, ek, q⟩ => ⟨v, e, k, ek, m _ _ q⟩)
    obtain ⟨⟨b, a, c, e, rfl⟩, s1, hd⟩ := p
    walk_at "rd"
    refine if_b (fun eb => ?_) (fun eb => ?_)
    · subst eb
      walk_at "rd"
      refine r_listD (.inl hd) fun q nq => ?_
      have s2 := sm (o := .lst [V.int h]) s1 nq
      have hd2 : upd H1 q (.lst [V.int h]) d = some (.dK [(Sum.inl h, .int 0)]) := by walk_at "hp"
      walk_at "rd"
      refine r_iL (.of upd_same) ?_
      walk_at "rd"
      refine f_list (xs := [V.int h]) (fun i σ H2 => (∃ a c e, σ = [some (.ref l), some (.int h), some (.ref d), some (.bl false), a, c, e]) ∧ Same H H2 ∧ H2 d = some (.dK [(Sum.inl h, .int 0)]) ∧ H2 q = some (.lst [V.int h])) ⟨⟨_, _, _, rfl⟩, s2, hd2, upd_same⟩ (fun i σ H2 _ p => .of p.2.2.2) (fun i x σ H2 hx p => ?_) (fun σ H2 p => ?_)
      · obtain ⟨⟨a, c, e, rfl⟩, s3, hd3, hq3⟩ := p
        have ex : x = .int h := by
          cases i with
          | zero => exact (Option.some.inj hx).symm
          | succ i => exact nomatch hx
        subst ex
        walk_at "rd"
        refine ⟨l, h, rfl, s3.seq hl, fun H3 r s4 nr hr3 => ?_⟩
        walk_at "rd"
        refine r_iL (.of hr3) ?_
        walk_at "rd"
        refine f_nil (.of hr3) ?_
        exact ⟨⟨_, _, _, rfl⟩, s3.trans s4, s4 _ _ hd3, s4 _ _ hq3⟩
      · obtain ⟨⟨a, c, e, rfl⟩, s3, hd3, hq3⟩ := p
        exact ⟨⟨⟨false, _, _, _, rfl⟩, s3, hd3⟩, by show 0 < 1; decide⟩
    · subst eb
      walk_at "rd"
      exact k _ d s1 nd hd
theorem sc_way_of : FnScope ["known", "one", "other", "wires", "far", "way", "house", "length"] ["known", "one", "other"] (defScope s_way_of) := ⟨rfl, rfl, rfl, by decide +kernel, rfl, by decide +kernel, by decide +kernel⟩
theorem okS_way_of (T : Txt K mg) (F_Map_wires : Ok P w K mg base CX0 1 (He.ma K (He.ga K "Map") "wires") ["self"] (spMapWires K)) (F_beside : Ok P w K mg base CX0 1 (He.ga K "beside") ["wires", "house"] (spBeside K)) (F_lengths_to : Ok P w K mg base CX0 2 (He.ga K "lengths_to") ["wires", "goal"] (spLengths K)) :
    Ok P w K mg base CX0 3 (He.ga K "way_of") ["known", "one", "other"] (spWayOf K) := by
  refine ok_of T.f_way_of sc_way_of (fun _ _ _ _ _ _ us hl => match us, hl with | [_, _, _], _ => rfl) (fun vs H Q E h => ?_) (fun cdv A outer s H vs Q E hr h => ?_)
  · obtain ⟨m, d, t, h, n, names, one, other, rfl, _⟩ := h
    rfl
  · obtain ⟨m, d, t, h, n, names, one, other, rfl, hm, k1, k2⟩ := h
    have hm' := hm
    obtain ⟨⟨dm, hm0⟩, _, _⟩ := hm'
    refine ⟨_, PSs.nox (pss_cons (ps_set (i := 3) sc_way_of.nd rfl (Or.inl rfl) (pe_meth0O (pv 0) T.k_Map T.t_Map_wires F_Map_wires (hr.mono (by decide)) pass0))
 (pss_cons (ps_set (i := 4) sc_way_of.nd rfl (Or.inr rfl) (pe_callO F_lengths_to (hr.mono (by decide)) rfl T.g_lengths_to pass0 (pa_cons (pv 3) (pa_cons (pv 2) pa_nil))))
 (pss_cons (ps_if (pt_cmp (pc_dnotin (room1 hr) (pv 1) (pv 4))) (pss_one (ps_ret (pe_tup (pa_cons pe_str (pa_cons (pe_callTy (call_tupR) (by rfl) T.b_tuple (by decide +kernel) (pa_cons (pe_callB (call_sortedDI rfl) (by rfl) T.b_sorted (by decide +kernel) (pa_cons (pe_callO F_lengths_to (hr.mono (by decide)) rfl T.g_lengths_to pass0 (pa_cons (pv 3) (pa_cons (pv 1) pa_nil))) pa_nil)) pa_nil)) pa_nil))))) pss_nil)
 (pss_cons (ps_set (i := 5) sc_way_of.nd rfl (Or.inr rfl) (pe_lst (pa_cons (pv 1) pa_nil)))
 (pss_cons (ps_while PassesOwn.never (pt_cmpR (op_ne) (pe_ix ix_list (pv 5) (pe_un un_neg pe_int) (fun _ _ => rfl)) (pv 2) (nomark _)) (pss_one ps_never))
 (pss_one (ps_ret (pe_tup (pa_cons pe_str (pa_cons (pe_callTy (call_tupR) (by rfl) T.b_tuple (by decide +kernel) (pa_cons (pv 5) pa_nil)) (pa_cons (pe_callB (cr_sortedP) (by rfl) T.b_sorted (by decide +kernel) (pa_cons (pe_lock (pe_lc (own := [("house", 6)]) rfl sc_way_of.nd (pi_keys (pv 4)) (blkOk_by (own := [("house", 6)]) (N := ["known", "one", "other", "wires", "far", "way", "house", "length"]) (sc := defScope s_way_of) (by decide +kernel)) (fun _ _ _ _ _ => (pg_name (i := 6) sc_way_of.nd rfl (Or.inl rfl))) (fun _ _ _ _ _ => pts_nil) (fun _ _ _ _ _ => (pe_tup (pa_cons (pv 6) (pa_cons (pe_dget (room1 hr) (pv 4) (pv 6) (fun _ _ => rfl)) pa_nil)))))) pa_nil)) pa_nil))))))))))), ?_⟩
    walk_at "rd"
    refine r_methAt hm0 (by kernel_rfl) ?_
    walk_at "rd"
    refine ⟨m, d, t, h, n, names, rfl, hm, fun H1 l s1 nl hl => ?_⟩
    walk_at "rd"
    refine ⟨l, other, rfl, .of hl, fun H2 df s2 nd hd => ?_⟩
    have s12 := s1.trans s2
    walk_at "rd"
    refine r_dnotinI (.inl hd) ?_
    walk_at "rd"
    by_cases eo : one = other
    · subst eo
      rw [valV_one]
      walk_at "rd"
      refine if_bF rfl ?_
      walk_at "rd"
      refine ⟨by show 1 ≤ sizeLine; decide, fun w1 nw => ?_⟩
      have s3 := sm (o := .lst [V.int one]) s12 nw
      walk_at "rd"
      refine w_no fun AA => ?_
      walk_at "rd"
      refine r_ixL (.of upd_same) (atI_last [] (V.int one)) ?_
      walk_at "rd"
      refine if_ndecT rfl ?_
      walk_at "rd"
      refine r_tupL (.of upd_same) fun wt nwt => ?_
      have s4 := sm (o := .tup [V.int one]) s3 nwt
      walk_at "rd"
      have ndw : df ≠ w1 := ne_of_none hd nw
      refine ⟨df, .dK [(Sum.inl one, .int 0)], by walk_at "hp", trivial, fun od => ?_⟩
      walk_at "rd"
      refine r_iK upd_same ?_
      have hwt : upd (upd H2 w1 (.lst [V.int one])) wt (.tup [V.int one]) wt = some (.tup [V.int one]) := upd_same
      have nwd : wt ≠ df := by
        intro q
        subst q
        have e : upd H2 w1 (.lst [V.int one]) wt = some (.dK [(Sum.inl one, .int 0)]) := by rw [upd_ne ndw]; exact hd
        rw [e] at nwt
        cases nwt
      generalize eHc : upd (upd (upd H2 w1 (.lst [V.int one])) wt (.tup [V.int one])) df (.frz od (.dK [(Sum.inl one, .int 0)])) = Hc
      have hdf : Hc df = some (.frz od (.dK [(Sum.inl one, .int 0)])) := by rw [← eHc]; exact upd_same
      have hwt2 : Hc wt = some (.tup [V.int one]) := by rw [← eHc, upd_ne nwd]; exact hwt
      have s5 : ∀ b o, H b = some o → b ≠ df ∧ Hc b = some o := fun b o e => by
        have e1 := s1 _ _ e
        have n1 : b ≠ df := ne_of_none e1 nd
        rw [← eHc, upd_ne n1]
        exact ⟨n1, s4 _ _ e⟩
      walk_at "rd"
      refine l_it walk_keys (fun D i H3 => Hc D = none ∧ match i with
        | 0 => H3 = upd Hc D (.lst [])
        | _ => ∃ tp, upd Hc D (.lst []) tp = none ∧ H3 = upd (upd (upd Hc D (.lst [])) tp (.tup [.int one, .int 0])) D (.lst [.ref tp])) (fun D nD => ⟨nD, rfl⟩) (fun D i H3 _ p => ?_) (fun D i y H3 H4 hi p yy => ?_) (fun D H3 p => ?_)
      · obtain ⟨nD, p⟩ := p
        match i, p with
        | 0, p =>
          have e : H3 = upd Hc D (.lst []) := p
          subst e
          walk_at "hp"
        | _ + 1, p =>
          obtain ⟨tp, ntp, e⟩ := p
          subst e
          walk_at "hp"
      · obtain ⟨nD, p⟩ := p
        match i, p, yy with
        | i + 1, p, yy => exact absurd hi (by show ¬ i + 1 < 1; omega)
        | 0, p, yy =>
          have e : H3 = upd Hc D (.lst []) := p
          subst e
          obtain ⟨rfl, k', v', e1, rfl⟩ := yy
          cases e1
          walk_at "rd"
          refine ⟨rfl, ?_⟩
          walk_at "rd"
          refine iteT ?_
          walk_at "rd"
          refine r_dgetI (.inr ⟨od, by walk_at "hp"⟩) (valV_one _ _) ?_
          walk_at "rd"
          refine ⟨by show 2 ≤ sizeLine; decide, fun tp ntp => ?_⟩
          have n1 : D ≠ tp := ne_of_none upd_same ntp
          exact ⟨[], by walk_at "hp", by decide, nD, tp, ntp, rfl⟩
      · obtain ⟨nD, tp, ntp, e⟩ := p
        subst e
        have n0 : D ≠ df := Ne.symm (ne_of_none hdf nD)
        have n1 : tp ≠ D := Ne.symm (ne_of_none upd_same ntp)
        have n2 : tp ≠ df := Ne.symm (ne_of_none (by rw [upd_ne (Ne.symm n0)]; exact hdf) ntp)
        have n3 : wt ≠ D := ne_of_none hwt2 nD
        have n4 : wt ≠ tp := ne_of_none (by rw [upd_ne n3]; exact hwt2) ntp
        refine ⟨by walk_at "hp", ?_⟩
        walk_at "rd"
        have s6 : Same H (upd (upd (upd (upd Hc D (.lst [])) tp (.tup [.int one, .int 0])) D (.lst [.ref tp])) df (.dK [(Sum.inl one, .int 0)])) := fun b o e => by
          obtain ⟨m1, m2⟩ := s5 b o e
          have m3 : b ≠ D := ne_of_none m2 nD
          have m4 : b ≠ tp := ne_of_none (by rw [upd_ne m3]; exact m2) ntp
          rw [upd_ne m1, upd_ne m3, upd_ne m4, upd_ne m3]
          exact m2
        refine ⟨D, [.ref tp], rfl, .of (by walk_at "hp"), fun x hx => ?_, fun ys q _ nq => ?_⟩
        · rw [List.mem_singleton.mp hx]
          exact ⟨tp, one, 0, rfl, by walk_at "hp"⟩
        walk_at "rd"
        refine ⟨by show 3 ≤ sizeLine; decide, fun r nr => ?_⟩
        have s7 := sm (o := .lst ys) s6 nq
        have n5 : wt ≠ q := ne_of_none (by walk_at "hp") nq
        have n6 : wt ≠ r := ne_of_none (by walk_at "hp") nr
        exact k1 rfl _ r wt q (sm s7 nr) (s7.free nr) upd_same (by walk_at "hp")
    · have ev : valV [((Sum.inl other : Key), V.int 0)] (Sum.inl one) = none := by
        unfold valV
        simp [show ¬ other = one from fun q => eo q.symm]
      rw [ev]
      walk_at "rd"
      refine if_bT rfl ?_
      walk_at "rd"
      refine ⟨l, one, rfl, .of (s2 _ _ hl), fun H3 d3 s3 nd3 hd3 => ?_⟩
      walk_at "rd"
      refine ⟨d3, _, [one], rfl, .inl hd3, rfl, by show 1 < 64; decide, fun ys p _ _ np => ?_⟩
      have s4 := sm (o := .lst (ys.map V.int)) (s12.trans s3) np
      walk_at "rd"
      refine r_tupL (.of upd_same) fun t3 nt3 => ?_
      have s5 := sm (o := .tup (ys.map V.int)) s4 nt3
      walk_at "rd"
      refine ⟨by show 2 ≤ sizeLine; decide, fun r nr => ?_⟩
      exact k2 eo _ r t3 (sm s5 nr) (s5.free nr) upd_same

end
end K54

namespace K54
open PySem PySem.Spec PyProof.Rows L2
section
variable {P : Program} {w : World} {K : PySem.W.Frag} {mg : Str → Option Value} {base : Heap}
theorem r_bmL {K : PySem.W.Frag} {t : TA} {r : V → List V → Hp → VK → Prop} {σ : L2.St} {a : Addr} {xs : List V} {H1 : Hp} {Q : VK} (h : SqL K H1 a xs) (q : t σ H1 fun xs H2 => r (.ref a) xs H2 Q) : tyV K "list" (.ref a) H1 ∧ t σ H1 fun xs H2 => r (.ref a) xs H2 Q := ⟨.inl ⟨rfl, _, h⟩, q⟩
theorem r_neIN {i : Int} {H : Hp} {Q : VK} (q : Q (.bl true) H) : rNe (.int i) .non H Q := ⟨rfl, by
  rw [decide_eq_false (fun e => nomatch e)]
  exact q⟩
/-- a post's own object with another count or growth -/
theorem ne_dk {H : Hp} {a b C dx : Addr} {fs : List (Str × V)} {xs : List (Key × V)} (h : H a = some (.dK xs)) (h' : H b = some (.ins C dx fs)) : a ≠ b := fun e => by
  subst e
  cases h.symm.trans h'
theorem ne_ld {H : Hp} {a b : Addr} {xs : List V} {ys : List (Key × V)} (h : H a = some (.lst xs)) (h' : H b = some (.dK ys)) : a ≠ b := fun e => by
  subst e
  cases h.symm.trans h'
theorem PostIn.setp {H : Hp} {m : PAd} {st : PSt} {i : PIn} (q : PostIn K H m st i) (made : Int) (grown : Bool) (h0 : 0 ≤ made) :
    PostIn K (upd H m.p (.ins (He.ga K "Post") i.dp (pf st.own i.ll made i.cl i.mp st.num m.o m.r i.tl grown))) m { st with made := made, grown := grown } i := by
  have e : off m.M (upd H m.p (.ins (He.ga K "Post") i.dp (pf st.own i.ll made i.cl i.mp st.num m.o m.r i.tl grown))) = off m.M H := off_upd (List.mem_cons_self ..)
  exact ⟨upd_same, by rw [upd_ne (ne_dk q.dic q.obj)]; exact q.dic, by rw [upd_ne (ne_li q.out q.obj)]; exact q.out, by rw [upd_ne (ne_li q.row q.obj)]; exact q.row, q.nor, by rw [e]; exact q.lines, fun a ha => by rw [e]; exact q.wires a ha,
    by rw [e]; exact q.cal, by rw [e]; exact q.chart, by rw [e]; exact q.nws, by rw [e]; exact q.tld, by rw [e]; exact q.outR, by rw [e]; exact q.rowR, q.b0, h0, q.b2, q.b3, q.b4, q.b5⟩
theorem sc_Post_row_tick : FnScope ["self"] ["self"] (defScope s_Post_row_tick) := ⟨rfl, rfl, rfl, by decide +kernel, rfl, by decide +kernel, by decide +kernel⟩
theorem okS_Post_row_tick (T : Txt K mg) : Ok P w K mg base CX0 1 (He.ma K (He.ga K "Post") "row_tick") ["self"] (spRowTick K) := by
  refine ok_of T.f_Post_row_tick sc_Post_row_tick (fun _ _ _ _ _ _ us hl => match us, hl with | [_], _ => rfl) (fun vs H Q E h => ?_) (fun cdv A outer s H vs Q E hr h => ?_)
  · obtain ⟨m, st, rfl, _⟩ := h
    rfl
  · obtain ⟨m, st, rfl, ⟨i, q⟩, k⟩ := h
    refine ⟨_, PSs.nox (pss_one (ps_ret (pe_callB (call_max2 rfl) (by rfl) T.b_max (by decide +kernel) (pa_cons pe_int (pa_cons (pe_op op_sub (pe_fld (pv 0) rfl) pe_int) pa_nil))))), ?_⟩
    have hp := q.obj
    walk_at "rd"
    refine r_fldAt (by walk_at "hp") T.k_Post T.n_Post_done (by first | assumption | exact rfl) ?_
    walk_at "rd"
    exact ⟨0, 0 - 1, rfl, k⟩
theorem sc_Post_number : FnScope ["self"] ["self"] (defScope s_Post_number) := ⟨rfl, rfl, rfl, by decide +kernel, rfl, by decide +kernel, by decide +kernel⟩
theorem okS_Post_number (T : Txt K mg) : Ok P w K mg base CX0 1 (He.ma K (He.ga K "Post") "number") ["self"] (spNumber K) := by
  refine ok_of T.f_Post_number sc_Post_number (fun _ _ _ _ _ _ us hl => match us, hl with | [_], _ => rfl) (fun vs H Q E h => ?_) (fun cdv A outer s H vs Q E hr h => ?_)
  · obtain ⟨m, st, rfl, _⟩ := h
    rfl
  · obtain ⟨m, st, rfl, ⟨i, q⟩, k⟩ := h
    refine ⟨_, PSs.nox (pss_one (ps_ret (pe_fld (pv 0) rfl))), ?_⟩
    have hp := q.obj
    walk_at "rd"
    refine r_fldAt (by walk_at "hp") T.k_Post T.n_Post_own (by first | assumption | exact rfl) ?_
    exact k
theorem sc_Post_events : FnScope ["self"] ["self"] (defScope s_Post_events) := ⟨rfl, rfl, rfl, by decide +kernel, rfl, by decide +kernel, by decide +kernel⟩
theorem okS_Post_events (T : Txt K mg) : Ok P w K mg base CX0 1 (He.ma K (He.ga K "Post") "events") ["self"] (spEvents K) := by
  refine ok_of T.f_Post_events sc_Post_events (fun _ _ _ _ _ _ us hl => match us, hl with | [_], _ => rfl) (fun vs H Q E h => ?_) (fun cdv A outer s H vs Q E hr h => ?_)
  · obtain ⟨m, st, rfl, _⟩ := h
    rfl
  · obtain ⟨m, st, rfl, ⟨i, q⟩, k⟩ := h
    refine ⟨_, PSs.nox (pss_one (ps_ret (pe_callTy (call_listR) (by rfl) T.b_list (by decide +kernel) (pa_cons (pe_fld (pv 0) rfl) pa_nil)))), ?_⟩
    have hp := q.obj
    walk_at "rd"
    refine r_fldAt (by walk_at "hp") T.k_Post T.n_Post_told (by first | assumption | exact rfl) ?_
    walk_at "rd"
    refine r_listR (.inl (.of (off_get q.tld))) fun l nl => ?_
    exact k l nl
theorem sc_Post_book : FnScope ["self"] ["self"] (defScope s_Post_book) := ⟨rfl, rfl, rfl, by decide +kernel, rfl, by decide +kernel, by decide +kernel⟩
theorem okS_Post_book (T : Txt K mg) : Ok P w K mg base CX0 1 (He.ma K (He.ga K "Post") "book") ["self"] (spBook K) := by
  refine ok_of T.f_Post_book sc_Post_book (fun _ _ _ _ _ _ us hl => match us, hl with | [_], _ => rfl) (fun vs H Q E h => ?_) (fun cdv A outer s H vs Q E hr h => ?_)
  · obtain ⟨m, st, rfl, _⟩ := h
    rfl
  · obtain ⟨m, st, rfl, ⟨i, q⟩, k⟩ := h
    refine ⟨_, PSs.nox (pss_one (ps_ret (pe_callTy (call_listR) (by rfl) T.b_list (by decide +kernel) (pa_cons (pe_fld (pv 0) rfl) pa_nil)))), ?_⟩
    have hp := q.obj
    walk_at "rd"
    refine r_fldAt (by walk_at "hp") T.k_Post T.n_Post_rows (by first | assumption | exact rfl) ?_
    walk_at "rd"
    refine r_listR (.inl (.of q.row)) fun l nl => ?_
    exact k _ l (same_upd nl) nl (.lst (.of upd_same) (dpAll_same (off_sub.trans (same_upd nl)) _ _ q.rowR))
theorem sum_reps : ∀ n : Nat, (List.replicate n (0 : Int)).sum = 0
  | 0 => rfl
  | n + 1 => by rw [List.replicate_succ, List.sum_cons, sum_reps n]; rfl
theorem repI_snoc (n : Nat) : (List.replicate n (0 : Int)).map V.int ++ [V.int 0] = (List.replicate (n + 1) (0 : Int)).map V.int := by
  rw [List.replicate_succ', List.map_append]
  rfl
theorem sc_Post_waiting : FnScope ["self", "wire"] ["self"] (defScope s_Post_waiting) := ⟨rfl, rfl, rfl, by decide +kernel, rfl, by decide +kernel, by decide +kernel⟩
theorem okS_Post_waiting (T : Txt K mg) (F_Wire_many_waiting : Ok P w K mg base CX0 2 (He.ma K (He.ga K "Wire") "many_waiting") ["self"] (spManyWaiting K)) : Ok P w K mg base CX0 3 (He.ma K (He.ga K "Post") "waiting") ["self"] (spWaiting K) := by
  refine ok_of T.f_Post_waiting sc_Post_waiting (fun _ _ _ _ _ _ us hl => match us, hl with | [_], _ => rfl) (fun vs H Q E h => ?_) (fun cdv A outer s H vs Q E hr h => ?_)
  · obtain ⟨m, st, rfl, _⟩ := h
    rfl
  · obtain ⟨m, st, rfl, ⟨i, q⟩, k⟩ := h
    refine ⟨_, PSs.nox (pss_one (ps_ret (pe_callB (cr_sum rfl) (by rfl) T.b_sum (by decide +kernel) (pa_cons (pe_lc (own := [("wire", 1)]) rfl sc_Post_waiting.nd (pi_list (pe_fld (pv 0) rfl)) (blkOk_by (own := [("wire", 1)]) (N := ["self", "wire"]) (sc := defScope s_Post_waiting) (by decide +kernel)) (fun _ _ _ _ _ => (pg_name (i := 1) sc_Post_waiting.nd rfl (Or.inl rfl))) (fun _ _ _ _ _ => pts_nil) (fun _ _ _ _ _ => (pe_meth0O (pv 1) T.k_Wire T.t_Wire_many_waiting F_Wire_many_waiting (hr.mono (by decide)) pass0))) pa_nil)))), ?_⟩
    have hp := q.obj
    walk_at "rd"
    refine r_fldAt (by walk_at "hp") T.k_Post T.n_Post_lines (by first | assumption | exact rfl) ?_
    have hl := off_get q.lines
    walk_at "rd"
    refine r_iL (.of hl) ?_
    walk_at "rd"
    refine l_it walk_list (fun D j H1 => H D = none ∧ Same H H1 ∧ H1 D = some (.lst ((List.replicate j (0 : Int)).map V.int))) (fun D nD => ⟨nD, same_upd nD, upd_same⟩) (fun D j H1 _ p => .of (p.2.1 _ _ hl)) (fun D j x H1 H2 hi p y => ?_) (fun D H1 p => ?_)
    · obtain ⟨nD, s1, hD⟩ := p
      obtain ⟨rfl, hx⟩ := y
      rw [List.getElem?_map] at hx
      obtain ⟨a, ha, rfl⟩ := Option.map_eq_some_iff.mp hx
      walk_at "rd"
      refine ⟨rfl, ?_⟩
      walk_at "rd"
      refine iteT ?_
      have wa := (q.wires a (List.mem_of_getElem? ha)).same (off_sub.trans s1)
      have wa' := wa
      obtain ⟨dx, fs, lk, qq, g, hh, w1, w2, w3, w4, w5, w6, w7, w8, w9⟩ := wa'
      walk_at "rd"
      refine r_methAt w1 w6 ?_
      walk_at "rd"
      refine ⟨a, rfl, wa, fun H3 s3 => ?_⟩
      have hi' : j < i.ws.length := by rw [List.length_map] at hi; exact hi
      refine ⟨_, s3 _ _ hD, by rw [List.length_map, List.length_replicate]; exact Nat.lt_of_lt_of_le hi' (Nat.le_trans q.b5 (by decide)), nD, same_re nD (s1.trans s3), ?_⟩
      rw [repI_snoc]
      exact upd_same
    · obtain ⟨nD, s1, hD⟩ := p
      walk_at "rd"
      refine ⟨D, _, rfl, .of hD, ?_⟩
      rw [sum_reps]
      exact k _ s1
theorem sc_Post_came : FnScope ["self", "told"] ["self"] (defScope s_Post_came) := ⟨rfl, rfl, rfl, by decide +kernel, rfl, by decide +kernel, by decide +kernel⟩
theorem okS_Post_came (T : Txt K mg) : Ok P w K mg base CX0 1 (He.ma K (He.ga K "Post") "came") ["self"] (spCame K) := by
  refine ok_of T.f_Post_came sc_Post_came (fun _ _ _ _ _ _ us hl => match us, hl with | [_], _ => rfl) (fun vs H Q E h => ?_) (fun cdv A outer s H vs Q E hr h => ?_)
  · obtain ⟨m, st, rfl, _⟩ := h
    rfl
  · obtain ⟨m, st, rfl, ⟨i, q⟩, k⟩ := h
    refine ⟨_, PSs.nox (pss_cons (ps_set (i := 1) sc_Post_came.nd rfl (Or.inl rfl) (pe_fld (pv 0) rfl))
 (pss_cons (ps_fld (pv 0) (pe_lst pa_nil) rfl)
 (pss_one (ps_ret (pv 1))))), ?_⟩
    have hp := q.obj
    walk_at "rd"
    refine r_fldAt (by walk_at "hp") T.k_Post T.n_Post_out (by first | assumption | exact rfl) ?_
    walk_at "rd"
    refine ⟨by decide, fun o2 n2 => ?_⟩
    have npo : m.p ≠ o2 := by walk_at "ne"
    walk_at "rd"
    refine r_setAt (by walk_at "hp") T.k_Post T.n_Post_out (by walk_at "lt") ?_
    walk_at "rd"
    have ed : m.d ≠ o2 := ne_of_none q.dic n2
    have eo : m.o ≠ o2 := ne_of_none q.out n2
    have er : m.r ≠ o2 := ne_of_none q.row n2
    have dp : m.d ≠ m.p := ne_dk q.dic q.obj
    have op : m.o ≠ m.p := ne_li q.out q.obj
    have rp : m.r ≠ m.p := ne_li q.row q.obj
    have od : m.o ≠ m.d := ne_ld q.out q.dic
    have npo' := Ne.symm npo
    have s1 : Same (off m.M H) (off [m.p, m.d, o2, m.r] (upd (upd H o2 (.lst [])) m.p (.ins (He.ga K "Post") i.dp (putF "out" (.ref o2) (pf st.own i.ll st.made i.cl i.mp st.num m.o m.r i.tl st.grown))))) := fun b o e => by
      obtain ⟨e1, e2⟩ := off_some e
      have b1 : b ≠ m.p := fun z => e2 (by simp [PAd.M, z])
      have b2 : b ≠ m.d := fun z => e2 (by simp [PAd.M, z])
      have b3 : b ≠ m.r := fun z => e2 (by simp [PAd.M, z])
      have b4 : b ≠ o2 := ne_of_none e1 n2
      exact off_of (by rw [upd_ne b1, upd_ne b4]; exact e1) (by simp [b1, b2, b3, b4])
    refine k ⟨m.p, m.d, o2, m.r⟩ _ rfl s1 ⟨{ i with outs := [] }, ?_⟩ (.lst (.of (off_of (by rw [upd_ne op, upd_ne eo]; exact q.out) (by simp [PAd.M, op, od, eo, q.nor]))) (dpAll_same s1 _ _ q.outR))
    exact ⟨upd_same, by rw [upd_ne dp, upd_ne ed]; exact q.dic, by rw [upd_ne npo']; exact upd_same, by rw [upd_ne rp, upd_ne er]; exact q.row, Ne.symm er, s1 _ _ q.lines, fun a ha => (q.wires a ha).same s1, s1 _ _ q.cal, s1 _ _ q.chart, q.nws.same s1, s1 _ _ q.tld, .nil, dpAll_same s1 _ _ q.rowR, q.b0, q.b1, q.b2, q.b3, ⟨Nat.zero_le _, q.b4.2⟩, q.b5⟩
theorem sc_Post_grew : FnScope ["self", "told"] ["self"] (defScope s_Post_grew) := ⟨rfl, rfl, rfl, by decide +kernel, rfl, by decide +kernel, by decide +kernel⟩
theorem okS_Post_grew (T : Txt K mg) : Ok P w K mg base CX0 1 (He.ma K (He.ga K "Post") "grew") ["self"] (spGrew K) := by
  refine ok_of T.f_Post_grew sc_Post_grew (fun _ _ _ _ _ _ us hl => match us, hl with | [_], _ => rfl) (fun vs H Q E h => ?_) (fun cdv A outer s H vs Q E hr h => ?_)
  · obtain ⟨m, st, rfl, _⟩ := h
    rfl
  · obtain ⟨m, st, rfl, ⟨i, q⟩, k⟩ := h
    refine ⟨_, PSs.nox (pss_cons (ps_set (i := 1) sc_Post_grew.nd rfl (Or.inl rfl) (pe_fld (pv 0) rfl))
 (pss_cons (ps_fld (pv 0) pe_bl rfl)
 (pss_one (ps_ret (pv 1))))), ?_⟩
    have hp := q.obj
    walk_at "rd"
    refine r_fldAt (by walk_at "hp") T.k_Post T.n_Post_grown (by first | assumption | exact rfl) ?_
    walk_at "rd"
    refine r_setAt (by walk_at "hp") T.k_Post T.n_Post_grown (by walk_at "lt") ?_
    walk_at "rd"
    refine k _ ?_ ⟨i, q.setp st.made false q.b1⟩
    rw [off_upd (M := m.M) (show m.p ∈ m.M from List.mem_cons_self ..)]
    exact Same.refl _
theorem sc_Post_map_now : FnScope ["self"] ["self"] (defScope s_Post_map_now) := ⟨rfl, rfl, rfl, by decide +kernel, rfl, by decide +kernel, by decide +kernel⟩
theorem okS_Post_map_now (T : Txt K mg) (F_Map_copy : Ok P w K mg base CX0 3 (He.ma K (He.ga K "Map") "copy") ["self"] (spMapCopy K)) : Ok P w K mg base CX0 4 (He.ma K (He.ga K "Post") "map_now") ["self"] (spMapNow K) := by
  refine ok_of T.f_Post_map_now sc_Post_map_now (fun _ _ _ _ _ _ us hl => match us, hl with | [_], _ => rfl) (fun vs H Q E h => ?_) (fun cdv A outer s H vs Q E hr h => ?_)
  · obtain ⟨m, st, rfl, _⟩ := h
    rfl
  · obtain ⟨m, st, rfl, ⟨i, q⟩, k⟩ := h
    refine ⟨_, PSs.nox (pss_one (ps_ret (pe_meth0O (pe_fld (pv 0) rfl) T.k_Map T.t_Map_copy F_Map_copy (hr.mono (by decide)) pass0))), ?_⟩
    have hp := q.obj
    walk_at "rd"
    refine r_fldAt (by walk_at "hp") T.k_Post T.n_Post_chart (by first | assumption | exact rfl) ?_
    have hc := off_get q.chart
    walk_at "rd"
    refine r_methAt hc (by kernel_rfl) ?_
    walk_at "rd"
    refine ⟨i.mp, m.d, i.t, st.own, st.num, st.news, rfl, ⟨⟨i.dm, hc⟩, q.dic, q.nws.same off_sub⟩, fun H1 a d2 s1 na hm => ?_⟩
    exact k _ a d2 i.t s1 na hm

end
end K54

namespace K54
open PySem PySem.Spec PyProof.Rows L2
section
variable {P : Program} {w : World} {K : PySem.W.Frag} {mg : Str → Option Value} {base : Heap}
theorem sc_Post_spread : FnScope ["self", "news", "but", "wire"] ["self", "news", "but"] (defScope s_Post_spread) := ⟨rfl, rfl, rfl, by decide +kernel, rfl, by decide +kernel, by decide +kernel⟩
theorem okS_Post_spread (T : Txt K mg) (F_LinkEnd_up : Ok P w K mg base CX0 1 (He.ma K (He.ga K "LinkEnd") "up") ["self"] (spUp K)) : Ok P w K mg base CX0 2 (He.ma K (He.ga K "Post") "spread") ["self", "news", "but"] (spSpread K) := by
  refine ok_of T.f_Post_spread sc_Post_spread (fun _ _ _ _ _ _ us hl => match us, hl with | [_, _, _], _ => rfl) (fun vs H Q E h => ?_) (fun cdv A outer s H vs Q E hr h => ?_)
  · obtain ⟨m, st, t, rfl, _⟩ := h
    rfl
  · obtain ⟨m, st, t, rfl, ⟨i, q⟩, k⟩ := h
    refine ⟨_, PSs.nox (pss_one (ps_for PassesOwn.never rfl (pi_list (pe_fld (pv 0) rfl)) (pg_name (i := 3) sc_Post_spread.nd rfl (Or.inl rfl)) (pss_one (ps_if (PW.pt (pw_and (pt_cmpR (op_ne) (pe_fld (pv 3) rfl) (pv 2) (nomark _)) (pw_and1 (pt_cmpR (op_isNotNon) (pe_meth0O (pe_fld (pv 3) rfl) T.k_LinkEnd T.t_LinkEnd_up F_LinkEnd_up (hr.mono (by decide)) pass0) pe_non (nomark _))))) (pss_one ps_never) pss_nil)))), ?_⟩
    have hp := q.obj
    walk_at "rd"
    refine r_fldAt (by walk_at "hp") T.k_Post T.n_Post_lines (by first | assumption | exact rfl) ?_
    have hl := off_get q.lines
    walk_at "rd"
    refine r_iL (.of hl) ?_
    walk_at "rd"
    refine f_list (xs := i.ws.map V.ref) (fun j σ H1 => H1 = H ∧ ∃ v, σ = [some (.ref m.p), some (.ref t), some .non, v]) ⟨rfl, _, rfl⟩ (fun j σ H1 _ p => by rw [p.1]; exact .of hl) (fun j x σ H1 hx p => ?_) (fun σ H1 p => ?_)
    · obtain ⟨rfl, v, rfl⟩ := p
      rw [List.getElem?_map] at hx
      obtain ⟨a, ha, rfl⟩ := Option.map_eq_some_iff.mp hx
      have wa := (q.wires a (List.mem_of_getElem? ha)).same off_sub
      obtain ⟨dx, fs, lk, qq, g, hh, w1, w2, w3, w4, w5, w6, w7, w8, w9⟩ := wa
      walk_at "rd"
      refine r_fldAt w1 T.k_Wire T.n_Wire_house w2 ?_
      walk_at "rd"
      refine r_neIN ?_
      refine ⟨true, rfl, ?_⟩
      walk_at "rd"
      refine if_bT rfl ?_
      walk_at "rd"
      refine r_fldAt w1 T.k_Wire T.n_Wire_link w3 ?_
      have w7' := w7
      obtain ⟨ld, lf, u1, u2, u3⟩ := w7'
      walk_at "rd"
      refine r_methAt u1 u3 ?_
      walk_at "rd"
      refine ⟨lk, rfl, w7, ?_⟩
      walk_at "rd"
      refine r_isNotNon ?_
      walk_at "rd"
      refine if_bF rfl ?_
      walk_at "rd"
      exact ⟨rfl, _, rfl⟩
    · rw [p.1]
      exact k
theorem sc_Post_enter : FnScope ["self", "word", "letter"] ["self", "word", "letter"] (defScope s_Post_enter) := ⟨rfl, rfl, rfl, by decide +kernel, rfl, by decide +kernel, by decide +kernel⟩
theorem okS_Post_enter (T : Txt K mg) (F_Post_row_tick : Ok P w K mg base CX0 1 (He.ma K (He.ga K "Post") "row_tick") ["self"] (spRowTick K)) : Ok P w K mg base CX0 2 (He.ma K (He.ga K "Post") "enter") ["self", "word", "letter"] (spEnter K) := by
  refine ok_of T.f_Post_enter sc_Post_enter (fun _ _ _ _ _ _ us hl => match us, hl with | [_, _, _], _ => rfl) (fun vs H Q E h => ?_) (fun cdv A outer s H vs Q E hr h => ?_)
  · obtain ⟨m, st, i, word, v, d, rfl, _⟩ := h
    rfl
  · obtain ⟨m, st, i, word, v, d, rfl, q, dv, lr, k⟩ := h
    refine ⟨_, PSs.nox (pss_one (ps_expr (pe_bm PySem.F.plainAttrs_list PySem.F.slot_list_append PySem.F.type_list_append mt_append (pe_fld (pv 0) rfl) (pa_cons (pe_tup (pa_cons (pe_meth0O (pv 0) T.k_Post T.t_Post_row_tick F_Post_row_tick (hr.mono (by decide)) pass0) (pa_cons (pv 1) (pa_cons (pv 2) pa_nil)))) pa_nil)))), ?_⟩
    have hp := q.obj
    walk_at "rd"
    refine r_fldAt (by walk_at "hp") T.k_Post T.n_Post_rows (by first | assumption | exact rfl) ?_
    walk_at "rd"
    refine r_bmL (.of q.row) ?_
    walk_at "rd"
    refine r_methAt q.obj (by kernel_rfl) ?_
    walk_at "rd"
    refine ⟨m, st, rfl, ⟨i, q⟩, ?_⟩
    walk_at "rd"
    refine ⟨by show 3 ≤ sizeLine; decide, fun tp ntp => ?_⟩
    have s1 := same_upd (o := .tup [V.int 0, V.str word, v]) ntp
    have er : m.r ≠ tp := ne_of_none q.row ntp
    have el : i.rows.length = st.rowD.length := dpAll_len q.rowR
    walk_at "rd"
    refine r_appendR (s1 _ _ q.row) (Nat.lt_of_lt_of_le (show i.rows.length < 1000 by omega) (by decide)) ?_
    walk_at "rd"
    have rp : m.r ≠ m.p := ne_li q.row q.obj
    have rd : m.r ≠ m.d := ne_ld q.row q.dic
    have s2 : Same (off m.M H) (off m.M (upd (upd H tp (.tup [V.int 0, V.str word, v])) m.r (.lst (i.rows ++ [.ref tp])))) := by
      rw [off_upd (M := m.M) (show m.r ∈ m.M by simp [PAd.M])]
      exact off_same s1
    have ht : off m.M (upd (upd H tp (.tup [V.int 0, V.str word, v])) m.r (.lst (i.rows ++ [.ref tp]))) tp = some (.tup [V.int 0, V.str word, v]) := by
      refine off_of (by rw [upd_ne (Ne.symm er)]; exact upd_same) ?_
      have t1 : tp ≠ m.p := Ne.symm (ne_of_none q.obj ntp)
      have t2 : tp ≠ m.d := Ne.symm (ne_of_none q.dic ntp)
      have t3 : tp ≠ m.o := Ne.symm (ne_of_none q.out ntp)
      simp [PAd.M, t1, t2, t3, Ne.symm er]
    refine k _ (i.rows ++ [.ref tp]) s2 ?_
    exact ⟨by rw [upd_ne (Ne.symm rp)]; exact s1 _ _ q.obj, by rw [upd_ne (Ne.symm rd)]; exact s1 _ _ q.dic, by rw [upd_ne q.nor]; exact s1 _ _ q.out, upd_same, q.nor, s2 _ _ q.lines, fun a ha => (q.wires a ha).same s2, s2 _ _ q.cal, s2 _ _ q.chart, q.nws.same s2, s2 _ _ q.tld, dpAll_same s2 _ _ q.outR,
      dpAll_app (dpAll_same s2 _ _ q.rowR) (.cons (.tup (.of ht) (.cons (.int 0) (.cons (.str word) (.cons (dp_same s2 _ _ dv) .nil)))) .nil), q.b0, q.b1, q.b2, q.b3, ⟨q.b4.1, by show (i.rows ++ [V.ref tp]).length ≤ 1000; rw [List.length_append, List.length_singleton]; omega⟩, q.b5⟩
theorem PostIn.not (H : Hp) {m : PAd} {st : PSt} {i : PIn} (q : PostIn K H m st i) {a : Addr} (h : ∀ o, H a = some o → (∀ C dx fs, o ≠ .ins C dx fs) ∧ (∀ kvs, o ≠ .dK kvs) ∧ ∀ xs, o ≠ .lst xs) : a ∉ m.M := by
  intro e
  simp [PAd.M] at e
  rcases e with e | e | e | e
  · subst e; exact (h _ q.obj).1 _ _ _ rfl
  · subst e; exact (h _ q.dic).2.1 _ rfl
  · subst e; exact (h _ q.out).2.2 _ rfl
  · subst e; exact (h _ q.row).2.2 _ rfl
theorem PostIn.sqT {H : Hp} {m : PAd} {st : PSt} {i : PIn} (q : PostIn K H m st i) {a : Addr} {xs : List V} (h : SqT K H a xs) : SqT K (off m.M H) a xs := by
  rcases h with (h | ⟨o, h⟩) | h
  · exact .inl (.inl (off_of h (q.not H fun o e => by cases h.symm.trans e; exact ⟨(fun _ _ _ z => by cases z), (fun _ z => by cases z), fun _ z => by cases z⟩)))
  · exact .inl (.inr ⟨o, off_of h (q.not H fun o e => by cases h.symm.trans e; exact ⟨(fun _ _ _ z => by cases z), (fun _ z => by cases z), fun _ z => by cases z⟩)⟩)
  · exact .inr h
theorem LetAtK.offp {H : Hp} {m : PAd} {st : PSt} {i : PIn} {p w : Addr} {n : Int} {kind : Str} {about body : List Int} (h : LetAtK K H p n w kind about body) (q : PostIn K H m st i) (n1 : p ≠ m.p) (n2 : p ≠ m.d) (n3 : p ≠ m.o) (n4 : p ≠ m.r) : LetAtK K (off m.M H) p n w kind about body := by
  obtain ⟨ta, tb, h1, h2, h3⟩ := h
  exact ⟨ta, tb, off_of h1 (by simp [PAd.M, n1, n2, n3, n4]), q.sqT h2, q.sqT h3⟩
theorem sc_Post_own_letter : FnScope ["self", "way", "kind", "about", "body", "letter"] ["self", "way", "kind", "about", "body"] (defScope s_Post_own_letter) := ⟨rfl, rfl, rfl, by decide +kernel, rfl, by decide +kernel, by decide +kernel⟩
theorem LetAtK.same {K : PySem.W.Frag} {H H' : Hp} {p w : Addr} {n : Int} {kind : Str} {about body : List Int} (s : Same H H') (h : LetAtK K H p n w kind about body) : LetAtK K H' p n w kind about body := by
  obtain ⟨ta, tb, h1, h2, h3⟩ := h
  exact ⟨ta, tb, s _ _ h1, Same.sqT s h2, Same.sqT s h3⟩
theorem okS_Post_own_letter (T : Txt K mg) (F_made_letter : Ok P w K mg base (L2.CX P w) 3 (He.ga K "made_letter") ["count", "way", "kind", "about", "body"] (spMadeLetter K)) :
    Ok P w K mg base CX0 4 (He.ma K (He.ga K "Post") "own_letter") ["self", "way", "kind", "about", "body"] (spOwnLetter K) := by
  refine ok_of T.f_Post_own_letter sc_Post_own_letter (fun _ _ _ _ _ _ us hl => match us, hl with | [_, _, _, _, _], _ => rfl) (fun vs H Q E h => ?_) (fun cdv A outer s H vs Q E hr h => ?_)
  · obtain ⟨m, st, i, w', h, kind, a, b, about, body, rfl, _⟩ := h
    rfl
  · obtain ⟨m, st, i, wa, h, kind, a, b, about, body, rfl, q, lm, hw, h0, h1, sa, sb, la, lb, ok, k⟩ := h
    refine ⟨_, PSs.nox (pss_cons (ps_set (i := 5) sc_Post_own_letter.nd rfl (Or.inl rfl) (pe_callO F_made_letter (hr.mono (by decide)) rfl T.g_made_letter passL (pa_cons (pe_fld (pv 0) rfl) (pa_cons (pv 1) (pa_cons (pv 2) (pa_cons (pv 3) (pa_cons (pv 4) pa_nil)))))))
 (pss_cons (ps_fld (pv 0) (pe_op op_add (pe_fld (pv 0) rfl) pe_int) rfl)
 (pss_one (ps_ret (pv 5))))), ?_⟩
    have hp := q.obj
    walk_at "rd"
    refine r_fldAt (by walk_at "hp") T.k_Post T.n_Post_made (by first | assumption | exact rfl) ?_
    walk_at "rd"
    refine ⟨st.made, h, wa, kind, a, b, about, body, rfl, q.b1, lm, off_get hw, h0, h1, sa.same off_sub, sb.same off_sub, la, lb, fun _ H1 p s1 np _ lt => ?_, fun e => ?_⟩
    · walk_at "rd"
      have hp1 := s1 _ _ hp
      walk_at "rd"
      refine r_fldAt (by walk_at "hp") T.k_Post T.n_Post_made (by first | assumption | exact rfl) ?_
      walk_at "rd"
      refine r_setAt (by walk_at "hp") T.k_Post T.n_Post_made (by walk_at "lt") ?_
      walk_at "rd"
      have q1 := q.same s1
      have q2 := q1.setp (st.made + 1) st.grown (by have := q.b1; omega)
      have e : off m.M (upd H1 m.p (.ins (He.ga K "Post") i.dp (pf st.own i.ll (st.made + 1) i.cl i.mp st.num m.o m.r i.tl st.grown))) = off m.M H1 := off_upd (M := m.M) (show m.p ∈ m.M from List.mem_cons_self ..)
      refine k _ p ?_ q2 np ?_
      · show Same (off m.M H) (off m.M (upd H1 m.p (.ins (He.ga K "Post") i.dp (pf st.own i.ll (st.made + 1) i.cl i.mp st.num m.o m.r i.tl st.grown))))
        rw [e]
        exact off_same s1
      · show LetAtK K (off m.M (upd H1 m.p (.ins (He.ga K "Post") i.dp (pf st.own i.ll (st.made + 1) i.cl i.mp st.num m.o m.r i.tl st.grown)))) p st.made wa kind about body
        rw [e]
        exact lt.offp q1 (Ne.symm (ne_of_none q.obj np)) (Ne.symm (ne_of_none q.dic np)) (Ne.symm (ne_of_none q.out np)) (Ne.symm (ne_of_none q.row np))
    · rw [ok] at e
      cases e
theorem sc_ask_house : FnScope ["number"] ["number"] (defScope s_ask_house) := ⟨rfl, rfl, rfl, by decide +kernel, rfl, by decide +kernel, by decide +kernel⟩
theorem okS_ask_house (T : Txt K mg) : Ok P w K mg base (L2.CX P w) 1 (He.ga K "ask_house") ["number"] (spAskHouse K) := by
  refine ok_of T.f_ask_house sc_ask_house (fun _ _ _ _ _ _ us hl => match us, hl with | [_], _ => rfl) (fun vs H Q E h => ?_) (fun cdv A outer s H vs Q E hr h => ?_)
  · obtain ⟨n, rfl, _⟩ := h
    rfl
  · obtain ⟨n, rfl, k, bad⟩ := h
    have tk := takes_of (X := cxOf (L2.CX P w) P w K mg base ["number"] "ask_house" (defScope s_ask_house) (He.ga K "ask_house") cdv A outer s H E) (E := E) rfl rfl rfl rfl
    refine ⟨_, pss_one (ps_if (PW.pt (pw_or (pt_cmpR (op_lt) (pv 0) pe_int (nomark _)) (pw_or1 (pt_cmpR (op_gt) (pv 0) (pe_gI rfl T.i_MOST_HOUSE_posts) (nomark _))))) (pss_one (ps_raise rfl tk (pmk_own PySem.F.excBase_ValueError T.x_BadHouse.1 T.c_BadHouse T.x_BadHouse.2.1 (raises_own T.x_BadHouse.2.2.1 T.x_BadHouse.2.2.2) rfl))) pss_nil), ?_⟩
    walk_at "rd"
    refine if_dec (fun h0 => ?_) (fun h0 => ?_)
    · walk_at "rd"
      refine iteT (bad ?_)
      omega
    walk_at "rd"
    refine if_dec (fun h1 => ?_) (fun h1 => ?_)
    · refine bad ?_
      omega
    · refine k ?_
      omega
theorem sc_ask_name : FnScope ["name", "sign"] ["name"] (defScope s_ask_name) := ⟨rfl, rfl, rfl, by decide +kernel, rfl, by decide +kernel, by decide +kernel⟩
theorem okS_ask_name (T : Txt K mg) : Ok P w K mg base (L2.CX P w) 1 (He.ga K "ask_name") ["name"] (spAskName K) := by
  refine ok_of T.f_ask_name sc_ask_name (fun _ _ _ _ _ _ us hl => match us, hl with | [_], _ => rfl) (fun vs H Q E h => ?_) (fun cdv A outer s H vs Q E hr h => ?_)
  · obtain ⟨z, rfl, _⟩ := h
    rfl
  · obtain ⟨z, rfl, lz, k, bad⟩ := h
    have tk := takes_of (X := cxOf (L2.CX P w) P w K mg base ["name", "sign"] "ask_name" (defScope s_ask_name) (He.ga K "ask_name") cdv A outer s H E) (E := E) rfl rfl rfl rfl
    refine ⟨_, pss_cons (ps_if (PW.pt (pw_or (pt_cmpR (op_lt) (pe_callB (call_lenR) (by rfl) T.b_len (by decide +kernel) (pa_cons (pv 0) pa_nil)) pe_int (nomark _)) (pw_or1 (pt_cmpR (op_gt) (pe_callB (call_lenR) (by rfl) T.b_len (by decide +kernel) (pa_cons (pv 0) pa_nil)) (pe_gI rfl T.i_NAME_SIGNS) (nomark _))))) (pss_one (ps_raise rfl tk (pmk_own PySem.F.excBase_ValueError T.x_BadName.1 T.c_BadName T.x_BadName.2.1 (raises_own T.x_BadName.2.2.1 T.x_BadName.2.2.2) rfl))) pss_nil)
 (pss_one (ps_for (passes_of rfl) rfl (pi_str (pv 0)) (pg_name (i := 1) sc_ask_name.nd rfl (Or.inl rfl)) (pss_one (ps_if (pt_cmpR (op_signNotIn) (pv 1) (pe_gS rfl T.z_LETTERS_posts) (by rfl)) (pss_one (ps_raise rfl tk (pmk_own PySem.F.excBase_ValueError T.x_BadName.1 T.c_BadName T.x_BadName.2.1 (raises_own T.x_BadName.2.2.1 T.x_BadName.2.2.2) rfl))) pss_nil)))), ?_⟩
    have lz2 : z.length ≤ sizeLine := Nat.le_trans lz (by decide)
    walk_at "rd"
    refine r_lenS lz2 ?_
    walk_at "rd"
    refine if_dec (fun h0 => ?_) (fun h0 => ?_)
    · walk_at "rd"
      refine iteT (bad ?_)
      unfold okName
      rw [decide_eq_false (by omega)] <;> rfl
    walk_at "rd"
    refine r_lenS lz2 ?_
    walk_at "rd"
    refine if_dec (fun h1 => ?_) (fun h1 => ?_)
    · refine bad ?_
      unfold okName
      rw [decide_eq_false (by omega)] <;> rfl
    walk_at "rd"
    refine r_iS ?_
    walk_at "rd"
    refine f_str (z := z) (fun j σ H1 => H1 = H ∧ (∃ v, σ = [some (.str z), v]) ∧ ∀ c ∈ z.cps.toList.take j, c ∈ alpha) ⟨rfl, ⟨_, rfl⟩, fun c hc => nomatch hc⟩ (fun j c σ H1 hc p => ?_) (fun σ H1 p => ?_)
    · obtain ⟨rfl, ⟨v, rfl⟩, al⟩ := p
      walk_at "rd"
      refine r_signNotIn ?_
      rw [letM]
      walk_at "rd"
      refine if_ndec (fun hn => ?_) (fun hn => ?_)
      · refine bad ?_
        unfold okName
        rw [Bool.and_eq_false_iff]
        refine .inr ?_
        rw [List.all_eq_false]
        exact ⟨c, List.mem_of_getElem? hc, by simp [hn]⟩
      · walk_at "rd"
        refine ⟨rfl, ⟨_, rfl⟩, fun c2 h2 => ?_⟩
        rw [List.take_add_one, hc] at h2
        rcases List.mem_append.mp h2 with h2 | h2
        · exact al c2 h2
        · rw [show c2 = c by simpa using h2]
          exact hn
    · obtain ⟨rfl, _, al⟩ := p
      refine k ?_
      unfold okName
      have l : z.cps.toList.take z.length = z.cps.toList := List.take_of_length_le (by rw [Array.length_toList]; exact Nat.le_refl _)
      rw [l] at al
      rw [decide_eq_true (by omega), Bool.true_and, List.all_eq_true]
      exact fun c hc => decide_eq_true (al c hc)

end
end K54

namespace K54
open PySem PySem.Spec PyProof.Rows L2
section
variable {P : Program} {w : World} {K : PySem.W.Frag} {mg : Str → Option Value} {base : Heap}
theorem le_of_rise {x p : Str} (h : (!ltCps x.cps.toList p.cps.toList) = true) : p.cps.toList ≤ x.cps.toList := by
  rw [PyProof.Rows.ltCps_eq] at h
  simpa using h
theorem rising_pair : ∀ (p : Str) (l : List Str), risingS p l = true → (p :: l).Pairwise (fun a b => a.cps.toList ≤ b.cps.toList)
  | p, [], _ => List.pairwise_singleton ..
  | p, x :: r, h => by
    have h' : (!ltCps x.cps.toList p.cps.toList && risingS x r) = true := h
    have ⟨h1, h2⟩ := Bool.and_eq_true_iff.mp h'
    have l1 := le_of_rise h1
    have ih := rising_pair x r h2
    refine List.pairwise_cons.mpr ⟨fun y hy => ?_, ih⟩
    rcases List.mem_cons.mp hy with rfl | hy
    · exact l1
    · exact List.le_trans l1 ((List.pairwise_cons.mp ih).1 y hy)
theorem sorted_pair : ∀ (l : List Str), sortedS l = true → l.Pairwise (fun a b => a.cps.toList ≤ b.cps.toList)
  | [], _ => .nil
  | x :: r, h => rising_pair x r h
theorem str_anti {x y : Str} (h1 : x.cps.toList ≤ y.cps.toList) (h2 : y.cps.toList ≤ x.cps.toList) : x = y := by
  have e := List.le_antisymm h1 h2
  have e2 : x.cps = y.cps := Array.toList_inj.mp e
  cases x
  cases y
  exact congrArg Str.mk e2
theorem sorted_uniq {xs ys : List Str} (p : xs.Perm ys) (h1 : sortedS xs = true) (h2 : sortedS ys = true) : xs = ys :=
  List.Perm.eq_of_pairwise (le := fun a b : Str => a.cps.toList ≤ b.cps.toList) (fun a b _ _ l1 l2 => str_anti l1 l2) (sorted_pair _ h1) (sorted_pair _ h2) p
theorem pair_rising : ∀ (p : Str) (l : List Str), (p :: l).Pairwise (fun a b => a.cps.toList ≤ b.cps.toList) → risingS p l = true
  | p, [], _ => rfl
  | p, x :: r, h => by
    have h1 := (List.pairwise_cons.mp h).1 x (List.mem_cons_self ..)
    have h2 := pair_rising x r (List.pairwise_cons.mp h).2
    show (!ltCps x.cps.toList p.cps.toList && risingS x r) = true
    rw [h2, PyProof.Rows.ltCps_eq, Bool.and_true]
    simpa using h1
theorem pair_sorted : ∀ (l : List Str), l.Pairwise (fun a b => a.cps.toList ≤ b.cps.toList) → sortedS l = true
  | [], _ => rfl
  | x :: r, h => pair_rising x r h
theorem sorted_filter {xs : List Str} (f : Str → Bool) (h : sortedS xs = true) : sortedS (xs.filter f) = true := pair_sorted _ ((sorted_pair _ h).filter f)

end
end K54

namespace K54
open PySem PySem.Spec PyProof.Rows L2
section
variable {P : Program} {w : World} {K : PySem.W.Frag} {mg : Str → Option Value} {base : Heap}
theorem offT {H : Hp} {m : PAd} {C dx : Addr} {fs : List (Str × V)} {kvs : List (Key × V)} {xs ys : List V} {a : Addr} {zs : List V} (h1 : H m.p = some (.ins C dx fs)) (h2 : H m.d = some (.dK kvs)) (h3 : H m.o = some (.lst xs)) (h4 : H m.r = some (.lst ys)) (h : H a = some (.tup zs)) : off m.M H a = some (.tup zs) := by
  have n1 : a ≠ m.p := fun e => by subst e; cases h.symm.trans h1
  have n2 : a ≠ m.d := fun e => by subst e; cases h.symm.trans h2
  have n3 : a ≠ m.o := fun e => by subst e; cases h.symm.trans h3
  have n4 : a ≠ m.r := fun e => by subst e; cases h.symm.trans h4
  exact off_of h (by simp [PAd.M, n1, n2, n3, n4])
theorem sc_Post_renew : FnScope ["self", "near", "news", "wire"] ["self"] (defScope s_Post_renew) := ⟨rfl, rfl, rfl, by decide +kernel, rfl, by decide +kernel, by decide +kernel⟩
theorem okS_Post_renew (T : Txt K mg) (F_LinkEnd_up : Ok P w K mg base CX0 1 (He.ma K (He.ga K "LinkEnd") "up") ["self"] (spUp K)) (F_made_news : Ok P w K mg base CX0 3 (He.ga K "made_news") ["house", "number", "near", "names"] (spMadeNews K))
    (F_Map_hear : Ok P w K mg base CX0 1 (He.ma K (He.ga K "Map") "hear") ["self", "news"] (spHear K)) (F_Post_spread : Ok P w K mg base CX0 2 (He.ma K (He.ga K "Post") "spread") ["self", "news", "but"] (spSpread K)) :
    Ok P w K mg base CX0 4 (He.ma K (He.ga K "Post") "renew") ["self"] (spRenew K) := by
  refine ok_of T.f_Post_renew sc_Post_renew (fun _ _ _ _ _ _ us hl => match us, hl with | [_], _ => rfl) (fun vs H Q E h => ?_) (fun cdv A outer s H vs Q E hr h => ?_)
  · obtain ⟨m, st, rfl, _⟩ := h
    rfl
  · obtain ⟨m, st, rfl, ⟨i, q⟩, ln, k⟩ := h
    refine ⟨_, PSs.nox (pss_cons (ps_setLc (i := 1) (own := [("wire", 3)]) rfl sc_Post_renew.nd rfl rfl (sw_true rfl rfl rfl (by decide +kernel)) (pi_list (pe_fld (pv 0) rfl)) (blkOk_by (own := [("wire", 3)]) (N := ["self", "near", "news", "wire"]) (sc := defScope s_Post_renew) (by decide +kernel)) (fun _ _ _ _ _ => (pg_name (i := 3) sc_Post_renew.nd rfl (Or.inl rfl))) (fun _ _ _ _ _ => pts_one (pt_cmpR (op_isNotNon) (pe_meth0O (show PE _ _ (tFld K _ _) from pe_fld (pv 3) rfl) T.k_LinkEnd T.t_LinkEnd_up F_LinkEnd_up (hr.mono (by decide)) pass0) pe_non (nomark _))) (fun _ _ _ _ _ => (pe_tup (pa_cons (show PE _ _ (tFld K _ _) from pe_fld (pv 3) rfl) (pa_cons (show PE _ _ (tFld K _ _) from pe_fld (pv 3) rfl) (pa_cons (pe_meth0O (show PE _ _ (tFld K _ _) from pe_fld (pv 3) rfl) T.k_LinkEnd T.t_LinkEnd_up F_LinkEnd_up (hr.mono (by decide)) pass0) pa_nil))))))
 (pss_cons (ps_fld (pv 0) (pe_op op_add (pe_fld (pv 0) rfl) pe_int) rfl)
 (pss_cons (ps_set (i := 2) sc_Post_renew.nd rfl (Or.inl rfl) (pe_callO F_made_news (hr.mono (by decide)) rfl T.g_made_news pass0 (pa_cons (pe_fld (pv 0) rfl) (pa_cons (pe_fld (pv 0) rfl) (pa_cons (pv 1) (pa_cons (pe_fld (pv 0) rfl) pa_nil))))))
 (pss_cons (ps_expr (pe_methO (pe_fld (pv 0) rfl) T.k_Map T.t_Map_hear F_Map_hear (hr.mono (by decide)) pass0 (pa_cons (pv 2) pa_nil)))
 (pss_cons (ps_fld (pv 0) pe_bl rfl)
 (pss_one (ps_expr (pe_methO (pv 0) T.k_Post T.t_Post_spread F_Post_spread (hr.mono (by decide)) pass0 (pa_cons (pv 2) (pa_cons pe_non pa_nil)))))))))), ?_⟩
    have hp := q.obj
    walk_at "rd"
    refine r_fldAt (by walk_at "hp") T.k_Post T.n_Post_lines (by first | assumption | exact rfl) ?_
    have hl := off_get q.lines
    walk_at "rd"
    refine r_iL (.of hl) ?_
    walk_at "rd"
    refine l_it walk_list (fun D j H1 => H D = none ∧ H1 = upd H D (.lst [])) (fun D nD => ⟨nD, rfl⟩) (fun D j H1 _ p => by rw [p.2]; exact (same_upd p.1).seq (.of hl)) (fun D j x H1 H2 hi p y => ?_) (fun D H1 p => ?_)
    · obtain ⟨nD, rfl⟩ := p
      obtain ⟨rfl, hx⟩ := y
      rw [List.getElem?_map] at hx
      obtain ⟨a, ha, rfl⟩ := Option.map_eq_some_iff.mp hx
      walk_at "rd"
      refine ⟨rfl, ?_⟩
      have wa := (q.wires a (List.mem_of_getElem? ha)).same (off_sub.trans (same_upd (o := .lst []) nD))
      obtain ⟨dx, fs, lk, qq, g, hh, w1, w2, w3, w4, w5, w6, w7, w8, w9⟩ := wa
      walk_at "rd"
      refine r_fldAt w1 T.k_Wire T.n_Wire_link w3 ?_
      have w7' := w7
      obtain ⟨ld, lf, u1, u2, u3⟩ := w7'
      walk_at "rd"
      refine r_methAt u1 u3 ?_
      walk_at "rd"
      refine ⟨lk, rfl, w7, ?_⟩
      walk_at "rd"
      refine r_isNotNon ?_
      walk_at "rd"
      refine if_bF rfl ?_
      exact ⟨nD, rfl⟩
    · obtain ⟨nD, rfl⟩ := p
      have s1 := same_upd (o := .lst []) nD
      have hp1 := s1 _ _ hp
      walk_at "rd"
      refine r_fldAt (by walk_at "hp") T.k_Post T.n_Post_news_number (by first | assumption | exact rfl) ?_
      walk_at "rd"
      refine r_setAt (by walk_at "hp") T.k_Post T.n_Post_news_number (by walk_at "lt") ?_
      walk_at "rd"
      have npD : D ≠ m.p := Ne.symm (ne_of_none hp nD)
      have ncl : i.cl ≠ m.p := fun e => (off_some q.cal).2 (by simp [PAd.M, e])
      generalize eH2 : upd (upd H D (.lst [])) m.p _ = H2
      have hp2 : H2 m.p = some (.ins (He.ga K "Post") i.dp (pf st.own i.ll st.made i.cl i.mp (st.num + 1) m.o m.r i.tl st.grown)) := by rw [← eH2]; exact upd_same
      have keep2 : ∀ b o, H b = some o → b ≠ m.p → H2 b = some o := fun b o e n => by rw [← eH2, upd_ne n]; exact s1 _ _ e
      have hD2 : H2 D = some (.lst []) := by rw [← eH2, upd_ne npD]; exact upd_same
      have off2 : Same (off m.M H) (off m.M H2) := by
        rw [← eH2, off_upd (M := m.M) (show m.p ∈ m.M from List.mem_cons_self ..)]
        exact off_same s1
      walk_at "rd"
      refine r_fldAt (by walk_at "hp") T.k_Post T.n_Post_own (by first | assumption | exact rfl) ?_
      walk_at "rd"
      refine r_fldAt (by walk_at "hp") T.k_Post T.n_Post_news_number (by first | assumption | exact rfl) ?_
      walk_at "rd"
      refine r_fldAt (by walk_at "hp") T.k_Post T.n_Post_called (by first | assumption | exact rfl) ?_
      walk_at "rd"
      have hc2 := keep2 _ _ (off_get q.cal) ncl
      refine ⟨st.own, st.num + 1, D, i.cl, st.called, rfl, q.b0.1, q.b0.2, by have := q.b2; omega, by omega, .of hD2, .of hc2, q.b3.2.2.1, q.b3.1, q.b3.2.2.2, fun H3 t ys s3 nt pm so nw => ?_⟩
      have ey : ys = st.called := sorted_uniq pm so q.b3.2.1
      subst ey
      walk_at "rd"
      have hp3 := s3 _ _ hp2
      have dp : m.d ≠ m.p := ne_dk q.dic q.obj
      have op : m.o ≠ m.p := ne_li q.out q.obj
      have rp : m.r ≠ m.p := ne_li q.row q.obj
      have od : m.o ≠ m.d := ne_ld q.out q.dic
      have rd : m.r ≠ m.d := ne_ld q.row q.dic
      have hd3 := s3 _ _ (keep2 _ _ q.dic dp)
      have ho3 := s3 _ _ (keep2 _ _ q.out op)
      have hr3 := s3 _ _ (keep2 _ _ q.row rp)
      have off3 : Same (off m.M H) (off m.M H3) := off2.trans (off_same s3)
      have hm3 := off_get (off3 _ _ q.chart)
      walk_at "rd"
      refine r_fldAt (by walk_at "hp") T.k_Post T.n_Post_chart (by first | assumption | exact rfl) ?_
      walk_at "rd"
      refine r_methAt hm3 (by kernel_rfl) ?_
      walk_at "rd"
      have nw' := nw
      obtain ⟨tw, tn, t1, t2, t3⟩ := nw'
      have ow := q.nws.same (off3.trans off_sub)
      obtain ⟨tw0, tn0, u1, u2, u3⟩ := ow
      refine ⟨i.mp, i.dm, m.d, t, st.own, st.num + 1, _, [(Sum.inl st.own, .ref i.t)], rfl, hm3, hd3, t1, .inr ⟨i.t, st.own, st.num, _, rfl, u1, by omega⟩, ?_⟩
      walk_at "rd"
      have hp4 : upd H3 m.d (.dK [(Sum.inl st.own, .ref t)]) m.p = some (.ins (He.ga K "Post") i.dp (pf st.own i.ll st.made i.cl i.mp (st.num + 1) m.o m.r i.tl st.grown)) := by rw [upd_ne (Ne.symm dp)]; exact hp3
      walk_at "rd"
      refine r_setAt (by walk_at "hp") T.k_Post T.n_Post_grown (by walk_at "lt") ?_
      walk_at "rd"
      generalize eH5 : upd (upd H3 m.d (.dK [(Sum.inl st.own, .ref t)])) m.p _ = H5
      have off5 : off m.M H5 = off m.M H3 := by
        rw [← eH5, off_upd (M := m.M) (show m.p ∈ m.M from List.mem_cons_self ..), off_upd (M := m.M) (show m.d ∈ m.M by simp [PAd.M])]
      have offS : Same (off m.M H) (off m.M H5) := by rw [off5]; exact off3
      have nw5 : NewsAt (off m.M H5) t st.own (st.num + 1) st.called := by
        rw [off5]
        exact ⟨tw, tn, offT hp3 hd3 ho3 hr3 t1, offT hp3 hd3 ho3 hr3 t2, offT hp3 hd3 ho3 hr3 t3⟩
      have q5 : PostIn K H5 m { st with news := st.called, num := st.num + 1, grown := true } { i with t := t } := by
        refine ⟨by rw [← eH5]; exact upd_same, by rw [← eH5, upd_ne dp]; exact upd_same, by rw [← eH5, upd_ne op, upd_ne od]; exact ho3, by rw [← eH5, upd_ne rp, upd_ne rd]; exact hr3, q.nor, offS _ _ q.lines, fun a ha => (q.wires a ha).same offS, offS _ _ q.cal, offS _ _ q.chart, nw5, offS _ _ q.tld,
          dpAll_same offS _ _ q.outR, dpAll_same offS _ _ q.rowR, q.b0, q.b1, by have := q.b2; show 0 ≤ st.num + 1; omega, q.b3, q.b4, q.b5⟩
      walk_at "rd"
      refine r_methAt q5.obj (by kernel_rfl) ?_
      walk_at "rd"
      refine ⟨m, _, t, rfl, ⟨_, q5⟩, ?_⟩
      walk_at "rd"
      exact k _ offS ⟨_, q5⟩

end
end K54

namespace K54
open PySem PySem.Spec PyProof.Rows L2
section
variable {P : Program} {w : World} {K : PySem.W.Frag} {mg : Str → Option Value} {base : Heap}
theorem PostIn.setc {H : Hp} {m : PAd} {st : PSt} {i : PIn} (q : PostIn K H m st i) {s : Addr} {ys : List Str} (hs : H s = some (.lst (ys.map V.str))) (no : s ≠ m.o) (nr : s ≠ m.r) (b3 : ys.Nodup ∧ sortedS ys = true ∧ ys.length ≤ 4 ∧ ∀ z ∈ ys, okName z = true) :
    PostIn K (upd H m.p (.ins (He.ga K "Post") i.dp (pf st.own i.ll st.made s i.mp st.num m.o m.r i.tl st.grown))) m { st with called := ys } { i with cl := s } := by
  have e : off m.M (upd H m.p (.ins (He.ga K "Post") i.dp (pf st.own i.ll st.made s i.mp st.num m.o m.r i.tl st.grown))) = off m.M H := off_upd (List.mem_cons_self ..)
  have np : s ≠ m.p := ne_li hs q.obj
  have nd : s ≠ m.d := ne_ld hs q.dic
  exact ⟨upd_same, by rw [upd_ne (ne_dk q.dic q.obj)]; exact q.dic, by rw [upd_ne (ne_li q.out q.obj)]; exact q.out, by rw [upd_ne (ne_li q.row q.obj)]; exact q.row, q.nor, by rw [e]; exact q.lines, fun a ha => by rw [e]; exact q.wires a ha,
    by rw [e]; exact off_of hs (by simp [PAd.M, np, nd, no, nr]), by rw [e]; exact q.chart, by rw [e]; exact q.nws, by rw [e]; exact q.tld, by rw [e]; exact q.outR, by rw [e]; exact q.rowR, q.b0, q.b1, q.b2, b3, q.b4, q.b5⟩
theorem sc_Post_take_name : FnScope ["self", "name"] ["self", "name"] (defScope s_Post_take_name) := ⟨rfl, rfl, rfl, by decide +kernel, rfl, by decide +kernel, by decide +kernel⟩
theorem okS_Post_take_name (T : Txt K mg) (F_ask_name : Ok P w K mg base (L2.CX P w) 1 (He.ga K "ask_name") ["name"] (spAskName K)) (F_Post_renew : Ok P w K mg base CX0 4 (He.ma K (He.ga K "Post") "renew") ["self"] (spRenew K)) :
    Ok P w K mg base (L2.CX P w) 5 (He.ma K (He.ga K "Post") "take_name") ["self", "name"] (spTakeName K) := by
  refine ok_of T.f_Post_take_name sc_Post_take_name (fun _ _ _ _ _ _ us hl => match us, hl with | [_, _], _ => rfl) (fun vs H Q E h => ?_) (fun cdv A outer s H vs Q E hr h => ?_)
  · obtain ⟨m, st, z, rfl, _⟩ := h
    rfl
  · obtain ⟨m, st, z, rfl, ⟨i, q⟩, ln, lz, k, bad⟩ := h
    have tk := takes_of (X := cxOf (L2.CX P w) P w K mg base ["self", "name"] "Post.take_name" (defScope s_Post_take_name) (He.ma K (He.ga K "Post") "take_name") cdv A outer s H E) (E := E) rfl rfl rfl rfl
    refine ⟨_, pss_cons (ps_expr (pe_callO F_ask_name (hr.mono (by decide)) rfl T.g_ask_name (passes_call tk (fun _ _ _ _ h => h)) (pa_cons (pv 1) pa_nil)))
 (pss_cons (ps_if (PW.pt (pw_or (pt_cmpR (op_in_seq) (pv 1) (pe_fld (pv 0) rfl) (by rfl)) (pw_or1 (pt_cmpR (op_ge) (pe_callB (call_lenR) (by rfl) T.b_len (by decide +kernel) (pa_cons (pe_fld (pv 0) rfl) pa_nil)) (pe_gI rfl T.i_MOST_NAMES_posts) (nomark _))))) (pss_one (ps_raise rfl tk (pmk_own PySem.F.excBase_ValueError T.x_BadName.1 T.c_BadName T.x_BadName.2.1 (raises_own T.x_BadName.2.2.1 T.x_BadName.2.2.2) rfl))) pss_nil)
 (pss_cons (ps_fld (pv 0) (pe_callB (cr_sortedS) (by rfl) T.b_sorted (by decide +kernel) (pa_cons (pe_op op_cat (pe_fld (pv 0) rfl) (pe_lst (pa_cons (pv 1) pa_nil))) pa_nil)) rfl)
 (pss_one (ps_expr (pe_meth0O (pv 0) T.k_Post T.t_Post_renew F_Post_renew (hr.mono (by decide)) pass0))))), ?_⟩
    have hp := q.obj
    have hc := off_get q.cal
    walk_at "rd"
    refine ⟨z, rfl, lz, fun okz => ?_, fun nok => bad fun g => by rw [g.1] at nok; cases nok⟩
    walk_at "rd"
    refine r_fldAt (by walk_at "hp") T.k_Post T.n_Post_called (by first | assumption | exact rfl) ?_
    walk_at "rd"
    refine r_in (.inl (.of hc)) rfl (flat_strs _) ?_
    rw [inV_str]
    walk_at "rd"
    refine if_dec (fun h0 => ?_) (fun h0 => ?_)
    · exact iteT (bad fun g => g.2.1 h0)
    walk_at "rd"
    refine r_fldAt (by walk_at "hp") T.k_Post T.n_Post_called (by first | assumption | exact rfl) ?_
    walk_at "rd"
    refine r_lenL (.of hc) ?_
    rw [List.length_map]
    walk_at "rd"
    refine if_dec (fun h1 => ?_) (fun h1 => ?_)
    · exact bad fun g => by have := g.2.2; omega
    walk_at "rd"
    refine r_fldAt (by walk_at "hp") T.k_Post T.n_Post_called (by first | assumption | exact rfl) ?_
    walk_at "rd"
    refine ⟨by show 1 ≤ sizeLine; decide, fun a na => ?_⟩
    have s1 := same_upd (o := .lst [V.str z]) na
    have l4 := q.b3.2.2.1
    walk_at "rd"
    refine r_catR (s1 _ _ hc) upd_same (by rw [List.length_map]; exact Nat.le_trans (show st.called.length + 1 ≤ 5 by omega) (by decide)) fun c nc => ?_
    have s2 := sm (o := .lst (st.called.map V.str ++ [V.str z])) s1 nc
    walk_at "rd"
    refine r_sortS (xs := st.called ++ [z]) (.of (by rw [List.map_append]; exact upd_same)) (by rw [List.length_append, List.length_singleton]; omega) fun ys s' pm so ns => ?_
    have s3 := sm (o := .lst (ys.map V.str)) s2 ns
    have hp3 := s3 _ _ hp
    walk_at "rd"
    refine r_setAt (by walk_at "hp") T.k_Post T.n_Post_called (by walk_at "lt") ?_
    walk_at "rd"
    have q3 := q.same s3
    have pm' := pm.length_eq
    rw [List.length_append, List.length_singleton] at pm'
    have b3 : ys.Nodup ∧ sortedS ys = true ∧ ys.length ≤ 4 ∧ ∀ z ∈ ys, okName z = true := by
      refine ⟨pm.nodup_iff.mpr ?_, so, by omega, fun y hy => ?_⟩
      · exact List.nodup_append.mpr ⟨q.b3.1, by simp, fun a ha b hb e => by subst e; rw [List.mem_singleton.mp hb] at ha; exact h0 ha⟩
      · rcases List.mem_append.mp (pm.mem_iff.mp hy) with h | h
        · exact q.b3.2.2.2 y h
        · rw [List.mem_singleton.mp h]; exact okz
    have q4 := q3.setc (s := s') (ys := ys) upd_same (Ne.symm (ne_of_none (s2 _ _ q.out) ns)) (Ne.symm (ne_of_none (s2 _ _ q.row) ns)) b3
    generalize eH : upd (upd (upd (upd H a (.lst [V.str z])) c (.lst (st.called.map V.str ++ [V.str z]))) s' (.lst (ys.map V.str))) m.p (.ins (He.ga K "Post") i.dp (pf st.own i.ll st.made s' i.mp st.num m.o m.r i.tl st.grown)) = H4
    rw [eH] at q4
    have off4 : Same (off m.M H) (off m.M H4) := by
      rw [← eH, off_upd (M := m.M) (show m.p ∈ m.M from List.mem_cons_self ..)]
      exact off_same s3
    have go : ∀ H5, H5 = H4 → MethAt (He.ga K "Post") "renew" (spRenew K) [] E0 tNil [some (V.ref m.p), some (V.str z)] (V.ref m.p) H5 fun _ H1 => Q .non H1 := fun H5 e5 => by
      subst e5
      walk_at "rd"
      refine r_methAt q4.obj (by kernel_rfl) ?_
      walk_at "rd"
      refine ⟨m, _, rfl, ⟨_, q4⟩, ln, fun H6 s6 p6 => ?_⟩
      exact k ⟨okz, h0, by omega⟩ H6 ys (off4.trans s6) pm p6
    exact go _ eH
theorem sc_Post_drop_name : FnScope ["self", "name", "other"] ["self", "name"] (defScope s_Post_drop_name) := ⟨rfl, rfl, rfl, by decide +kernel, rfl, by decide +kernel, by decide +kernel⟩
theorem okS_Post_drop_name (T : Txt K mg) (F_Post_renew : Ok P w K mg base CX0 4 (He.ma K (He.ga K "Post") "renew") ["self"] (spRenew K)) :
    Ok P w K mg base (L2.CX P w) 5 (He.ma K (He.ga K "Post") "drop_name") ["self", "name"] (spDropName K) := by
  refine ok_of T.f_Post_drop_name sc_Post_drop_name (fun _ _ _ _ _ _ us hl => match us, hl with | [_, _], _ => rfl) (fun vs H Q E h => ?_) (fun cdv A outer s H vs Q E hr h => ?_)
  · obtain ⟨m, st, z, rfl, _⟩ := h
    rfl
  · obtain ⟨m, st, z, rfl, ⟨i, q⟩, ln, k, bad⟩ := h
    have tk := takes_of (X := cxOf (L2.CX P w) P w K mg base ["self", "name", "other"] "Post.drop_name" (defScope s_Post_drop_name) (He.ma K (He.ga K "Post") "drop_name") cdv A outer s H E) (E := E) rfl rfl rfl rfl
    refine ⟨_, pss_cons (ps_if (pt_cmpR (op_notIn_seq) (pv 1) (pe_fld (pv 0) rfl) (by rfl)) (pss_one (ps_raise rfl tk (pmk_own PySem.F.excBase_ValueError T.x_BadName.1 T.c_BadName T.x_BadName.2.1 (raises_own T.x_BadName.2.2.1 T.x_BadName.2.2.2) rfl))) pss_nil)
 (pss_cons (ps_fld (pv 0) (pe_lc (own := [("other", 2)]) rfl sc_Post_drop_name.nd (pi_list (pe_fld (pv 0) rfl)) (blkOk_by (own := [("other", 2)]) (N := ["self", "name", "other"]) (sc := defScope s_Post_drop_name) (by decide +kernel)) (fun _ _ _ _ _ => (pg_name (i := 2) sc_Post_drop_name.nd rfl (Or.inl rfl))) (fun _ _ _ _ _ => pts_one (pt_cmpR (op_ne) (pv 2) (pv 1) (nomark _))) (fun _ _ _ _ _ => (pv 2))) rfl)
 (pss_one (ps_expr (pe_meth0O (pv 0) T.k_Post T.t_Post_renew F_Post_renew (hr.mono (by decide)) pass0)))), ?_⟩
    have hp := q.obj
    have hc := off_get q.cal
    walk_at "rd"
    refine r_fldAt (by walk_at "hp") T.k_Post T.n_Post_called (by first | assumption | exact rfl) ?_
    walk_at "rd"
    refine r_notIn (.inl (.of hc)) rfl (flat_strs _) ?_
    rw [inV_str]
    walk_at "rd"
    refine if_ndec (fun h0 => ?_) (fun h0 => ?_)
    · exact bad h0
    walk_at "rd"
    refine r_fldAt (by walk_at "hp") T.k_Post T.n_Post_called (by first | assumption | exact rfl) ?_
    walk_at "rd"
    refine r_iL (.of hc) ?_
    walk_at "rd"
    refine l_it walk_list (fun D j H1 => H D = none ∧ Same H H1 ∧ H1 D = some (.lst (((st.called.take j).filter fun y => decide (y ≠ z)).map V.str))) (fun D nD => ⟨nD, same_upd nD, upd_same⟩) (fun D j H1 _ p => .of (p.2.1 _ _ hc)) (fun D j x H1 H2 hi p y => ?_) (fun D H1 p => ?_)
    · obtain ⟨nD, s1, hD⟩ := p
      obtain ⟨rfl, hx⟩ := y
      rw [List.getElem?_map] at hx
      obtain ⟨a, ha, rfl⟩ := Option.map_eq_some_iff.mp hx
      walk_at "rd"
      refine ⟨rfl, ?_⟩
      walk_at "rd"
      refine if_ndec (fun hn => ?_) (fun he => ?_)
      · walk_at "rd"
        refine ⟨_, hD, ?_, nD, same_re nD s1, ?_⟩
        · rw [List.length_map]
          have := List.length_filter_le (fun y => decide (y ≠ z)) (st.called.take j)
          have l2 := (List.take_sublist j st.called).length_le
          have l4 := q.b3.2.2.1
          exact Nat.lt_of_le_of_lt (show _ ≤ 4 by omega) (by decide)
        · rw [List.take_add_one, ha, List.filter_append, List.map_append]
          simp [hn, upd_same]
      · refine ⟨nD, s1, ?_⟩
        rw [List.take_add_one, ha, List.filter_append, List.map_append]
        simpa [he] using hD
    · obtain ⟨nD, s1, hD⟩ := p
      rw [List.length_map, List.take_length] at hD
      have hp1 := s1 _ _ hp
      walk_at "rd"
      refine r_setAt (by walk_at "hp") T.k_Post T.n_Post_called (by walk_at "lt") ?_
      walk_at "rd"
      have q1 := q.same s1
      have b3 : (st.called.filter fun y => decide (y ≠ z)).Nodup ∧ sortedS (st.called.filter fun y => decide (y ≠ z)) = true ∧ (st.called.filter fun y => decide (y ≠ z)).length ≤ 4 ∧ ∀ x ∈ (st.called.filter fun y => decide (y ≠ z)), okName x = true := by
        refine ⟨q.b3.1.filter _, sorted_filter _ q.b3.2.1, Nat.le_trans (List.length_filter_le ..) q.b3.2.2.1, fun x hx => q.b3.2.2.2 x (List.mem_filter.mp hx).1⟩
      have q4 := q1.setc hD (Ne.symm (ne_of_none q.out nD)) (Ne.symm (ne_of_none q.row nD)) b3
      generalize eH : upd H1 m.p (.ins (He.ga K "Post") i.dp (pf st.own i.ll st.made D i.mp st.num m.o m.r i.tl st.grown)) = H4
      rw [eH] at q4
      have off4 : Same (off m.M H) (off m.M H4) := by
        rw [← eH, off_upd (M := m.M) (show m.p ∈ m.M from List.mem_cons_self ..)]
        exact off_same s1
      have go : ∀ H5 σ, H5 = H4 → MethAt (He.ga K "Post") "renew" (spRenew K) [] E0 tNil σ (V.ref m.p) H5 fun _ H1 => Q .non H1 := fun H5 σ e5 => by
        subst e5
        walk_at "rd"
        refine r_methAt q4.obj (by kernel_rfl) ?_
        walk_at "rd"
        refine ⟨m, _, rfl, ⟨_, q4⟩, ln, fun H6 s6 p6 => ?_⟩
        exact k h0 H6 (off4.trans s6) p6
      exact go _ _ eH

end
end K54

namespace K54
open PySem PySem.Spec PyProof.Rows L2
section
variable {P : Program} {w : World} {K : PySem.W.Frag} {mg : Str → Option Value} {base : Heap}
theorem PostIn.seto {H : Hp} {m : PAd} {st : PSt} {i : PIn} (q : PostIn K H m st i) {x : V} {d : PyData} (dx : Dp K (off m.M H) x d) (l : i.outs.length < 1000) :
    PostIn K (upd H m.o (.lst (i.outs ++ [x]))) m { st with outD := st.outD ++ [d] } { i with outs := i.outs ++ [x] } := by
  have e : off m.M (upd H m.o (.lst (i.outs ++ [x]))) = off m.M H := off_upd (by simp [PAd.M])
  exact ⟨by rw [upd_ne (Ne.symm (ne_li q.out q.obj))]; exact q.obj, by rw [upd_ne (Ne.symm (ne_ld q.out q.dic))]; exact q.dic, upd_same, by rw [upd_ne (Ne.symm q.nor)]; exact q.row, q.nor, by rw [e]; exact q.lines, fun a ha => by rw [e]; exact q.wires a ha,
    by rw [e]; exact q.cal, by rw [e]; exact q.chart, by rw [e]; exact q.nws, by rw [e]; exact q.tld, by rw [e]; exact dpAll_app q.outR (.cons dx .nil), by rw [e]; exact q.rowR, q.b0, q.b1, q.b2, q.b3, ⟨by show (i.outs ++ [x]).length ≤ 1000; rw [List.length_append, List.length_singleton]; omega, q.b4.2⟩, q.b5⟩
theorem LetAtK.dp {H : Hp} {p w : Addr} {n h : Int} {kind : Str} {about body : List Int} (hw : H w = some (.tup [.int h])) (l : LetAtK K H p n w kind about body) : Dp K H (.ref p) (letD n h kind about body) := by
  obtain ⟨ta, tb, l1, l2, l3⟩ := l
  exact .tup (.of l1) (.cons (.int n) (.cons (.tup (.of hw) (.cons (.int h) .nil)) (.cons (.str kind) (.cons (.tup l2 (dpAll_ints _)) (.cons (.tup l3 (dpAll_ints _)) .nil)))))
theorem sc_Post_post : FnScope ["self", "goal", "kind", "about", "body", "told", "letter", "wire"] ["self", "goal", "kind", "about", "body"] (defScope s_Post_post) := ⟨rfl, rfl, rfl, by decide +kernel, rfl, by decide +kernel, by decide +kernel⟩
theorem okS_Post_post (T : Txt K mg) (F_ask_house : Ok P w K mg base (L2.CX P w) 1 (He.ga K "ask_house") ["number"] (spAskHouse K)) (F_made_letter : Ok P w K mg base (L2.CX P w) 3 (He.ga K "made_letter") ["count", "way", "kind", "about", "body"] (spMadeLetter K))
    (F_way_of : Ok P w K mg base CX0 3 (He.ga K "way_of") ["known", "one", "other"] (spWayOf K)) (F_Post_own_letter : Ok P w K mg base CX0 4 (He.ma K (He.ga K "Post") "own_letter") ["self", "way", "kind", "about", "body"] (spOwnLetter K))
    (F_Post_enter : Ok P w K mg base CX0 2 (He.ma K (He.ga K "Post") "enter") ["self", "word", "letter"] (spEnter K)) :
    Ok P w K mg base (L2.CX P w) 5 (He.ma K (He.ga K "Post") "post") ["self", "goal", "kind", "about", "body"] (spPost K) := by
  refine ok_of T.f_Post_post sc_Post_post (fun _ _ _ _ _ _ us hl => match us, hl with | [_, _, _, _, _], _ => rfl) (fun vs H Q E h => ?_) (fun cdv A outer s H vs Q E hr h => ?_)
  · obtain ⟨m, st, i, goal, kind, a, b, about, body, rfl, _⟩ := h
    rfl
  · obtain ⟨m, st, i, goal, kind, a, b, about, body, rfl, q, lm, lo, lr, sa, sb, la, lb, k1, k2, k3, k4⟩ := h
    have tk := takes_of (X := cxOf (L2.CX P w) P w K mg base ["self", "goal", "kind", "about", "body", "told", "letter", "wire"] "Post.post" (defScope s_Post_post) (He.ma K (He.ga K "Post") "post") cdv A outer s H E) (E := E) rfl rfl rfl rfl
    refine ⟨_, pss_cons (ps_expr (pe_callO F_ask_house (hr.mono (by decide)) rfl T.g_ask_house (passes_call tk (fun _ _ _ _ h => h)) (pa_cons (pv 1) pa_nil)))
 (pss_cons (ps_expr (pe_callO F_made_letter (hr.mono (by decide)) rfl T.g_made_letter (passes_call tk (fun _ _ _ _ h => h)) (pa_cons pe_int (pa_cons (pe_tup (pa_cons (pe_fld (pv 0) rfl) pa_nil)) (pa_cons (pv 2) (pa_cons (pv 3) (pa_cons (pv 4) pa_nil)))))))
 (pss_cons (ps_if (pt_cmpR (op_eq) (pv 2) pe_str (nomark _)) (pss_one (ps_raise rfl tk (pmk_own PySem.F.excBase_ValueError T.x_BadLetter.1 T.c_BadLetter T.x_BadLetter.2.1 (raises_own T.x_BadLetter.2.2.1 T.x_BadLetter.2.2.2) rfl))) pss_nil)
 (pss_cons (ps_set (i := 5) sc_Post_post.nd rfl (Or.inl rfl) (pe_callO F_way_of (hr.mono (by decide)) rfl T.g_way_of pass0 (pa_cons (pe_fld (pv 0) rfl) (pa_cons (pe_fld (pv 0) rfl) (pa_cons (pv 1) pa_nil)))))
 (pss_cons (ps_if (pt_cmpR (op_eq) (pe_ix ix_tup (pv 5) pe_int (fun _ _ => rfl)) pe_str (nomark _)) (pss_one (ps_ret pe_non)) pss_nil)
 (pss_cons (ps_set (i := 6) sc_Post_post.nd rfl (Or.inl rfl) (pe_methO (pv 0) T.k_Post T.t_Post_own_letter F_Post_own_letter (hr.mono (by decide)) pass0 (pa_cons (pe_ix ix_tup (pv 5) pe_int (fun _ _ => rfl)) (pa_cons (pv 2) (pa_cons (pv 3) (pa_cons (pv 4) pa_nil))))))
 (pss_cons (ps_expr (pe_methO (pv 0) T.k_Post T.t_Post_enter F_Post_enter (hr.mono (by decide)) pass0 (pa_cons pe_str (pa_cons (pv 6) pa_nil))))
 (pss_cons (ps_if (pt_cmpR (op_eq) (pv 1) (pe_fld (pv 0) rfl) (nomark _)) (pss_one (ps_expr (pe_bm PySem.F.plainAttrs_list PySem.F.slot_list_append PySem.F.type_list_append mt_append (pe_fld (pv 0) rfl) (pa_cons (pv 6) pa_nil)))) pss_nil)
 (pss_cons (ps_for (passes_of rfl) rfl (pi_list (pe_fld (pv 0) rfl)) (pg_name (i := 7) sc_Post_post.nd rfl (Or.inl rfl)) (pss_one (ps_if (PW.pt (pw_and (pt_cmpR (op_gt) (pe_callB (call_lenR) (by rfl) T.b_len (by decide +kernel) (pa_cons (pe_ix ix_tup (pv 6) pe_int (fun _ _ => rfl)) pa_nil)) pe_int (nomark _)) (pw_and1 (pt_cmpR (op_eq) (pe_fld (pv 7) rfl) (pe_ix ix_tup (pe_ix ix_tup (pv 6) pe_int (fun _ _ => rfl)) pe_int (fun _ _ => rfl)) (nomark _))))) (pss_one ps_never) pss_nil)))
 (pss_one (ps_ret (pv 6))))))))))), ?_⟩
    have hp := q.obj
    walk_at "rd"
    refine ⟨goal, rfl, fun hg => ?_, fun nh => k1 nh H (Same.refl _)⟩
    walk_at "rd"
    refine r_fldAt (by walk_at "hp") T.k_Post T.n_Post_own (by first | assumption | exact rfl) ?_
    walk_at "rd"
    refine ⟨by show 1 ≤ sizeLine; decide, fun w0 nw0 => ?_⟩
    have s1 := same_upd (o := .tup [V.int st.own]) nw0
    walk_at "rd"
    refine ⟨0, st.own, w0, kind, a, b, about, body, rfl, by decide, by decide, upd_same, q.b0.1, by have := q.b0.2; omega, sa.same (off_sub.trans s1), sb.same (off_sub.trans s1), la, lb, fun ok H2 p0 s2 _ _ _ => ?_, fun e => k2 hg (.inl e) _ s1⟩
    have s12 := s1.trans s2
    walk_at "rd"
    refine if_dec (fun hn => ?_) (fun hn => ?_)
    · exact k2 hg (.inr hn) _ s12
    have nb : ¬ badLet kind about body := fun z => z.elim (fun e => by rw [ok] at e; cases e) fun e => hn e
    have hp2 := s12 _ _ hp
    have q2 := q.same s12
    walk_at "rd"
    refine r_fldAt (by walk_at "hp") T.k_Post T.n_Post_chart (by first | assumption | exact rfl) ?_
    walk_at "rd"
    refine r_fldAt (by walk_at "hp") T.k_Post T.n_Post_own (by first | assumption | exact rfl) ?_
    walk_at "rd"
    refine ⟨i.mp, m.d, i.t, st.own, st.num, st.news, st.own, goal, rfl, ⟨⟨i.dm, off_get q2.chart⟩, q2.dic, q2.nws.same off_sub⟩, fun eo H3 r wt hl s3 nr hr3 hwt => ?_, fun ne H3 r x s3 nr hr3 => ?_⟩
    · have s123 := s12.trans s3
      have q3 := q.same s123
      walk_at "rd"
      refine r_ixT (.of hr3) (atI_nat (j := 0) rfl) ?_
      walk_at "rd"
      refine if_decF (by decide) ?_
      walk_at "rd"
      refine r_methAt q3.obj (by kernel_rfl) ?_
      walk_at "rd"
      refine r_ixT (.of hr3) (atI_nat (j := 1) rfl) ?_
      walk_at "rd"
      have hwt3 := offT q3.obj q3.dic q3.out q3.row hwt
      refine ⟨m, st, i, wt, st.own, kind, a, b, about, body, rfl, q3, by omega, hwt3, q.b0.1, by have := q.b0.2; omega, sa.same (off_same s123), sb.same (off_same s123), la, lb, ok, fun H4 p s4 q4 np lt => ?_⟩
      have hwt4 := s4 _ _ hwt3
      have dp4 := lt.dp hwt4
      walk_at "rd"
      refine r_methAt q4.obj (by kernel_rfl) ?_
      walk_at "rd"
      refine ⟨m, _, i, "put", .ref p, _, rfl, q4, dp4, by show st.rowD.length < 1000; omega, fun H5 rows s5 q5 => ?_⟩
      have hp5 := q5.obj
      have hwt5 := s5 _ _ hwt4
      have lt5 := lt.same s5
      have dp5 := lt5.dp hwt5
      walk_at "rd"
      refine r_fldAt (by walk_at "hp") T.k_Post T.n_Post_own (by first | assumption | exact rfl) ?_
      walk_at "rd"
      refine if_decT eo.symm ?_
      walk_at "rd"
      refine r_fldAt (by walk_at "hp") T.k_Post T.n_Post_out (by first | assumption | exact rfl) ?_
      walk_at "rd"
      refine r_bmL (.of q5.out) ?_
      walk_at "rd"
      have lo5 : i.outs.length < 1000 := by
        have e : i.outs.length = st.outD.length := dpAll_len q5.outR
        omega
      walk_at "rd"
      refine r_appendR q5.out (Nat.lt_of_lt_of_le lo5 (by decide)) ?_
      have q6 := q5.seto dp5 lo5
      generalize eH6 : upd H5 m.o (.lst (i.outs ++ [.ref p])) = H6
      rw [eH6] at q6
      have off6 : off m.M H6 = off m.M H5 := by rw [← eH6, off_upd (by simp [PAd.M])]
      have offS : Same (off m.M H) (off m.M H6) := by
        rw [off6]
        exact ((off_same s123).trans s4).trans s5
      have hp6 := q6.obj
      have lt6 := lt5
      obtain ⟨ta, tb, l1, l2, l3⟩ := lt6
      rw [← off6] at l1 hwt5 dp5
      walk_at "rd"
      refine r_fldAt (by walk_at "hp") T.k_Post T.n_Post_lines (by first | assumption | exact rfl) ?_
      have hl6 := off_get q6.lines
      walk_at "rd"
      refine r_iL (.of hl6) ?_
      walk_at "rd"
      refine f_list (xs := i.ws.map V.ref) (fun j σ H1 => H1 = H6 ∧ ∃ v, σ = [some (.ref m.p), some (.int goal), some (.str kind), some (.ref a), some (.ref b), some (.ref r), some (.ref p), v]) ⟨rfl, _, rfl⟩ (fun j σ H1 _ p => by rw [p.1]; exact .of hl6) (fun j x σ H1 hx p => ?_) (fun σ H1 p => ?_)
      · obtain ⟨rfl, v, rfl⟩ := p
        walk_at "rd"
        refine r_ixT (.of (off_get l1)) (atI_nat (j := 1) rfl) ?_
        walk_at "rd"
        refine r_lenT (.of (off_get hwt5)) ?_
        walk_at "rd"
        refine if_decF (by show ¬ ((1 : Int) < 1); decide) ?_
        walk_at "rd"
        refine iteF ?_
        walk_at "rd"
        exact ⟨rfl, _, rfl⟩
      · obtain ⟨rfl, v, rfl⟩ := p
        walk_at "rd"
        exact k4 hg nb eo.symm _ p _ _ offS q6 dp5
    · walk_at "rd"
      refine r_ixT (.of hr3) (atI_nat (j := 0) rfl) ?_
      walk_at "rd"
      refine if_decT rfl ?_
      walk_at "rd"
      exact k3 hg nb (Ne.symm ne) _ (s12.trans s3)

end
end K54

namespace K54
open PySem PySem.Spec PyProof.Rows L2
section
variable {P : Program} {w : World} {K : PySem.W.Frag} {mg : Str → Option Value} {base : Heap}
theorem paired_get {α β : Type} {R : α → β → Prop} : ∀ {vs : List α} {ws : List β}, Paired R vs ws → ∀ {j : Nat} {v : α}, vs[j]? = some v → ∃ x, ws[j]? = some x ∧ R v x
  | _, _, .nil, j, v, h => by simp at h
  | _, _, .cons a _, 0, v, h => by
    have e := Option.some.inj h
    subst e
    exact ⟨_, rfl, a⟩
  | _, _, .cons _ b, j + 1, v, h => paired_get b (j := j) h
theorem paired_len {α β : Type} {R : α → β → Prop} : ∀ {vs : List α} {ws : List β}, Paired R vs ws → vs.length = ws.length
  | _, _, .nil => rfl
  | _, _, .cons _ b => congrArg Nat.succ (paired_len b)
def kvT (hs : List Int) : List (Key × V) := hs.map fun h => (Sum.inl h, V.bl true)
theorem valV_kvT (h : Int) : ∀ hs : List Int, (valV (kvT hs) (Sum.inl h)).isSome = decide (h ∈ hs)
  | [] => rfl
  | x :: r => by
    have ih := valV_kvT h r
    unfold kvT valV at ih ⊢
    by_cases e : x = h
    · subst e
      simp
    · have e2 : ¬ h = x := fun q => e q.symm
      simp [e, e2] at ih ⊢
      exact ih
theorem putK_kvT (h : Int) : ∀ hs : List Int, h ∉ hs → putK (kvT hs) (Sum.inl h) (V.bl true) = kvT (hs ++ [h])
  | [], _ => rfl
  | x :: r, n => by
    have ih := putK_kvT h r fun q => n (List.mem_cons_of_mem _ q)
    have e : ¬ x = h := fun q => n (by rw [q]; exact List.mem_cons_self ..)
    unfold kvT at ih ⊢
    simp [putK, e] at ih ⊢
    exact ih
theorem goodPost_house {n : Int} {ws : List WrT} (h : ¬ (0 ≤ n ∧ n ≤ 31)) : goodPost n ws = false := by
  unfold goodPost
  rw [decide_eq_false h] <;> rfl
theorem goodPost_len {n : Int} {ws : List WrT} (h : ¬ ws.length ≤ 5) : goodPost n ws = false := by
  unfold goodPost
  rw [decide_eq_false h, Bool.false_and, Bool.and_false]
theorem goodPost_eq {n : Int} {ws : List WrT} (h : 0 ≤ n ∧ n ≤ 31) (l : ws.length ≤ 5) : goodPost n ws = goodH [n] (ws.map (·.house)) := by
  unfold goodPost
  rw [decide_eq_true h, decide_eq_true l, Bool.true_and, Bool.true_and]
theorem goodH_step {seen : List Int} {h : Int} {r : List Int} : goodH seen (h :: r) = (decide (0 ≤ h ∧ h ≤ 31) && (decide (h ∉ seen) && goodH (seen ++ [h]) r)) := rfl
theorem drop_at {α : Type} {l : List α} {j : Nat} {x : α} (h : l[j]? = some x) : l.drop j = x :: l.drop (j + 1) := by
  obtain ⟨hj, e⟩ := List.getElem?_eq_some_iff.mp h
  rw [← e]
  exact List.drop_eq_getElem_cons hj
theorem sc_Post_init : FnScope ["self", "number", "wires", "seen", "house", "measure", "side"] ["self", "number", "wires"] (defScope s_Post_init) := ⟨rfl, rfl, rfl, by decide +kernel, rfl, by decide +kernel, by decide +kernel⟩
theorem okS_Post_init (T : Txt K mg) (F_ask_house : Ok P w K mg base (L2.CX P w) 1 (He.ga K "ask_house") ["number"] (spAskHouse K)) (F_Wire_init : Ok P w K mg base CX0 6 (He.ma K (He.ga K "Wire") "__init__") ["self", "house", "measure", "side"] (spWireInit K))
    (F_Map_init : Ok P w K mg base CX0 1 (He.ma K (He.ga K "Map") "__init__") ["self"] (spMapInit K)) (F_Map_hear : Ok P w K mg base CX0 1 (He.ma K (He.ga K "Map") "hear") ["self", "news"] (spHear K))
    (F_made_news : Ok P w K mg base CX0 3 (He.ga K "made_news") ["house", "number", "near", "names"] (spMadeNews K)) :
    Ok P w K mg base (L2.CX P w) 8 (He.ma K (He.ga K "Post") "__init__") ["self", "number", "wires"] (spPostInit K) := by
  refine ok_of T.f_Post_init sc_Post_init (fun _ _ _ _ _ _ us hl => match us, hl with | [_, _, _], _ => rfl) (fun vs H Q E h => ?_) (fun cdv A0 outer s H vs Q E hr h => ?_)
  · obtain ⟨p, dx, l, n, ws, rfl, _⟩ := h
    rfl
  · obtain ⟨p, dx, l, n, ws, rfl, hp, ⟨vs, hl, pr⟩, lw, oks, bad, k⟩ := h
    have tk := takes_of (X := cxOf (L2.CX P w) P w K mg base ["self", "number", "wires", "seen", "house", "measure", "side"] "Post.__init__" (defScope s_Post_init) (He.ma K (He.ga K "Post") "__init__") cdv A0 outer s H E) (E := E) rfl rfl rfl rfl
    refine ⟨_, pss_cons (ps_expr (pe_callO F_ask_house (hr.mono (by decide)) rfl T.g_ask_house (passes_call tk (fun _ _ _ _ h => h)) (pa_cons (pv 1) pa_nil)))
 (pss_cons (ps_if (pt_cmpR (op_gt) (pe_callB (call_lenR) (by rfl) T.b_len (by decide +kernel) (pa_cons (pv 2) pa_nil)) (pe_gI rfl T.i_MOST_WIRES) (nomark _)) (pss_one (ps_raise rfl tk (pmk_own PySem.F.excBase_ValueError T.x_BadHouse.1 T.c_BadHouse T.x_BadHouse.2.1 (raises_own T.x_BadHouse.2.2.1 T.x_BadHouse.2.2.2) rfl))) pss_nil)
 (pss_cons (ps_set (i := 3) sc_Post_init.nd rfl (Or.inl rfl) (pe_disp (pps_cons (pv 1) pe_bl pps_nil) (by rfl) (by rfl) (fun z => by cases z) (by decide)))
 (pss_cons (ps_for (passes_of rfl) rfl (pi_list (pv 2)) (pg_tup rfl (pgs_cons (pg_name (i := 4) sc_Post_init.nd rfl (Or.inl rfl)) (pgs_cons (pg_name (i := 5) sc_Post_init.nd rfl (Or.inl rfl)) (pgs_cons (pg_name (i := 6) sc_Post_init.nd rfl (Or.inl rfl)) pgs_nil))) (by rfl)) (pss_cons (ps_expr (pe_callO F_ask_house (hr.mono (by decide)) rfl T.g_ask_house (passes_call tk (fun _ _ _ _ h => h)) (pa_cons (pv 4) pa_nil)))
 (pss_cons (ps_if (pt_cmp (pc_din (room1 hr) (pv 4) (pv 3))) (pss_one (ps_raise rfl tk (pmk_own PySem.F.excBase_ValueError T.x_BadHouse.1 T.c_BadHouse T.x_BadHouse.2.1 (raises_own T.x_BadHouse.2.2.1 T.x_BadHouse.2.2.2) rfl))) pss_nil)
 (pss_one (ps_dput (room1 hr) (pv 3) (pv 4) pe_bl rfl)))))
 (pss_cons (ps_fld (pv 0) (pv 1) rfl)
 (pss_cons (ps_fld (pv 0) (pe_lc (own := [("house", 4), ("measure", 5), ("side", 6)]) (g := (gTup K 3 (gCons (gName 4) (gCons (gName 5) (gCons (gName 6) gNil))))) rfl sc_Post_init.nd (pi_list (pv 2)) (blkOk_by (own := [("house", 4), ("measure", 5), ("side", 6)]) (N := ["self", "number", "wires", "seen", "house", "measure", "side"]) (sc := defScope s_Post_init) (by decide +kernel)) (fun _ _ _ _ _ => (pg_tup rfl (pgs_cons (pg_name (i := 4) sc_Post_init.nd rfl (Or.inl rfl)) (pgs_cons (pg_name (i := 5) sc_Post_init.nd rfl (Or.inl rfl)) (pgs_cons (pg_name (i := 6) sc_Post_init.nd rfl (Or.inl rfl)) pgs_nil))) (by rfl))) (fun _ _ _ _ _ => pts_nil) (fun _ _ _ _ _ => (pe_makeO T.m_Wire F_Wire_init (hr.mono (by decide)) rfl T.c_Wire pass0 (pa_cons (pv 4) (pa_cons (pv 5) (pa_cons (pv 6) pa_nil)))))) rfl)
 (pss_cons (ps_fld (pv 0) pe_int rfl)
 (pss_cons (ps_fld (pv 0) pe_int rfl)
 (pss_cons (ps_fld (pv 0) (pe_lst pa_nil) rfl)
 (pss_cons (ps_fld (pv 0) (pe_make0O T.m_Map F_Map_init (hr.mono (by decide)) rfl T.c_Map pass0) rfl)
 (pss_cons (ps_fld (pv 0) pe_int rfl)
 (pss_cons (ps_expr (pe_methO (pe_fld (pv 0) rfl) T.k_Map T.t_Map_hear F_Map_hear (hr.mono (by decide)) pass0 (pa_cons (pe_callO F_made_news (hr.mono (by decide)) rfl T.g_made_news pass0 (pa_cons (pv 1) (pa_cons pe_int (pa_cons (pe_lst pa_nil) (pa_cons (pe_lst pa_nil) pa_nil))))) pa_nil)))
 (pss_cons (ps_fld (pv 0) (pe_lst pa_nil) rfl)
 (pss_cons (ps_fld (pv 0) (pe_lst pa_nil) rfl)
 (pss_cons (ps_fld (pv 0) (pe_lst pa_nil) rfl)
 (pss_one (ps_fld (pv 0) pe_bl rfl)))))))))))))))), ?_⟩
    have pl := paired_len pr
    walk_at "rd"
    refine ⟨n, rfl, fun hn => ?_, fun nn => bad (goodPost_house nn) H (Same.refl _)⟩
    walk_at "rd"
    refine r_lenL (.of hl) ?_
    walk_at "rd"
    refine if_dec (fun h0 => ?_) (fun h0 => ?_)
    · exact bad (goodPost_len (by omega)) H (Same.refl _)
    have l5 : ws.length ≤ 5 := by omega
    walk_at "rd"
    intro d0 nd0
    walk_at "rd"
    refine r_disp1 upd_same ?_
    have s0 := same_re (o := .dK [(Sum.inl n, .bl true)]) nd0 (same_upd (o := .dK []) nd0)
    walk_at "rd"
    refine r_iL (s0.seq (.of hl)) ?_
    walk_at "rd"
    refine f_list (xs := vs) (fun j σ H1 => (∃ a b c, σ = [some (.ref p), some (.int n), some (.ref l), some (.ref d0), a, b, c]) ∧ Same H H1 ∧ H1 d0 = some (.dK (kvT (n :: (ws.map (·.house)).take j))) ∧ goodH (n :: (ws.map (·.house)).take j) ((ws.map (·.house)).drop j) = goodH [n] (ws.map (·.house)))
      ⟨⟨_, _, _, rfl⟩, s0, upd_same, rfl⟩ (fun j σ H1 _ q => q.2.1.seq (.of hl)) (fun j x σ H1 hx q => ?_) (fun σ H1 q => ?_)
    · obtain ⟨⟨a, b, c, rfl⟩, s1, hd1, gq⟩ := q
      obtain ⟨xw, hxw, t, mt, rfl, ht, hmt⟩ := paired_get pr hx
      have hh : (ws.map (·.house))[j]? = some xw.house := by rw [List.getElem?_map, hxw]; rfl
      rw [drop_at hh, goodH_step] at gq
      have sz : (kvT (n :: (ws.map (·.house)).take j)).length < sizeLine := by
        unfold kvT
        rw [List.length_map, List.length_cons]
        have := (List.take_sublist j (ws.map (·.house))).length_le
        rw [List.length_map] at this
        exact Nat.lt_of_le_of_lt (show _ ≤ 6 by omega) (by decide)
      walk_at "rd"
      refine r_gtup (.of (s1 _ _ ht)) rfl ?_
      walk_at "rd"
      refine ⟨xw.house, rfl, fun hg => ?_, fun nh => bad ?_ H1 s1⟩
      · rw [decide_eq_true hg, Bool.true_and] at gq
        walk_at "rd"
        refine r_dinI (.inl hd1) ?_
        rw [valV_kvT]
        walk_at "rd"
        refine if_dec (fun hi => ?_) (fun hi => ?_)
        · refine bad ?_ H1 s1
          rw [goodPost_eq hn l5, ← gq, decide_eq_false (fun z => z hi), Bool.false_and]
        · rw [decide_eq_true hi, Bool.true_and] at gq
          walk_at "rd"
          refine r_dputI hd1 sz ?_
          rw [putK_kvT _ _ hi]
          refine ⟨⟨_, _, _, rfl⟩, same_re nd0 s1, ?_, ?_⟩
          · rw [upd_same, List.take_add_one, hh]
            rfl
          · rw [List.take_add_one, hh]
            exact gq
      · rw [goodPost_eq hn l5, ← gq, decide_eq_false nh, Bool.false_and]
    · obtain ⟨⟨a, b, c, rfl⟩, s1, _, gq⟩ := q
      have good : goodPost n ws = true := by
        rw [goodPost_eq hn l5, ← gq, List.drop_of_length_le (by rw [List.length_map]; omega)]
        rfl
      have k := k good
      have hp1 := s1 _ _ hp
      walk_at "rd"
      refine r_setAt (by walk_at "hp") T.k_Post T.n_Post_own (by walk_at "lt") ?_
      have nlp : l ≠ p := fun e => by subst e; cases hl.symm.trans hp
      generalize eHb : upd H1 p _ = Hb
      have hpb : Hb p = some (.ins (He.ga K "Post") dx [("own", .int n)]) := by rw [← eHb]; exact upd_same
      have keepb : ∀ b o, H b = some o → b ≠ p → Hb b = some o := fun b o e nb => by rw [← eHb, upd_ne nb]; exact s1 _ _ e
      walk_at "rd"
      refine r_iL (.of (keepb _ _ hl nlp)) ?_
      walk_at "rd"
      refine l_it walk_list (fun D j H2 => Hb D = none ∧ Same Hb H2 ∧ ∃ as : List Addr, as.length = j ∧ H2 D = some (.lst (as.map V.ref)) ∧ ∀ a ∈ as, WireAt K (off [p, D] H2) a) (fun D nD => ⟨nD, same_upd nD, [], rfl, upd_same, fun a ha => nomatch ha⟩) (fun D j H2 _ q => .of (q.2.1 _ _ (keepb _ _ hl nlp))) (fun D j x H2 H3 hi q y => ?_) (fun D H2 q => ?_)
      · obtain ⟨nD, s2, as, la, hD, wa⟩ := q
        obtain ⟨rfl, hx⟩ := y
        obtain ⟨xw, hxw, t, mt, rfl, ht, hmt⟩ := paired_get pr hx
        have ntp : t ≠ p := fun e => by subst e; cases ht.symm.trans hp
        have nmp : mt ≠ p := fun e => by subst e; cases hmt.symm.trans hp
        have ht2 := s2 _ _ (keepb _ _ ht ntp)
        have hm2 := s2 _ _ (keepb _ _ hmt nmp)
        have hp2 := s2 _ _ hpb
        walk_at "rd"
        refine r_gtup (.of ht2) rfl ?_
        walk_at "rd"
        refine ⟨rfl, ?_⟩
        walk_at "rd"
        refine iteT ?_
        walk_at "rd"
        intro x1 d1 nx1 nd1 nn1
        have ow := oks xw (List.mem_of_getElem? hxw)
        refine ⟨x1, d1, mt, xw.house, xw.late, xw.lost, xw.side, rfl, upd_same, ?_, ow.1, ow.2.1, ow.2.2.1, ow.2.2.2, fun H4 wr kp => ⟨rfl, ?_⟩⟩
        · rw [upd_ne (ne_of_none hm2 nx1), upd_ne (ne_of_none hm2 nd1)]
          exact hm2
        have s4 := made_same nx1 nd1 kp
        have w1 := wr [p, D] (fun b hb => by
          simp at hb
          rcases hb with rfl | rfl
          · exact made_live (live hp2) nx1
          · exact made_live (live hD) nx1)
        refine ⟨_, s4 _ _ hD, ?_, nD, same_re nD (s2.trans s4), as ++ [x1], by rw [List.length_append, List.length_singleton, la], ?_, fun a ha => ?_⟩
        · rw [List.length_map, la]
          exact Nat.lt_of_lt_of_le hi (Nat.le_trans (show vs.length ≤ 5 by omega) (by decide))
        · rw [upd_same, List.map_append]
          rfl
        · rcases List.mem_append.mp ha with ha | ha
          · exact ((wa a ha).same (off_same s4)).same (off_put (by simp) fun _ h => h)
          · rw [List.mem_singleton.mp ha]
            exact w1.same (off_put (by simp) fun _ h => h)
      · obtain ⟨nD, s2, as, la, hD, wa⟩ := q
        have hp2 := s2 _ _ hpb
        have npD : D ≠ p := Ne.symm (ne_of_none hpb nD)
        walk_at "rd"
        refine r_setAt (by walk_at "hp") T.k_Post T.n_Post_lines (by walk_at "lt") ?_
        walk_at "rd"
        refine r_setAt (by walk_at "hp") T.k_Post T.n_Post_done (by walk_at "lt") ?_
        walk_at "rd"
        refine r_setAt (by walk_at "hp") T.k_Post T.n_Post_made (by walk_at "lt") ?_
        walk_at "rd"
        refine ⟨by decide, fun c nc => ?_⟩
        have npc : c ≠ p := Ne.symm (ne_of_none upd_same nc)
        have hpc := Same.get (same_upd (o := .lst []) nc) (b := p) upd_same
        walk_at "rd"
        refine r_setAt (by walk_at "hp") T.k_Post T.n_Post_called (by walk_at "lt") ?_
        walk_at "rd"
        have fc : H2 c = none := free_back (free_back (free_back nc))
        generalize eA : upd (upd (upd (upd (upd H2 p _) p _) p _) c _) p _ = A
        have hpA : A p = some (.ins (He.ga K "Post") dx [("own", .int n), ("lines", .ref D), ("done", .int 0), ("made", .int 0), ("called", .ref c)]) := by rw [← eA]; exact upd_same
        have o2A : Same (off [p] H2) (off [p] A) := by
          rw [← eA]
          exact ((((off_put (by simp) fun _ h => h).trans (off_put (by simp) fun _ h => h)).trans (off_put (by simp) fun _ h => h)).trans (off_same (same_upd nc))).trans (off_put (by simp) fun _ h => h)
        have hcA : off [p] A c = some (.lst []) := by
          rw [← eA]
          exact off_of (by rw [upd_ne npc]; exact upd_same) (by simp [npc])
        have hDA : off [p] A D = some (.lst (as.map V.ref)) := o2A _ _ (off_of hD (by simp [npD]))
        have wA : ∀ a ∈ as, WireAt K (off [p] A) a := fun a ha => ((wa a ha).same (off_mono (by simp))).same o2A
        have kA : ∀ b o, H b = some o → b ≠ p → off [p] A b = some o := fun b o e nb => o2A _ _ (off_of (s2 _ _ (keepb _ _ e nb)) (by simp [nb]))
        intro x2 d2 nx2 nd2 nn2
        refine ⟨x2, d2, rfl, upd_same, fun H5 md nmd hx5 hmd5 kp5 => ⟨rfl, ?_⟩⟩
        have s5 := made_same nx2 nd2 kp5
        have fmd : A md = none := free_back (free_back nmd)
        have hp5 := s5 _ _ hpA
        have nx2p : x2 ≠ p := Ne.symm (ne_of_none hpA nx2)
        have nmdp : md ≠ p := Ne.symm (ne_of_none hpA fmd)
        have nx2md : x2 ≠ md := fun e => by subst e; cases hx5.symm.trans hmd5
        walk_at "rd"
        refine r_setAt (by walk_at "hp") T.k_Post T.n_Post_chart (by walk_at "lt") ?_
        walk_at "rd"
        refine r_setAt (by walk_at "hp") T.k_Post T.n_Post_news_number (by walk_at "lt") ?_
        walk_at "rd"
        generalize eB : upd (upd H5 p _) p _ = B
        have hpB : B p = some (.ins (He.ga K "Post") dx [("own", .int n), ("lines", .ref D), ("done", .int 0), ("made", .int 0), ("called", .ref c), ("chart", .ref x2), ("news_number", .int 0)]) := by rw [← eB]; exact upd_same
        have oAB : Same (off [md, p] A) (off [md, p] B) := by
          rw [← eB]
          exact ((off_same s5).trans (off_put (by simp) fun _ h => h)).trans (off_put (by simp) fun _ h => h)
        have hxB : B x2 = some (.ins (He.ga K "Map") d2 [("kept_news", .ref md)]) := by rw [← eB, upd_ne nx2p, upd_ne nx2p]; exact hx5
        have hmB : B md = some (.dK []) := by rw [← eB, upd_ne nmdp, upd_ne nmdp]; exact hmd5
        walk_at "rd"
        refine r_fldAt (by walk_at "hp") T.k_Post T.n_Post_chart (by first | assumption | exact rfl) ?_
        walk_at "rd"
        refine r_methAt hxB (by kernel_rfl) ?_
        walk_at "rd"
        refine ⟨by decide, fun e1 ne1 => ?_⟩
        walk_at "rd"
        refine ⟨by decide, fun e2 ne2 => ?_⟩
        walk_at "rd"
        refine ⟨n, 0, e1, e2, [], rfl, hn.1, hn.2, by decide, by decide, .of (by walk_at "hp"), .of upd_same, by decide, List.nodup_nil, (fun z hz => nomatch hz), fun H7 t ys s7 nt pm so nw => ?_⟩
        have ey : ys = [] := List.Perm.eq_nil pm
        subst ey
        have sB7 : Same B H7 := ((same_upd ne1).trans (same_upd ne2)).trans s7
        have hp7 := sB7 _ _ hpB
        have hx7 := sB7 _ _ hxB
        have hm7 := sB7 _ _ hmB
        obtain ⟨tw, tn, t1, t2, t3⟩ := nw
        walk_at "rd"
        refine ⟨x2, d2, md, t, n, 0, _, [], rfl, hx7, hm7, t1, .inl rfl, ?_⟩
        walk_at "rd"
        have offt : ∀ {a : Addr} {zs : List V}, H7 a = some (.tup zs) → off [md, p] H7 a = some (.tup zs) := fun {a zs} e => off_of e (by
          have m1 : a ≠ md := fun z => by subst z; cases e.symm.trans hm7
          have m2 : a ≠ p := fun z => by subst z; cases e.symm.trans hp7
          simp [m1, m2])
        have nw7 : NewsAt (off [md, p] H7) t n 0 [] := ⟨tw, tn, offt t1, offt t2, offt t3⟩
        have hx7' : off [md, p] H7 x2 = some (.ins (He.ga K "Map") d2 [("kept_news", .ref md)]) := off_of hx7 (by simp [nx2p, nx2md])
        have oA7 : Same (off [p] A) (off [md, p] H7) := ((off_fresh fmd).trans oAB).trans (off_same sB7)
        generalize eC : upd H7 md _ = C
        have hpC : C p = some (.ins (He.ga K "Post") dx [("own", .int n), ("lines", .ref D), ("done", .int 0), ("made", .int 0), ("called", .ref c), ("chart", .ref x2), ("news_number", .int 0)]) := by rw [← eC, upd_ne (Ne.symm nmdp)]; exact hp7
        have hmC : C md = some (.dK [(Sum.inl n, .ref t)]) := by rw [← eC]; exact upd_same
        have o7C : Same (off [md, p] H7) (off [md, p] C) := by
          rw [← eC]
          exact off_put (by simp) fun _ h => h
        refine ⟨by decide, fun o no => ?_⟩
        have npo : p ≠ o := ne_of_none hpC no
        have nmo : md ≠ o := ne_of_none hmC no
        walk_at "rd"
        refine r_setAt (by walk_at "hp") T.k_Post T.n_Post_out (by walk_at "lt") ?_
        walk_at "rd"
        refine ⟨by decide, fun r nr => ?_⟩
        have npr : p ≠ r := ne_of_none upd_same nr
        have nmr : md ≠ r := ne_of_none (by rw [upd_ne nmdp, upd_ne nmo]; exact hmC) nr
        have nor : o ≠ r := ne_of_none (by rw [upd_ne (Ne.symm npo)]; exact upd_same) nr
        walk_at "rd"
        have hpr := Same.get (same_upd (o := .lst []) nr) (b := p) upd_same
        walk_at "rd"
        refine r_setAt (by walk_at "hp") T.k_Post T.n_Post_rows (by walk_at "lt") ?_
        walk_at "rd"
        refine ⟨by decide, fun tl nt' => ?_⟩
        have npt : p ≠ tl := ne_of_none upd_same nt'
        have nmt : md ≠ tl := ne_of_none (by rw [upd_ne nmdp, upd_ne nmr, upd_ne nmdp, upd_ne nmo]; exact hmC) nt'
        have not : o ≠ tl := ne_of_none (by rw [upd_ne (Ne.symm npo), upd_ne nor, upd_ne (Ne.symm npo)]; exact upd_same) nt'
        have nrt : r ≠ tl := ne_of_none (by rw [upd_ne (Ne.symm npr)]; exact upd_same) nt'
        have hpt := Same.get (same_upd (o := .lst []) nt') (b := p) upd_same
        walk_at "rd"
        refine r_setAt (by walk_at "hp") T.k_Post T.n_Post_told (by walk_at "lt") ?_
        walk_at "rd"
        refine r_setAt (by walk_at "hp") T.k_Post T.n_Post_grown (by walk_at "lt") ?_
        walk_at "rd"
        have m4 : ∀ b ∈ [p, md, o, r], b ∈ [r, o, md, p] := fun b hb => by
          simp only [List.mem_cons, List.not_mem_nil, or_false] at hb ⊢
          rcases hb with z | z | z | z <;> simp [z]
        generalize eF : upd (upd (upd (upd (upd (upd (upd C o _) p _) r _) p _) tl _) p _) p _ = F
        have SF : Same (off [md, p] C) (off [p, md, o, r] F) := by
          rw [← eF]
          exact ((((((off_alloc (M' := [o, md, p]) no (by simp)).trans (off_put (by simp) fun _ h => h)).trans (off_alloc (M' := [r, o, md, p]) nr (by simp))).trans (off_put (by simp) fun _ h => h)).trans (off_same (same_upd nt'))).trans (off_put (by simp) fun _ h => h)).trans (off_put (by simp) m4)
        have npo' := Ne.symm npo
        have npr' := Ne.symm npr
        have npt' := Ne.symm npt
        refine k F ⟨p, md, o, r⟩ rfl (fun b u e nb => (oA7.trans (o7C.trans SF)) _ _ (kA b u e nb)) ⟨⟨dx, D, c, x2, d2, t, tl, as, [], []⟩, ?_⟩
        have sF := o7C.trans SF
        have sA := oA7.trans sF
        refine ⟨by rw [← eF]; exact upd_same, ?_, ?_, ?_, nor, sA _ _ hDA, fun a ha => (wA a ha).same sA, sA _ _ hcA, sF _ _ hx7', nw7.same sF, off_of ?_ ?_, .nil, .nil, hn, Int.le_refl _, Int.le_refl _, ⟨List.nodup_nil, rfl, Nat.zero_le _, fun z hz => nomatch hz⟩, ⟨Nat.zero_le _, Nat.zero_le _⟩, by show as.length ≤ 5; omega⟩
        · show F md = _
          rw [← eF, upd_ne nmdp, upd_ne nmdp, upd_ne nmt, upd_ne nmdp, upd_ne nmr, upd_ne nmdp, upd_ne nmo]
          exact hmC
        · show F o = _
          rw [← eF, upd_ne npo', upd_ne npo', upd_ne not, upd_ne npo', upd_ne nor, upd_ne npo']
          exact upd_same
        · show F r = _
          rw [← eF, upd_ne npr', upd_ne npr', upd_ne nrt, upd_ne npr']
          exact upd_same
        · rw [← eF, upd_ne npt', upd_ne npt']
          exact upd_same
        · show tl ∉ [p, md, o, r]
          simp [npt', Ne.symm nmt, Ne.symm not, Ne.symm nrt]

end
end K54

namespace K54
open PySem PySem.Spec PyProof.Rows L2
section
variable {P : Program} {w : World} {K : PySem.W.Frag} {mg : Str → Option Value} {base : Heap}
theorem sc_law_cell_at : FnScope ["script", "k"] ["script", "k"] (defScope s_law_cell_at) := ⟨rfl, rfl, rfl, by decide +kernel, rfl, by decide +kernel, by decide +kernel⟩
theorem okS_law_cell_at (T : Txt K mg) : Ok P w K mg base CX0 1 (He.ga K "_law_cell_at") ["script", "k"] (spCellAt K) := by
  refine ok_of T.f_law_cell_at sc_law_cell_at (fun _ _ _ _ _ _ us hl => match us, hl with | [_, _], _ => rfl) (fun vs H Q E h => ?_) (fun cdv A outer s H vs Q E hr h => ?_)
  · obtain ⟨a, ns, k, rfl, _⟩ := h
    rfl
  · obtain ⟨a, ns, k, rfl, hs, q⟩ := h
    refine ⟨_, PSs.nox (pss_cons (ps_if (pt_cmpR (op_lt) (pv 1) (pe_callB (call_lenR) (by rfl) T.b_len (by decide +kernel) (pa_cons (pv 0) pa_nil)) (nomark _)) (pss_one (ps_ret (pe_ix ix_list (pv 0) (pv 1) (fun _ _ => rfl)))) pss_nil)
 (pss_one (ps_ret pe_int))), ?_⟩
    walk_at "rd"
    refine r_lenL hs ?_
    rw [List.length_map]
    walk_at "rd"
    refine if_dec (fun h0 => ?_) (fun h0 => ?_)
    · have hk : k < ns.length := by omega
      walk_at "rd"
      refine r_ixL hs (atI_nat (j := k) (v := .int ns[k]) (by rw [List.getElem?_map, List.getElem?_eq_getElem hk]; rfl)) ?_
      exact q _
    · walk_at "rd"
      exact q _
theorem sc_law_whole : FnScope ["found"] ["found"] (defScope s_law_whole) := ⟨rfl, rfl, rfl, by decide +kernel, rfl, by decide +kernel, by decide +kernel⟩
theorem okS_law_whole (T : Txt K mg) : Ok P w K mg base CX0 1 (He.ga K "_law_whole") ["found"] spWhole := by
  refine ok_of T.f_law_whole sc_law_whole (fun _ _ _ _ _ _ us hl => match us, hl with | [_], _ => rfl) (fun vs H Q E h => ?_) (fun cdv A outer s H vs Q E hr h => ?_)
  · obtain ⟨i, rfl, _⟩ := h
    rfl
  · obtain ⟨i, rfl, q⟩ := h
    refine ⟨_, PSs.nox (pss_one (ps_ret (pe_and (pe_callB (call_isi) (by rfl) T.b_isinstance (by decide +kernel) (pa_cons (pv 0) (pa_cons (pe_bltn (v := .ty "int") rfl T.b_int (by decide +kernel) rfl) pa_nil))) (pe_one (pe_not (pe_callB (call_isi) (by rfl) T.b_isinstance (by decide +kernel) (pa_cons (pv 0) (pa_cons (pe_bltn (v := .ty "bool") rfl T.b_bool (by decide +kernel) rfl) pa_nil)))))))), ?_⟩
    walk_at "rd"
    refine r_isi (a := "int") (r := true) (.base (.int i)) (by decide +kernel) ?_
    walk_at "rd"
    refine iteT ?_
    walk_at "rd"
    refine r_isi (a := "int") (r := false) (.base (.int i)) (by decide +kernel) ?_
    walk_at "rd"
    exact q
theorem sc_law_mixed : FnScope ["cell", "k", "stir"] ["cell", "k"] (defScope s_law_mixed) := ⟨rfl, rfl, rfl, by decide +kernel, rfl, by decide +kernel, by decide +kernel⟩
theorem okS_law_mixed (T : Txt K mg) : Ok P w K mg base CX0 1 (He.ga K "_law_mixed") ["cell", "k"] spMixed := by
  refine ok_of T.f_law_mixed sc_law_mixed (fun _ _ _ _ _ _ us hl => match us, hl with | [_, _], _ => rfl) (fun vs H Q E h => ?_) (fun cdv A outer s H vs Q E hr h => ?_)
  · obtain ⟨c, k, rfl, _⟩ := h
    rfl
  · obtain ⟨c, k, rfl, k0, q⟩ := h
    refine ⟨_, PSs.nox (pss_cons (ps_set (i := 2) sc_law_mixed.nd rfl (Or.inl rfl) (pe_op op_mod (pe_op op_add (pe_op op_mod (pv 0) pe_int) (pe_op op_mul pe_int (pe_op op_add (pv 1) pe_int))) pe_int))
 (pss_cons (ps_set (i := 2) sc_law_mixed.nd rfl (Or.inl rfl) (pe_op op_mod (pe_op op_mul (pv 2) (pv 2)) pe_int))
 (pss_cons (ps_set (i := 2) sc_law_mixed.nd rfl (Or.inl rfl) (pe_op op_mod (pe_op op_mul (pe_op op_add (pv 2) (pe_op op_mul pe_int (pv 1))) pe_int) pe_int))
 (pss_one (ps_ret (pe_op op_fdiv (pe_op op_mod (pe_op op_mul (pv 2) (pv 2)) pe_int) pe_int)))))), ?_⟩
    walk_at "rd"
    generalize e1 : (c % 2305843009213693951 + 1000003 * (k + 1)) % 2305843009213693951 = s1
    have b1 : 0 ≤ s1 ∧ s1 < 2305843009213693951 := by omega
    walk_at "rd"
    generalize e2 : s1 * s1 % 2305843009213693921 = s2
    have b2 : 0 ≤ s2 ∧ s2 < 2305843009213693921 := by omega
    walk_at "rd"
    generalize e3 : (s2 + 40009 * k) * 576460752303423433 % 2305843009213693951 = s3
    have b3 : 0 ≤ s3 ∧ s3 < 2305843009213693951 := by omega
    walk_at "rd"
    generalize e4 : s3 * s3 % 2305843009213693921 = s4
    have b4 : 0 ≤ s4 := by omega
    exact q _ (by omega)
theorem sc_law_row : FnScope ["cell", "many", "size", "row", "rest", "k"] ["cell", "many", "size"] (defScope s_law_row) := ⟨rfl, rfl, rfl, by decide +kernel, rfl, by decide +kernel, by decide +kernel⟩
theorem okS_law_row (T : Txt K mg) (F_law_mixed : Ok P w K mg base CX0 1 (He.ga K "_law_mixed") ["cell", "k"] spMixed) : Ok P w K mg base CX0 2 (He.ga K "_law_row") ["cell", "many", "size"] (spRow K) := by
  refine ok_of T.f_law_row sc_law_row (fun _ _ _ _ _ _ us hl => match us, hl with | [_, _, _], _ => rfl) (fun vs H Q E h => ?_) (fun cdv A outer s H vs Q E hr h => ?_)
  · obtain ⟨c, many, size, rfl, _⟩ := h
    rfl
  · obtain ⟨c, many, size, rfl, m0, m1, z0, z1, q⟩ := h
    refine ⟨_, PSs.nox (pss_cons (ps_set (i := 3) sc_law_row.nd rfl (Or.inl rfl) (pe_lst pa_nil))
 (pss_cons (ps_set (i := 4) sc_law_row.nd rfl (Or.inl rfl) (pv 0))
 (pss_cons (ps_for PassesOwn.never rfl (pi_range1 rfl T.b_range (pa_cons (pv 1) pa_nil)) (pg_name (i := 5) sc_law_row.nd rfl (Or.inl rfl)) (pss_one (ps_if (PW.pt (pw_or (pt_cmpR (op_lt) (pv 0) (pe_op op_pow pe_int pe_int) (nomark _)) (pw_or1 (pt_cmpR (op_eq) (pv 4) pe_int (nomark _))))) (pss_one (ps_expr (pe_bm PySem.F.plainAttrs_list PySem.F.slot_list_append PySem.F.type_list_append mt_append (pv 3) (pa_cons (pe_op op_mod (pe_callO F_law_mixed (hr.mono (by decide)) rfl T.g_law_mixed pass0 (pa_cons (pv 0) (pa_cons (pv 5) pa_nil))) (pv 2)) pa_nil)))) (pss_cons (ps_expr (pe_bm PySem.F.plainAttrs_list PySem.F.slot_list_append PySem.F.type_list_append mt_append (pv 3) (pa_cons (pe_op op_mod (pv 4) (pv 2)) pa_nil)))
 (pss_one (ps_set (i := 4) sc_law_row.nd rfl (Or.inl rfl) (pe_op op_fdiv (pv 4) (pv 2))))))))
 (pss_one (ps_ret (pv 3)))))), ?_⟩
    walk_at "rd"
    refine ⟨by decide, fun D nD => ?_⟩
    walk_at "rd"
    refine r_rngI (n := many.toNat) (by omega) (by omega) ?_
    walk_at "rd"
    refine f_rng (fun j σ H1 => (∃ (a : Option V) (rest : Int), σ = [some (.int c), some (.int many), some (.int size), some (.ref D), some (.int rest), a]) ∧ Same H H1 ∧ ∃ zs : List Int, H1 D = some (.lst (zs.map V.int)) ∧ zs.length = j ∧ ∀ z ∈ zs, 0 ≤ z ∧ z < size)
      ⟨⟨_, _, rfl⟩, same_upd nD, [], upd_same, rfl, fun z hz => nomatch hz⟩ (fun j σ H1 hj p => ?_) (fun σ H1 p => ?_)
    · obtain ⟨⟨a, rest, rfl⟩, s1, zs, hD, lz, bz⟩ := p
      have lt : (zs.map V.int).length < sizeLine := by rw [List.length_map, lz]; exact Nat.lt_of_lt_of_le hj (Nat.le_trans (show many.toNat ≤ 100 by omega) (by decide))
      have fin : ∀ z, 0 ≤ z ∧ z < size → Same H (upd H1 D (.lst (zs.map V.int ++ [V.int z]))) ∧ ∃ ys : List Int, upd H1 D (.lst (zs.map V.int ++ [V.int z])) D = some (.lst (ys.map V.int)) ∧ ys.length = j + 1 ∧ ∀ z ∈ ys, 0 ≤ z ∧ z < size := fun z bz' =>
        ⟨same_re nD s1, zs ++ [z], by rw [upd_same, List.map_append]; rfl, by rw [List.length_append, List.length_singleton, lz], fun y hy => by
          rcases List.mem_append.mp hy with h | h
          · exact bz y h
          · rw [List.mem_singleton.mp h]; exact bz'⟩
      walk_at "rd"
      refine if_dec (fun h0 => ?_) (fun h0 => ?_)
      · walk_at "rd"
        refine iteT ?_
        walk_at "rd"
        refine r_bmL (.of hD) ?_
        walk_at "rd"
        refine ⟨c, j, rfl, by omega, fun z zz => ?_⟩
        walk_at "rd"
        refine r_appendR hD lt ?_
        walk_at "rd"
        have := Int.emod_nonneg z (show size ≠ 0 by omega)
        have := Int.emod_lt_of_pos z z0
        exact ⟨⟨_, _, rfl⟩, fin _ ⟨by omega, by omega⟩⟩
      · walk_at "rd"
        refine if_dec (fun h0 => ?_) (fun h0 => ?_)
        · walk_at "rd"
          refine r_bmL (.of hD) ?_
          walk_at "rd"
          refine ⟨c, j, rfl, by omega, fun z zz => ?_⟩
          walk_at "rd"
          refine r_appendR hD lt ?_
          walk_at "rd"
          have := Int.emod_nonneg z (show size ≠ 0 by omega)
          have := Int.emod_lt_of_pos z z0
          exact ⟨⟨_, _, rfl⟩, fin _ ⟨by omega, by omega⟩⟩
        · walk_at "rd"
          refine r_bmL (.of hD) ?_
          walk_at "rd"
          refine r_appendR hD lt ?_
          walk_at "rd"
          have := Int.emod_nonneg rest (show size ≠ 0 by omega)
          have := Int.emod_lt_of_pos rest z0
          exact ⟨⟨_, _, rfl⟩, fin _ ⟨by omega, by omega⟩⟩
    · obtain ⟨⟨a, rest, rfl⟩, s1, zs, hD, lz, bz⟩ := p
      walk_at "rd"
      exact q _ D zs s1 nD hD (by omega) bz

end
end K54

namespace K54
open PySem PySem.Spec PyProof.Rows L2
section
variable {P : Program} {w : World} {K : PySem.W.Frag} {mg : Str → Option Value} {base : Heap}
theorem tyx_sqL {H : Hp} {a : Addr} {xs : List V} (h : SqL K H a xs) : TyX K H (.ref a) (.type "list") := by
  rcases h with (h | ⟨o, h⟩) | ⟨o, its, n, h, c, _⟩
  · exact .base (.lst h)
  · exact .base (.frz h)
  · exact .kList h c
theorem tyx_sqT {H : Hp} {a : Addr} {xs : List V} (h : SqT K H a xs) : TyX K H (.ref a) (.type "tuple") := by
  rcases h with (h | ⟨o, h⟩) | ⟨o, its, n, h, c, _⟩
  · exact .base (.tup h)
  · exact .fTuple h
  · exact .kTuple h c
theorem r_ixsL {H : Hp} {Q : VK} {a : Addr} {xs : List V} {j : Nat} {v : V} (h : SqL K H a xs) (e : xs[j]? = some v) (q : Q v H) : rIx K (.ref a) (.int j) H Q := .inl (r_ixL h (atI_nat e) q)
theorem r_ixsT {H : Hp} {Q : VK} {a : Addr} {xs : List V} {j : Nat} {v : V} (h : SqT K H a xs) (e : xs[j]? = some v) (q : Q v H) : rIx K (.ref a) (.int j) H Q := .inr (.inl (r_ixT h (atI_nat e) q))
theorem dpAll_ix {H : Hp} {vs : List V} {ds : List PyData} (h : DpAll K H vs ds) {j : Nat} (hj : j < ds.length) : ∃ v, vs[j]? = some v ∧ Dp K H v ds[j] := by
  have l := dpAll_len h
  have hj' : j < vs.length := by omega
  obtain ⟨d, e, dp⟩ := dpAll_at h (List.getElem?_eq_getElem hj')
  rw [List.getElem?_eq_getElem hj] at e
  cases e
  exact ⟨_, List.getElem?_eq_getElem hj', dp⟩
theorem sc_law_alike : FnScope ["found", "due", "k"] ["found", "due"] (defScope s_law_alike) := ⟨rfl, rfl, rfl, by decide +kernel, rfl, by decide +kernel, by decide +kernel⟩
theorem okS_law_alike0 (T : Txt K mg) (F_law_whole : Ok P w K mg base CX0 1 (He.ga K "_law_whole") ["found"] spWhole) : Ok P w K mg base CX0 2 (He.ga K "_law_alike") ["found", "due"] (spAlike K 0) := by
  refine ok_of T.f_law_alike sc_law_alike (fun _ _ _ _ _ _ us hl => match us, hl with | [_, _], _ => rfl) (fun vs H Q E h => ?_) (fun cdv A outer s H vs Q E hr h => ?_)
  · obtain ⟨v, u, d, rfl, _⟩ := h
    rfl
  · obtain ⟨v, u, d, rfl, dv, du, pl, q⟩ := h
    refine ⟨_, PSs.nox (pss_cons (ps_if (pt_cmpR (op_isNon) (pv 1) pe_non (nomark _)) (pss_one (ps_ret (pe_cmpR (op_isNon) (pv 0) pe_non (nomark _)))) pss_nil)
 (pss_cons (ps_if (pt_val (pe_callB (call_isi) (by rfl) T.b_isinstance (by decide +kernel) (pa_cons (pv 1) (pa_cons (pe_bltn (v := .ty "str") rfl T.b_str (by decide +kernel) rfl) pa_nil)))) (pss_one (ps_ret (pe_and (pe_callB (call_isi) (by rfl) T.b_isinstance (by decide +kernel) (pa_cons (pv 0) (pa_cons (pe_bltn (v := .ty "str") rfl T.b_str (by decide +kernel) rfl) pa_nil))) (pe_one (pe_cmpR (op_eq) (pv 0) (pv 1) (nomark _)))))) pss_nil)
 (pss_cons (ps_if (pt_val (pe_callB (call_isi) (by rfl) T.b_isinstance (by decide +kernel) (pa_cons (pv 1) (pa_cons (pe_bltn (v := .ty "int") rfl T.b_int (by decide +kernel) rfl) pa_nil)))) (pss_one (ps_ret (pe_and (pe_callO F_law_whole (hr.mono (by decide)) rfl T.g_law_whole pass0 (pa_cons (pv 0) pa_nil)) (pe_one (pe_cmpR (op_eq) (pv 0) (pv 1) (nomark _)))))) pss_nil)
 (pss_cons (ps_if (pt_val (pe_callB (call_isi) (by rfl) T.b_isinstance (by decide +kernel) (pa_cons (pv 1) (pa_cons (pe_bltn (v := .ty "list") rfl T.b_list (by decide +kernel) rfl) pa_nil)))) (pss_one (ps_if (PW.pt (pw_or (pt_not (pt_val (pe_callB (call_isi) (by rfl) T.b_isinstance (by decide +kernel) (pa_cons (pv 0) (pa_cons (pe_bltn (v := .ty "list") rfl T.b_list (by decide +kernel) rfl) pa_nil))))) (pw_or1 (pt_cmpR (op_ne) (pe_callB (call_lenR) (by rfl) T.b_len (by decide +kernel) (pa_cons (pv 0) pa_nil)) (pe_callB (call_lenR) (by rfl) T.b_len (by decide +kernel) (pa_cons (pv 1) pa_nil)) (nomark _))))) (pss_one (ps_ret pe_bl)) pss_nil)) (pss_one (ps_if (PW.pt (pw_or (pt_not (pt_val (pe_callB (call_isi) (by rfl) T.b_isinstance (by decide +kernel) (pa_cons (pv 0) (pa_cons (pe_bltn (v := .ty "tuple") rfl T.b_tuple (by decide +kernel) rfl) pa_nil))))) (pw_or1 (pt_cmpR (op_ne) (pe_callB (call_lenR) (by rfl) T.b_len (by decide +kernel) (pa_cons (pv 0) pa_nil)) (pe_callB (call_lenR) (by rfl) T.b_len (by decide +kernel) (pa_cons (pv 1) pa_nil)) (nomark _))))) (pss_one (ps_ret pe_bl)) pss_nil)))
 (pss_cons ps_never
 (pss_one (ps_ret pe_bl))))))), ?_⟩
    cases pl with
    | int n i =>
      cases dv
      cases du
      walk_at "rd"
      refine r_isNon ?_
      walk_at "rd"
      refine if_bF rfl ?_
      walk_at "rd"
      refine r_isi (a := "int") (r := false) (.base (.int i)) (by decide +kernel) ?_
      walk_at "rd"
      refine if_bF rfl ?_
      walk_at "rd"
      refine r_isi (a := "int") (r := true) (.base (.int i)) (by decide +kernel) ?_
      walk_at "rd"
      refine iteT ?_
      walk_at "rd"
      refine ⟨i, rfl, ?_⟩
      walk_at "rd"
      refine iteT ?_
      walk_at "rd"
      rw [decide_eq_true rfl]
      exact q
    | str n x =>
      cases dv
      cases du
      walk_at "rd"
      refine r_isNon ?_
      walk_at "rd"
      refine if_bF rfl ?_
      walk_at "rd"
      refine r_isi (a := "str") (r := true) (.base (.str x)) (by decide +kernel) ?_
      walk_at "rd"
      refine iteT ?_
      walk_at "rd"
      refine r_isi (a := "str") (r := true) (.base (.str x)) (by decide +kernel) ?_
      walk_at "rd"
      refine iteT ?_
      walk_at "rd"
      rw [decide_eq_true rfl]
      exact q
theorem okS_law_alikeS (T : Txt K mg) (F_law_whole : Ok P w K mg base CX0 1 (He.ga K "_law_whole") ["found"] spWhole) (n : Nat) (F_law_alike : Ok P w K mg base CX0 (2 + n) (He.ga K "_law_alike") ["found", "due"] (spAlike K n)) :
    Ok P w K mg base CX0 (2 + n + 1) (He.ga K "_law_alike") ["found", "due"] (spAlike K (n + 1)) := by
  refine ok_of T.f_law_alike sc_law_alike (fun _ _ _ _ _ _ us hl => match us, hl with | [_, _], _ => rfl) (fun vs H Q E h => ?_) (fun cdv A outer s H vs Q E hr h => ?_)
  · obtain ⟨v, u, d, rfl, _⟩ := h
    rfl
  · obtain ⟨v, u, d, rfl, dv, du, pl, q⟩ := h
    refine ⟨_, PSs.nox (pss_cons (ps_if (pt_cmpR (op_isNon) (pv 1) pe_non (nomark _)) (pss_one (ps_ret (pe_cmpR (op_isNon) (pv 0) pe_non (nomark _)))) pss_nil)
 (pss_cons (ps_if (pt_val (pe_callB (call_isi) (by rfl) T.b_isinstance (by decide +kernel) (pa_cons (pv 1) (pa_cons (pe_bltn (v := .ty "str") rfl T.b_str (by decide +kernel) rfl) pa_nil)))) (pss_one (ps_ret (pe_and (pe_callB (call_isi) (by rfl) T.b_isinstance (by decide +kernel) (pa_cons (pv 0) (pa_cons (pe_bltn (v := .ty "str") rfl T.b_str (by decide +kernel) rfl) pa_nil))) (pe_one (pe_cmpR (op_eq) (pv 0) (pv 1) (nomark _)))))) pss_nil)
 (pss_cons (ps_if (pt_val (pe_callB (call_isi) (by rfl) T.b_isinstance (by decide +kernel) (pa_cons (pv 1) (pa_cons (pe_bltn (v := .ty "int") rfl T.b_int (by decide +kernel) rfl) pa_nil)))) (pss_one (ps_ret (pe_and (pe_callO F_law_whole (hr.mono (by omega)) rfl T.g_law_whole pass0 (pa_cons (pv 0) pa_nil)) (pe_one (pe_cmpR (op_eq) (pv 0) (pv 1) (nomark _)))))) pss_nil)
 (pss_cons (ps_if (pt_val (pe_callB (call_isi) (by rfl) T.b_isinstance (by decide +kernel) (pa_cons (pv 1) (pa_cons (pe_bltn (v := .ty "list") rfl T.b_list (by decide +kernel) rfl) pa_nil)))) (pss_one (ps_if (PW.pt (pw_or (pt_not (pt_val (pe_callB (call_isi) (by rfl) T.b_isinstance (by decide +kernel) (pa_cons (pv 0) (pa_cons (pe_bltn (v := .ty "list") rfl T.b_list (by decide +kernel) rfl) pa_nil))))) (pw_or1 (pt_cmpR (op_ne) (pe_callB (call_lenR) (by rfl) T.b_len (by decide +kernel) (pa_cons (pv 0) pa_nil)) (pe_callB (call_lenR) (by rfl) T.b_len (by decide +kernel) (pa_cons (pv 1) pa_nil)) (nomark _))))) (pss_one (ps_ret pe_bl)) pss_nil)) (pss_one (ps_if (PW.pt (pw_or (pt_not (pt_val (pe_callB (call_isi) (by rfl) T.b_isinstance (by decide +kernel) (pa_cons (pv 0) (pa_cons (pe_bltn (v := .ty "tuple") rfl T.b_tuple (by decide +kernel) rfl) pa_nil))))) (pw_or1 (pt_cmpR (op_ne) (pe_callB (call_lenR) (by rfl) T.b_len (by decide +kernel) (pa_cons (pv 0) pa_nil)) (pe_callB (call_lenR) (by rfl) T.b_len (by decide +kernel) (pa_cons (pv 1) pa_nil)) (nomark _))))) (pss_one (ps_ret pe_bl)) pss_nil)))
 (pss_cons (ps_for PassesOwn.never rfl (pi_range1 rfl T.b_range (pa_cons (pe_callB (call_lenR) (by rfl) T.b_len (by decide +kernel) (pa_cons (pv 1) pa_nil)) pa_nil)) (pg_name (i := 2) sc_law_alike.nd rfl (Or.inl rfl)) (pss_one (ps_if (pt_not (pt_val (pe_callO F_law_alike (hr.mono (by omega)) rfl T.g_law_alike pass0 (pa_cons (pe_ix ix_seq (pv 0) (pv 2) (fun _ _ => rfl)) (pa_cons (pe_ix ix_seq (pv 1) (pv 2) (fun _ _ => rfl)) pa_nil))))) (pss_one (ps_ret pe_bl)) pss_nil)))
 (pss_one (ps_ret pe_bl))))))), ?_⟩
    cases pl with
    | int n i =>
      cases dv
      cases du
      walk_at "rd"
      refine r_isNon ?_
      walk_at "rd"
      refine if_bF rfl ?_
      walk_at "rd"
      refine r_isi (a := "int") (r := false) (.base (.int i)) (by decide +kernel) ?_
      walk_at "rd"
      refine if_bF rfl ?_
      walk_at "rd"
      refine r_isi (a := "int") (r := true) (.base (.int i)) (by decide +kernel) ?_
      walk_at "rd"
      refine iteT ?_
      walk_at "rd"
      refine ⟨i, rfl, ?_⟩
      walk_at "rd"
      refine iteT ?_
      walk_at "rd"
      rw [decide_eq_true rfl]
      exact q
    | str n x =>
      cases dv
      cases du
      walk_at "rd"
      refine r_isNon ?_
      walk_at "rd"
      refine if_bF rfl ?_
      walk_at "rd"
      refine r_isi (a := "str") (r := true) (.base (.str x)) (by decide +kernel) ?_
      walk_at "rd"
      refine iteT ?_
      walk_at "rd"
      refine r_isi (a := "str") (r := true) (.base (.str x)) (by decide +kernel) ?_
      walk_at "rd"
      refine iteT ?_
      walk_at "rd"
      rw [decide_eq_true rfl]
      exact q
    | lst n ds hs l =>
      cases dv with
      | @lst a xs _ sa da =>
      cases du with
      | @lst b ys _ sb db =>
      have la := dpAll_len da
      have lb := dpAll_len db
      walk_at "rd"
      refine r_isNon ?_
      walk_at "rd"
      refine if_bF rfl ?_
      walk_at "rd"
      refine r_isi (a := "list") (r := false) (tyx_sqL sb) (by decide +kernel) ?_
      walk_at "rd"
      refine if_bF rfl ?_
      walk_at "rd"
      refine r_isi (a := "list") (r := false) (tyx_sqL sb) (by decide +kernel) ?_
      walk_at "rd"
      refine if_bF rfl ?_
      walk_at "rd"
      refine r_isi (a := "list") (r := true) (tyx_sqL sb) (by decide +kernel) ?_
      walk_at "rd"
      refine iteT ?_
      walk_at "rd"
      refine r_isi (a := "list") (r := true) (tyx_sqL sa) (by decide +kernel) ?_
      walk_at "rd"
      refine if_bF rfl ?_
      walk_at "rd"
      refine r_lenL sa ?_
      walk_at "rd"
      refine r_lenL sb ?_
      walk_at "rd"
      refine if_ndecT (by omega) ?_
      walk_at "rd"
      refine r_lenL sb ?_
      walk_at "rd"
      refine r_rngI (n := ds.length) (by omega) (by omega) ?_
      walk_at "rd"
      refine f_rng (fun j σ H1 => H1 = H ∧ ∃ k, σ = [some (.ref a), some (.ref b), k]) ⟨rfl, _, rfl⟩ (fun j σ H1 hj p => ?_) (fun σ H1 p => ?_)
      · obtain ⟨rfl, k, rfl⟩ := p
        obtain ⟨v, ev, dv⟩ := dpAll_ix da hj
        obtain ⟨u, eu, du⟩ := dpAll_ix db hj
        walk_at "rd"
        refine r_ixsL sa ev ?_
        walk_at "rd"
        refine r_ixsL sb eu ?_
        walk_at "rd"
        refine ⟨v, u, ds[j], rfl, dv, du, hs _ (List.getElem_mem hj), ?_⟩
        walk_at "rd"
        refine if_bF rfl ?_
        walk_at "rd"
        exact ⟨rfl, _, rfl⟩
      · obtain ⟨rfl, k, rfl⟩ := p
        walk_at "rd"
        exact q
    | tup n ds hs l =>
      cases dv with
      | @tup a xs _ sa da =>
      cases du with
      | @tup b ys _ sb db =>
      have la := dpAll_len da
      have lb := dpAll_len db
      walk_at "rd"
      refine r_isNon ?_
      walk_at "rd"
      refine if_bF rfl ?_
      walk_at "rd"
      refine r_isi (a := "tuple") (r := false) (tyx_sqT sb) (by decide +kernel) ?_
      walk_at "rd"
      refine if_bF rfl ?_
      walk_at "rd"
      refine r_isi (a := "tuple") (r := false) (tyx_sqT sb) (by decide +kernel) ?_
      walk_at "rd"
      refine if_bF rfl ?_
      walk_at "rd"
      refine r_isi (a := "tuple") (r := false) (tyx_sqT sb) (by decide +kernel) ?_
      walk_at "rd"
      refine if_bF rfl ?_
      walk_at "rd"
      refine r_isi (a := "tuple") (r := true) (tyx_sqT sa) (by decide +kernel) ?_
      walk_at "rd"
      refine if_bF rfl ?_
      walk_at "rd"
      refine r_lenT sa ?_
      walk_at "rd"
      refine r_lenT sb ?_
      walk_at "rd"
      refine if_ndecT (by omega) ?_
      walk_at "rd"
      refine r_lenT sb ?_
      walk_at "rd"
      refine r_rngI (n := ds.length) (by omega) (by omega) ?_
      walk_at "rd"
      refine f_rng (fun j σ H1 => H1 = H ∧ ∃ k, σ = [some (.ref a), some (.ref b), k]) ⟨rfl, _, rfl⟩ (fun j σ H1 hj p => ?_) (fun σ H1 p => ?_)
      · obtain ⟨rfl, k, rfl⟩ := p
        obtain ⟨v, ev, dv⟩ := dpAll_ix da hj
        obtain ⟨u, eu, du⟩ := dpAll_ix db hj
        walk_at "rd"
        refine r_ixsT sa ev ?_
        walk_at "rd"
        refine r_ixsT sb eu ?_
        walk_at "rd"
        refine ⟨v, u, ds[j], rfl, dv, du, hs _ (List.getElem_mem hj), ?_⟩
        walk_at "rd"
        refine if_bF rfl ?_
        walk_at "rd"
        exact ⟨rfl, _, rfl⟩
      · obtain ⟨rfl, k, rfl⟩ := p
        walk_at "rd"
        exact q
theorem okS_law_alike (T : Txt K mg) (F_law_whole : Ok P w K mg base CX0 1 (He.ga K "_law_whole") ["found"] spWhole) : ∀ n : Nat, Ok P w K mg base CX0 (2 + n) (He.ga K "_law_alike") ["found", "due"] (spAlike K n)
  | 0 => okS_law_alike0 T F_law_whole
  | n + 1 => okS_law_alikeS T F_law_whole n (okS_law_alike T F_law_whole n)

end
end K54

namespace K54
open PySem PySem.Spec PyProof.Rows L2
section
variable {P : Program} {w : World} {K : PySem.W.Frag} {mg : Str → Option Value} {base : Heap}
theorem cutV_map {α : Type} (f : α → V) (l : List α) (lo hi : Option Int) : ∃ r : List α, cutV (l.map f) lo hi = r.map f ∧ r.length ≤ l.length ∧ ∀ x ∈ r, x ∈ l := by
  refine ⟨(l.drop (HT.sIx l.length 0 lo)).take (HT.sIx l.length l.length hi - HT.sIx l.length 0 lo), ?_, ?_, fun x hx => List.mem_of_mem_drop (List.mem_of_mem_take hx)⟩
  · unfold cutV
    rw [List.length_map, List.map_take, List.map_drop]
  · rw [List.length_take, List.length_drop]
    omega
theorem cutV_len {l : List V} {k : Int} (h0 : 0 ≤ k) : (cutV l none (some k)).length ≤ k.toNat := by
  unfold cutV
  rw [List.length_take]
  have e : HT.sIx l.length l.length (some k) = min k.toNat l.length := by
    show (if k < 0 then (k + (l.length : Int)).toNat else min k.toNat l.length) = _
    rw [if_neg (by omega)]
  rw [e]
  omega
theorem sum_ones : ∀ {l : List Str}, (∀ y ∈ l, y.length = 1) → (l.map (·.length)).sum = l.length
  | [], _ => rfl
  | x :: r, h => by
    rw [List.map_cons, List.sum_cons, List.length_cons, sum_ones fun y hy => h y (List.mem_cons_of_mem _ hy), h x (List.mem_cons_self ..)]
    omega
theorem append_cps (a b : Str) : (a ++ b).cps.toList = a.cps.toList ++ b.cps.toList := by
  show (a.cps ++ b.cps).toList = _
  rw [Array.toList_append]
theorem join_low : ∀ (ts : List Str), (∀ t ∈ ts, ∀ c ∈ t.cps.toList, c < 1114112) → ∀ c ∈ (Str.join "" ts).cps.toList, c < 1114112
  | [], _, c, h => by
    have h' : c ∈ (Str.empty).cps.toList := h
    exact nomatch h'
  | [x], hh, c, h => hh x (List.mem_cons_self ..) c h
  | x :: y :: r, hh, c, h => by
    have h' : c ∈ (x ++ "" ++ Str.join "" (y :: r)).cps.toList := h
    rw [append_cps, append_cps] at h'
    rcases List.mem_append.mp h' with h1 | h1
    · rcases List.mem_append.mp h1 with h2 | h2
      · exact hh x (List.mem_cons_self ..) c h2
      · have h3 : c ∈ ("" : Str).cps.toList := h2
        rw [show ("" : Str).cps.toList = [] by kernel_rfl] at h3
        exact nomatch h3
    · exact join_low (y :: r) (fun t ht => hh t (List.mem_cons_of_mem _ ht)) c h1
theorem sc_law_name : FnScope ["cell", "signs", "name", "number"] ["cell"] (defScope s_law_name) := ⟨rfl, rfl, rfl, by decide +kernel, rfl, by decide +kernel, by decide +kernel⟩
theorem okS_law_name (T : Txt K mg) (F_law_row : Ok P w K mg base CX0 2 (He.ga K "_law_row") ["cell", "many", "size"] (spRow K)) : Ok P w K mg base CX0 3 (He.ga K "_law_name") ["cell"] spLName := by
  refine ok_of T.f_law_name sc_law_name (fun _ _ _ _ _ _ us hl => match us, hl with | [_], _ => rfl) (fun vs H Q E h => ?_) (fun cdv A outer s H vs Q E hr h => ?_)
  · obtain ⟨c, rfl, _⟩ := h
    rfl
  · obtain ⟨c, rfl, q⟩ := h
    refine ⟨_, PSs.nox (pss_cons (ps_setLc (i := 1) (own := [("number", 3)]) rfl sc_law_name.nd rfl rfl (sw_true rfl rfl rfl (by decide +kernel)) (pi_list (pe_callO F_law_row (hr.mono (by decide)) rfl T.g_law_row pass0 (pa_cons (pe_op op_fdiv (pv 0) pe_int) (pa_cons pe_int (pa_cons pe_int pa_nil))))) (blkOk_by (own := [("number", 3)]) (N := ["cell", "signs", "name", "number"]) (sc := defScope s_law_name) (by decide +kernel)) (fun _ _ _ _ _ => (pg_name (i := 3) sc_law_name.nd rfl (Or.inl rfl))) (fun _ _ _ _ _ => pts_nil) (fun _ _ _ _ _ => (pe_ix ix_str pe_str (pv 3) (fun _ _ => rfl))))
 (pss_cons (ps_set (i := 2) sc_law_name.nd rfl (Or.inl rfl) (pe_join pe_str (pe_slice sl_list (pv 1) po_none (po_some (pe_op op_add pe_int (pe_op op_mod (pe_op op_fdiv (pv 0) pe_int) pe_int))))))
 (pss_cons (ps_if (pt_cmpR (op_eq) (pe_op op_mod (pv 0) pe_int) pe_int (nomark _)) (pss_one (ps_set (i := 2) sc_law_name.nd rfl (Or.inl rfl) (pe_ix ix_list (pe_lst (pa_cons pe_str (pa_cons pe_str (pa_cons pe_str (pa_cons pe_str (pa_cons pe_str (pa_cons pe_str (pa_cons pe_str pa_nil)))))))) (pe_op op_mod (pe_op op_fdiv (pv 0) pe_int) pe_int) (fun _ _ => rfl)))) pss_nil)
 (pss_one (ps_ret (pv 2)))))), ?_⟩
    walk_at "rd"
    refine ⟨_, 6, 3, rfl, by decide, by decide, by decide, by decide, fun H1 l zs s1 nl hl lz bz => ?_⟩
    walk_at "rd"
    refine r_iL (.of hl) ?_
    walk_at "rd"
    refine l_it walk_list (fun D j H2 => H1 D = none ∧ Same H1 H2 ∧ ∃ ys : List Str, H2 D = some (.lst (ys.map V.str)) ∧ ys.length = j ∧ (∀ y ∈ ys, y.length = 1) ∧ ∀ y ∈ ys, ∀ c ∈ y.cps.toList, c < 1114112) (fun D nD => ⟨nD, same_upd nD, [], upd_same, rfl, (fun y hy => nomatch hy), fun y hy => nomatch hy⟩) (fun D j H2 _ p => .of (p.2.1 _ _ hl)) (fun D j x H2 H3 hi p y => ?_) (fun D H2 p => ?_)
    · obtain ⟨nD, s2, ys, hD, ly, by1, byc⟩ := p
      obtain ⟨rfl, hx⟩ := y
      rw [List.getElem?_map] at hx
      obtain ⟨z, hz, rfl⟩ := Option.map_eq_some_iff.mp hx
      have b := bz z (List.mem_of_getElem? hz)
      walk_at "rd"
      refine ⟨rfl, ?_⟩
      walk_at "rd"
      refine iteT ?_
      walk_at "rd"
      have ea : ∃ c, atI ("abz" : Str).cps.toList z = some c ∧ c < 1114112 := by
        have : z = 0 ∨ z = 1 ∨ z = 2 := by omega
        rcases this with rfl | rfl | rfl
        · exact ⟨97, by kernel_rfl, by decide⟩
        · exact ⟨98, by kernel_rfl, by decide⟩
        · exact ⟨122, by kernel_rfl, by decide⟩
      obtain ⟨cc, ec, lc⟩ := ea
      refine ⟨"abz", z, cc, rfl, rfl, by decide, ec, ?_⟩
      refine ⟨_, hD, ?_, nD, same_re nD s2, ys ++ [⟨#[cc]⟩], ?_, ?_, ?_, ?_⟩
      · rw [List.length_map, ly]
        rw [List.length_map] at hi
        exact Nat.lt_of_lt_of_le (show j < 6 by omega) (by decide)
      · rw [upd_same, List.map_append]
        rfl
      · rw [List.length_append, List.length_singleton, ly]
      · intro y hy
        rcases List.mem_append.mp hy with h | h
        · exact by1 y h
        · rw [List.mem_singleton.mp h]
          rfl
      · intro y hy d hd
        rcases List.mem_append.mp hy with h | h
        · exact byc y h d hd
        · rw [List.mem_singleton.mp h] at hd
          have e : d = cc := List.mem_singleton.mp hd
          rw [e]
          exact lc
    · obtain ⟨nD, s2, ys, hD, ly, by1, byc⟩ := p
      have sH := s1.trans s2
      walk_at "rd"
      refine ⟨⟨_, rfl⟩, ?_⟩
      walk_at "rd"
      refine ⟨_, rfl, ?_⟩
      walk_at "rd"
      refine r_slL (.of hD) fun p np => ?_
      obtain ⟨rs, er, lr, mr⟩ := cutV_map V.str ys none (some (1 + c / 3 % 4))
      have l4 := cutV_len (l := ys.map V.str) (k := 1 + c / 3 % 4) (by omega)
      rw [er, List.length_map] at l4
      rw [er]
      have s3 := sm (o := .lst (rs.map V.str)) sH np
      have r1 : ∀ y ∈ rs, y.length = 1 := fun y hy => by1 y (mr y hy)
      have su := sum_ones r1
      have e0 : ("" : Str).length = 0 := by kernel_rfl
      walk_at "rd"
      refine ⟨"", p, rs, rfl, rfl, .inl (.of upd_same), by rw [su, e0]; omega, ?_⟩
      have jl : (Txt.join "" rs).length ≤ 5 := by
        have h : (PySem.Builtin.Str.glued "" rs).length ≤ (rs.map (·.length)).sum + rs.length * ("" : Str).length := by
          rw [StrLaws.glued_eq_join]
          exact StrLaws.join_length_le "" rs
        rw [su, e0] at h
        exact Nat.le_trans h (by omega)
      walk_at "rd"
      refine if_dec (fun h0 => ?_) (fun h0 => ?_)
      · walk_at "rd"
        refine ⟨by show 7 ≤ sizeLine; decide, fun o no => ?_⟩
        have s4 := sm (o := .lst [V.str "", .str "abcde", .str "aB", .str "a1", .str " a", .str "a ", .str "A"]) s3 no
        walk_at "rd"
        have ea : ∃ z : Str, atI [V.str "", .str "abcde", .str "aB", .str "a1", .str " a", .str "a ", .str "A"] (c / 33 % 7) = some (.str z) ∧ z.length ≤ 5 ∧ ∀ d ∈ z.cps.toList, d < 1114112 := by
          have : c / 33 % 7 = 0 ∨ c / 33 % 7 = 1 ∨ c / 33 % 7 = 2 ∨ c / 33 % 7 = 3 ∨ c / 33 % 7 = 4 ∨ c / 33 % 7 = 5 ∨ c / 33 % 7 = 6 := by omega
          rcases this with e | e | e | e | e | e | e <;> rw [e]
          · exact ⟨"", rfl, by decide, by decide +kernel⟩
          · exact ⟨"abcde", rfl, by decide, by decide +kernel⟩
          · exact ⟨"aB", rfl, by decide, by decide +kernel⟩
          · exact ⟨"a1", rfl, by decide, by decide +kernel⟩
          · exact ⟨" a", rfl, by decide, by decide +kernel⟩
          · exact ⟨"a ", rfl, by decide, by decide +kernel⟩
          · exact ⟨"A", rfl, by decide, by decide +kernel⟩
        obtain ⟨z, ez, lz5, lzc⟩ := ea
        walk_at "rd"
        refine r_ixL (.of upd_same) ez ?_
        walk_at "rd"
        exact q _ z s4 lz5 lzc
      · walk_at "rd"
        refine q _ _ s3 jl ?_
        show ∀ d ∈ (PySem.Builtin.Str.glued "" rs).cps.toList, d < 1114112
        rw [StrLaws.glued_eq_join]
        exact join_low rs fun t ht => byc t (mr t ht)
theorem sc_law_news_right : FnScope ["post", "house", "number", "names", "due"] ["post", "house", "number", "names"] (defScope s_law_news_right) := ⟨rfl, rfl, rfl, by decide +kernel, rfl, by decide +kernel, by decide +kernel⟩
theorem okS_law_news_right (T : Txt K mg) (F_Post_map_now : Ok P w K mg base CX0 4 (He.ma K (He.ga K "Post") "map_now") ["self"] (spMapNow K)) (F_Map_news : Ok P w K mg base CX0 1 (He.ma K (He.ga K "Map") "news") ["self"] (spMapNews K))
    (F_Map_wires : Ok P w K mg base CX0 1 (He.ma K (He.ga K "Map") "wires") ["self"] (spMapWires K)) (F_law_alike : Ok P w K mg base CX0 5 (He.ga K "_law_alike") ["found", "due"] (spAlike K 3)) :
    Ok P w K mg base CX0 6 (He.ga K "_law_news_right") ["post", "house", "number", "names"] (spNewsRight K) := by
  refine ok_of T.f_law_news_right sc_law_news_right (fun _ _ _ _ _ _ us hl => match us, hl with | [_, _, _, _], _ => rfl) (fun vs H Q E h => ?_) (fun cdv A outer s H vs Q E hr h => ?_)
  · obtain ⟨m, st, l, zs, rfl, _⟩ := h
    rfl
  · obtain ⟨m, st, l, zs, rfl, ⟨i, q⟩, en, hl, pm, k⟩ := h
    refine ⟨_, PSs.nox (pss_cons (ps_set (i := 4) sc_law_news_right.nd rfl (Or.inl rfl) (pe_tup (pa_cons (pv 1) (pa_cons (pv 2) (pa_cons (pe_tup pa_nil) (pa_cons (pe_callTy (call_tupR) (by rfl) T.b_tuple (by decide +kernel) (pa_cons (pe_callB (cr_sortedS) (by rfl) T.b_sorted (by decide +kernel) (pa_cons (pv 3) pa_nil)) pa_nil)) pa_nil))))))
 (pss_one (ps_ret (pe_and (pe_callO F_law_alike (hr.mono (by decide)) rfl T.g_law_alike pass0 (pa_cons (pe_meth0O (pe_meth0O (pv 0) T.k_Post T.t_Post_map_now F_Post_map_now (hr.mono (by decide)) pass0) T.k_Map T.t_Map_news F_Map_news (hr.mono (by decide)) pass0) (pa_cons (pe_lst (pa_cons (pv 4) pa_nil)) pa_nil))) (pe_one (pe_cmpR (op_eqD hr.units) (pe_meth0O (pe_meth0O (pv 0) T.k_Post T.t_Post_map_now F_Post_map_now (hr.mono (by decide)) pass0) T.k_Map T.t_Map_wires F_Map_wires (hr.mono (by decide)) pass0) (pe_lst pa_nil) (nomark _))))))), ?_⟩
    walk_at "rd"
    refine ⟨by decide, fun t0 nt0 => ?_⟩
    have s1 := same_upd (o := .tup []) nt0
    have pl := pm.length_eq
    have l4 := q.b3.2.2.1
    walk_at "rd"
    refine r_sortS (.of (s1 _ _ hl)) (by omega) fun ys p pm2 so np => ?_
    have ey : ys = st.called := sorted_uniq (pm2.trans pm) so q.b3.2.1
    subst ey
    have s2 := sm (o := .lst (st.called.map V.str)) s1 np
    walk_at "rd"
    refine r_tupL (.of upd_same) fun t1 nt1 => ?_
    have s3 := sm (o := .tup (st.called.map V.str)) s2 nt1
    walk_at "rd"
    refine ⟨by show 4 ≤ sizeLine; decide, fun t2 nt2 => ?_⟩
    have s4 := sm (o := .tup [V.int st.own, .int st.num, .ref t0, .ref t1]) s3 nt2
    have ht2 : NewsAt (upd (upd (upd (upd H t0 (.tup [])) p (.lst (st.called.map V.str))) t1 (.tup (st.called.map V.str))) t2 (.tup [V.int st.own, .int st.num, .ref t0, .ref t1])) t2 st.own st.num st.called := ⟨t0, t1, upd_same, by walk_at "hp", by walk_at "hp"⟩
    generalize upd (upd (upd (upd H t0 (.tup [])) p (.lst (st.called.map V.str))) t1 (.tup (st.called.map V.str))) t2 (.tup [V.int st.own, .int st.num, .ref t0, .ref t1]) = H4 at s4 ht2 ⊢
    have q4 := q.same s4
    walk_at "rd"
    refine r_methAt q4.obj (by kernel_rfl) ?_
    walk_at "rd"
    refine ⟨m, st, rfl, ⟨i, q4⟩, fun H5 a d2 t5 s5 na hm => ?_⟩
    have hm' := hm
    obtain ⟨⟨dm, hm0⟩, _, nw5⟩ := hm'
    walk_at "rd"
    refine r_methAt hm0 (by kernel_rfl) ?_
    walk_at "rd"
    refine ⟨a, d2, t5, st.own, st.num, st.news, rfl, hm, fun H6 l6 s6 nl6 hl6 => ?_⟩
    walk_at "rd"
    refine ⟨by show 1 ≤ sizeLine; decide, fun l7 nl7 => ?_⟩
    have s47 := sm (o := .lst [V.ref t2]) (s5.trans s6) nl7
    have hl67 : upd H6 l7 (.lst [V.ref t2]) l6 = some (.lst [V.ref t5]) := by walk_at "hp"
    have nw7 : Dp K (upd H6 l7 (.lst [V.ref t2])) (.ref t5) (newsD st.own st.num st.called) := by
      rw [← en]
      exact (nw5.same (sm (o := .lst [V.ref t2]) s6 nl7)).dp
    have nd7 : Dp K (upd H6 l7 (.lst [V.ref t2])) (.ref t2) (newsD st.own st.num st.called) := (ht2.same s47).dp
    walk_at "rd"
    refine ⟨.ref l6, .ref l7, .list [newsD st.own st.num st.called], rfl, .lst (.of hl67) (.cons nw7 .nil), .lst (.of upd_same) (.cons nd7 .nil), ?_, ?_⟩
    · refine .lst 2 _ (fun d hd => ?_) (by show 1 ≤ 1000; decide)
      rw [List.mem_singleton.mp hd]
      refine .tup 1 _ (fun d hd => ?_) (by show 4 ≤ 1000; decide)
      simp only [List.mem_cons, List.not_mem_nil, or_false] at hd
      rcases hd with rfl | rfl | rfl | rfl
      · exact .int _ _
      · exact .int _ _
      · exact .tup 0 _ (fun d hd => nomatch hd) (by decide)
      · refine .tup 0 _ (fun d hd => ?_) (by rw [List.length_map]; omega)
        obtain ⟨z, _, rfl⟩ := List.mem_map.mp hd
        exact .str _ _
    walk_at "rd"
    refine iteT ?_
    have q7 := q4.same s47
    walk_at "rd"
    refine r_methAt q7.obj (by kernel_rfl) ?_
    walk_at "rd"
    refine ⟨m, st, rfl, ⟨i, q7⟩, fun H8 a8 d8 t8 s8 na8 hm8 => ?_⟩
    have hm8' := hm8
    obtain ⟨⟨dm8, hm80⟩, _, _⟩ := hm8'
    walk_at "rd"
    refine r_methAt hm80 (by kernel_rfl) ?_
    walk_at "rd"
    refine ⟨a8, d8, t8, st.own, st.num, st.news, rfl, hm8, fun H9 l9 s9 nl9 hl9 => ?_⟩
    walk_at "rd"
    refine ⟨by decide, fun l10 n10 => ?_⟩
    have s10 := sm (o := .lst []) (s8.trans s9) n10
    walk_at "rd"
    have n910 : l9 ≠ l10 := by walk_at "ne"
    walk_at "rd"
    refine r_eqD (.lst (.of (by walk_at "hp")) .nil) (.lst (.of upd_same) .nil) rfl rfl ?_
    exact k _ ((s4.trans s47).trans s10)

end
end K54

namespace K54
open PySem PySem.Spec PyProof.Rows L2
section
variable {P : Program} {w : World} {K : PySem.W.Frag} {mg : Str → Option Value} {base : Heap}
theorem goodH_snoc (h : Int) : ∀ (hs seen : List Int), goodH seen (hs ++ [h]) = (goodH seen hs && (decide (0 ≤ h ∧ h ≤ 31) && decide (h ∉ seen ++ hs)))
  | [], seen => by
    rw [List.nil_append, goodH_step, List.append_nil]
    show (_ && (_ && true)) = (true && _)
    rw [Bool.and_true, Bool.true_and]
  | x :: r, seen => by
    rw [List.cons_append, goodH_step, goodH_step, goodH_snoc h r (seen ++ [x]), Bool.and_assoc, Bool.and_assoc, List.append_assoc]
    rfl
theorem others_len : ∀ m : Nat, m < 32 → ((((List.range 32).map Int.ofNat).filter fun h => decide (h ≠ (m : Int))).length = 31 ∧ (((List.range 32).map Int.ofNat).filter fun h => decide (h ≠ (m : Int))).Nodup) := by decide +kernel
theorem others_in {n h : Int} (hm : h ∈ ((List.range 32).map Int.ofNat).filter fun h => decide (h ≠ n)) : (0 ≤ h ∧ h ≤ 31) ∧ h ≠ n := by
  obtain ⟨h1, h2⟩ := List.mem_filter.mp hm
  obtain ⟨m, hm2, rfl⟩ := List.mem_map.mp h1
  have := List.mem_range.mp hm2
  refine ⟨⟨Int.natCast_nonneg m, ?_⟩, of_decide_eq_true h2⟩
  show (m : Int) ≤ 31
  omega
theorem not_mem_erase {os : List Int} {k : Nat} (nd : os.Nodup) (hk : k < os.length) : os[k] ∉ os.eraseIdx k := by
  intro h
  obtain ⟨i, hi, ne, e⟩ := List.mem_eraseIdx_iff_getElem.mp h
  exact ne ((List.getElem_inj nd).mp e)
theorem paired_snoc {α β : Type} {R : α → β → Prop} : ∀ {vs : List α} {ws : List β} {v : α} {x : β}, Paired R vs ws → R v x → Paired R (vs ++ [v]) (ws ++ [x])
  | _, _, _, _, .nil, h => .cons h .nil
  | _, _, _, _, .cons a b, h => .cons a (paired_snoc b h)
theorem paired_mono {α β : Type} {R S : α → β → Prop} (f : ∀ a b, R a b → S a b) : ∀ {vs : List α} {ws : List β}, Paired R vs ws → Paired S vs ws
  | _, _, .nil => .nil
  | _, _, .cons a b => .cons (f _ _ a) (paired_mono f b)
theorem WrAt.same {H H' : Hp} (s : Same H H') {v : V} {x : WrT} (h : WrAt H v x) : WrAt H' v x := by
  obtain ⟨t, mt, e, h1, h2⟩ := h
  exact ⟨t, mt, e, s _ _ h1, s _ _ h2⟩
theorem WrL.same {H H' : Hp} (s : Same H H') {l : Addr} {ws : List WrT} (h : WrL H l ws) : WrL H' l ws := by
  obtain ⟨vs, h1, h2⟩ := h
  exact ⟨vs, s _ _ h1, paired_mono (fun _ _ z => WrAt.same s z) h2⟩
theorem erase_map (os : List Int) (k : Nat) : (os.map V.int).eraseIdx k = (os.eraseIdx k).map V.int := by
  rw [List.eraseIdx_eq_take_drop_succ, List.eraseIdx_eq_take_drop_succ, List.map_append, List.map_take, List.map_drop]
theorem sc_law_wires : FnScope ["number", "cell", "row", "others", "wires", "k", "measure", "house"] ["number", "cell"] (defScope s_law_wires) := ⟨rfl, rfl, rfl, by decide +kernel, rfl, by decide +kernel, by decide +kernel⟩
theorem okS_law_wires (T : Txt K mg) (F_law_row : Ok P w K mg base CX0 2 (He.ga K "_law_row") ["cell", "many", "size"] (spRow K)) : Ok P w K mg base CX0 3 (He.ga K "_law_wires") ["number", "cell"] spLWires := by
  refine ok_of T.f_law_wires sc_law_wires (fun _ _ _ _ _ _ us hl => match us, hl with | [_, _], _ => rfl) (fun vs H Q E h => ?_) (fun cdv A outer s H vs Q E hr h => ?_)
  · obtain ⟨n, c, rfl, _⟩ := h
    rfl
  · obtain ⟨n, c, rfl, n0, n1, q⟩ := h
    refine ⟨_, PSs.nox (pss_cons (ps_set (i := 2) sc_law_wires.nd rfl (Or.inl rfl) (pe_callO F_law_row (hr.mono (by decide)) rfl T.g_law_row pass0 (pa_cons (pe_op op_fdiv (pv 1) pe_int) (pa_cons pe_int (pa_cons pe_int pa_nil)))))
 (pss_cons (ps_setLc (i := 3) (own := [("house", 7)]) rfl sc_law_wires.nd rfl rfl (sw_true rfl rfl rfl (by decide +kernel)) (pi_range1 rfl T.b_range (pa_cons pe_int pa_nil)) (blkOk_by (own := [("house", 7)]) (N := ["number", "cell", "row", "others", "wires", "k", "measure", "house"]) (sc := defScope s_law_wires) (by decide +kernel)) (fun _ _ _ _ _ => (pg_name (i := 7) sc_law_wires.nd rfl (Or.inl rfl))) (fun _ _ _ _ _ => pts_one (pt_cmpR (op_ne) (pv 7) (pv 0) (nomark _))) (fun _ _ _ _ _ => (pv 7)))
 (pss_cons (ps_set (i := 4) sc_law_wires.nd rfl (Or.inl rfl) (pe_lst pa_nil))
 (pss_cons (ps_for PassesOwn.never rfl (pi_range1 rfl T.b_range (pa_cons (pe_op op_mod (pe_op op_fdiv (pv 1) pe_int) pe_int) pa_nil)) (pg_name (i := 5) sc_law_wires.nd rfl (Or.inl rfl)) (pss_cons (ps_set (i := 6) sc_law_wires.nd rfl (Or.inl rfl) (pe_tup (pa_cons (pe_op op_add pe_int (pe_op op_mod (pe_ix ix_list (pv 2) (pv 5) (fun _ _ => rfl)) pe_int)) (pa_cons (pe_op op_mod (pe_op op_fdiv (pe_ix ix_list (pv 2) (pv 5) (fun _ _ => rfl)) pe_int) pe_int) pa_nil))))
 (pss_one (ps_expr (pe_bm PySem.F.plainAttrs_list PySem.F.slot_list_append PySem.F.type_list_append mt_append (pv 4) (pa_cons (pe_tup (pa_cons (pe_bm PySem.F.plainAttrs_list PySem.F.slot_list_pop PySem.F.type_list_pop mt_popAt (pv 3) (pa_cons (pe_op op_mod (pe_ix ix_list (pv 2) (pe_op op_add pe_int (pv 5)) (fun _ _ => rfl)) (pe_callB (call_lenR) (by rfl) T.b_len (by decide +kernel) (pa_cons (pv 3) pa_nil))) pa_nil)) (pa_cons (pv 6) (pa_cons (pe_op op_mod (pe_ix ix_list (pv 2) (pe_op op_add pe_int (pv 5)) (fun _ _ => rfl)) pe_int) pa_nil)))) pa_nil))))))
 (pss_one (ps_ret (pv 4))))))), ?_⟩
    walk_at "rd"
    refine ⟨_, 18, 720, rfl, by decide, by decide, by decide, by decide, fun H1 rl zs s1 nrl hrl lz bz => ?_⟩
    have getz : ∀ j : Nat, j < 18 → ∃ z : Int, (zs.map V.int)[j]? = some (.int z) ∧ 0 ≤ z ∧ z < 720 := fun j hj => by
      have hj' : j < zs.length := by omega
      exact ⟨zs[j], by rw [List.getElem?_map, List.getElem?_eq_getElem hj']; rfl, bz _ (List.getElem_mem hj')⟩
    walk_at "rd"
    refine r_rngI (n := 32) rfl (by decide) ?_
    walk_at "rd"
    refine l_it walk_range (fun D j H2 => H1 D = none ∧ Same H1 H2 ∧ H2 D = some (.lst ((((List.range j).map Int.ofNat).filter fun h => decide (h ≠ n)).map V.int))) (fun D nD => ⟨nD, same_upd nD, upd_same⟩) (fun _ _ _ _ _ => trivial) (fun D j x H2 H3 hi p y => ?_) (fun ol H2 p => ?_)
    · obtain ⟨nD, s2, hD⟩ := p
      obtain ⟨rfl, e⟩ := y
      have e' : x = .int (Int.ofNat j) := by rw [e]; exact congrArg V.int (Int.zero_add _)
      subst e'
      walk_at "rd"
      refine ⟨rfl, ?_⟩
      walk_at "rd"
      refine if_ndec (fun hn => ?_) (fun he => ?_)
      · walk_at "rd"
        refine ⟨_, hD, ?_, nD, same_re nD s2, ?_⟩
        · rw [List.length_map]
          have := List.length_filter_le (fun h => decide (h ≠ n)) ((List.range j).map Int.ofNat)
          rw [List.length_map, List.length_range] at this
          exact Nat.lt_of_le_of_lt (show _ ≤ 32 by omega) (by decide)
        · rw [upd_same, List.range_succ, List.map_append, List.filter_append, List.map_append]
          have e2 : ([j].map Int.ofNat).filter (fun h => decide (h ≠ n)) = [Int.ofNat j] := by
            show List.filter _ [Int.ofNat j] = [Int.ofNat j]
            exact List.filter_eq_self.mpr fun a ha => by rw [List.mem_singleton.mp ha]; exact decide_eq_true hn
          rw [e2]
          rfl
      · refine ⟨nD, s2, ?_⟩
        have e2 : ([j].map Int.ofNat).filter (fun h => decide (h ≠ n)) = [] := by
          show List.filter _ [Int.ofNat j] = []
          exact List.filter_eq_nil_iff.mpr fun a ha => by rw [List.mem_singleton.mp ha, decide_eq_false (fun z => z he)]; exact Bool.false_ne_true
        rw [List.range_succ, List.map_append, List.filter_append, e2, List.append_nil]
        exact hD
    · obtain ⟨nol, s2, hol⟩ := p
      have hb : n = ((n.toNat : Nat) : Int) := by omega
      have ol31 := others_len n.toNat (by omega)
      rw [← hb] at ol31
      walk_at "rd"
      refine ⟨by decide, fun wl nwl => ?_⟩
      have s12 := s1.trans s2
      have fol : H ol = none := s1.free nol
      have fwl : H wl = none := s12.free nwl
      have nrw : rl ≠ wl := ne_of_none (s2 _ _ hrl) nwl
      have now : ol ≠ wl := ne_of_none hol nwl
      have nro : rl ≠ ol := ne_of_none hrl nol
      walk_at "rd"
      refine r_rngI (n := (c / 7 % 6).toNat) (by omega) (by omega) ?_
      walk_at "rd"
      refine f_rng (fun j σ H3 => (∃ a b d, σ = [some (.int n), some (.int c), some (.ref rl), some (.ref ol), some (.ref wl), a, b, d]) ∧ Same H H3 ∧ off [ol, wl] H3 rl = some (.lst (zs.map V.int)) ∧ ∃ (os : List Int) (vs : List V) (ws : List WrT),
          H3 ol = some (.lst (os.map V.int)) ∧ H3 wl = some (.lst vs) ∧ Paired (WrAt (off [ol, wl] H3)) vs ws ∧ ws.length = j ∧ (∀ x ∈ ws, okW x) ∧ goodH [n] (ws.map (·.house)) = true ∧ os.length = 31 - j ∧ os.Nodup ∧ ∀ h ∈ os, (0 ≤ h ∧ h ≤ 31) ∧ h ≠ n ∧ h ∉ ws.map (·.house))
        ⟨⟨_, _, _, rfl⟩, sm s12 nwl, ?_, _, [], [], ?_, upd_same, .nil, rfl, (fun x hx => nomatch hx), rfl, ol31.1, ol31.2, fun h hh => ⟨(others_in hh).1, (others_in hh).2, fun z => nomatch z⟩⟩ (fun j σ H3 hj p => ?_) (fun σ H3 p => ?_)
      · refine off_of (by rw [upd_ne nrw]; exact s2 _ _ hrl) (by simp [nro, nrw])
      · rw [upd_ne now]
        exact hol
      · obtain ⟨⟨a, b, d, rfl⟩, s3, hrl3, os, vs, ws, hol3, hwl3, pr, lw, okws, gd, los, ndos, bos⟩ := p
        have hj6 : j < 6 := by omega
        obtain ⟨za, ea, ba⟩ := getz j (by omega)
        obtain ⟨zb, eb, bb⟩ := getz (6 + j) (by omega)
        obtain ⟨zc, ec, bc⟩ := getz (12 + j) (by omega)
        walk_at "rd"
        refine r_ixL (.of (off_get hrl3)) (atI_nat ea) ?_
        walk_at "rd"
        refine r_ixL (.of (off_get hrl3)) (atI_nat ea) ?_
        walk_at "rd"
        refine ⟨by show 2 ≤ sizeLine; decide, fun mt nmt => ?_⟩
        have s4 := same_upd (o := .tup [V.int (1 + za % 6), .int (za / 6 % 5)]) nmt
        walk_at "rd"
        refine r_bmL (.of (s4 _ _ hwl3)) ?_
        walk_at "rd"
        refine r_bmL (.of (s4 _ _ hol3)) ?_
        walk_at "rd"
        have e6 : (6 : Int) + (j : Int) = ((6 + j : Nat) : Int) := by omega
        have e12 : (12 : Int) + (j : Int) = ((12 + j : Nat) : Int) := by omega
        rw [e6]
        walk_at "rd"
        refine r_ixL (.of (s4 _ _ (off_get hrl3))) (atI_nat eb) ?_
        walk_at "rd"
        refine r_lenL (.of (s4 _ _ hol3)) ?_
        rw [List.length_map]
        have lpos : (0 : Int) < os.length := by omega
        walk_at "rd"
        generalize eix : zb % (os.length : Int) = ix
        have bix : 0 ≤ ix ∧ ix < os.length := by
          rw [← eix]
          exact ⟨Int.emod_nonneg _ (by omega), Int.emod_lt_of_pos _ (by omega)⟩
        have hkl : ix.toNat < os.length := by omega
        refine ⟨ol, _, ix, ix.toNat, .int os[ix.toNat], rfl, rfl, s4 _ _ hol3, by omega, by omega, seqIndex_of bix.1 (by rw [List.length_map]; exact bix.2), by rw [List.getElem?_map, List.getElem?_eq_getElem hkl]; rfl, ?_⟩
        walk_at "rd"
        have nmo : mt ≠ ol := Ne.symm (ne_of_none hol3 nmt)
        have nmw : mt ≠ wl := Ne.symm (ne_of_none hwl3 nmt)
        have nrm : rl ≠ mt := ne_of_none (off_get hrl3) nmt
        walk_at "rd"
        refine r_ixL (.of (by rw [upd_ne nro]; exact s4 _ _ (off_get hrl3))) (atI_nat (j := 12 + j) (by rw [← e12] at *; exact ec)) ?_
        walk_at "rd"
        rw [erase_map]
        refine ⟨by show 3 ≤ sizeLine; decide, fun t nt => ?_⟩
        have hwl5 : upd (upd H3 mt (.tup [V.int (1 + za % 6), .int (za / 6 % 5)])) ol (.lst ((os.eraseIdx ix.toNat).map V.int)) wl = some (.lst vs) := by rw [upd_ne (Ne.symm now)]; exact s4 _ _ hwl3
        have hmt5 : upd (upd H3 mt (.tup [V.int (1 + za % 6), .int (za / 6 % 5)])) ol (.lst ((os.eraseIdx ix.toNat).map V.int)) mt = some (.tup [V.int (1 + za % 6), .int (za / 6 % 5)]) := by rw [upd_ne nmo]; exact upd_same
        have nto : ol ≠ t := ne_of_none upd_same nt
        have ntw : wl ≠ t := ne_of_none hwl5 nt
        have ntm : mt ≠ t := ne_of_none hmt5 nt
        have lv : vs.length = ws.length := paired_len pr
        walk_at "rd"
        refine r_appendR (by walk_at "hp") (Nat.lt_of_lt_of_le (show vs.length < 6 by omega) (by decide)) ?_
        have SF : ∀ o : HO, Same (off [ol, wl] H3) (off [ol, wl] (upd (upd (upd (upd H3 mt (.tup [V.int (1 + za % 6), .int (za / 6 % 5)])) ol (.lst ((os.eraseIdx ix.toNat).map V.int))) t (.tup [V.int os[ix.toNat], .ref mt, .int (zc % 2)])) wl o)) := fun o =>
          (((off_same s4).trans (off_put (by simp) fun _ h => h)).trans (off_same (same_upd nt))).trans (off_put (by simp) fun _ h => h)
        have hin := bos _ (List.getElem_mem hkl)
        refine ⟨⟨_, _, _, rfl⟩, ?_, SF _ _ _ hrl3, os.eraseIdx ix.toNat, vs ++ [.ref t], ws ++ [⟨os[ix.toNat], 1 + za % 6, za / 6 % 5, zc % 2⟩], ?_, upd_same, ?_, by rw [List.length_append, List.length_singleton, lw], fun x hx => ?_, ?_, ?_, ?_, fun h hh => ?_⟩
        · exact same_re fwl ((same_re fol (s3.trans s4)).trans (same_upd nt))
        · rw [upd_ne now, upd_ne nto]
          exact upd_same
        · refine paired_snoc (paired_mono (fun _ _ z => WrAt.same (SF _) z) pr) ⟨t, mt, rfl, off_of ?_ (by simp [Ne.symm nto, Ne.symm ntw]), off_of ?_ (by simp [nmo, nmw])⟩
          · rw [upd_ne (Ne.symm ntw)]
            exact upd_same
          · rw [upd_ne nmw, upd_ne ntm]
            exact hmt5
        · rcases List.mem_append.mp hx with hx | hx
          · exact okws x hx
          · rw [List.mem_singleton.mp hx]
            exact ⟨by show 1 ≤ 1 + za % 6; omega, by show 1 + za % 6 ≤ 6; omega, by show 0 ≤ za / 6 % 5; omega, by show za / 6 % 5 ≤ 4; omega⟩
        · rw [List.map_append]
          show goodH [n] (ws.map (·.house) ++ [os[ix.toNat]]) = true
          rw [goodH_snoc, gd, decide_eq_true hin.1, decide_eq_true]
          · rfl
          · intro z
            rcases List.mem_append.mp z with z | z
            · exact hin.2.1 (List.mem_singleton.mp z)
            · exact hin.2.2 z
        · rw [List.length_eraseIdx_of_lt hkl, los]
          omega
        · exact ndos.sublist (List.eraseIdx_sublist ..)
        · have hb := bos h (List.mem_of_mem_eraseIdx hh)
          refine ⟨hb.1, hb.2.1, fun z => ?_⟩
          rw [List.map_append] at z
          rcases List.mem_append.mp z with z | z
          · exact hb.2.2 z
          · have e : h = os[ix.toNat] := List.mem_singleton.mp z
            rw [e] at hh
            exact not_mem_erase ndos hkl hh
      · obtain ⟨⟨a, b, d, rfl⟩, s3, hrl3, os, vs, ws, hol3, hwl3, pr, lw, okws, gd, los, ndos, bos⟩ := p
        walk_at "rd"
        refine q _ wl ws s3 fwl ⟨vs, hwl3, ?_⟩ ?_ okws
        · exact paired_mono (fun _ _ z => WrAt.same off_sub z) pr
        · unfold goodPost
          rw [gd, decide_eq_true ⟨n0, n1⟩, decide_eq_true (by omega)]
          rfl

end
end K54

namespace K54
open PySem PySem.Spec PyProof.Rows L2
section
variable {P : Program} {w : World} {K : PySem.W.Frag} {mg : Str → Option Value} {base : Heap}
-- USE_RN
structure BPs (H Hc : Hp) (g six l : Addr) (gw : WrT) (sw ws : List WrT) (L : List V) : Prop where
  s : Same H Hc
  good : WrAt Hc (.ref g) gw
  six : WrL Hc six sw
  wires : WrL Hc l ws
  bad : ∀ v ∈ L, BadAt Hc v
theorem BadAt.same {H H' : Hp} (s : Same H H') {v : V} (h : BadAt H v) : BadAt H' v := by
  obtain ⟨t, l, n, ws, e, h1, h2, h3, h4, h5⟩ := h
  exact ⟨t, l, n, ws, e, s _ _ h1, h2.same s, h3, h4, h5⟩
theorem BPs.same {H Hc Hd : Hp} {g six l : Addr} {gw : WrT} {sw ws : List WrT} {L : List V} (b : BPs H Hc g six l gw sw ws L) (s : Same Hc Hd) : BPs H Hd g six l gw sw ws L := ⟨b.s.trans s, b.good.same s, b.six.same s, b.wires.same s, fun v hv => (b.bad v hv).same s⟩
theorem BPs.add {H Hc : Hp} {g six l : Addr} {gw : WrT} {sw ws : List WrT} {L : List V} {p q : Addr} {n : Int} {xs : List WrT} (b : BPs H Hc g six l gw sw ws L) (h : Hc p = some (.tup [.int n, .ref q])) (w : WrL Hc q xs) (le : xs.length ≤ 1000) (ok : ∀ x ∈ xs, okW x) (f : goodPost n xs = false) : BPs H Hc g six l gw sw ws (L ++ [.ref p]) :=
  ⟨b.s, b.good, b.six, b.wires, fun v hv => (List.mem_append.mp hv).elim (b.bad v) fun z => by rw [List.mem_singleton.mp z]; exact ⟨p, q, n, xs, rfl, h, w, le, ok, f⟩⟩
theorem wrNil {H : Hp} {q : Addr} (h : H q = some (.lst [])) : WrL H q [] := ⟨[], h, .nil⟩
theorem wr1 {H : Hp} {q : Addr} {v : V} {x : WrT} (h : H q = some (.lst [v])) (a : WrAt H v x) : WrL H q [x] := ⟨[v], h, .cons a .nil⟩
theorem wr2 {H : Hp} {q : Addr} {v u : V} {x y : WrT} (h : H q = some (.lst [v, u])) (a : WrAt H v x) (b : WrAt H u y) : WrL H q [x, y] := ⟨[v, u], h, .cons a (.cons b .nil)⟩
theorem ok1 {x : WrT} (h : okW x) : ∀ y ∈ [x], okW y := fun y hy => by rw [List.mem_singleton.mp hy]; exact h
theorem ok2 {x z : WrT} (h : okW x) (h2 : okW z) : ∀ y ∈ [x, z], okW y := fun y hy => by
  rcases List.mem_cons.mp hy with e | e
  · rw [e]; exact h
  · rw [List.mem_singleton.mp e]; exact h2
theorem okA {h s : Int} : okW ⟨h, 1, 0, s⟩ := ⟨Int.le_refl _, by show (1 : Int) ≤ 6; decide, Int.le_refl _, by show (0 : Int) ≤ 4; decide⟩
theorem okB {h s : Int} : okW ⟨h, 2, 1, s⟩ := ⟨by show (1 : Int) ≤ 2; decide, by show (2 : Int) ≤ 6; decide, by show (0 : Int) ≤ 1; decide, by show (1 : Int) ≤ 4; decide⟩
theorem bad_one {n h a b s : Int} (hh : ¬ (0 ≤ h ∧ h ≤ 31)) : goodPost n [⟨h, a, b, s⟩] = false := by
  by_cases hn : 0 ≤ n ∧ n ≤ 31
  · rw [goodPost_eq hn (by show 1 ≤ 5; decide)]
    show goodH [n] [h] = false
    rw [goodH_step, decide_eq_false hh, Bool.false_and]
  · exact goodPost_house hn
theorem bad_two {n h a b s h2 a2 b2 s2 : Int} (hh : ¬ (0 ≤ h2 ∧ h2 ≤ 31) ∨ h2 = h ∨ h2 = n) : goodPost n [⟨h, a, b, s⟩, ⟨h2, a2, b2, s2⟩] = false := by
  by_cases hn : 0 ≤ n ∧ n ≤ 31
  · rw [goodPost_eq hn (by show 2 ≤ 5; decide)]
    show goodH [n] [h, h2] = false
    rw [goodH_step, goodH_step]
    rcases hh with e | e | e
    · rw [decide_eq_false e]
      simp
    · subst e
      simp
    · subst e
      simp
  · exact goodPost_house hn
theorem sc_law_bad_posts : FnScope ["number", "wires", "far", "house", "good", "six", "odd", "k"] ["number", "wires", "far"] (defScope s_law_bad_posts) := ⟨rfl, rfl, rfl, by decide +kernel, rfl, by decide +kernel, by decide +kernel⟩
theorem okS_law_bad_posts (T : Txt K mg) : Ok P w K mg base CX0 1 (He.ga K "_law_bad_posts") ["number", "wires", "far"] spBadPosts := by
  refine ok_of T.f_law_bad_posts sc_law_bad_posts (fun _ _ _ _ _ _ us hl => match us, hl with | [_, _, _], _ => rfl) (fun vs H Q E h => ?_) (fun cdv A outer s H vs Q E hr h => ?_)
  · obtain ⟨n, far, l, ws, rfl, _⟩ := h
    rfl
  · obtain ⟨n, far, l, ws, rfl, n0, n1, f0, hw, lw, okws, k⟩ := h
    refine ⟨_, PSs.nox (pss_cons (ps_set (i := 3) sc_law_bad_posts.nd rfl (Or.inl rfl) (pe_op op_mod (pe_op op_add (pe_op op_add (pv 0) pe_int) (pe_op op_mod (pv 2) pe_int)) pe_int))
 (pss_cons (ps_set (i := 4) sc_law_bad_posts.nd rfl (Or.inl rfl) (pe_tup (pa_cons (pv 3) (pa_cons (pe_tup (pa_cons pe_int (pa_cons pe_int pa_nil))) (pa_cons pe_int pa_nil)))))
 (pss_cons (ps_setLc (i := 5) (own := [("k", 7)]) rfl sc_law_bad_posts.nd rfl rfl (sw_true rfl rfl rfl (by decide +kernel)) (pi_range1 rfl T.b_range (pa_cons pe_int pa_nil)) (blkOk_by (own := [("k", 7)]) (N := ["number", "wires", "far", "house", "good", "six", "odd", "k"]) (sc := defScope s_law_bad_posts) (by decide +kernel)) (fun _ _ _ _ _ => (pg_name (i := 7) sc_law_bad_posts.nd rfl (Or.inl rfl))) (fun _ _ _ _ _ => pts_nil) (fun _ _ _ _ _ => (pe_tup (pa_cons (pe_op op_mod (pe_op op_add (pe_op op_add (pv 0) pe_int) (pv 7)) pe_int) (pa_cons (pe_tup (pa_cons pe_int (pa_cons pe_int pa_nil))) (pa_cons pe_int pa_nil))))))
 (pss_cons (ps_set (i := 6) sc_law_bad_posts.nd rfl (Or.inl rfl) (pe_lst (pa_cons (pe_tup (pa_cons (pe_un un_neg pe_int) (pa_cons (pe_lst pa_nil) pa_nil))) (pa_cons (pe_tup (pa_cons pe_int (pa_cons (pe_lst pa_nil) pa_nil))) (pa_cons (pe_tup (pa_cons (pe_op op_add pe_int (pv 2)) (pa_cons (pv 1) pa_nil))) (pa_cons (pe_tup (pa_cons (pe_op op_sub (pe_un un_neg pe_int) (pv 2)) (pa_cons (pe_lst pa_nil) pa_nil))) (pa_cons (pe_tup (pa_cons (pv 0) (pa_cons (pv 5) pa_nil))) (pa_cons (pe_tup (pa_cons (pv 0) (pa_cons (pe_lst (pa_cons (pv 4) (pa_cons (pv 4) pa_nil))) pa_nil))) pa_nil))))))))
 (pss_cons (ps_set (i := 6) sc_law_bad_posts.nd rfl (Or.inl rfl) (pe_op op_cat (pv 6) (pe_lst (pa_cons (pe_tup (pa_cons (pv 0) (pa_cons (pe_lst (pa_cons (pv 4) (pa_cons (pe_tup (pa_cons (pv 0) (pa_cons (pe_tup (pa_cons pe_int (pa_cons pe_int pa_nil))) (pa_cons pe_int pa_nil)))) pa_nil))) pa_nil))) (pa_cons (pe_tup (pa_cons (pv 0) (pa_cons (pe_lst (pa_cons (pe_tup (pa_cons pe_int (pa_cons (pe_tup (pa_cons pe_int (pa_cons pe_int pa_nil))) (pa_cons pe_int pa_nil)))) pa_nil)) pa_nil))) (pa_cons (pe_tup (pa_cons (pv 0) (pa_cons (pe_lst (pa_cons (pv 4) (pa_cons (pe_tup (pa_cons (pe_un un_neg pe_int) (pa_cons (pe_tup (pa_cons pe_int (pa_cons pe_int pa_nil))) (pa_cons pe_int pa_nil)))) pa_nil))) pa_nil))) pa_nil))))))
 (pss_one (ps_ret (pe_op op_cat (pv 6) (pe_lst (pa_cons (pe_tup (pa_cons (pv 0) (pa_cons (pe_lst (pa_cons (pe_tup (pa_cons (pe_op op_add pe_int (pv 2)) (pa_cons (pe_tup (pa_cons pe_int (pa_cons pe_int pa_nil))) (pa_cons pe_int pa_nil)))) pa_nil)) pa_nil))) (pa_cons (pe_tup (pa_cons (pv 0) (pa_cons (pe_lst (pa_cons (pe_tup (pa_cons (pe_op op_sub (pe_un un_neg pe_int) (pv 2)) (pa_cons (pe_tup (pa_cons pe_int (pa_cons pe_int pa_nil))) (pa_cons pe_int pa_nil)))) pa_nil)) pa_nil))) pa_nil))))))))))), ?_⟩
    walk_at "rn"
    refine n_tup (by show 2 ≤ sizeLine; decide) fun H1 a1 s1 na1 ha1 => ?_
    walk_at "rn"
    refine n_tup (by show 3 ≤ sizeLine; decide) fun H2 g s2 ng hg => ?_
    have gd : WrAt H2 (.ref g) ⟨(n + 1 + far % 31) % 32, 1, 0, 0⟩ := ⟨g, a1, rfl, hg, s2 _ _ ha1⟩
    have og : okW ⟨(n + 1 + far % 31) % 32, 1, 0, 0⟩ := okA
    have s12 := s1.trans s2
    walk_at "rn"
    refine r_rngI (n := 6) rfl (by decide) ?_
    walk_at "rn"
    refine l_it walk_range (fun D j H3 => H2 D = none ∧ Same H2 H3 ∧ ∃ vs xs, H3 D = some (.lst vs) ∧ Paired (WrAt (off [D] H3)) vs xs ∧ xs.length = j ∧ ∀ x ∈ xs, okW x) (fun D nD => ⟨nD, same_upd nD, [], [], upd_same, .nil, rfl, fun x hx => nomatch hx⟩) (fun _ _ _ _ _ => trivial) (fun D j x H3 H4 hi p y => ?_) (fun six H3 p => ?_)
    · obtain ⟨nD, s3, vs, xs, hD, pr, lx, ox⟩ := p
      obtain ⟨rfl, e⟩ := y
      have e' : x = .int (j : Int) := by rw [e]; exact congrArg V.int (Int.zero_add _)
      subst e'
      walk_at "rn"
      refine ⟨rfl, ?_⟩
      walk_at "rn"
      refine iteT ?_
      walk_at "rn"
      refine n_tup (by show 2 ≤ sizeLine; decide) fun H5 b1 s5 nb1 hb1 => ?_
      walk_at "rn"
      refine n_tup (by show 3 ≤ sizeLine; decide) fun H6 b2 s6 nb2 hb2 => ?_
      have s56 := s5.trans s6
      have n1D : b1 ≠ D := Ne.symm (ne_of_none hD nb1)
      have n2D : b2 ≠ D := Ne.symm (ne_of_none (s5 _ _ hD) nb2)
      have lv := paired_len pr
      refine ⟨vs, s56 _ _ hD, Nat.lt_of_lt_of_le (show vs.length < 6 by omega) (by decide), nD, same_re nD (s3.trans s56), vs ++ [.ref b2], xs ++ [⟨(n + 1 + j) % 32, 1, 0, 1⟩], upd_same, ?_, by rw [List.length_append, List.length_singleton, lx], fun x hx => ?_⟩
      · refine paired_snoc (paired_mono (fun _ _ z => WrAt.same ((off_same s56).trans (off_put (by simp) fun _ h => h)) z) pr) ⟨b2, b1, rfl, off_of ?_ (by simp [n2D]), off_of ?_ (by simp [n1D])⟩
        · rw [upd_ne n2D]; exact hb2
        · rw [upd_ne n1D]; exact s6 _ _ hb1
      · rcases List.mem_append.mp hx with hx | hx
        · exact ox x hx
        · rw [List.mem_singleton.mp hx]
          exact okA
    · obtain ⟨nsix, s3, vs6, sw, hsix, pr6, l6, ok6⟩ := p
      have b0 : BPs H H3 g six l ⟨(n + 1 + far % 31) % 32, 1, 0, 0⟩ sw ws [] := ⟨s12.trans s3, gd.same s3, ⟨vs6, hsix, paired_mono (fun _ _ z => WrAt.same off_sub z) pr6⟩, hw.same (s12.trans s3), fun v hv => nomatch hv⟩
      walk_at "rn"
      refine n_lst (by decide) fun I1 p1 t1 m1 h1 => ?_
      walk_at "rn"
      refine n_tup (by show 2 ≤ sizeLine; decide) fun I2 p2 t2 m2 h2 => ?_
      have b1 := ((b0.same t1).same t2).add h2 (wrNil (t2 _ _ h1)) (by decide) (fun x hx => nomatch hx) (goodPost_house (by omega))
      walk_at "rn"
      refine n_lst (by decide) fun I3 p3 t3 m3 h3 => ?_
      walk_at "rn"
      refine n_tup (by show 2 ≤ sizeLine; decide) fun I4 p4 t4 m4 h4 => ?_
      have b2 := ((b1.same t3).same t4).add h4 (wrNil (t4 _ _ h3)) (by decide) (fun x hx => nomatch hx) (goodPost_house (by omega))
      walk_at "rn"
      refine n_tup (by show 2 ≤ sizeLine; decide) fun I5 p5 t5 m5 h5 => ?_
      have b3 := (b2.same t5).add h5 (b2.same t5).wires lw okws (goodPost_house (by omega))
      walk_at "rn"
      refine n_lst (by decide) fun I6 p6 t6 m6 h6 => ?_
      walk_at "rn"
      refine n_tup (by show 2 ≤ sizeLine; decide) fun I7 p7 t7 m7 h7 => ?_
      have b4 := ((b3.same t6).same t7).add h7 (wrNil (t7 _ _ h6)) (by decide) (fun x hx => nomatch hx) (goodPost_house (by omega))
      walk_at "rn"
      refine n_tup (by show 2 ≤ sizeLine; decide) fun I8 p8 t8 m8 h8 => ?_
      have b5 := (b4.same t8).add h8 (b4.same t8).six (by omega) ok6 (goodPost_len (by omega))
      walk_at "rn"
      refine n_lst (by show 2 ≤ sizeLine; decide) fun I9 p9 t9 m9 h9 => ?_
      walk_at "rn"
      refine n_tup (by show 2 ≤ sizeLine; decide) fun J1 q1 u1 v1 k1 => ?_
      have b6 := ((b5.same t9).same u1).add k1 (wr2 (u1 _ _ h9) ((b5.same t9).same u1).good ((b5.same t9).same u1).good) (by show 2 ≤ 1000; decide) (ok2 og og) (bad_two (.inr (.inl rfl)))
      walk_at "rn"
      refine n_lst (by show 6 ≤ sizeLine; decide) fun J2 q2 u2 v2 k2 => ?_
      have b6 := b6.same u2
      walk_at "rn"
      -- the second three
      walk_at "rn"
      refine n_tup (by show 2 ≤ sizeLine; decide) fun J3 q3 u3 v3 k3 => ?_
      walk_at "rn"
      refine n_tup (by show 3 ≤ sizeLine; decide) fun J4 q4 u4 v4 k4 => ?_
      have w4 : WrAt J4 (.ref q4) ⟨n, 1, 0, 1⟩ := ⟨q4, q3, rfl, k4, u4 _ _ k3⟩
      walk_at "rn"
      refine n_lst (by show 2 ≤ sizeLine; decide) fun J5 q5 u5 v5 k5 => ?_
      walk_at "rn"
      refine n_tup (by show 2 ≤ sizeLine; decide) fun J6 q6 u6 v6 k6 => ?_
      have c6 := (((b6.same u3).same u4).same u5).same u6
      have b7 := c6.add k6 (wr2 (u6 _ _ k5) c6.good ((w4.same u5).same u6)) (by show 2 ≤ 1000; decide) (ok2 og okA) (bad_two (.inr (.inr rfl)))
      walk_at "rn"
      refine n_tup (by show 2 ≤ sizeLine; decide) fun J7 q7 u7 v7 k7 => ?_
      walk_at "rn"
      refine n_tup (by show 3 ≤ sizeLine; decide) fun J8 q8 u8 v8 k8 => ?_
      have w8 : WrAt J8 (.ref q8) ⟨32, 1, 0, 0⟩ := ⟨q8, q7, rfl, k8, u8 _ _ k7⟩
      walk_at "rn"
      refine n_lst (by show 1 ≤ sizeLine; decide) fun J9 q9 u9 v9 k9 => ?_
      walk_at "rn"
      refine n_tup (by show 2 ≤ sizeLine; decide) fun K1 r1 x1 y1 z1 => ?_
      have c8 := (((b7.same u7).same u8).same u9).same x1
      have b8 := c8.add z1 (wr1 (x1 _ _ k9) ((w8.same u9).same x1)) (by show 1 ≤ 1000; decide) (ok1 okA) (bad_one (by decide))
      walk_at "rn"
      refine n_tup (by show 2 ≤ sizeLine; decide) fun K2 r2 x2 y2 z2 => ?_
      walk_at "rn"
      refine n_tup (by show 3 ≤ sizeLine; decide) fun K3 r3 x3 y3 z3 => ?_
      have w9 : WrAt K3 (.ref r3) ⟨-1, 1, 0, 0⟩ := ⟨r3, r2, rfl, z3, x3 _ _ z2⟩
      walk_at "rn"
      refine n_lst (by show 2 ≤ sizeLine; decide) fun K4 r4 x4 y4 z4 => ?_
      walk_at "rn"
      refine n_tup (by show 2 ≤ sizeLine; decide) fun K5 r5 x5 y5 z5 => ?_
      have c9 := (((b8.same x2).same x3).same x4).same x5
      have b9 := c9.add z5 (wr2 (x5 _ _ z4) c9.good ((w9.same x4).same x5)) (by show 2 ≤ 1000; decide) (ok2 og okA) (bad_two (.inl (by decide)))
      walk_at "rn"
      refine n_lst (by show 3 ≤ sizeLine; decide) fun K6 r6 x6 y6 z6 => ?_
      have sJK := ((((((((((((u3.trans u4).trans u5).trans u6).trans u7).trans u8).trans u9).trans x1).trans x2).trans x3).trans x4).trans x5).trans x6)
      walk_at "rn"
      refine n_cat (sJK _ _ k2) z6 (by show 6 + 3 ≤ sizeLine; decide) fun K7 r7 x7 y7 z7 => ?_
      have b9 := (b9.same x6).same x7
      walk_at "rn"
      refine n_tup (by show 2 ≤ sizeLine; decide) fun L1 o1 i1 j1 e1 => ?_
      walk_at "rn"
      refine n_tup (by show 3 ≤ sizeLine; decide) fun L2 o2 i2 j2 e2 => ?_
      have w10 : WrAt L2 (.ref o2) ⟨32 + far, 2, 1, 1⟩ := ⟨o2, o1, rfl, e2, i2 _ _ e1⟩
      walk_at "rn"
      refine n_lst (by show 1 ≤ sizeLine; decide) fun L3 o3 i3 j3 e3 => ?_
      walk_at "rn"
      refine n_tup (by show 2 ≤ sizeLine; decide) fun L4 o4 i4 j4 e4 => ?_
      have c10 := (((b9.same i1).same i2).same i3).same i4
      have b10 := c10.add e4 (wr1 (i4 _ _ e3) ((w10.same i3).same i4)) (by show 1 ≤ 1000; decide) (ok1 okB) (bad_one (by omega))
      walk_at "rn"
      refine n_tup (by show 2 ≤ sizeLine; decide) fun L5 o5 i5 j5 e5 => ?_
      walk_at "rn"
      refine n_tup (by show 3 ≤ sizeLine; decide) fun L6 o6 i6 j6 e6 => ?_
      have w11 : WrAt L6 (.ref o6) ⟨-1 - far, 2, 1, 1⟩ := ⟨o6, o5, rfl, e6, i6 _ _ e5⟩
      walk_at "rn"
      refine n_lst (by show 1 ≤ sizeLine; decide) fun L7 o7 i7 j7 e7 => ?_
      walk_at "rn"
      refine n_tup (by show 2 ≤ sizeLine; decide) fun L8 o8 i8 j8 e8 => ?_
      have c11 := (((b10.same i5).same i6).same i7).same i8
      have b11 := c11.add e8 (wr1 (i8 _ _ e7) ((w11.same i7).same i8)) (by show 1 ≤ 1000; decide) (ok1 okB) (bad_one (by omega))
      walk_at "rn"
      refine n_lst (by show 2 ≤ sizeLine; decide) fun L9 o9 i9 j9 e9 => ?_
      have sKL := ((((((((i1.trans i2).trans i3).trans i4).trans i5).trans i6).trans i7).trans i8).trans i9)
      walk_at "rn"
      refine n_cat (sKL _ _ z7) e9 (by show 9 + 2 ≤ sizeLine; decide) fun M1 o10 i10 j10 e10 => ?_
      have bf := (b11.same i9).same i10
      exact k _ o10 _ bf.s (((b9.s.trans sKL).free j10)) e10 (by show 11 ≤ 1000; decide) bf.bad

end
end K54

namespace K54
open PySem PySem.Spec PyProof.Rows L2
section
variable {P : Program} {w : World} {K : PySem.W.Frag} {mg : Str → Option Value} {base : Heap}
def rIsEx (K : PySem.W.Frag) (a : Addr) (cls : Value) (d : Option Addr) : List V → Hp → VK → Prop := fun xs H Q => ∃ (D : Addr) (c : V) (cv : Value) (b : Bool), cls = .ref D ∧ d = none ∧ ExcC K D ∧ xs = [.ref a, c] ∧ ClsV c cv ∧ PySem.W.kitOne K (.ref D) cv = some b ∧ Q (.bl b) H
def rIsExT (K : PySem.W.Frag) (a : Addr) (cls : Value) (d : Option Addr) : List V → Hp → VK → Prop := fun xs H Q => ∃ (D : Addr) (tp : Addr) (cs : List V) (us : List Value) (b : Bool), cls = .ref D ∧ d = none ∧ ExcC K D ∧ xs = [.ref a, .ref tp] ∧ H tp = some (.tup cs) ∧ Paired ClsV cs us ∧ PySem.W.kitAny K (.ref D) us = some b ∧ Q (.bl b) H
theorem call_isEx {X : Cx} {a : Addr} {cls : Value} {d : Option Addr} {oe : Obj} {pn : List (Addr × Obj)} (hz : Zc cls d oe) (hf : ∃ vs, oe.data = .fields vs) : CallR (X.suite a ((a, oe) :: pn)) (.builtin "isinstance") (rIsEx X.K a cls d) := by
  intro pins s σ H xs us Q I r h
  obtain ⟨D, c, cv, b, rfl, rfl, C, rfl, kc, e, q⟩ := h
  exact call_isE C hz hf pins s σ H _ us Q I r ⟨c, cv, b, rfl, fun u ru => kc.eq ru, e, q⟩
theorem call_isExT {X : Cx} {a : Addr} {cls : Value} {d : Option Addr} {oe : Obj} {pn : List (Addr × Obj)} (hz : Zc cls d oe) (hf : ∃ vs, oe.data = .fields vs) : CallR (X.suite a ((a, oe) :: pn)) (.builtin "isinstance") (rIsExT X.K a cls d) := by
  intro pins s σ H xs us Q I r h
  obtain ⟨D, tp, cs, ws, b, rfl, rfl, C, rfl, hT, kc, e, q⟩ := h
  obtain ⟨u1, u2, rfl, r1, r2⟩ := vals2 r
  cases (show u1 = Value.ref a from r1)
  cases (show u2 = Value.ref tp from r2)
  obtain ⟨_, its, rv, o, h1, h2, n, h3⟩ := (show ObjOk X.prog X.w H s.heap tp (.tup cs) from I.hok tp _ hT)
  have e3 := ClsV.all kc rv
  subst e3
  obtain ⟨oc, od, dt, sl⟩ := o
  simp only at h2 h3
  subst h2 h3
  obtain ⟨hget, _⟩ := I.pin (a, oe) (List.mem_append.mpr (.inl List.mem_cons_self))
  obtain ⟨vs, hv⟩ := hf
  have J : PySem.W.InstAt s.heap a oe D none := by
    obtain ⟨oc, od, oda, osl⟩ := oe
    obtain ⟨h1, h2⟩ := hz
    dsimp only at h1 h2 hv
    subst h1 h2 hv
    exact ⟨hget, rfl, rfl, trivial⟩
  exact PySem.W.kia_tup (PySem.W.handS_kitx_exc C.hg C.hk C.hs C.hd C.ha C.hn C.ht C.hm) I.kIn J h1 e (fun z => nomatch z) fun tk => ⟨.bl b, H, I.kept (t' := tk) fun _ _ z => z, rfl, q⟩
theorem r_isEx {D a C : Addr} {b : Bool} {H : Hp} {Q : VK} (x : ExcC K D) (k : PySem.W.kitOne K (.ref D) (.ref C) = some b) (q : Q (.bl b) H) : rIsEx K a (.ref D) none [.ref a, .ref C] H Q := ⟨D, .ref C, .ref C, b, rfl, rfl, x, rfl, .own C, k, q⟩
theorem r_isExV {D a : Addr} {n : String} {b : Bool} {H : Hp} {Q : VK} (x : ExcC K D) (k : PySem.W.kitOne K (.ref D) (.type n) = some b) (q : Q (.bl b) H) : rIsEx K a (.ref D) none [.ref a, .ty n] H Q := ⟨D, .ty n, .type n, b, rfl, rfl, x, rfl, .ty n, k, q⟩
theorem clsAll : ∀ cs : List Addr, Paired ClsV (cs.map V.ref) (cs.map Value.ref)
  | [] => .nil
  | c :: r => .cons (.own c) (clsAll r)
theorem r_isExT {D a tp : Addr} {cs : List Addr} {b : Bool} {H : Hp} {Q : VK} (x : ExcC K D) (h : H tp = some (.tup (cs.map V.ref))) (k : PySem.W.kitAny K (.ref D) (cs.map Value.ref) = some b) (q : Q (.bl b) H) : rIsExT K a (.ref D) none [.ref a, .ref tp] H Q := ⟨D, tp, _, _, b, rfl, rfl, x, rfl, h, clsAll cs, k, q⟩
theorem any_f {t c : Value} {cs : List Value} {b : Bool} (h : PySem.W.kitOne K t c = some false) (r : PySem.W.kitAny K t cs = some b) : PySem.W.kitAny K t (c :: cs) = some b := L2.kitAny_cons h (fun _ => r) (fun e => nomatch e)
theorem any_t {t c : Value} {cs : List Value} (h : PySem.W.kitOne K t c = some true) : PySem.W.kitAny K t (c :: cs) = some true := L2.kitAny_cons h (fun e => nomatch e) (fun _ => rfl)
theorem sc_law_kinds : FnScope ["post", "way", "thing", "kinds", "e"] ["post", "way", "thing"] (defScope s_law_kinds) := ⟨rfl, rfl, rfl, by decide +kernel, rfl, by decide +kernel, by decide +kernel⟩
theorem okS_law_kinds (T : Txt K mg) (F_Post_take_name : Ok P w K mg base (L2.CX P w) 5 (He.ma K (He.ga K "Post") "take_name") ["self", "name"] (spTakeName K)) (F_Post_drop_name : Ok P w K mg base (L2.CX P w) 5 (He.ma K (He.ga K "Post") "drop_name") ["self", "name"] (spDropName K))
    (F_Post_init : Ok P w K mg base (L2.CX P w) 8 (He.ma K (He.ga K "Post") "__init__") ["self", "number", "wires"] (spPostInit K)) :
    Ok P w K mg base CX0 10 (He.ga K "_law_kinds") ["post", "way", "thing"] (spKinds K) := by
  refine ok_of T.f_law_kinds sc_law_kinds (fun _ _ _ _ _ _ us hl => match us, hl with | [_, _, _], _ => rfl) (fun vs H Q E h => ?_) (fun cdv A outer s H vs Q E hr h => ?_)
  · rcases h with ⟨m, st, z, rfl, _⟩ | ⟨m, st, z, rfl, _⟩ | ⟨p, t, rfl, _⟩
    all_goals rfl
  · refine ⟨_, PSs.nox (pss_cons (ps_set (i := 3) sc_law_kinds.nd rfl (Or.inl rfl) (pe_lst pa_nil))
 (pss_cons (ps_try_as (i := 4) (Wout := fun _ _ _ _ => False) rfl rfl sc_law_kinds.nd rfl rfl ⟨rfl, by decide, Or.inl T.c_PostError⟩ takes0
 (fun W pn xe tk _ => (pss_one (ps_if (pt_cmpR (op_eq) (pv 1) pe_int (nomark _)) (pss_one (ps_expr (pe_methSO (pv 0) T.k_Post T.t_Post_take_name F_Post_take_name (hr.mono (by decide)) (fun σ => passAt tk σ) (pa_cons (pv 2) pa_nil)))) (pss_one (ps_if (pt_cmpR (op_eq) (pv 1) pe_int (nomark _)) (pss_one (ps_expr (pe_methSO (pv 0) T.k_Post T.t_Post_drop_name F_Post_drop_name (hr.mono (by decide)) (fun σ => passAt tk σ) (pa_cons (pv 2) pa_nil)))) (pss_one (ps_expr (pe_makeSO T.m_Post F_Post_init (hr.mono (by decide)) rfl T.c_Post (fun σ => passAt tk σ) (pa_cons (pe_ix (r := rIxT K) ix_tup (pv 2) pe_int (fun _ _ => rfl)) (pa_cons (pe_ix (r := rIxT K) ix_tup (pv 2) pe_int (fun _ _ => rfl)) pa_nil))))))))))
 (fun a oe cls d pn hz hf => (pss_cons (ps_set (i := 3) sc_law_kinds.nd rfl (Or.inl rfl) (pe_lst (pa_cons (pe_callB (r := rIsEx K a cls d) (call_isEx hz hf) (by rfl) T.b_isinstance (by decide +kernel) (pa_cons (pv 4) (pa_cons (pe_gR rfl T.c_BadName) pa_nil))) (pa_cons (pe_callB (r := rIsEx K a cls d) (call_isEx hz hf) (by rfl) T.b_isinstance (by decide +kernel) (pa_cons (pv 4) (pa_cons (pe_gR rfl T.c_BadHouse) pa_nil))) (pa_cons (pe_callB (r := rIsEx K a cls d) (call_isEx hz hf) (by rfl) T.b_isinstance (by decide +kernel) (pa_cons (pv 4) (pa_cons (pe_bltn (v := .ty "ValueError") rfl T.b_ValueError (by decide +kernel) rfl) pa_nil))) pa_nil)))))
 (pss_cons (ps_expr (show PE _ _ (tBM K _ _ _ _) from pe_bm PySem.F.plainAttrs_list PySem.F.slot_list_append PySem.F.type_list_append mt_append (pv 3) (pa_cons (pe_callB (r := rIsExT K a cls d) (call_isExT hz hf) (by rfl) T.b_isinstance (by decide +kernel) (pa_cons (pv 4) (pa_cons (pe_tup (pa_cons (pe_gR rfl T.c_BadCell) (pa_cons (pe_gR rfl T.c_BadFate) (pa_cons (pe_gR rfl T.c_BadLetter) (pa_cons (pe_gR rfl T.c_BadMeasure) (pa_cons (pe_gR rfl T.c_BadModel) (pa_cons (pe_gR rfl T.c_BadNet) (pa_cons (pe_gR rfl T.c_BadNews) (pa_cons (pe_gR rfl T.c_BadPiece) pa_nil))))))))) pa_nil))) pa_nil)))
 (pss_one (ps_if (pt_val (pe_callB (r := rIsExT K a cls d) (call_isExT hz hf) (by rfl) T.b_isinstance (by decide +kernel) (pa_cons (pv 4) (pa_cons (pe_tup (pa_cons (pe_gR rfl T.c_BadSign) (pa_cons (pe_gR rfl T.c_BadText) (pa_cons (pe_gR rfl T.c_NoAsk) (pa_cons (pe_gR rfl T.c_NoLink) (pa_cons (pe_gR rfl T.c_NoStream) pa_nil)))))) pa_nil)))) (pss_one (ps_set (i := 3) sc_law_kinds.nd rfl (Or.inl rfl) (pe_lst (pa_cons pe_bl pa_nil)))) pss_nil))))))
 (pss_one (ps_ret (pv 3))))), ?_⟩
    rcases h with ⟨m, st, z, rfl, ⟨i, q⟩, ln, lz, k1, k2⟩ | ⟨m, st, z, rfl, ⟨i, q⟩, ln, k1, k2⟩ | ⟨p, t, rfl, bt, k⟩
    · walk_at "rd"
      refine ⟨by decide, fun D nD => ?_⟩
      have s1 := same_upd (o := .lst []) nD
      have q1 := q.same s1
      have hD : off m.M (upd H D (.lst [])) D = some (bls []) := off_of upd_same (by simp [PAd.M, Ne.symm (ne_of_none q.obj nD), Ne.symm (ne_of_none q.dic nD), Ne.symm (ne_of_none q.out nD), Ne.symm (ne_of_none q.row nD)])
      walk_at "rd"
      refine if_decT rfl ?_
      walk_at "rd"
      refine r_methAt q1.obj (by kernel_rfl) ?_
      walk_at "rd"
      refine ⟨m, st, z, rfl, ⟨i, q1⟩, ln, lz, fun g H2 ys s2 pm p2 => ?_, fun ng => ?_⟩
      · walk_at "rd"
        exact k1 g H2 ys D ((off_same s1).trans s2) pm p2 (s2 _ _ hD)
      · refine ⟨true, T.p_BadName, fun _ a na => ?_, fun e => nomatch e⟩
        walk_at "rd"
        refine r_isEx (b := true) T.e_BadName.1 T.q_BadName_BadName ?_
        walk_at "rd"
        refine r_isEx (b := false) T.e_BadName.1 T.q_BadName_BadHouse ?_
        walk_at "rd"
        refine r_isExV (b := true) T.e_BadName.1 T.e_BadName.2 ?_
        walk_at "rd"
        refine ⟨by show 3 ≤ sizeLine; decide, fun L nL => ?_⟩
        walk_at "rd"
        refine r_bmL (.of upd_same) ?_
        walk_at "rd"
        refine ⟨by show 8 ≤ sizeLine; decide, fun tp ntp => ?_⟩
        have nLt := ne_of_none upd_same ntp
        walk_at "rd"
        refine r_isExT (cs := [He.ga K "BadCell", He.ga K "BadFate", He.ga K "BadLetter", He.ga K "BadMeasure", He.ga K "BadModel", He.ga K "BadNet", He.ga K "BadNews", He.ga K "BadPiece"]) (b := false) T.e_BadName.1 upd_same (any_f T.q_BadName_BadCell (any_f T.q_BadName_BadFate (any_f T.q_BadName_BadLetter (any_f T.q_BadName_BadMeasure (any_f T.q_BadName_BadModel (any_f T.q_BadName_BadNet (any_f T.q_BadName_BadNews (any_f T.q_BadName_BadPiece L2.kitAny_nil)))))))) ?_
        walk_at "rd"
        refine r_appendR (by rw [upd_ne nLt]; exact upd_same) (by show 3 < sizeLine; decide) ?_
        walk_at "rd"
        refine ⟨by show 5 ≤ sizeLine; decide, fun tq ntq => ?_⟩
        have nLq := ne_of_none upd_same ntq
        walk_at "rd"
        refine r_isExT (cs := [He.ga K "BadSign", He.ga K "BadText", He.ga K "NoAsk", He.ga K "NoLink", He.ga K "NoStream"]) (b := false) T.e_BadName.1 upd_same (any_f T.q_BadName_BadSign (any_f T.q_BadName_BadText (any_f T.q_BadName_NoAsk (any_f T.q_BadName_NoLink (any_f T.q_BadName_NoStream L2.kitAny_nil))))) ?_
        walk_at "rd"
        refine if_bF rfl ?_
        walk_at "rd"
        have sL := same_upd (o := .lst []) nD
        refine k2 ng _ L ?_ ?_ ?_
        · exact ((same_re (sL.free nL) (sL.trans <| sm (same_upd nL) ntp)).trans (same_upd ntq))
        · exact sL.free nL
        · rw [upd_ne nLq]
          exact upd_same
    · walk_at "rd"
      refine ⟨by decide, fun D nD => ?_⟩
      have s1 := same_upd (o := .lst []) nD
      have q1 := q.same s1
      have hD : off m.M (upd H D (.lst [])) D = some (bls []) := off_of upd_same (by simp [PAd.M, Ne.symm (ne_of_none q.obj nD), Ne.symm (ne_of_none q.dic nD), Ne.symm (ne_of_none q.out nD), Ne.symm (ne_of_none q.row nD)])
      walk_at "rd"
      refine if_decF (by decide) ?_
      walk_at "rd"
      refine if_decT rfl ?_
      walk_at "rd"
      refine r_methAt q1.obj (by kernel_rfl) ?_
      walk_at "rd"
      refine ⟨m, st, z, rfl, ⟨i, q1⟩, ln, fun g H2 s2 p2 => ?_, fun ng => ?_⟩
      · walk_at "rd"
        exact k1 g H2 D ((off_same s1).trans s2) p2 (s2 _ _ hD)
      · refine ⟨true, T.p_BadName, fun _ a na => ?_, fun e => nomatch e⟩
        walk_at "rd"
        refine r_isEx (b := true) T.e_BadName.1 T.q_BadName_BadName ?_
        walk_at "rd"
        refine r_isEx (b := false) T.e_BadName.1 T.q_BadName_BadHouse ?_
        walk_at "rd"
        refine r_isExV (b := true) T.e_BadName.1 T.e_BadName.2 ?_
        walk_at "rd"
        refine ⟨by show 3 ≤ sizeLine; decide, fun L nL => ?_⟩
        walk_at "rd"
        refine r_bmL (.of upd_same) ?_
        walk_at "rd"
        refine ⟨by show 8 ≤ sizeLine; decide, fun tp ntp => ?_⟩
        have nLt := ne_of_none upd_same ntp
        walk_at "rd"
        refine r_isExT (cs := [He.ga K "BadCell", He.ga K "BadFate", He.ga K "BadLetter", He.ga K "BadMeasure", He.ga K "BadModel", He.ga K "BadNet", He.ga K "BadNews", He.ga K "BadPiece"]) (b := false) T.e_BadName.1 upd_same (any_f T.q_BadName_BadCell (any_f T.q_BadName_BadFate (any_f T.q_BadName_BadLetter (any_f T.q_BadName_BadMeasure (any_f T.q_BadName_BadModel (any_f T.q_BadName_BadNet (any_f T.q_BadName_BadNews (any_f T.q_BadName_BadPiece L2.kitAny_nil)))))))) ?_
        walk_at "rd"
        refine r_appendR (by rw [upd_ne nLt]; exact upd_same) (by show 3 < sizeLine; decide) ?_
        walk_at "rd"
        refine ⟨by show 5 ≤ sizeLine; decide, fun tq ntq => ?_⟩
        have nLq := ne_of_none upd_same ntq
        walk_at "rd"
        refine r_isExT (cs := [He.ga K "BadSign", He.ga K "BadText", He.ga K "NoAsk", He.ga K "NoLink", He.ga K "NoStream"]) (b := false) T.e_BadName.1 upd_same (any_f T.q_BadName_BadSign (any_f T.q_BadName_BadText (any_f T.q_BadName_NoAsk (any_f T.q_BadName_NoLink (any_f T.q_BadName_NoStream L2.kitAny_nil))))) ?_
        walk_at "rd"
        refine if_bF rfl ?_
        walk_at "rd"
        have sL := same_upd (o := .lst []) nD
        refine k2 ng _ L ?_ ?_ ?_
        · exact ((same_re (sL.free nL) (sL.trans <| sm (same_upd nL) ntp)).trans (same_upd ntq))
        · exact sL.free nL
        · rw [upd_ne nLq]
          exact upd_same
    · walk_at "rd"
      refine ⟨by decide, fun D nD => ?_⟩
      have s1 := same_upd (o := .lst []) nD
      obtain ⟨tt, l, n, ws, rfl, ht, hw, lw, okws, bad⟩ := bt
      walk_at "rd"
      refine if_decF (by decide) ?_
      walk_at "rd"
      refine if_decF (by decide) ?_
      walk_at "rd"
      refine r_ixT (.of (s1 _ _ ht)) (atI_nat (j := 0) rfl) ?_
      walk_at "rd"
      refine r_ixT (.of (s1 _ _ ht)) (atI_nat (j := 1) rfl) ?_
      walk_at "rd"
      intro x dx nx ndx nn
      have s2 : Same H (upd (upd (upd H D (.lst [])) dx (.own x)) x (.ins (He.ga K "Post") dx [])) := (s1.trans (same_upd ndx)).trans (same_upd (by rw [upd_ne (Ne.symm nn)]; exact nx))
      refine ⟨x, dx, l, n, ws, rfl, upd_same, hw.same s2, lw, okws, fun _ H3 s3 => ?_, fun e => by rw [bad] at e; cases e⟩
      refine ⟨true, T.p_BadHouse, fun _ a na => ?_, fun e => nomatch e⟩
      walk_at "rd"
      refine r_isEx (b := false) T.e_BadHouse.1 T.q_BadHouse_BadName ?_
      walk_at "rd"
      refine r_isEx (b := true) T.e_BadHouse.1 T.q_BadHouse_BadHouse ?_
      walk_at "rd"
      refine r_isExV (b := true) T.e_BadHouse.1 T.e_BadHouse.2 ?_
      walk_at "rd"
      refine ⟨by show 3 ≤ sizeLine; decide, fun L nL => ?_⟩
      walk_at "rd"
      refine r_bmL (.of upd_same) ?_
      walk_at "rd"
      refine ⟨by show 8 ≤ sizeLine; decide, fun tp ntp => ?_⟩
      have nLt := ne_of_none upd_same ntp
      walk_at "rd"
      refine r_isExT (cs := [He.ga K "BadCell", He.ga K "BadFate", He.ga K "BadLetter", He.ga K "BadMeasure", He.ga K "BadModel", He.ga K "BadNet", He.ga K "BadNews", He.ga K "BadPiece"]) (b := false) T.e_BadHouse.1 upd_same (any_f T.q_BadHouse_BadCell (any_f T.q_BadHouse_BadFate (any_f T.q_BadHouse_BadLetter (any_f T.q_BadHouse_BadMeasure (any_f T.q_BadHouse_BadModel (any_f T.q_BadHouse_BadNet (any_f T.q_BadHouse_BadNews (any_f T.q_BadHouse_BadPiece L2.kitAny_nil)))))))) ?_
      walk_at "rd"
      refine r_appendR (by rw [upd_ne nLt]; exact upd_same) (by show 3 < sizeLine; decide) ?_
      walk_at "rd"
      refine ⟨by show 5 ≤ sizeLine; decide, fun tq ntq => ?_⟩
      have nLq := ne_of_none upd_same ntq
      walk_at "rd"
      refine r_isExT (cs := [He.ga K "BadSign", He.ga K "BadText", He.ga K "NoAsk", He.ga K "NoLink", He.ga K "NoStream"]) (b := false) T.e_BadHouse.1 upd_same (any_f T.q_BadHouse_BadSign (any_f T.q_BadHouse_BadText (any_f T.q_BadHouse_NoAsk (any_f T.q_BadHouse_NoLink (any_f T.q_BadHouse_NoStream L2.kitAny_nil))))) ?_
      walk_at "rd"
      refine if_bF rfl ?_
      walk_at "rd"
      have sL := s2.trans s3
      refine k _ L ?_ ?_ ?_
      · exact ((same_re (sL.free nL) (sL.trans (sm (same_upd nL) ntp))).trans (same_upd ntq))
      · exact sL.free nL
      · rw [upd_ne nLq]
        exact upd_same
theorem sc_law_post_kinds : FnScope ["post", "goal", "kind", "about", "body", "kinds", "e"] ["post", "goal", "kind", "about", "body"] (defScope s_law_post_kinds) := ⟨rfl, rfl, rfl, by decide +kernel, rfl, by decide +kernel, by decide +kernel⟩
theorem okS_law_post_kinds (T : Txt K mg) (F_Post_post : Ok P w K mg base (L2.CX P w) 5 (He.ma K (He.ga K "Post") "post") ["self", "goal", "kind", "about", "body"] (spPost K)) :
    Ok P w K mg base CX0 6 (He.ga K "_law_post_kinds") ["post", "goal", "kind", "about", "body"] (spPostKinds K) := by
  refine ok_of T.f_law_post_kinds sc_law_post_kinds (fun _ _ _ _ _ _ us hl => match us, hl with | [_, _, _, _, _], _ => rfl) (fun vs H Q E h => ?_) (fun cdv A outer s H vs Q E hr h => ?_)
  · obtain ⟨m, st, goal, kind, a, b, about, body, rfl, _⟩ := h
    rfl
  · obtain ⟨m, st, goal, kind, a, b, about, body, rfl, ⟨i, q⟩, lm, lo, lr, sa, sb, la, lb, wrong, k1, k2⟩ := h
    refine ⟨_, PSs.nox (pss_cons (ps_set (i := 5) sc_law_post_kinds.nd rfl (Or.inl rfl) (pe_lst pa_nil))
 (pss_cons (ps_try_as (i := 6) (Wout := fun _ _ _ _ => False) rfl rfl sc_law_post_kinds.nd rfl rfl ⟨rfl, by decide, Or.inl T.c_PostError⟩ takes0
 (fun W pn xe tk _ => (pss_one (ps_expr (pe_methSO (pv 0) T.k_Post T.t_Post_post F_Post_post (hr.mono (by decide)) (fun σ => passAt tk σ) (pa_cons (pv 1) (pa_cons (pv 2) (pa_cons (pv 3) (pa_cons (pv 4) pa_nil))))))))
 (fun a oe cls d pn hz hf => (pss_cons (ps_set (i := 5) sc_law_post_kinds.nd rfl (Or.inl rfl) (pe_lst (pa_cons (pe_callB (r := rIsEx K a cls d) (call_isEx hz hf) (by rfl) T.b_isinstance (by decide +kernel) (pa_cons (pv 6) (pa_cons (pe_gR rfl T.c_BadHouse) pa_nil))) (pa_cons (pe_callB (r := rIsEx K a cls d) (call_isEx hz hf) (by rfl) T.b_isinstance (by decide +kernel) (pa_cons (pv 6) (pa_cons (pe_gR rfl T.c_BadLetter) pa_nil))) (pa_cons (pe_callB (r := rIsEx K a cls d) (call_isEx hz hf) (by rfl) T.b_isinstance (by decide +kernel) (pa_cons (pv 6) (pa_cons (pe_bltn (v := .ty "ValueError") rfl T.b_ValueError (by decide +kernel) rfl) pa_nil))) pa_nil)))))
 (pss_cons (ps_expr (show PE _ _ (tBM K _ _ _ _) from pe_bm PySem.F.plainAttrs_list PySem.F.slot_list_append PySem.F.type_list_append mt_append (pv 5) (pa_cons (pe_callB (r := rIsExT K a cls d) (call_isExT hz hf) (by rfl) T.b_isinstance (by decide +kernel) (pa_cons (pv 6) (pa_cons (pe_tup (pa_cons (pe_gR rfl T.c_BadCell) (pa_cons (pe_gR rfl T.c_BadFate) (pa_cons (pe_gR rfl T.c_BadMeasure) (pa_cons (pe_gR rfl T.c_BadModel) (pa_cons (pe_gR rfl T.c_BadName) (pa_cons (pe_gR rfl T.c_BadNet) (pa_cons (pe_gR rfl T.c_BadNews) (pa_cons (pe_gR rfl T.c_BadPiece) pa_nil))))))))) pa_nil))) pa_nil)))
 (pss_one (ps_if (pt_val (pe_callB (r := rIsExT K a cls d) (call_isExT hz hf) (by rfl) T.b_isinstance (by decide +kernel) (pa_cons (pv 6) (pa_cons (pe_tup (pa_cons (pe_gR rfl T.c_BadSign) (pa_cons (pe_gR rfl T.c_BadText) (pa_cons (pe_gR rfl T.c_NoAsk) (pa_cons (pe_gR rfl T.c_NoLink) (pa_cons (pe_gR rfl T.c_NoStream) pa_nil)))))) pa_nil)))) (pss_one (ps_set (i := 5) sc_law_post_kinds.nd rfl (Or.inl rfl) (pe_lst (pa_cons pe_bl pa_nil)))) pss_nil))))))
 (pss_one (ps_ret (pv 5))))), ?_⟩
    walk_at "rd"
    refine ⟨by decide, fun D nD => ?_⟩
    have s1 := same_upd (o := .lst []) nD
    have q1 := q.same s1
    walk_at "rd"
    refine r_methAt q1.obj (by kernel_rfl) ?_
    walk_at "rd"
    refine ⟨m, st, i, goal, kind, a, b, about, body, rfl, q1, lm, lo, lr, sa.same (off_same s1), sb.same (off_same s1), la, lb, fun ng H2 s2 => ?_, fun g bl H2 s2 => ?_, fun g nb => absurd (wrong.resolve_left (fun z => z g)) nb, fun g nb => absurd (wrong.resolve_left (fun z => z g)) nb⟩
    · refine ⟨true, T.p_BadHouse, fun _ a na => ?_, fun e => nomatch e⟩
      walk_at "rd"
      refine r_isEx (b := true) T.e_BadHouse.1 T.q_BadHouse_BadHouse ?_
      walk_at "rd"
      refine r_isEx (b := false) T.e_BadHouse.1 T.q_BadHouse_BadLetter ?_
      walk_at "rd"
      refine r_isExV (b := true) T.e_BadHouse.1 T.e_BadHouse.2 ?_
      walk_at "rd"
      refine ⟨by show 3 ≤ sizeLine; decide, fun L nL => ?_⟩
      walk_at "rd"
      refine r_bmL (.of upd_same) ?_
      walk_at "rd"
      refine ⟨by show 8 ≤ sizeLine; decide, fun tp ntp => ?_⟩
      have nLt := ne_of_none upd_same ntp
      walk_at "rd"
      refine r_isExT (cs := [He.ga K "BadCell", He.ga K "BadFate", He.ga K "BadMeasure", He.ga K "BadModel", He.ga K "BadName", He.ga K "BadNet", He.ga K "BadNews", He.ga K "BadPiece"]) (b := false) T.e_BadHouse.1 upd_same (any_f T.q_BadHouse_BadCell (any_f T.q_BadHouse_BadFate (any_f T.q_BadHouse_BadMeasure (any_f T.q_BadHouse_BadModel (any_f T.q_BadHouse_BadName (any_f T.q_BadHouse_BadNet (any_f T.q_BadHouse_BadNews (any_f T.q_BadHouse_BadPiece L2.kitAny_nil)))))))) ?_
      walk_at "rd"
      refine r_appendR (by rw [upd_ne nLt]; exact upd_same) (by show 3 < sizeLine; decide) ?_
      walk_at "rd"
      refine ⟨by show 5 ≤ sizeLine; decide, fun tq ntq => ?_⟩
      have nLq := ne_of_none upd_same ntq
      walk_at "rd"
      refine r_isExT (cs := [He.ga K "BadSign", He.ga K "BadText", He.ga K "NoAsk", He.ga K "NoLink", He.ga K "NoStream"]) (b := false) T.e_BadHouse.1 upd_same (any_f T.q_BadHouse_BadSign (any_f T.q_BadHouse_BadText (any_f T.q_BadHouse_NoAsk (any_f T.q_BadHouse_NoLink (any_f T.q_BadHouse_NoStream L2.kitAny_nil))))) ?_
      walk_at "rd"
      refine if_bF rfl ?_
      walk_at "rd"
      have sL := s1.trans s2
      refine k1 ng _ L ?_ ?_ ?_
      · exact ((same_re (sL.free nL) (sL.trans (sm (same_upd nL) ntp))).trans (same_upd ntq))
      · exact sL.free nL
      · rw [upd_ne nLq]
        exact upd_same
    · refine ⟨true, T.p_BadLetter, fun _ a na => ?_, fun e => nomatch e⟩
      walk_at "rd"
      refine r_isEx (b := false) T.e_BadLetter.1 T.q_BadLetter_BadHouse ?_
      walk_at "rd"
      refine r_isEx (b := true) T.e_BadLetter.1 T.q_BadLetter_BadLetter ?_
      walk_at "rd"
      refine r_isExV (b := true) T.e_BadLetter.1 T.e_BadLetter.2 ?_
      walk_at "rd"
      refine ⟨by show 3 ≤ sizeLine; decide, fun L nL => ?_⟩
      walk_at "rd"
      refine r_bmL (.of upd_same) ?_
      walk_at "rd"
      refine ⟨by show 8 ≤ sizeLine; decide, fun tp ntp => ?_⟩
      have nLt := ne_of_none upd_same ntp
      walk_at "rd"
      refine r_isExT (cs := [He.ga K "BadCell", He.ga K "BadFate", He.ga K "BadMeasure", He.ga K "BadModel", He.ga K "BadName", He.ga K "BadNet", He.ga K "BadNews", He.ga K "BadPiece"]) (b := false) T.e_BadLetter.1 upd_same (any_f T.q_BadLetter_BadCell (any_f T.q_BadLetter_BadFate (any_f T.q_BadLetter_BadMeasure (any_f T.q_BadLetter_BadModel (any_f T.q_BadLetter_BadName (any_f T.q_BadLetter_BadNet (any_f T.q_BadLetter_BadNews (any_f T.q_BadLetter_BadPiece L2.kitAny_nil)))))))) ?_
      walk_at "rd"
      refine r_appendR (by rw [upd_ne nLt]; exact upd_same) (by show 3 < sizeLine; decide) ?_
      walk_at "rd"
      refine ⟨by show 5 ≤ sizeLine; decide, fun tq ntq => ?_⟩
      have nLq := ne_of_none upd_same ntq
      walk_at "rd"
      refine r_isExT (cs := [He.ga K "BadSign", He.ga K "BadText", He.ga K "NoAsk", He.ga K "NoLink", He.ga K "NoStream"]) (b := false) T.e_BadLetter.1 upd_same (any_f T.q_BadLetter_BadSign (any_f T.q_BadLetter_BadText (any_f T.q_BadLetter_NoAsk (any_f T.q_BadLetter_NoLink (any_f T.q_BadLetter_NoStream L2.kitAny_nil))))) ?_
      walk_at "rd"
      refine if_bF rfl ?_
      walk_at "rd"
      have sL := s1.trans s2
      refine k2 g _ L ?_ ?_ ?_
      · exact ((same_re (sL.free nL) (sL.trans (sm (same_upd nL) ntp))).trans (same_upd ntq))
      · exact sL.free nL
      · rw [upd_ne nLq]
        exact upd_same

end
end K54

namespace K54
open PySem PySem.Spec PyProof.Rows L2
section
variable {P : Program} {w : World} {K : PySem.W.Frag} {mg : Str → Option Value} {base : Heap}
-- USE_RN
theorem PostIn.nM {H : Hp} {m : PAd} {st : PSt} {i : PIn} (q : PostIn K H m st i) {a : Addr} (h : H a = none) : a ∉ m.M := by
  simp [PAd.M, Ne.symm (ne_of_none q.obj h), Ne.symm (ne_of_none q.dic h), Ne.symm (ne_of_none q.out h), Ne.symm (ne_of_none q.row h)]
theorem r_addI {i j : Int} {H : Hp} {Q : VK} (q : Q (.int (i + j)) H) : rI0 (fun i j => .int (i + j)) (.int i) (.int j) H Q := r_I0 q
theorem sqI_len {H : Hp} {a : Addr} {ns : List Int} (h : SqI K H a ns) : True := trivial
/-- four answers against four -/
theorem dp_bls {H : Hp} {a : Addr} {bs : List Bool} (h : H a = some (bls bs)) : Dp K H (.ref a) (.list (bs.map PyData.bool)) := .lst (.of h) (dpAll_bls bs)
theorem r_ne4 {H : Hp} {Q : VK} {a b : Addr} {bs : List Bool} (ha : H a = some (bls bs)) (hb : H b = some (bls bs)) (s : SeqAt.shaped (.list (bs.map PyData.bool)) = true) (e : PyData.eqv (.list (bs.map PyData.bool)) (.list (bs.map PyData.bool)) = true) (q : Q (.bl false) H) : rNeD K (.ref a) (.ref b) H Q :=
  r_neD (dp_bls ha) (dp_bls hb) s s (by rw [e]; exact q)
/-- a letter that is bad, in a tuple -/
def BadLt (K : PySem.W.Frag) (H : Hp) (v : V) : Prop := ∃ (t : Addr) (kind : Str) (a b : Addr) (about body : List Int), v = .ref t ∧ H t = some (.tup [.str kind, .ref a, .ref b]) ∧ SqI K H a about ∧ SqI K H b body ∧ about.length ≤ 1000 ∧ body.length ≤ 1000 ∧ badLet kind about body
theorem BadLt.same {H H' : Hp} (s : Same H H') {v : V} (h : BadLt K H v) : BadLt K H' v := by
  obtain ⟨t, kind, a, b, about, body, e, h1, h2, h3, h4⟩ := h
  exact ⟨t, kind, a, b, about, body, e, s _ _ h1, h2.same s, h3.same s, h4⟩
theorem okL_about {kind : Str} {about body : List Int} (h : 4 < about.length) : okLetter kind about body = false := by
  unfold okLetter
  rw [decide_eq_false (p := about.length ≤ 4) (by omega), Bool.false_and, Bool.and_false]
theorem okL_body {kind : Str} {about body : List Int} (h : 56 < body.length) : okLetter kind about body = false := by
  unfold okLetter
  rw [decide_eq_false (p := body.length ≤ 56) (by omega), Bool.false_and, Bool.and_false, Bool.and_false]
theorem okL_kind {kind : Str} {about body : List Int} (h : decide (kind ∈ kindsL) = false) : okLetter kind about body = false := by
  unfold okLetter
  rw [h, Bool.false_and]
theorem okL_sa {kind : Str} {about body : List Int} (h : about.all isSign = false) : okLetter kind about body = false := by
  unfold okLetter
  rw [h, Bool.false_and, Bool.and_false, Bool.and_false, Bool.and_false]
theorem okL_sb {kind : Str} {about body : List Int} (h : body.all isSign = false) : okLetter kind about body = false := by
  unfold okLetter
  rw [h, Bool.and_false, Bool.and_false, Bool.and_false, Bool.and_false]
theorem okL_ok {kind : Str} {about body : List Int} (h1 : decide (kind ∈ kindsL) = true) (h2 : about.length ≤ 4) (h3 : body.length ≤ 56) (h4 : about.all isSign = true) (h5 : body.all isSign = true) : okLetter kind about body = true := by
  unfold okLetter
  rw [h1, decide_eq_true h2, decide_eq_true h3, h4, h5]
  rfl
theorem all_repI {g : Int} (h : isSign g = true) : ∀ n : Nat, (List.replicate n g).all isSign = true
  | 0 => rfl
  | n + 1 => by rw [List.replicate_succ, List.all_cons, h, all_repI h n]; rfl
theorem flat_one {v : V} : ∀ n : Nat, (List.replicate n [v]).flatten = List.replicate n v
  | 0 => rfl
  | n + 1 => by rw [List.replicate_succ, List.flatten_cons, flat_one n, List.replicate_succ]; rfl
theorem rep_int (n : Nat) (g : Int) : List.replicate n (V.int g) = (List.replicate n g).map V.int := (List.map_replicate ..).symm
theorem at2 {α : Type} {a b : α} {i : Int} (h : i = 0 ∨ i = 1) : ∃ z, atI [a, b] i = some z ∧ (z = a ∨ z = b) := by
  rcases h with rfl | rfl
  · exact ⟨a, rfl, .inl rfl⟩
  · exact ⟨b, rfl, .inr rfl⟩
theorem at4 {α : Type} {a b c d : α} {i : Int} (h : i = 0 ∨ i = 1 ∨ i = 2 ∨ i = 3) : ∃ z, atI [a, b, c, d] i = some z ∧ (z = a ∨ z = b ∨ z = c ∨ z = d) := by
  rcases h with rfl | rfl | rfl | rfl
  · exact ⟨a, rfl, .inl rfl⟩
  · exact ⟨b, rfl, .inr (.inl rfl)⟩
  · exact ⟨c, rfl, .inr (.inr (.inl rfl))⟩
  · exact ⟨d, rfl, .inr (.inr (.inr rfl))⟩
theorem n_rep {H : Hp} {Q : VK} {a : Addr} {v : V} {k : Int} (h : H a = some (.lst [v])) (h0 : 0 ≤ k) (h1 : k ≤ 1000) (q : ∀ H' p, Same H H' → H p = none → H' p = some (.lst (List.replicate k.toNat v)) → Q (.ref p) H') : rRep (.ref a) (.int k) H Q :=
  ⟨a, k, [v], rfl, rfl, h, by omega, by omega, by rw [List.length_singleton, Nat.one_mul]; exact Nat.le_trans (show k.toNat ≤ 1000 by omega) (by decide), fun p n => by
    rw [flat_one]
    exact q _ p (same_upd n) n upd_same⟩
structure GLs (K : PySem.W.Frag) (M : List Addr) (Hc : Hp) (gl : Addr) (gs : List Int) (L : List V) : Prop where
  good : off M Hc gl = some (.lst (gs.map V.int))
  bad : ∀ v ∈ L, BadLt K (off M Hc) v
theorem GLs.same {M : List Addr} {H H' : Hp} {gl : Addr} {gs : List Int} {L : List V} (b : GLs K M H gl gs L) (s : Same H H') : GLs K M H' gl gs L := ⟨off_same s _ _ b.good, fun v hv => (b.bad v hv).same (off_same s)⟩
theorem GLs.add {M : List Addr} {H : Hp} {gl t a b : Addr} {gs : List Int} {L : List V} {kind : Str} {about body : List Int} (g : GLs K M H gl gs L) (h : H t = some (.tup [.str kind, .ref a, .ref b])) (nt : t ∉ M) (h1 : SqI K (off M H) a about) (h2 : SqI K (off M H) b body) (l1 : about.length ≤ 1000) (l2 : body.length ≤ 1000) (bl : badLet kind about body) : GLs K M H gl gs (L ++ [.ref t]) :=
  ⟨g.good, fun v hv => (List.mem_append.mp hv).elim (g.bad v) fun z => by rw [List.mem_singleton.mp z]; exact ⟨t, kind, a, b, about, body, rfl, off_of h nt, h1, h2, l1, l2, bl⟩⟩
theorem sqi_tup {M : List Addr} {H : Hp} {a : Addr} {ns : List Int} (h : H a = some (.tup (ns.map V.int))) (n : a ∉ M) : SqI K (off M H) a ns := .inr (.of (off_of h n))
theorem sqi_lst {M : List Addr} {H : Hp} {a : Addr} {ns : List Int} (h : H a = some (.lst (ns.map V.int))) (n : a ∉ M) : SqI K (off M H) a ns := .inl (.of (off_of h n))
theorem sc_law_posts_refused : FnScope ["post", "cell", "far", "goal", "house", "odd", "good", "some", "kind", "about", "body", "other"] ["post", "cell"] (defScope s_law_posts_refused) := ⟨rfl, rfl, rfl, by decide +kernel, rfl, by decide +kernel, by decide +kernel⟩
theorem okS_law_posts_refused (T : Txt K mg) (F_Post_number : Ok P w K mg base CX0 1 (He.ma K (He.ga K "Post") "number") ["self"] (spNumber K)) (F_law_post_kinds : Ok P w K mg base CX0 6 (He.ga K "_law_post_kinds") ["post", "goal", "kind", "about", "body"] (spPostKinds K))
    (F_Post_post : Ok P w K mg base (L2.CX P w) 5 (He.ma K (He.ga K "Post") "post") ["self", "goal", "kind", "about", "body"] (spPost K)) :
    Ok P w K mg base CX0 7 (He.ga K "_law_posts_refused") ["post", "cell"] (spRefused K) := by
  refine ok_of T.f_law_posts_refused sc_law_posts_refused (fun _ _ _ _ _ _ us hl => match us, hl with | [_, _], _ => rfl) (fun vs H Q E h => ?_) (fun cdv A outer s H vs Q E hr h => ?_)
  · obtain ⟨m, st, c, rfl, _⟩ := h
    rfl
  · obtain ⟨m, st, c, rfl, c0, ⟨i, q⟩, lm, lo, lr, k⟩ := h
    refine ⟨_, PSs.nox (pss_cons (ps_set (i := 2) sc_law_posts_refused.nd rfl (Or.inl rfl) (pe_op op_mod (pe_op op_fdiv (pv 1) pe_int) (pe_op op_pow pe_int pe_int)))
 (pss_cons (ps_set (i := 3) sc_law_posts_refused.nd rfl (Or.inl rfl) (pe_ix ix_list (pe_lst (pa_cons (pe_meth0O (pv 0) T.k_Post T.t_Post_number F_Post_number (hr.mono (by decide)) pass0) (pa_cons (pe_op op_mod (pe_op op_add (pe_op op_add (pe_meth0O (pv 0) T.k_Post T.t_Post_number F_Post_number (hr.mono (by decide)) pass0) pe_int) (pe_op op_mod (pv 2) pe_int)) pe_int) pa_nil))) (pe_op op_mod (pv 1) pe_int) (fun _ _ => rfl)))
 (pss_cons (ps_for PassesOwn.never rfl (pi_list (pe_lst (pa_cons (pe_un un_neg pe_int) (pa_cons pe_int (pa_cons (pe_op op_add pe_int (pv 2)) (pa_cons (pe_op op_sub (pe_un un_neg pe_int) (pv 2)) pa_nil)))))) (pg_name (i := 4) sc_law_posts_refused.nd rfl (Or.inl rfl)) (pss_one (ps_if (pt_cmpR (op_neD hr.units) (pe_callO F_law_post_kinds (hr.mono (by decide)) rfl T.g_law_post_kinds pass0 (pa_cons (pv 0) (pa_cons (pv 4) (pa_cons (pe_ix ix_list (pe_lst (pa_cons pe_str (pa_cons pe_str pa_nil))) (pe_op op_mod (pe_op op_fdiv (pv 1) pe_int) pe_int) (fun _ _ => rfl)) (pa_cons (pe_tup (pa_cons pe_int pa_nil)) (pa_cons (pe_tup (pa_cons pe_int (pa_cons pe_int pa_nil))) pa_nil)))))) (pe_lst (pa_cons pe_bl (pa_cons pe_bl (pa_cons pe_bl (pa_cons pe_bl pa_nil))))) (nomark _)) (pss_one (ps_ret pe_bl)) pss_nil)))
 (pss_cons (ps_set (i := 5) sc_law_posts_refused.nd rfl (Or.inl rfl) (pe_ix ix_list (pe_lst (pa_cons pe_int (pa_cons (pe_un un_neg pe_int) (pa_cons (pe_op op_add pe_int (pv 2)) (pa_cons (pe_op op_sub (pe_un un_neg pe_int) (pv 2)) pa_nil))))) (pe_op op_mod (pe_op op_fdiv (pv 1) pe_int) pe_int) (fun _ _ => rfl)))
 (pss_cons (ps_set (i := 6) sc_law_posts_refused.nd rfl (Or.inl rfl) (pe_op op_rep (pe_lst (pa_cons (pe_op op_mod (pe_op op_fdiv (pv 1) pe_int) pe_int) pa_nil)) (pe_op op_mod (pe_op op_fdiv (pv 1) pe_int) pe_int)))
 (pss_cons (ps_set (i := 7) sc_law_posts_refused.nd rfl (Or.inl rfl) (pe_lst (pa_cons (pe_tup (pa_cons pe_str (pa_cons (pe_tup (pa_cons pe_int pa_nil)) (pa_cons (pv 6) pa_nil)))) (pa_cons (pe_tup (pa_cons pe_str (pa_cons (pe_tup pa_nil) (pa_cons (pv 6) pa_nil)))) (pa_cons (pe_tup (pa_cons pe_str (pa_cons (pe_tup (pa_cons pe_int pa_nil)) (pa_cons (pv 6) pa_nil)))) (pa_cons (pe_tup (pa_cons pe_str (pa_cons (pe_tup (pa_cons pe_int (pa_cons pe_int (pa_cons pe_int (pa_cons pe_int (pa_cons pe_int pa_nil)))))) (pa_cons (pv 6) pa_nil)))) pa_nil))))))
 (pss_cons (ps_set (i := 7) sc_law_posts_refused.nd rfl (Or.inl rfl) (pe_op op_cat (pv 7) (pe_lst (pa_cons (pe_tup (pa_cons pe_str (pa_cons (pe_tup (pa_cons pe_int pa_nil)) (pa_cons (pe_op op_cat (pv 6) (pe_op op_rep (pe_lst (pa_cons pe_int pa_nil)) (pe_op op_sub pe_int (pe_callB (call_lenR) (by rfl) T.b_len (by decide +kernel) (pa_cons (pv 6) pa_nil))))) pa_nil)))) (pa_cons (pe_tup (pa_cons pe_str (pa_cons (pe_tup (pa_cons (pv 5) pa_nil)) (pa_cons (pv 6) pa_nil)))) (pa_cons (pe_tup (pa_cons pe_str (pa_cons (pe_tup pa_nil) (pa_cons (pe_op op_cat (pv 6) (pe_lst (pa_cons (pv 5) pa_nil))) pa_nil)))) pa_nil))))))
 (pss_cons (ps_for PassesOwn.never rfl (pi_list (pv 7)) (pg_tup rfl (pgs_cons (pg_name (i := 8) sc_law_posts_refused.nd rfl (Or.inl rfl)) (pgs_cons (pg_name (i := 9) sc_law_posts_refused.nd rfl (Or.inl rfl)) (pgs_cons (pg_name (i := 10) sc_law_posts_refused.nd rfl (Or.inl rfl)) pgs_nil))) (by rfl)) (pss_one (ps_if (pt_cmpR (op_neD hr.units) (pe_callO F_law_post_kinds (hr.mono (by decide)) rfl T.g_law_post_kinds pass0 (pa_cons (pv 0) (pa_cons (pv 3) (pa_cons (pv 8) (pa_cons (pv 9) (pa_cons (pv 10) pa_nil)))))) (pe_lst (pa_cons pe_bl (pa_cons pe_bl (pa_cons pe_bl (pa_cons pe_bl pa_nil))))) (nomark _)) (pss_one (ps_ret pe_bl)) pss_nil)))
 (pss_cons (ps_set (i := 11) sc_law_posts_refused.nd rfl (Or.inl rfl) (pe_op op_mod (pe_op op_add (pe_op op_add (pe_meth0O (pv 0) T.k_Post T.t_Post_number F_Post_number (hr.mono (by decide)) pass0) pe_int) (pe_op op_mod (pv 2) pe_int)) pe_int))
 (pss_one (ps_ret (pe_cmpR (op_isNon) (pe_methO (pv 0) T.k_Post T.t_Post_post F_Post_post (hr.mono (by decide)) passL (pa_cons (pv 11) (pa_cons pe_str (pa_cons (pe_tup (pa_cons pe_int pa_nil)) (pa_cons (pe_callTy (call_tupR) (by rfl) T.b_tuple (by decide +kernel) (pa_cons (pv 6) pa_nil)) pa_nil))))) pe_non (nomark _))))))))))))), ?_⟩
    walk_at "rn"
    generalize efar : c / 7 % 10000000000000000000000000000000000000000 = far
    have f0 : 0 ≤ far := by omega
    have b0 := q.b0
    walk_at "rn"
    refine r_methAt q.obj (by kernel_rfl) ?_
    walk_at "rn"
    refine ⟨m, st, rfl, ⟨i, q⟩, ?_⟩
    walk_at "rn"
    refine r_methAt q.obj (by kernel_rfl) ?_
    walk_at "rn"
    refine ⟨m, st, rfl, ⟨i, q⟩, ?_⟩
    walk_at "rn"
    refine n_lst (by show 2 ≤ sizeLine; decide) fun H1 p1 s1 n1 h1 => ?_
    walk_at "rn"
    obtain ⟨goal, eg, hg⟩ := at2 (a := V.int st.own) (b := V.int ((st.own + 1 + far % 31) % 32)) (i := c % 2) (by omega)
    have hg2 : ∃ g : Int, goal = .int g ∧ 0 ≤ g ∧ g ≤ 31 := by
      rcases hg with rfl | rfl
      · exact ⟨_, rfl, b0.1, b0.2⟩
      · exact ⟨_, rfl, by omega, by omega⟩
    obtain ⟨g, rfl, hg0, hg1⟩ := hg2
    walk_at "rn"
    refine r_ixL (.of h1) eg ?_
    walk_at "rn"
    refine n_lst (by show 4 ≤ sizeLine; decide) fun H2 p2 s2 n2 h2 => ?_
    have s12 := s1.trans s2
    walk_at "rn"
    refine r_iL (.of h2) ?_
    walk_at "rn"
    refine f_list (xs := [V.int (-1), .int 32, .int (32 + far), .int (-1 - far)]) (fun j σ H3 => (∃ a b d e x y z u, σ = [some (.ref m.p), some (.int c), some (.int far), some (.int g), a, b, d, e, x, y, z, u]) ∧ Same H2 H3) ⟨⟨_, _, _, _, _, _, _, _, rfl⟩, Same.refl _⟩ (fun j σ H3 _ p => .of (p.2 _ _ h2)) (fun j x σ H3 hx p => ?_) (fun σ H3 p => ?_)
    · obtain ⟨⟨a, b, d, e, x1, y, z, u, rfl⟩, s3⟩ := p
      have hb : ∃ h : Int, x = .int h ∧ ¬ (0 ≤ h ∧ h ≤ 31) := by
        have hm := List.mem_of_getElem? hx
        simp only [List.mem_cons, List.not_mem_nil, or_false] at hm
        rcases hm with rfl | rfl | rfl | rfl
        · exact ⟨_, rfl, by omega⟩
        · exact ⟨_, rfl, by omega⟩
        · exact ⟨_, rfl, by omega⟩
        · exact ⟨_, rfl, by omega⟩
      obtain ⟨hh, rfl, hbad⟩ := hb
      have s123 := s12.trans s3
      walk_at "rn"
      refine n_lst (by show 2 ≤ sizeLine; decide) fun H4 p4 s4 n4 h4 => ?_
      walk_at "rn"
      obtain ⟨kd, ek, hk⟩ := at2 (a := V.str "part") (b := V.str "none") (i := c / 3 % 2) (by omega)
      have hk2 : ∃ z : Str, kd = .str z := by
        rcases hk with rfl | rfl
        · exact ⟨_, rfl⟩
        · exact ⟨_, rfl⟩
      obtain ⟨kz, rfl⟩ := hk2
      walk_at "rn"
      refine r_ixL (.of h4) ek ?_
      walk_at "rn"
      refine n_tup (by show 1 ≤ sizeLine; decide) fun H5 p5 s5 n5 h5 => ?_
      walk_at "rn"
      refine n_tup (by show 2 ≤ sizeLine; decide) fun H6 p6 s6 n6 h6 => ?_
      have sH6 := s123.trans ((s4.trans s5).trans s6)
      have q6 := q.same sH6
      walk_at "rn"
      refine ⟨m, st, hh, kz, p5, p6, [1], [1, 2], rfl, ⟨i, q6⟩, lm, lo, lr, .inr (q6.sqT (.of (s6 _ _ h5))), .inr (q6.sqT (.of h6)), by show 1 ≤ 1000; decide, by show 2 ≤ 1000; decide, .inl hbad, fun _ H7 l7 s7 nl7 h7 => ?_, fun hg => absurd hg hbad⟩
      walk_at "rn"
      refine n_lst (by show 4 ≤ sizeLine; decide) fun H8 p8 s8 n8 h8 => ?_
      walk_at "rn"
      refine r_ne4 (bs := [true, false, true, false]) (s8 _ _ h7) h8 rfl (by kernel_rfl) ?_
      walk_at "rn"
      refine if_bF rfl ?_
      walk_at "rn"
      exact ⟨⟨_, _, _, _, _, _, _, _, rfl⟩, s3.trans ((((s4.trans s5).trans s6).trans s7).trans s8)⟩
    · obtain ⟨⟨a, b, d, e, x1, y, z, u, rfl⟩, s3⟩ := p
      have s123 := s12.trans s3
      walk_at "rn"
      refine n_lst (by show 4 ≤ sizeLine; decide) fun H4 p4 s4 n4 h4 => ?_
      walk_at "rn"
      obtain ⟨od, eo, ho⟩ := at4 (a := V.int 97) (b := V.int (-1)) (c := V.int (97 + far)) (d := V.int (-1 - far)) (i := c / 5 % 4) (by omega)
      have ho2 : ∃ z : Int, od = .int z ∧ isSign z = false := by
        rcases ho with rfl | rfl | rfl | rfl
        · exact ⟨_, rfl, decide_eq_false (by omega)⟩
        · exact ⟨_, rfl, decide_eq_false (by omega)⟩
        · exact ⟨_, rfl, decide_eq_false (by omega)⟩
        · exact ⟨_, rfl, decide_eq_false (by omega)⟩
      obtain ⟨odd, rfl, hodd⟩ := ho2
      walk_at "rn"
      refine r_ixL (.of h4) eo ?_
      have S4 := s123.trans s4
      generalize eg0 : c / 11 % 97 = g0
      have bg0 : isSign g0 = true := decide_eq_true (by omega)
      generalize en0 : c / 13 % 56 = n0
      have bn0 : 0 ≤ n0 ∧ n0 ≤ 55 := by omega
      have fr : ∀ {Hk : Hp} {p : Addr}, Same H Hk → Hk p = none → p ∉ m.M := fun {Hk p} s n => q.nM (s.free n)
      walk_at "rn"
      rw [eg0]
      walk_at "rn"
      refine n_lst (by show 1 ≤ sizeLine; decide) fun I1 a1 t1 m1 k1 => ?_
      walk_at "rn"
      rw [en0]
      walk_at "rn"
      refine n_rep k1 bn0.1 (by omega) fun I2 gl t2 m2 k2 => ?_
      have S6 := (S4.trans t1).trans t2
      rw [rep_int] at k2
      have lg : (List.replicate n0.toNat g0).length = n0.toNat := List.length_replicate
      have G0 : GLs K m.M I2 gl (List.replicate n0.toNat g0) [] := ⟨off_of k2 (fr (S4.trans t1) m2), fun v hv => nomatch hv⟩
      have oka := all_repI bg0 n0.toNat
      generalize List.replicate n0.toNat g0 = gs at k2 lg G0 oka
      have lg1 : gs.length ≤ 1000 := by omega
      -- the first four
      walk_at "rn"
      refine n_tup (by show 1 ≤ sizeLine; decide) fun I3 a3 t3 m3 k3 => ?_
      walk_at "rn"
      refine n_tup (by show 3 ≤ sizeLine; decide) fun I4 a4 t4 m4 k4 => ?_
      have S7 := S6.trans t3
      have S8 := S7.trans t4
      have G1 := ((G0.same t3).same t4).add (about := [1]) (body := gs) k4 (fr S7 m4) (sqi_tup (t4 _ _ k3) (fr S6 m3)) (.inl (.of ((G0.same t3).same t4).good)) (by show 1 ≤ 1000; decide) lg1 (.inr rfl)
      walk_at "rn"
      refine n_tup (by decide) fun I5 a5 t5 m5 k5 => ?_
      walk_at "rn"
      refine n_tup (by show 3 ≤ sizeLine; decide) fun I6 a6 t6 m6 k6 => ?_
      have S9 := S8.trans t5
      have S10 := S9.trans t6
      have G2 := ((G1.same t5).same t6).add (about := []) (body := gs) k6 (fr S9 m6) (sqi_tup (t6 _ _ k5) (fr S8 m5)) (.inl (.of ((G1.same t5).same t6).good)) (by decide) lg1 (.inl (okL_kind (by decide +kernel)))
      walk_at "rn"
      refine n_tup (by show 1 ≤ sizeLine; decide) fun I7 a7 t7 m7 k7 => ?_
      walk_at "rn"
      refine n_tup (by show 3 ≤ sizeLine; decide) fun I8 a8 t8 m8 k8 => ?_
      have S11 := S10.trans t7
      have S12 := S11.trans t8
      have G3 := ((G2.same t7).same t8).add (about := [2]) (body := gs) k8 (fr S11 m8) (sqi_tup (t8 _ _ k7) (fr S10 m7)) (.inl (.of ((G2.same t7).same t8).good)) (by show 1 ≤ 1000; decide) lg1 (.inl (okL_kind (by decide +kernel)))
      walk_at "rn"
      refine n_tup (by show 5 ≤ sizeLine; decide) fun I9 a9 t9 m9 k9 => ?_
      walk_at "rn"
      refine n_tup (by show 3 ≤ sizeLine; decide) fun J1 b1 u1 v1 w1 => ?_
      have S13 := S12.trans t9
      have S14 := S13.trans u1
      have G4 := ((G3.same t9).same u1).add (about := [1, 2, 3, 4, 5]) (body := gs) w1 (fr S13 v1) (sqi_tup (u1 _ _ k9) (fr S12 m9)) (.inl (.of ((G3.same t9).same u1).good)) (by show 5 ≤ 1000; decide) lg1 (.inl (okL_about (by show 4 < 5; decide)))
      walk_at "rn"
      refine n_lst (by show 4 ≤ sizeLine; decide) fun J2 b2 u2 v2 w2 => ?_
      have S15 := S14.trans u2
      walk_at "rn"
      -- the other three
      walk_at "rn"
      refine n_tup (by show 1 ≤ sizeLine; decide) fun J3 b3 u3 v3 w3 => ?_
      walk_at "rn"
      refine n_lst (by show 1 ≤ sizeLine; decide) fun J4 b4 u4 v4 w4 => ?_
      have S16 := S15.trans u3
      have S17 := S16.trans u4
      have gg := off_get (((G4.same u2).same u3).same u4).good
      walk_at "rn"
      refine r_lenL (.of gg) ?_
      rw [List.length_map]
      walk_at "rn"
      refine n_rep w4 (by omega) (by omega) fun J5 b5 u5 v5 w5 => ?_
      rw [rep_int] at w5
      have S18 := S17.trans u5
      have e57 : (List.replicate (57 - (gs.length : Int)).toNat (1 : Int)).length = 57 - gs.length := by
        rw [List.length_replicate]
        omega
      generalize List.replicate (57 - (gs.length : Int)).toNat (1 : Int) = fs at w5 e57
      walk_at "rn"
      refine n_cat (u5 _ _ gg) w5 (by rw [List.length_map, List.length_map]; exact Nat.le_trans (show gs.length + fs.length ≤ 57 by omega) (by decide)) fun J6 b6 u6 v6 w6 => ?_
      rw [← List.map_append] at w6
      have S19 := S18.trans u6
      walk_at "rn"
      refine n_tup (by show 3 ≤ sizeLine; decide) fun J7 b7 u7 v7 w7 => ?_
      have S20 := S19.trans u7
      have G5' := ((((G4.same u2).same u3).same u4).same u5).same u6
      have G5 := (G5'.same u7).add (about := [1]) (body := gs ++ fs) w7 (fr S19 v7) (sqi_tup ((((u4.trans u5).trans u6).trans u7) _ _ w3) (fr S15 v3)) (sqi_lst (u7 _ _ w6) (fr S18 v6)) (by show 1 ≤ 1000; decide) (by rw [List.length_append]; omega) (.inl (okL_body (by rw [List.length_append]; omega)))
      walk_at "rn"
      refine n_tup (by show 1 ≤ sizeLine; decide) fun J8 b8 u8 v8 w8 => ?_
      walk_at "rn"
      refine n_tup (by show 3 ≤ sizeLine; decide) fun J9 b9 u9 v9 w9 => ?_
      have S21 := S20.trans u8
      have S22 := S21.trans u9
      have G6 := ((G5.same u8).same u9).add (about := [odd]) (body := gs) w9 (fr S21 v9) (sqi_tup (u9 _ _ w8) (fr S20 v8)) (.inl (.of ((G5.same u8).same u9).good)) (by show 1 ≤ 1000; decide) lg1 (.inl (okL_sa (by show (isSign odd && true) = false; rw [hodd]; rfl)))
      walk_at "rn"
      refine n_tup (by decide) fun K1 d1 x1 y1 z1 => ?_
      walk_at "rn"
      refine n_lst (by show 1 ≤ sizeLine; decide) fun K2 d2 x2 y2 z2 => ?_
      have S23 := S22.trans x1
      have S24 := S23.trans x2
      have gg2 := off_get ((G6.same x1).same x2).good
      walk_at "rn"
      refine n_cat gg2 z2 (by rw [List.length_map]; exact Nat.le_trans (show gs.length + 1 ≤ 57 by omega) (by decide)) fun K3 d3 x3 y3 z3 => ?_
      have S25 := S24.trans x3
      walk_at "rn"
      refine n_tup (by show 3 ≤ sizeLine; decide) fun K4 d4 x4 y4 z4 => ?_
      have S26 := S25.trans x4
      have z3' : K3 d3 = some (.lst ((gs ++ [odd]).map V.int)) := by rw [z3, List.map_append]; rfl
      have G7 := ((((G6.same x1).same x2).same x3).same x4).add (about := []) (body := gs ++ [odd]) z4 (fr S25 y4) (sqi_tup (((x2.trans x3).trans x4) _ _ z1) (fr S22 y1)) (sqi_lst (x4 _ _ z3') (fr S24 y3)) (by decide) (by rw [List.length_append, List.length_singleton]; omega) (.inl (okL_sb (by rw [List.all_append, List.all_cons, hodd, Bool.false_and, Bool.and_false])))
      walk_at "rn"
      refine n_lst (by show 3 ≤ sizeLine; decide) fun K5 d5 x5 y5 z5 => ?_
      have SJ := ((((((((((((u3.trans u4).trans u5).trans u6).trans u7).trans u8).trans u9).trans x1).trans x2).trans x3).trans x4).trans x5))
      walk_at "rn"
      refine n_cat (SJ _ _ w2) z5 (by show 4 + 3 ≤ sizeLine; decide) fun K6 d6 x6 y6 z6 => ?_
      have G8 := (G7.same x5).same x6
      have S28 := (S26.trans x5).trans x6
      walk_at "rn"
      refine r_iL (.of z6) ?_
      walk_at "rn"
      refine f_list (xs := [.ref a4, .ref a6, .ref a8, .ref b1] ++ [.ref b7, .ref b9, .ref d4]) (fun j σ H3 => (∃ hs k2 ab bd ot sm, σ = [some (.ref m.p), some (.int c), some (.int far), some (.int g), hs, some (.int odd), some (.ref gl), sm, k2, ab, bd, ot]) ∧ Same K6 H3) ⟨⟨_, _, _, _, _, _, rfl⟩, Same.refl _⟩ (fun j σ H3 _ p => .of (p.2 _ _ z6)) (fun j x σ H3 hx p => ?_) (fun σ H3 p => ?_)
      · obtain ⟨⟨hs, k2', ab, bd, ot, smm, rfl⟩, s3⟩ := p
        obtain ⟨t, kind, a', b', about, body, rfl, ht, sa, sb, la, lb, bl⟩ := (G8.bad x (List.mem_of_getElem? hx)).same (off_same s3)
        walk_at "rn"
        refine r_gtup (.of (off_get ht)) rfl ?_
        walk_at "rn"
        have q6 := q.same (S28.trans s3)
        refine ⟨m, st, g, kind, a', b', about, body, rfl, ⟨i, q6⟩, lm, lo, lr, sa, sb, la, lb, .inr bl, fun hg => absurd ⟨hg0, hg1⟩ hg, fun _ H7 l7 s7 nl7 h7 => ?_⟩
        walk_at "rn"
        refine n_lst (by show 4 ≤ sizeLine; decide) fun H8 p8 s8 n8 h8 => ?_
        walk_at "rn"
        refine r_ne4 (bs := [false, true, true, false]) (s8 _ _ h7) h8 rfl (by kernel_rfl) ?_
        walk_at "rn"
        refine if_bF rfl ?_
        walk_at "rn"
        exact ⟨⟨_, _, _, _, _, _, rfl⟩, (s3.trans s7).trans s8⟩
      · obtain ⟨⟨hs, k2', ab, bd, ot, smm, rfl⟩, s3⟩ := p
        have S29 := S28.trans s3
        have q9 := q.same S29
        walk_at "rn"
        refine r_methAt q9.obj (by kernel_rfl) ?_
        walk_at "rn"
        refine ⟨m, st, rfl, ⟨i, q9⟩, ?_⟩
        walk_at "rn"
        refine r_methAt q9.obj (by kernel_rfl) ?_
        walk_at "rn"
        refine n_tup (by show 1 ≤ sizeLine; decide) fun L1 e1 i1 j1 o1 => ?_
        have gf := (G8.same s3).same i1
        walk_at "rn"
        refine r_tupL (.of (off_get gf.good)) fun e2 ne2 => ?_
        have i2 := same_upd (o := .tup (gs.map V.int)) ne2
        have S30 := S29.trans i1
        have S31 := S30.trans i2
        have q10 := q.same S31
        walk_at "rn"
        refine ⟨m, st, i, (st.own + 1 + far % 31) % 32, "part", e1, e2, [1], gs, rfl, q10, lm, lo, lr, sqi_tup (i2 _ _ o1) (fr S29 j1), sqi_tup upd_same (fr S30 ne2), by show 1 ≤ 1000; decide, lg1, fun nb => absurd (by omega) nb, fun _ bl => ?_, fun _ _ _ H9 s9 => ?_, fun _ _ e => absurd e (by omega)⟩
        · exfalso
          rcases bl with e | e
          · rw [okL_ok (by decide +kernel) (by show 1 ≤ 4; decide) (by omega) (by rfl) oka] at e
            cases e
          · exact absurd e (by decide +kernel)
        · walk_at "rn"
          refine r_isNon ?_
          exact k _ (S31.trans s9)

end
end K54

namespace K54
open PySem PySem.Spec PyProof.Rows L2
section
variable {P : Program} {w : World} {K : PySem.W.Frag} {mg : Str → Option Value} {base : Heap}
-- USE_RN
mutual
def noL : PyData → Bool
  | .list _ => false
  | .dict _ => false
  | .tuple ds => noLs ds
  | .none => true
  | .bool _ => true
  | .int _ => true
  | .str _ => true
def noLs : List PyData → Bool
  | [] => true
  | d :: ds => noL d && noLs ds
end
theorem sqT_upl {H : Hp} {tl a : Addr} {xs ys : List V} {o : HO} (ht : H tl = some (.lst ys)) (h : SqT K H a xs) : SqT K (upd H tl o) a xs := by
  rcases h with (h | ⟨o, h⟩) | h
  · exact .inl (.inl (by rw [upd_ne (fun e => by subst e; cases h.symm.trans ht)]; exact h))
  · exact .inl (.inr ⟨o, by rw [upd_ne (fun e => by subst e; cases h.symm.trans ht)]; exact h⟩)
  · exact .inr h
mutual
theorem dp_upl {H : Hp} {tl : Addr} {ys : List V} {o : HO} (ht : H tl = some (.lst ys)) : ∀ (d : PyData) (v : V), noL d = true → Dp K H v d → Dp K (upd H tl o) v d
  | .none, _, _, h => by cases h; exact .non
  | .bool b, _, _, h => by cases h; exact .bl b
  | .int i, _, _, h => by cases h; exact .int i
  | .str x, _, _, h => by cases h; exact .str x
  | .list ds, _, n, _ => by cases n
  | .tuple ds, _, n, h => by
    cases h with
    | tup hs ha => exact .tup (sqT_upl ht hs) (dpAll_upl ht ds _ n ha)
  | .dict _, _, n, _ => by cases n
theorem dpAll_upl {H : Hp} {tl : Addr} {ys : List V} {o : HO} (ht : H tl = some (.lst ys)) : ∀ (ds : List PyData) (vs : List V), noLs ds = true → DpAll K H vs ds → DpAll K (upd H tl o) vs ds
  | [], _, _, h => by cases h; exact .nil
  | d :: ds, _, n, h => by
    cases h with
    | cons h1 h2 =>
      have n' : (noL d && noLs ds) = true := n
      have ⟨n1, n2⟩ := Bool.and_eq_true_iff.mp n'
      exact .cons (dp_upl ht d _ n1 h1) (dpAll_upl ht ds _ n2 h2)
end
theorem off_upd_out {M : List Addr} {H : Hp} {p : Addr} {o : HO} (h : p ∉ M) : off M (upd H p o) = upd (off M H) p o := by
  funext b
  unfold off
  by_cases e : b = p
  · subst e
    rw [if_neg h, upd_same, upd_same]
  · rw [upd_ne e]
    by_cases m : b ∈ M
    · rw [if_pos m, upd_ne e, if_pos m]
    · rw [if_neg m, upd_ne e, if_neg m]
def ldt (own : Int) (j : Nat) : PyData := letD j own "part" [j] [j, 96]
def dsL (own : Int) (k : Nat) : List PyData := (List.range k).map (ldt own)
def rdL (own : Int) (k : Nat) : List PyData := (dsL own k).map fun d => .tuple [.int 0, .str "put", d]
theorem dsL_succ (own : Int) (k : Nat) : dsL own (k + 1) = dsL own k ++ [ldt own k] := by
  unfold dsL
  rw [List.range_succ, List.map_append]
  rfl
theorem rdL_succ (own : Int) (k : Nat) : rdL own (k + 1) = rdL own k ++ [.tuple [.int 0, .str "put", ldt own k]] := by
  unfold rdL
  rw [dsL_succ, List.map_append]
  rfl
theorem dsL_len (own : Int) (k : Nat) : (dsL own k).length = k := by
  unfold dsL
  rw [List.length_map, List.length_range]
theorem noLs_map {α : Type} (f : α → PyData) (h : ∀ a, noL (f a) = true) : ∀ l : List α, noLs (l.map f) = true
  | [] => rfl
  | a :: r => by
    show (noL (f a) && noLs (r.map f)) = true
    rw [h a, noLs_map f h r]
    rfl
theorem noL_ldt (own : Int) (j : Nat) : noL (ldt own j) = true := rfl
theorem noLs_ds (own : Int) (k : Nat) : noLs (dsL own k) = true := noLs_map _ (noL_ldt own) _
theorem noLs_rd (own : Int) (k : Nat) : noLs (rdL own k) = true := by
  unfold rdL dsL
  rw [List.map_map]
  exact noLs_map _ (fun a => rfl) _
/-- a post after its told list has grown: what does not move lies as it lay ahead of that list -/
theorem PostIn.upl {H0 H : Hp} {m : PAd} {st0 st : PSt} {i0 : PIn} {outs rows : List V} {tl : Addr} {vs : List V} {o : HO} (q0 : PostIn K H0 m st0 i0) (n : H0 tl = none) (ht : H tl = some (.lst vs)) (s : Same (off m.M H0) (off m.M H)) (q : PostIn K H m st { i0 with outs := outs, rows := rows })
    (eo : st.own = st0.own) (ec : st.called = st0.called) (en : st.num = st0.num) (ew : st.news = st0.news) (nd : noLs st.outD = true) (nr : noLs st.rowD = true) : PostIn K (upd H tl o) m st { i0 with outs := outs, rows := rows } ∧ Same (off m.M H0) (off m.M (upd H tl o)) := by
  have nM := q0.nM n
  have e := off_upd_out (H := H) (o := o) nM
  have ht' : off m.M H tl = some (.lst vs) := off_of ht nM
  have n1 : m.p ≠ tl := ne_of_none q0.obj n
  have n2 : m.d ≠ tl := ne_of_none q0.dic n
  have n3 : m.o ≠ tl := ne_of_none q0.out n
  have n4 : m.r ≠ tl := ne_of_none q0.row n
  have s2 : Same (off m.M H0) (off m.M (upd H tl o)) := fun b u eb => by
    rw [e, upd_ne (ne_of_none (off_get eb) n)]
    exact s _ _ eb
  refine ⟨⟨by rw [upd_ne n1]; exact q.obj, by rw [upd_ne n2]; exact q.dic, by rw [upd_ne n3]; exact q.out, by rw [upd_ne n4]; exact q.row, q.nor, s2 _ _ q0.lines, fun a ha => (q0.wires a ha).same s2, ?_, s2 _ _ q0.chart, ?_, s2 _ _ q0.tld, ?_, ?_, q.b0, q.b1, q.b2, q.b3, q.b4, q.b5⟩, s2⟩
  · rw [ec]
    exact s2 _ _ q0.cal
  · rw [eo, en, ew]
    exact q0.nws.same s2
  · rw [e]
    exact dpAll_upl ht' _ _ nd q.outR
  · rw [e]
    exact dpAll_upl ht' _ _ nr q.rowR
theorem r_eqSame {H : Hp} {Q : VK} {x y : V} {d : PyData} (hx : Dp K H x d) (hy : Dp K H y d) (s : SeqAt.shaped d = true) (q : Q (.bl true) H) : rEqD K x y H Q := r_eqD hx hy s s (by
  rw [SeqAt.eqv_refl d (SeqAt.canLay_of_shaped s)]
  exact q)
theorem r_neSame {H : Hp} {Q : VK} {x y : V} {d : PyData} (hx : Dp K H x d) (hy : Dp K H y d) (s : SeqAt.shaped d = true) (q : Q (.bl false) H) : rNeD K x y H Q := r_neD hx hy s s (by
  rw [SeqAt.eqv_refl d (SeqAt.canLay_of_shaped s)]
  exact q)
theorem sc_law_own_letters_right : FnScope ["post", "far", "told", "k", "letter"] ["post", "far"] (defScope s_law_own_letters_right) := ⟨rfl, rfl, rfl, by decide +kernel, rfl, by decide +kernel, by decide +kernel⟩
theorem okS_law_own_letters_right (T : Txt K mg) (F_Post_number : Ok P w K mg base CX0 1 (He.ma K (He.ga K "Post") "number") ["self"] (spNumber K)) (F_Post_book : Ok P w K mg base CX0 1 (He.ma K (He.ga K "Post") "book") ["self"] (spBook K)) (F_Post_came : Ok P w K mg base CX0 1 (He.ma K (He.ga K "Post") "came") ["self"] (spCame K))
    (F_law_post_kinds : Ok P w K mg base CX0 6 (He.ga K "_law_post_kinds") ["post", "goal", "kind", "about", "body"] (spPostKinds K))
    (F_Post_post : Ok P w K mg base (L2.CX P w) 5 (He.ma K (He.ga K "Post") "post") ["self", "goal", "kind", "about", "body"] (spPost K)) :
    Ok P w K mg base CX0 7 (He.ga K "_law_own_letters_right") ["post", "far"] (spOwnRight K) := by
  refine ok_of T.f_law_own_letters_right sc_law_own_letters_right (fun _ _ _ _ _ _ us hl => match us, hl with | [_, _], _ => rfl) (fun vs H Q E h => ?_) (fun cdv A outer s H vs Q E hr h => ?_)
  · obtain ⟨m, st, far, rfl, _⟩ := h
    rfl
  · obtain ⟨m, st, far, rfl, f0, ⟨i, q⟩, em, eo, er, k⟩ := h
    refine ⟨_, PSs.nox (pss_cons (ps_set (i := 2) sc_law_own_letters_right.nd rfl (Or.inl rfl) (pe_lst pa_nil))
 (pss_cons (ps_for PassesOwn.never rfl (pi_range1 rfl T.b_range (pa_cons pe_int pa_nil)) (pg_name (i := 3) sc_law_own_letters_right.nd rfl (Or.inl rfl)) (pss_cons (ps_if (pt_cmpR (op_neD hr.units) (pe_callO F_law_post_kinds (hr.mono (by decide)) rfl T.g_law_post_kinds pass0 (pa_cons (pv 0) (pa_cons (pe_op op_add pe_int (pv 1)) (pa_cons pe_str (pa_cons (pe_tup (pa_cons pe_int pa_nil)) (pa_cons (pe_tup pa_nil) pa_nil)))))) (pe_lst (pa_cons pe_bl (pa_cons pe_bl (pa_cons pe_bl (pa_cons pe_bl pa_nil))))) (nomark _)) (pss_one (ps_ret pe_bl)) pss_nil)
 (pss_cons (ps_if (pt_cmpR (op_neD hr.units) (pe_callO F_law_post_kinds (hr.mono (by decide)) rfl T.g_law_post_kinds pass0 (pa_cons (pv 0) (pa_cons (pe_meth0O (pv 0) T.k_Post T.t_Post_number F_Post_number (hr.mono (by decide)) pass0) (pa_cons pe_str (pa_cons (pe_tup (pa_cons pe_int pa_nil)) (pa_cons (pe_tup pa_nil) pa_nil)))))) (pe_lst (pa_cons pe_bl (pa_cons pe_bl (pa_cons pe_bl (pa_cons pe_bl pa_nil))))) (nomark _)) (pss_one (ps_ret pe_bl)) pss_nil)
 (pss_cons (ps_if (pt_cmpR (op_isNotNon) (pe_methO (pv 0) T.k_Post T.t_Post_post F_Post_post (hr.mono (by decide)) passL (pa_cons (pe_op op_mod (pe_op op_add (pe_meth0O (pv 0) T.k_Post T.t_Post_number F_Post_number (hr.mono (by decide)) pass0) pe_int) pe_int) (pa_cons pe_str (pa_cons (pe_tup (pa_cons pe_int pa_nil)) (pa_cons (pe_tup pa_nil) pa_nil))))) pe_non (nomark _)) (pss_one (ps_ret pe_bl)) pss_nil)
 (pss_cons (ps_expr (pe_bm PySem.F.plainAttrs_list PySem.F.slot_list_append PySem.F.type_list_append mt_append (pv 2) (pa_cons (pe_methO (pv 0) T.k_Post T.t_Post_post F_Post_post (hr.mono (by decide)) passL (pa_cons (pe_meth0O (pv 0) T.k_Post T.t_Post_number F_Post_number (hr.mono (by decide)) pass0) (pa_cons pe_str (pa_cons (pe_tup (pa_cons (pv 3) pa_nil)) (pa_cons (pe_tup (pa_cons (pv 3) (pa_cons pe_int pa_nil))) pa_nil))))) pa_nil)))
 (pss_one (ps_if (pt_cmpR (op_neD hr.units) (pe_ix ix_list (pv 2) (pv 3) (fun _ _ => rfl)) (pe_tup (pa_cons (pv 3) (pa_cons (pe_tup (pa_cons (pe_meth0O (pv 0) T.k_Post T.t_Post_number F_Post_number (hr.mono (by decide)) pass0) pa_nil)) (pa_cons pe_str (pa_cons (pe_tup (pa_cons (pv 3) pa_nil)) (pa_cons (pe_tup (pa_cons (pv 3) (pa_cons pe_int pa_nil))) pa_nil)))))) (nomark _)) (pss_one (ps_ret pe_bl)) pss_nil)))))))
 (pss_one (ps_ret (pe_and (pe_cmpR (op_eqD hr.units) (pe_meth0O (pv 0) T.k_Post T.t_Post_book F_Post_book (hr.mono (by decide)) pass0) (pe_lc (own := [("letter", 4)]) rfl sc_law_own_letters_right.nd (pi_list (pv 2)) (blkOk_by (own := [("letter", 4)]) (N := ["post", "far", "told", "k", "letter"]) (sc := defScope s_law_own_letters_right) (by decide +kernel)) (fun _ _ _ _ _ => (pg_name (i := 4) sc_law_own_letters_right.nd rfl (Or.inl rfl))) (fun _ _ _ _ _ => pts_nil) (fun _ _ _ _ _ => (pe_tup (pa_cons pe_int (pa_cons pe_str (pa_cons (pv 4) pa_nil)))))) (nomark _)) (pe_and (pe_cmpR (op_eqD hr.units) (pe_meth0O (pv 0) T.k_Post T.t_Post_came F_Post_came (hr.mono (by decide)) pass0) (pv 2) (nomark _)) (pe_one (pe_cmpR (op_eqD hr.units) (pe_meth0O (pv 0) T.k_Post T.t_Post_came F_Post_came (hr.mono (by decide)) pass0) (pe_lst pa_nil) (nomark _))))))))), ?_⟩
    have b0 := q.b0
    walk_at "rn"
    refine n_lst (by decide) fun H1 tl s1 ntl h1 => ?_
    have nM := q.nM ntl
    walk_at "rn"
    refine r_rngI (n := 3) rfl (by decide) ?_
    walk_at "rn"
    refine f_rng (fun j σ H2 => (∃ a b, σ = [some (.ref m.p), some (.int far), some (.ref tl), a, b]) ∧ Same (off m.M H) (off m.M H2) ∧ ∃ outs rows vs, PostIn K H2 m { st with made := j, outD := dsL st.own j, rowD := rdL st.own j } { i with outs := outs, rows := rows } ∧ H2 tl = some (.lst vs) ∧ DpAll K (off m.M H2) vs (dsL st.own j))
      ⟨⟨_, _, rfl⟩, off_same s1, i.outs, i.rows, [], ?_, h1, .nil⟩ (fun j σ H2 hj p => ?_) (fun σ H2 p => ?_)
    · have q1 := q.same s1
      obtain ⟨o1, o2, o3, o4, o5, o6, o7, o8, o9, o10, o11, o12, o13, o14, o15, o16, o17, o18, o19⟩ := q1
      rw [em] at o1 o15
      rw [eo] at o12
      rw [er] at o13
      exact ⟨o1, o2, o3, o4, o5, o6, o7, o8, o9, o10, o11, o12, o13, o14, o15, o16, o17, o18, o19⟩
    · obtain ⟨⟨a, b, rfl⟩, sB, outs, rows, vs, q2, htl, dv⟩ := p
      have lv : vs.length = j := (dpAll_len dv).trans (dsL_len _ _)
      have ldj : (dsL st.own j).length = j := dsL_len _ _
      have lrj : (rdL st.own j).length = j := by unfold rdL; rw [List.length_map, dsL_len]
      walk_at "rn"
      -- a house beyond
      walk_at "rn"
      refine n_tup (by show 1 ≤ sizeLine; decide) fun H3 a3 s3 n3 h3 => ?_
      walk_at "rn"
      refine n_tup (by decide) fun H4 a4 s4 n4 h4 => ?_
      have q4 := q2.same (s3.trans s4)
      walk_at "rn"
      refine ⟨m, _, 32 + far, "part", a3, a4, [1], [], rfl, ⟨_, q4⟩, by show (j : Int) < 900000; omega, by show (dsL st.own j).length < 900; omega, by show (rdL st.own j).length < 900; omega, .inr (q4.sqT (.of (s4 _ _ h3))), .inr (q4.sqT (.of h4)), by show 1 ≤ 1000; decide, by decide, .inl (by omega), fun _ H5 l5 s5 nl5 h5 => ?_, fun g => absurd g (by omega)⟩
      walk_at "rn"
      refine n_lst (by show 4 ≤ sizeLine; decide) fun H6 p6 s6 n6 h6 => ?_
      walk_at "rn"
      refine r_ne4 (bs := [true, false, true, false]) (s6 _ _ h5) h6 rfl (by kernel_rfl) ?_
      walk_at "rn"
      refine if_bF rfl ?_
      have sA := ((s3.trans s4).trans s5).trans s6
      have q6 := q2.same sA
      -- news
      walk_at "rn"
      refine r_methAt q6.obj (by kernel_rfl) ?_
      walk_at "rn"
      refine ⟨m, _, rfl, ⟨_, q6⟩, ?_⟩
      walk_at "rn"
      refine n_tup (by show 1 ≤ sizeLine; decide) fun H7 a7 s7 n7 h7 => ?_
      walk_at "rn"
      refine n_tup (by decide) fun H8 a8 s8 n8 h8 => ?_
      have q8 := q6.same (s7.trans s8)
      walk_at "rn"
      refine ⟨m, _, st.own, "news", a7, a8, [1], [], rfl, ⟨_, q8⟩, by show (j : Int) < 900000; omega, by show (dsL st.own j).length < 900; omega, by show (rdL st.own j).length < 900; omega, .inr (q8.sqT (.of (s8 _ _ h7))), .inr (q8.sqT (.of h8)), by show 1 ≤ 1000; decide, by decide, .inr (.inr rfl), fun g => absurd b0 g, fun _ H9 l9 s9 nl9 h9 => ?_⟩
      walk_at "rn"
      refine n_lst (by show 4 ≤ sizeLine; decide) fun I1 p1 t1 m1 k1 => ?_
      walk_at "rn"
      refine r_ne4 (bs := [false, true, true, false]) (t1 _ _ h9) k1 rfl (by kernel_rfl) ?_
      walk_at "rn"
      refine if_bF rfl ?_
      have sB2 := (((sA.trans s7).trans s8).trans s9).trans t1
      have q9 := q2.same sB2
      -- no way
      walk_at "rn"
      refine r_methAt q9.obj (by kernel_rfl) ?_
      walk_at "rn"
      refine r_methAt q9.obj (by kernel_rfl) ?_
      walk_at "rn"
      refine ⟨m, _, rfl, ⟨_, q9⟩, ?_⟩
      walk_at "rn"
      refine n_tup (by show 1 ≤ sizeLine; decide) fun I2 p2 t2 m2 k2 => ?_
      walk_at "rn"
      refine n_tup (by decide) fun I3 p3 t3 m3 k3 => ?_
      have q10 := q9.same (t2.trans t3)
      have okp : okLetter "part" [1] [] = true := by decide +kernel
      walk_at "rn"
      refine ⟨m, _, _, (st.own + 1) % 32, "part", p2, p3, [1], [], rfl, q10, by show (j : Int) < 900000; omega, by show (dsL st.own j).length < 900; omega, by show (rdL st.own j).length < 900; omega, .inr (q10.sqT (.of (t3 _ _ k2))), .inr (q10.sqT (.of k3)), by show 1 ≤ 1000; decide, by decide, fun g => absurd (by omega) g, fun _ bl => ?_, fun _ _ _ I4 t4 => ?_, fun _ _ e => absurd (show (st.own + 1) % 32 = st.own from e) (by omega)⟩
      · exfalso
        rcases bl with e | e
        · rw [okp] at e
          cases e
        · exact absurd e (by decide +kernel)
      walk_at "rn"
      refine r_isNotNon ?_
      walk_at "rn"
      refine if_bF rfl ?_
      have sC := ((sB2.trans t2).trans t3).trans t4
      have q11 := q2.same sC
      -- a letter to the own house
      walk_at "rn"
      refine r_bmL (.of (sC _ _ htl)) ?_
      walk_at "rn"
      refine r_methAt q11.obj (by kernel_rfl) ?_
      walk_at "rn"
      refine r_methAt q11.obj (by kernel_rfl) ?_
      walk_at "rn"
      refine ⟨m, _, rfl, ⟨_, q11⟩, ?_⟩
      walk_at "rn"
      refine n_tup (by show 1 ≤ sizeLine; decide) fun I5 p5 t5 m5 k5 => ?_
      walk_at "rn"
      refine n_tup (by show 2 ≤ sizeLine; decide) fun I6 p6' t6 m6 k6 => ?_
      have sD := (sC.trans t5).trans t6
      have q12 := q2.same sD
      have okq : okLetter "part" [(j : Int)] [(j : Int), 96] = true := okL_ok (by decide +kernel) (by show 1 ≤ 4; decide) (by show 2 ≤ 56; decide) (by show (isSign j && true) = true; rw [show isSign j = true from decide_eq_true (by omega)]; rfl) (by show (isSign j && (isSign 96 && true)) = true; rw [show isSign j = true from decide_eq_true (by omega)]; rfl)
      walk_at "rn"
      refine ⟨m, _, _, st.own, "part", p5, p6', [(j : Int)], [(j : Int), 96], rfl, q12, by show (j : Int) < 900000; omega, by show (dsL st.own j).length < 900; omega, by show (rdL st.own j).length < 900; omega, .inr (q12.sqT (.of (t6 _ _ k5))), .inr (q12.sqT (.of k6)), by show 1 ≤ 1000; decide, by show 2 ≤ 1000; decide, fun g => absurd b0 g, fun _ bl => ?_, fun _ _ e => absurd rfl e, fun _ _ _ I7 lt outs2 rows2 t7 q13 dp7 => ?_⟩
      · exfalso
        rcases bl with e | e
        · rw [okq] at e
          cases e
        · exact absurd e (by decide +kernel)
      walk_at "rn"
      have htl7 := t7 _ _ (off_of (sD _ _ htl) nM)
      walk_at "rn"
      refine r_appendR (off_get htl7) (Nat.lt_of_lt_of_le (show vs.length < 3 by omega) (by decide)) ?_
      have sE : Same (off m.M H) (off m.M I7) := (sB.trans (off_same sD)).trans t7
      have e1 : stPut { st with made := (j : Int), outD := dsL st.own j, rowD := rdL st.own j } (letD j st.own "part" [(j : Int)] [(j : Int), 96]) = { st with made := ((j + 1 : Nat) : Int), outD := dsL st.own (j + 1), rowD := rdL st.own (j + 1) } := by
        rw [dsL_succ, rdL_succ]
        rfl
      have q13' : PostIn K I7 m { st with made := ((j + 1 : Nat) : Int), outD := dsL st.own (j + 1), rowD := rdL st.own (j + 1) } { i with outs := outs2, rows := rows2 } := e1 ▸ q13
      have ⟨q14, sF⟩ := q.upl (o := .lst (vs ++ [.ref lt])) ntl (off_get htl7) sE q13' rfl rfl rfl rfl (noLs_ds _ _) (noLs_rd _ _)
      have dv14 : DpAll K (off m.M (upd I7 tl (.lst (vs ++ [.ref lt])))) (vs ++ [.ref lt]) (dsL st.own (j + 1)) := by
        rw [off_upd_out nM, dsL_succ]
        exact dpAll_app (dpAll_upl htl7 _ _ (noLs_ds _ _) (dpAll_same ((off_same sD).trans t7) _ _ dv)) (.cons (dp_upl htl7 _ _ (noL_ldt _ _) dp7) .nil)
      have htl14 : upd I7 tl (.lst (vs ++ [.ref lt])) tl = some (.lst (vs ++ [.ref lt])) := upd_same
      walk_at "rn"
      generalize upd I7 tl (.lst (vs ++ [.ref lt])) = I8 at q14 sF dv14 htl14 ⊢
      walk_at "rn"
      refine r_ixL (.of htl14) (atI_nat (j := j) (v := .ref lt) (by rw [List.getElem?_append_right (by omega), lv, Nat.sub_self]; rfl)) ?_
      walk_at "rn"
      refine r_methAt q14.obj (by kernel_rfl) ?_
      walk_at "rn"
      refine ⟨m, _, rfl, ⟨_, q14⟩, ?_⟩
      walk_at "rn"
      refine n_tup (by show 1 ≤ sizeLine; decide) fun J1 c1 u1 v1 w1 => ?_
      walk_at "rn"
      refine n_tup (by show 1 ≤ sizeLine; decide) fun J2 c2 u2 v2 w2 => ?_
      walk_at "rn"
      refine n_tup (by show 2 ≤ sizeLine; decide) fun J3 c3 u3 v3 w3 => ?_
      walk_at "rn"
      refine n_tup (by show 5 ≤ sizeLine; decide) fun J4 c4 u4 v4 w4 => ?_
      have sG := ((u1.trans u2).trans u3).trans u4
      have dl : Dp K J4 (.ref lt) (ldt st.own j) := by
        obtain ⟨d, e, dd⟩ := dpAll_at (j := j) (v := .ref lt) dv14 (by rw [List.getElem?_append_right (by omega), lv, Nat.sub_self]; rfl)
        rw [dsL_succ, List.getElem?_append_right (by omega), ldj, Nat.sub_self] at e
        have e' : ldt st.own j = d := Option.some.inj e
        rw [e']
        exact dp_same (off_sub.trans sG) _ _ dd
      have dr : Dp K J4 (.ref c4) (ldt st.own j) := .tup (.of w4) (.cons (.int _) (.cons (.tup (.of (((u2.trans u3).trans u4) _ _ w1)) (.cons (.int _) .nil)) (.cons (.str _) (.cons (.tup (.of ((u3.trans u4) _ _ w2)) (.cons (.int _) .nil)) (.cons (.tup (.of (u4 _ _ w3)) (.cons (.int _) (.cons (.int _) .nil))) .nil)))))
      walk_at "rn"
      refine r_neSame dl dr (by kernel_rfl) ?_
      walk_at "rn"
      refine if_bF rfl ?_
      walk_at "rn"
      exact ⟨⟨_, _, rfl⟩, sF.trans (off_same sG), outs2, rows2, _, q14.same sG, sG _ _ htl14, dpAll_same (off_same sG) _ _ dv14⟩
    · obtain ⟨⟨a, b, rfl⟩, sB, outs, rows, vs, q2, htl, dv⟩ := p
      have lv : vs.length = 3 := (dpAll_len dv).trans (dsL_len _ _)
      walk_at "rn"
      refine r_methAt q2.obj (by kernel_rfl) ?_
      walk_at "rn"
      refine ⟨m, _, rfl, ⟨_, q2⟩, fun H3 bl s3 nbl dbl => ?_⟩
      have htl3 := s3 _ _ htl
      walk_at "rn"
      refine r_iL (.of htl3) ?_
      walk_at "rn"
      refine l_it walk_list (fun D j H4 => H3 D = none ∧ Same H3 H4 ∧ ∃ us, H4 D = some (.lst us) ∧ us.length = j ∧ DpAll K (off [D] H4) us ((rdL st.own 3).take j)) (fun D nD => ⟨nD, same_upd nD, [], upd_same, rfl, .nil⟩) (fun D j H4 _ p => .of (p.2.1 _ _ htl3)) (fun D j x H4 H5 hi p y => ?_) (fun D H4 p => ?_)
      · obtain ⟨nD, s4, us, hD, lu, du⟩ := p
        obtain ⟨rfl, hx⟩ := y
        walk_at "rn"
        refine ⟨rfl, ?_⟩
        walk_at "rn"
        refine iteT ?_
        walk_at "rn"
        refine n_tup (by show 3 ≤ sizeLine; decide) fun H6 tp s6 n6 h6 => ?_
        have ntD : tp ≠ D := Ne.symm (ne_of_none hD n6)
        obtain ⟨d, ed, dd⟩ := dpAll_at dv hx
        have er : (rdL st.own 3)[j]? = some (.tuple [.int 0, .str "put", d]) := by
          unfold rdL
          rw [List.getElem?_map, ed]
          rfl
        refine ⟨us, s6 _ _ hD, Nat.lt_of_lt_of_le (show us.length < 3 by omega) (by decide), nD, same_re nD (s4.trans s6), us ++ [.ref tp], upd_same, by rw [List.length_append, List.length_singleton, lu], ?_⟩
        rw [List.take_add_one, er]
        have sO : ∀ o, Same (off [D] H5) (off [D] (upd H6 D o)) := fun o => (off_same s6).trans (off_put (by simp) fun _ h => h)
        refine dpAll_app (dpAll_same (sO _) _ _ du) (.cons (.tup (.of (off_of (by rw [upd_ne ntD]; exact h6) (by simp [ntD]))) (.cons (.int 0) (.cons (.str "put") (.cons ?_ .nil)))) .nil)
        have dd5 : Dp K (off [D] H5) x d := dp_same (((off_sub.trans s3).trans (fun b o e => off_of (s4 _ _ e) (by simp [ne_of_none e nD])))) _ _ dd
        exact dp_same (sO _) _ _ dd5
      · obtain ⟨nD, s4, us, hD, lu, du⟩ := p
        have e3 : (rdL st.own 3).take vs.length = rdL st.own 3 := List.take_of_length_le (by rw [lv]; unfold rdL; rw [List.length_map, dsL_len]; exact Nat.le_refl _)
        rw [e3] at du
        walk_at "rn"
        refine r_eqSame (dp_same s4 _ _ dbl) (.lst (.of hD) (dpAll_same off_sub _ _ du)) (by kernel_rfl) ?_
        walk_at "rn"
        refine iteT ?_
        have s24 := s3.trans s4
        have q4 := q2.same s24
        walk_at "rn"
        refine r_methAt q4.obj (by kernel_rfl) ?_
        walk_at "rn"
        refine ⟨m, _, rfl, ⟨_, q4⟩, fun m2 H5 em2 s5 p5 d5 => ?_⟩
        walk_at "rn"
        have htl5 := s5 _ _ (off_of (s24 _ _ htl) nM)
        walk_at "rn"
        refine r_eqSame (dp_same off_sub _ _ d5) (.lst (.of (off_get htl5)) (dpAll_same (((off_same s24).trans s5).trans off_sub) _ _ dv)) (by kernel_rfl) ?_
        walk_at "rn"
        refine iteT ?_
        obtain ⟨i5, q5⟩ := p5
        rw [← em2]
        walk_at "rn"
        refine r_methAt q5.obj (by kernel_rfl) ?_
        walk_at "rn"
        refine ⟨m2, _, rfl, ⟨_, q5⟩, fun m3 H6 em3 s6 p6 d6 => ?_⟩
        walk_at "rn"
        refine n_lst (by decide) fun H7 l7 s7 n7 h7 => ?_
        walk_at "rn"
        refine r_eqSame (dp_same (off_sub.trans s7) _ _ d6) (.lst (.of h7) .nil) (by kernel_rfl) ?_
        exact k _

end
end K54

namespace K54
open PySem PySem.Spec PyProof.Rows L2
section
variable {P : Program} {w : World} {K : PySem.W.Frag} {mg : Str → Option Value} {base : Heap}
-- USE_RN
structure LI (K : PySem.W.Frag) (B : Hp) (m : PAd) (st : PSt) (H : Hp) (p : Addr) (n : Int) : Prop where
  pa : PostAt K H m st
  mp : m.p = p
  s : Same B (off m.M H)
  own : st.own = n
  made : st.made = 0
  outD : st.outD = []
  rowD : st.rowD = []
  nw : st.news = st.called
theorem LI.same {B H H' : Hp} {m : PAd} {st : PSt} {p : Addr} {n : Int} (l : LI K B m st H p n) (s : Same H H') : LI K B m st H' p n := ⟨l.pa.same s, l.mp, l.s.trans (off_same s), l.own, l.made, l.outD, l.rowD, l.nw⟩
theorem LI.nM {B H : Hp} {m : PAd} {st : PSt} {p : Addr} {n : Int} (l : LI K B m st H p n) {a : Addr} (h : H a = none) : a ∉ m.M := by
  obtain ⟨i, q⟩ := l.pa
  exact q.nM h
theorem LI.ob {B H : Hp} {m : PAd} {st : PSt} {p : Addr} {n : Int} (l : LI K B m st H p n) : ∃ (dx : Addr) (i : PIn), H p = some (.ins (He.ga K "Post") dx (pf st.own i.ll st.made i.cl i.mp st.num m.o m.r i.tl st.grown)) := by
  obtain ⟨i, q⟩ := l.pa
  exact ⟨i.dp, i, l.mp ▸ q.obj⟩
theorem goodPost_le {n : Int} {ws : List WrT} (h : goodPost n ws = true) : ws.length ≤ 5 := by
  unfold goodPost at h
  exact of_decide_eq_true (Bool.and_eq_true_iff.mp (Bool.and_eq_true_iff.mp h).2).1
theorem and4 {ta tb tc td : TE} {σ : L2.St} {H : Hp} {Q : VK} {b1 b2 b3 b4 : Bool} (h1 : ∀ Q' : VK, Q' (.bl b1) H → ta σ H Q') (h2 : ∀ Q' : VK, Q' (.bl b2) H → tb σ H Q') (h3 : ∀ Q' : VK, Q' (.bl b3) H → tc σ H Q') (h4 : ∀ Q' : VK, Q' (.bl b4) H → td σ H Q')
    (q : Q (.bl (b1 && (b2 && (b3 && b4)))) H) : tAndV ta (tAndV tb (tAndV tc td)) σ H Q := by
  refine h1 _ ⟨b1, rfl, ?_⟩
  cases b1 with
  | false => exact q
  | true =>
    refine h2 _ ⟨b2, rfl, ?_⟩
    cases b2 with
    | false => exact q
    | true =>
      refine h3 _ ⟨b3, rfl, ?_⟩
      cases b3 with
      | false => exact q
      | true => exact h4 _ q
theorem r_neB {a b : Bool} {H : Hp} {Q : VK} (q : Q (.bl (!decide (a = b))) H) : rNe (.bl a) (.bl b) H Q := ⟨rfl, by
  have e : decide (V.bl a = V.bl b) = decide (a = b) := by simp
  rw [e]
  exact q⟩
def sg (c : Nat) : Str := ⟨#[c]⟩
theorem shaped_sg : ∀ l : List Nat, (∀ c ∈ l, c < 1114112) → SeqAt.shaped (.list (l.map fun c => .str (sg c))) = true := by
  have h1 : ∀ l : List Nat, (∀ c ∈ l, c < 1114112) → PyData.canLayAll0 (l.map fun c => .str (sg c)) = true := by
    intro l
    induction l with
    | nil => intro _; rfl
    | cons c r ih =>
      intro h
      show (PyData.strOk (sg c) && PyData.canLayAll0 (r.map fun c => .str (sg c))) = true
      rw [ih fun x hx => h x (List.mem_cons_of_mem _ hx), Bool.and_true]
      have hc := h c (List.mem_cons_self ..)
      unfold PyData.strOk sg
      simp [hc]
  have h2 : ∀ l : List Nat, PyData.depthAll (l.map fun c => .str (sg c)) = 0 := by
    intro l
    induction l with
    | nil => rfl
    | cons c r ih =>
      show max 0 (PyData.depthAll (r.map fun c => .str (sg c))) = 0
      rw [ih]
      rfl
  intro l h
  unfold SeqAt.shaped
  rw [Bool.and_eq_true_iff]
  refine ⟨h1 l h, decide_eq_true ?_⟩
  show PyData.depthAll (l.map fun c => .str (sg c)) + 1 ≤ 64
  rw [h2]
  decide
theorem dp_sg {H : Hp} : ∀ l : List Nat, DpAll K H (l.map fun c => V.str (sg c)) (l.map fun c => .str (sg c))
  | [] => .nil
  | c :: r => .cons (.str _) (dp_sg r)
theorem eqv_nil (l : List PyData) : PyData.eqv (.list l) (.list []) = l.isEmpty := by
  cases l with
  | nil => rfl
  | cons a r => rfl
theorem filter_all : ∀ l : List Nat, (l.filter fun c => !decide (c ∈ alpha)).isEmpty = l.all fun c => decide (c ∈ alpha)
  | [] => rfl
  | c :: r => by
    have ih := filter_all r
    by_cases h : c ∈ alpha
    · rw [List.filter_cons_of_neg (by simp [h]), List.all_cons, ih, decide_eq_true h, Bool.true_and]
    · rw [List.filter_cons_of_pos (by simp [h]), List.all_cons, decide_eq_false h, Bool.false_and]
      rfl
theorem map_isEmpty {α β : Type} (f : α → β) (l : List α) : (l.map f).isEmpty = l.isEmpty := by cases l <;> rfl
theorem good0 {z : Str} {zn called : List Str} (p : zn.Perm called) : ((z.cps.toList.all fun c => decide (c ∈ alpha)) && (decide (1 ≤ z.length ∧ z.length ≤ 4) && (decide (z ∉ zn) && decide (zn.length < 4)))) = true ↔ okName z = true ∧ z ∉ called ∧ called.length < 4 := by
  have e := p.length_eq
  have em : z ∈ zn ↔ z ∈ called := p.mem_iff
  unfold okName
  simp only [Bool.and_eq_true, decide_eq_true_eq]
  constructor
  · rintro ⟨h1, h2, h3, h4⟩
    exact ⟨⟨h2, h1⟩, fun q => h3 (em.mpr q), by omega⟩
  · rintro ⟨⟨h2, h1⟩, h3, h4⟩
    exact ⟨h1, h2, fun q => h3 (em.mp q), by omega⟩
theorem sc_law : FnScope ["script", "head", "number", "wires", "post", "thing", "names", "count", "cell", "name", "way", "letters", "good", "kinds", "sign", "other"] ["script"] (defScope s_law) := ⟨rfl, rfl, rfl, by decide +kernel, rfl, by decide +kernel, by decide +kernel⟩
theorem okS_law (T : Txt K mg) (F_law_cell_at : Ok P w K mg base CX0 1 (He.ga K "_law_cell_at") ["script", "k"] (spCellAt K)) (F_law_wires : Ok P w K mg base CX0 3 (He.ga K "_law_wires") ["number", "cell"] spLWires)
    (F_Post_init : Ok P w K mg base (L2.CX P w) 8 (He.ma K (He.ga K "Post") "__init__") ["self", "number", "wires"] (spPostInit K)) (F_law_whole : Ok P w K mg base CX0 1 (He.ga K "_law_whole") ["found"] spWhole)
    (F_Post_number : Ok P w K mg base CX0 1 (He.ma K (He.ga K "Post") "number") ["self"] (spNumber K)) (F_Post_events : Ok P w K mg base CX0 1 (He.ma K (He.ga K "Post") "events") ["self"] (spEvents K))
    (F_Post_book : Ok P w K mg base CX0 1 (He.ma K (He.ga K "Post") "book") ["self"] (spBook K)) (F_Post_waiting : Ok P w K mg base CX0 3 (He.ma K (He.ga K "Post") "waiting") ["self"] (spWaiting K))
    (F_Post_came : Ok P w K mg base CX0 1 (He.ma K (He.ga K "Post") "came") ["self"] (spCame K)) (F_Post_grew : Ok P w K mg base CX0 1 (He.ma K (He.ga K "Post") "grew") ["self"] (spGrew K))
    (F_law_bad_posts : Ok P w K mg base CX0 1 (He.ga K "_law_bad_posts") ["number", "wires", "far"] spBadPosts) (F_law_kinds : Ok P w K mg base CX0 10 (He.ga K "_law_kinds") ["post", "way", "thing"] (spKinds K))
    (F_law_name : Ok P w K mg base CX0 3 (He.ga K "_law_name") ["cell"] spLName) (F_law_news_right : Ok P w K mg base CX0 6 (He.ga K "_law_news_right") ["post", "house", "number", "names"] (spNewsRight K))
    (F_law_posts_refused : Ok P w K mg base CX0 7 (He.ga K "_law_posts_refused") ["post", "cell"] (spRefused K)) (F_law_own_letters_right : Ok P w K mg base CX0 7 (He.ga K "_law_own_letters_right") ["post", "far"] (spOwnRight K))
    {fd : FuncData} (F : FunD K "law" "law" (defArgs s_law) (defBody s_law) (defScope s_law) [] [] (He.ga K "law") fd) :
    FnOk P w K mg base CX0 11 (He.ga K "law") fd ["script"] (spLaw K) := by
  refine F.ok sc_law (fun vs H Q E h => ?_) (fun cdv A outer s H vs Q E hr h => ?_)
  · obtain ⟨a, ns, rfl, _⟩ := h
    rfl
  · obtain ⟨a, ns, rfl, hs, l63, k⟩ := h
    refine ⟨_, PSs.nox (pss_cons (ps_set (i := 1) sc_law.nd rfl (Or.inl rfl) (pe_op op_mod (pe_callO F_law_cell_at (hr.mono (by decide)) rfl T.g_law_cell_at pass0 (pa_cons (pv 0) (pa_cons pe_int pa_nil))) (pe_op op_pow pe_int pe_int)))
 (pss_cons (ps_set (i := 2) sc_law.nd rfl (Or.inl rfl) (pe_op op_mod (pv 1) pe_int))
 (pss_cons (ps_set (i := 3) sc_law.nd rfl (Or.inl rfl) (pe_callO F_law_wires (hr.mono (by decide)) rfl T.g_law_wires pass0 (pa_cons (pv 2) (pa_cons (pe_op op_fdiv (pv 1) pe_int) pa_nil))))
 (pss_cons (ps_set (i := 4) sc_law.nd rfl (Or.inl rfl) (pe_makeO T.m_Post F_Post_init (hr.mono (by decide)) rfl T.c_Post passL (pa_cons (pv 2) (pa_cons (pv 3) pa_nil))))
 (pss_cons (ps_if (PW.pt (pw_or (pt_not (pt_val (pe_callO F_law_whole (hr.mono (by decide)) rfl T.g_law_whole pass0 (pa_cons (pe_meth0O (pv 4) T.k_Post T.t_Post_number F_Post_number (hr.mono (by decide)) pass0) pa_nil)))) (pw_or (pt_cmpR (op_ne) (pe_meth0O (pv 4) T.k_Post T.t_Post_number F_Post_number (hr.mono (by decide)) pass0) (pv 2) (nomark _)) (pw_or (pt_cmpR (op_neD hr.units) (pe_meth0O (pv 4) T.k_Post T.t_Post_events F_Post_events (hr.mono (by decide)) pass0) (pe_lst pa_nil) (nomark _)) (pw_or1 (pt_cmpR (op_neD hr.units) (pe_meth0O (pv 4) T.k_Post T.t_Post_book F_Post_book (hr.mono (by decide)) pass0) (pe_lst pa_nil) (nomark _))))))) (pss_one (ps_ret pe_bl)) pss_nil)
 (pss_cons (ps_if (PW.pt (pw_or (pt_cmpR (op_ne) (pe_meth0O (pv 4) T.k_Post T.t_Post_waiting F_Post_waiting (hr.mono (by decide)) pass0) pe_int (nomark _)) (pw_or (pt_cmpR (op_neD hr.units) (pe_meth0O (pv 4) T.k_Post T.t_Post_came F_Post_came (hr.mono (by decide)) pass0) (pe_lst pa_nil) (nomark _)) (pw_or1 (pt_cmpR (op_notBl) (pe_meth0O (pv 4) T.k_Post T.t_Post_grew F_Post_grew (hr.mono (by decide)) pass0) pe_bl (nomark _)))))) (pss_one (ps_ret pe_bl)) pss_nil)
 (pss_cons (ps_for PassesOwn.never rfl (pi_list (pe_callO F_law_bad_posts (hr.mono (by decide)) rfl T.g_law_bad_posts pass0 (pa_cons (pv 2) (pa_cons (pv 3) (pa_cons (pe_op op_mod (pe_op op_fdiv (pv 1) pe_int) (pe_op op_pow pe_int pe_int)) pa_nil))))) (pg_name (i := 5) sc_law.nd rfl (Or.inl rfl)) (pss_one (ps_if (pt_cmpR (op_neD hr.units) (pe_callO F_law_kinds (hr.mono (by decide)) rfl T.g_law_kinds pass0 (pa_cons (pv 4) (pa_cons pe_int (pa_cons (pv 5) pa_nil)))) (pe_lst (pa_cons pe_bl (pa_cons pe_bl (pa_cons pe_bl (pa_cons pe_bl pa_nil))))) (nomark _)) (pss_one (ps_ret pe_bl)) pss_nil)))
 (pss_cons (ps_set (i := 6) sc_law.nd rfl (Or.inl rfl) (pe_lst pa_nil))
 (pss_cons (ps_set (i := 7) sc_law.nd rfl (Or.inl rfl) pe_int)
 (pss_cons (ps_for PassesOwn.never rfl (pi_list (pe_op op_cat (pe_lst (pa_cons pe_int pa_nil)) (pe_slice sl_list (pv 0) (po_some pe_int) (po_some pe_int)))) (pg_name (i := 8) sc_law.nd rfl (Or.inl rfl)) (pss_cons (ps_set (i := 8) sc_law.nd rfl (Or.inl rfl) (pe_op op_mod (pv 8) (pe_op op_pow pe_int pe_int)))
 (pss_cons (ps_set (i := 9) sc_law.nd rfl (Or.inr rfl) (pe_callO F_law_name (hr.mono (by decide)) rfl T.g_law_name pass0 (pa_cons (pe_op op_fdiv (pv 8) pe_int) pa_nil)))
 (pss_cons (ps_set (i := 10) sc_law.nd rfl (Or.inl rfl) (pe_op op_mod (pv 8) pe_int))
 (pss_cons (ps_set (i := 11) sc_law.nd rfl (Or.inl rfl) (pe_cmpR (op_eqD hr.units) (pe_lc (own := [("sign", 14)]) rfl sc_law.nd (pi_str (pv 9)) (blkOk_by (own := [("sign", 14)]) (N := ["script", "head", "number", "wires", "post", "thing", "names", "count", "cell", "name", "way", "letters", "good", "kinds", "sign", "other"]) (sc := defScope s_law) (by decide +kernel)) (fun _ _ _ _ _ => (pg_name (i := 14) sc_law.nd rfl (Or.inl rfl))) (fun _ _ _ _ _ => pts_one (pt_cmpR (op_signNotIn) (pv 14) pe_str (by rfl))) (fun _ _ _ _ _ => (pv 14))) (pe_lst pa_nil) (nomark _)))
 (pss_cons (ps_set (i := 12) sc_law.nd rfl (Or.inl rfl) (pe_and (pe_cmpR (op_eq) (pv 10) pe_int (nomark _)) (pe_one (pe_cmpR (op_in_seq) (pv 9) (pv 6) (by rfl)))))
 (pss_cons (ps_if (pt_cmpR (op_eq) (pv 10) pe_int (nomark _)) (pss_one (ps_set (i := 12) sc_law.nd rfl (Or.inl rfl) (pe_and (pv 11) (pe_and (pe_chain op_le op_le pe_int (pe_callB (call_lenR) (by rfl) T.b_len (by decide +kernel) (pa_cons (pv 9) pa_nil)) pe_int) (pe_and (pe_cmpR (op_notIn_seq) (pv 9) (pv 6) (by rfl)) (pe_one (pe_cmpR (op_lt) (pe_callB (call_lenR) (by rfl) T.b_len (by decide +kernel) (pa_cons (pv 6) pa_nil)) pe_int (nomark _)))))))) pss_nil)
 (pss_cons (ps_set (i := 13) sc_law.nd rfl (Or.inl rfl) (pe_callO F_law_kinds (hr.mono (by decide)) rfl T.g_law_kinds pass0 (pa_cons (pv 4) (pa_cons (pv 10) (pa_cons (pv 9) pa_nil)))))
 (pss_cons (ps_if (pt_cmpR (op_neD hr.units) (pv 13) (pe_ix ix_list (pe_lst (pa_cons (pe_lst (pa_cons pe_bl (pa_cons pe_bl (pa_cons pe_bl (pa_cons pe_bl pa_nil))))) (pa_cons (pe_lst pa_nil) pa_nil))) (pe_callTy (call_int1) (by rfl) T.b_int (by decide +kernel) (pa_cons (pv 12) pa_nil)) (fun _ _ => rfl)) (nomark _)) (pss_one (ps_ret pe_bl)) pss_nil)
 (pss_cons (ps_if (pt_val (pv 12)) (pss_cons (ps_set (i := 7) sc_law.nd rfl (Or.inl rfl) (pe_op op_add (pv 7) pe_int))
 (pss_one (ps_set (i := 6) sc_law.nd rfl (Or.inl rfl) (pe_ifExp (pt_cmpR (op_eq) (pv 10) pe_int (nomark _)) (pe_op op_cat (pv 6) (pe_lst (pa_cons (pv 9) pa_nil))) (pe_lc (own := [("other", 15)]) rfl sc_law.nd (pi_list (pv 6)) (blkOk_by (own := [("other", 15)]) (N := ["script", "head", "number", "wires", "post", "thing", "names", "count", "cell", "name", "way", "letters", "good", "kinds", "sign", "other"]) (sc := defScope s_law) (by decide +kernel)) (fun _ _ _ _ _ => (pg_name (i := 15) sc_law.nd rfl (Or.inl rfl))) (fun _ _ _ _ _ => pts_one (pt_cmpR (op_ne) (pv 15) (pv 9) (nomark _))) (fun _ _ _ _ _ => (pv 15))))))) pss_nil)
 (pss_cons (ps_if (PW.pt (pw_or (pt_cmpR (op_ne) (pe_meth0O (pv 4) T.k_Post T.t_Post_grew F_Post_grew (hr.mono (by decide)) pass0) (pv 12) (nomark _)) (pw_or (pt_cmpR (op_notBl) (pe_meth0O (pv 4) T.k_Post T.t_Post_grew F_Post_grew (hr.mono (by decide)) pass0) pe_bl (nomark _)) (pw_or1 (pt_not (pt_val (pe_callO F_law_news_right (hr.mono (by decide)) rfl T.g_law_news_right pass0 (pa_cons (pv 4) (pa_cons (pv 2) (pa_cons (pv 7) (pa_cons (pv 6) pa_nil))))))))))) (pss_one (ps_ret pe_bl)) pss_nil)
 (pss_one (ps_if (PW.pt (pw_or (pt_not (pt_val (pe_callO F_law_posts_refused (hr.mono (by decide)) rfl T.g_law_posts_refused pass0 (pa_cons (pv 4) (pa_cons (pv 8) pa_nil))))) (pw_or (pt_cmpR (op_neD hr.units) (pe_meth0O (pv 4) T.k_Post T.t_Post_book F_Post_book (hr.mono (by decide)) pass0) (pe_lst pa_nil) (nomark _)) (pw_or (pt_cmpR (op_neD hr.units) (pe_meth0O (pv 4) T.k_Post T.t_Post_came F_Post_came (hr.mono (by decide)) pass0) (pe_lst pa_nil) (nomark _)) (pw_or1 (pt_cmpR (op_ne) (pe_meth0O (pv 4) T.k_Post T.t_Post_waiting F_Post_waiting (hr.mono (by decide)) pass0) pe_int (nomark _))))))) (pss_one (ps_ret pe_bl)) pss_nil)))))))))))))
 (pss_one (ps_ret (pe_callO F_law_own_letters_right (hr.mono (by decide)) rfl T.g_law_own_letters_right pass0 (pa_cons (pv 4) (pa_cons (pe_op op_mod (pe_op op_fdiv (pv 1) pe_int) (pe_op op_pow pe_int pe_int)) pa_nil))))))))))))))), ?_⟩
    walk_at "rn"
    refine ⟨a, ns, 0, rfl, hs, fun z0 => ?_⟩
    walk_at "rn"
    generalize eh : z0 % 1000000000000000000000000000000000000000000000000000000000000 = hd
    have hd0 : 0 ≤ hd := by omega
    walk_at "rn"
    generalize en : hd % 32 = n
    have n0 : 0 ≤ n := by omega
    have n1 : n ≤ 31 := by omega
    walk_at "rn"
    refine ⟨n, _, rfl, n0, n1, fun H1 wl ws s1 nwl hw gd okws => ?_⟩
    have hs1 := s1.seq hs
    walk_at "rn"
    intro x dx nx ndx nn
    have s2 : Same H1 (upd (upd H1 dx (.own x)) x (.ins (He.ga K "Post") dx [])) := (same_upd ndx).trans (same_upd (by rw [upd_ne (Ne.symm nn)]; exact nx))
    have lw := goodPost_le gd
    refine ⟨x, dx, wl, n, ws, rfl, upd_same, hw.same s2, by omega, okws, (fun e => by rw [gd] at e; cases e), fun _ H2 m em keep pa => ⟨rfl, ?_⟩⟩
    have L2' : LI K H1 m (st0 n) H2 x n := ⟨pa, em, fun b o e => keep _ _ (s2 _ _ e) (ne_of_none e nx), rfl, rfl, rfl, rfl, rfl⟩
    subst em
    obtain ⟨i, q⟩ := pa
    walk_at "rn"
    refine r_methAt q.obj (by kernel_rfl) ?_
    walk_at "rn"
    refine ⟨m, _, rfl, ⟨i, q⟩, ?_⟩
    walk_at "rn"
    refine ⟨n, rfl, ?_⟩
    walk_at "rn"
    refine if_bF rfl ?_
    walk_at "rn"
    refine r_methAt q.obj (by kernel_rfl) ?_
    walk_at "rn"
    refine ⟨m, _, rfl, ⟨i, q⟩, ?_⟩
    walk_at "rn"
    refine if_ndecT rfl ?_
    walk_at "rn"
    refine r_methAt q.obj (by kernel_rfl) ?_
    walk_at "rn"
    refine ⟨m, _, rfl, ⟨i, q⟩, fun l3 nl3 => ?_⟩
    have s3 := same_upd (o := .lst []) nl3
    have h3 : upd H2 l3 (.lst []) l3 = some (.lst []) := upd_same
    generalize upd H2 l3 (.lst []) = H3 at s3 h3 ⊢
    walk_at "rn"
    refine n_lst (by decide) fun H4 l4 s4 nl4 h4 => ?_
    walk_at "rn"
    refine r_neSame (d := .list []) (.lst (.of (s4 _ _ h3)) .nil) (.lst (.of h4) .nil) (by kernel_rfl) ?_
    walk_at "rn"
    refine if_bF rfl ?_
    have q4 := q.same (s3.trans s4)
    walk_at "rn"
    refine r_methAt q4.obj (by kernel_rfl) ?_
    walk_at "rn"
    refine ⟨m, _, rfl, ⟨i, q4⟩, fun H5 l5 s5 nl5 d5 => ?_⟩
    walk_at "rn"
    refine n_lst (by decide) fun H6 l6 s6 nl6 h6 => ?_
    walk_at "rn"
    refine r_neSame (d := .list []) (dp_same s6 _ _ d5) (.lst (.of h6) .nil) (by kernel_rfl) ?_
    walk_at "rn"
    refine if_bF rfl ?_
    have q6 := q4.same (s5.trans s6)
    walk_at "rn"
    refine r_methAt q6.obj (by kernel_rfl) ?_
    walk_at "rn"
    refine ⟨m, _, rfl, ⟨i, q6⟩, fun H7 s7 => ?_⟩
    walk_at "rn"
    refine if_ndecT rfl ?_
    have q7 := q6.same s7
    have L7 := L2'.same ((((s3.trans s4).trans s5).trans s6).trans s7)
    walk_at "rn"
    refine r_methAt q7.obj (by kernel_rfl) ?_
    walk_at "rn"
    refine ⟨m, _, rfl, ⟨i, q7⟩, fun m2 H8 em2 s8 p8 d8 => ?_⟩
    walk_at "rn"
    refine n_lst (by decide) fun H9 l9 s9 nl9 h9 => ?_
    walk_at "rn"
    refine r_neSame (d := .list []) (dp_same (off_sub.trans s9) _ _ d8) (.lst (.of h9) .nil) (by kernel_rfl) ?_
    walk_at "rn"
    refine if_bF rfl ?_
    have L9 : LI K H1 m2 { st0 n with outD := [] } H9 m.p n := ⟨p8.same s9, em2, (L7.s.trans s8).trans (off_same s9), rfl, rfl, rfl, rfl, rfl⟩
    obtain ⟨dx9, i9, ob9⟩ := L9.ob
    walk_at "rn"
    refine r_methAt ob9 (by kernel_rfl) ?_
    walk_at "rn"
    refine ⟨m2, _, by rw [em2] <;> rfl, L9.pa, fun I1 t1 p1 => ?_⟩
    walk_at "rn"
    refine r_notBl ?_
    walk_at "rn"
    refine if_bF rfl ?_
    have M1 : LI K H1 m2 { st0 n with outD := [], grown := false } I1 m.p n := ⟨p1, em2, L9.s.trans t1, rfl, rfl, rfl, rfl, rfl⟩
    -- bad posts
    walk_at "rn"
    have hd32 : 0 ≤ hd / 32 % 10000000000000000000000000000000000000000 := by omega
    refine ⟨n, _, wl, ws, rfl, n0, n1, hd32, (hw.same M1.s).same off_sub, by omega, okws, fun I2 r vs2 t2 nr hr lr bads => ?_⟩
    walk_at "rn"
    refine r_iL (.of hr) ?_
    walk_at "rn"
    refine f_list (xs := vs2) (fun j σ I3 => (∃ t e1 e2 e3 e4 e5 e6 e7 e8 e9 e10, σ = [some (.ref a), some (.int hd), some (.int n), some (.ref wl), some (.ref m.p), t, e1, e2, e3, e4, e5, e6, e7, e8, e9, e10]) ∧ Same I2 I3) ⟨⟨_, _, _, _, _, _, _, _, _, _, _, rfl⟩, Same.refl _⟩ (fun j σ I3 _ p => .of (p.2 _ _ hr)) (fun j x σ I3 hx p => ?_) (fun σ I3 p => ?_)
    · obtain ⟨⟨t, e1, e2, e3, e4, e5, e6, e7, e8, e9, e10, rfl⟩, t3⟩ := p
      have bx := (bads x (List.mem_of_getElem? hx)).same t3
      walk_at "rn"
      refine .inr (.inr ⟨_, x, rfl, bx, fun I4 l4 t4 nl4 h4 => ?_⟩)
      walk_at "rn"
      refine n_lst (by show 4 ≤ sizeLine; decide) fun I5 l5 t5 nl5 h5 => ?_
      walk_at "rn"
      refine r_ne4 (bs := [false, true, true, false]) (t5 _ _ h4) h5 rfl (by kernel_rfl) ?_
      walk_at "rn"
      refine if_bF rfl ?_
      walk_at "rn"
      exact ⟨⟨_, _, _, _, _, _, _, _, _, _, _, rfl⟩, (t3.trans t4).trans t5⟩
    · obtain ⟨⟨t, e1, e2, e3, e4, e5, e6, e7, e8, e9, e10, rfl⟩, t3⟩ := p
      have M3 := M1.same (t2.trans t3)
      walk_at "rn"
      refine n_lst (by decide) fun I4 nl0 t4 nn4 h4 => ?_
      have M4 := M3.same t4
      walk_at "rn"
      refine n_lst (by show 1 ≤ sizeLine; decide) fun I5 l5 t5 nn5 h5 => ?_
      have M5 := M4.same t5
      have hs5 : SqL K I5 a (ns.map V.int) := off_sub.seq (M5.s.seq hs1)
      walk_at "rn"
      refine ⟨_, rfl, ?_⟩
      walk_at "rn"
      refine ⟨_, rfl, ?_⟩
      walk_at "rn"
      refine r_slL hs5 fun l6 nn6 => ?_
      obtain ⟨zs, ez, lz, _⟩ := cutV_map V.int ns (some 1) (some 31)
      rw [ez]
      have t6 := same_upd (o := .lst (zs.map V.int)) nn6
      have h6 : upd I5 l6 (.lst (zs.map V.int)) l6 = some (.lst (zs.map V.int)) := upd_same
      generalize upd I5 l6 (.lst (zs.map V.int)) = I6 at t6 h6 ⊢
      have M6 := M5.same t6
      walk_at "rn"
      refine n_cat (t6 _ _ h5) h6 (by rw [List.length_map]; exact Nat.le_trans (show 1 + zs.length ≤ 64 by omega) (by decide)) fun I7 lc t7 nn7 h7 => ?_
      have M7 := M6.same t7
      have ec : [V.int 0] ++ zs.map V.int = ((0 :: zs) : List Int).map V.int := rfl
      rw [ec] at h7
      have hlc7 : off m2.M I7 lc = some (.lst (((0 :: zs) : List Int).map V.int)) := off_of h7 (M6.nM nn7)
      have hnl7 : off m2.M I7 nl0 = some (.lst []) := off_of (((t5.trans t6).trans t7) _ _ h4) (M3.nM nn4)
      walk_at "rn"
      refine r_iL (.of h7) ?_
      walk_at "rn"
      refine f_list (xs := ((0 :: zs) : List Int).map V.int) (fun j σ J => ∃ (mm : PAd) (st : PSt) (nl : Addr) (zn : List Str), LI K H1 mm st J m.p n ∧ st.grown = false ∧ st.num ≤ j ∧ off mm.M J nl = some (.lst (zn.map V.str)) ∧ zn.Perm st.called ∧ off mm.M J lc = some (.lst (((0 :: zs) : List Int).map V.int)) ∧
          ∃ v5 v8 v9 v10 v11 v12 v13 v14 v15, σ = [some (.ref a), some (.int hd), some (.int n), some (.ref wl), some (.ref m.p), v5, some (.ref nl), some (.int st.num), v8, v9, v10, v11, v12, v13, v14, v15])
        ⟨m2, _, nl0, [], M7, rfl, Int.le_refl _, hnl7, .nil, hlc7, _, _, _, _, _, _, _, _, _, rfl⟩ (fun j σ J _ p => ?_) (fun j x σ J hx p => ?_) (fun σ J p => ?_)
      · obtain ⟨mm, st, nl, zn, _, _, _, _, _, h, _⟩ := p
        exact .of (off_get h)
      · obtain ⟨mm, st, nl, zn, LJ, gf, cj, hnl, pm, hlc, v5, v8, v9, v10, v11, v12, v13, v14, v15, rfl⟩ := p
        have hjl : j < (((0 :: zs) : List Int).map V.int).length := (List.getElem?_eq_some_iff.mp hx).1
        rw [List.length_map, List.length_cons] at hjl
        rw [List.getElem?_map] at hx
        obtain ⟨c0, _, rfl⟩ := Option.map_eq_some_iff.mp hx
        have n9 : st.num < 900000 := by omega
        walk_at "rn"
        generalize ecell : c0 % 1000000000000000000000000000000000000000000000000000000000000 = c
        have hc0 : 0 ≤ c := by omega
        walk_at "rn"
        refine ⟨_, rfl, fun J1 z u1 lz5 zc => ?_⟩
        walk_at "rn"
        generalize ew : c % 2 = wy
        have hwy : wy = 0 ∨ wy = 1 := by omega
        have N1 := LJ.same u1
        walk_at "rn"
        refine r_iS ?_
        walk_at "rn"
        refine l_it walk_str (fun D i J2 => J1 D = none ∧ Same J1 J2 ∧ J2 D = some (.lst (((z.cps.toList.take i).filter fun c => !decide (c ∈ alpha)).map fun c => V.str (sg c)))) (fun D nD => ⟨nD, same_upd nD, upd_same⟩) (fun _ _ _ _ _ => trivial) (fun D i x J2 J3 hi p y => ?_) (fun D J2 p => ?_)
        · obtain ⟨nD, u2, hD⟩ := p
          obtain ⟨rfl, cc, hcc, rfl⟩ := y
          have hcc' : z.cps.toList[i]? = some cc := by rw [Array.getElem?_toList]; exact hcc
          walk_at "rn"
          refine ⟨rfl, ?_⟩
          walk_at "rn"
          refine r_signNotIn ?_
          rw [letM]
          walk_at "rn"
          refine if_ndec (fun hn => ?_) (fun hn => ?_)
          · walk_at "rn"
            refine ⟨_, hD, ?_, nD, same_re nD u2, ?_⟩
            · rw [List.length_map]
              have l1 := List.length_filter_le (fun c => !decide (c ∈ alpha)) (z.cps.toList.take i)
              have l2 := (List.take_sublist i z.cps.toList).length_le
              rw [Array.length_toList] at l2
              exact Nat.lt_of_le_of_lt (show _ ≤ 5 from Nat.le_trans l1 (Nat.le_trans l2 lz5)) (by decide)
            · rw [upd_same, List.take_add_one, hcc', List.filter_append, List.map_append]
              have e2 : ([cc] : List Nat).filter (fun c => !decide (c ∈ alpha)) = [cc] := List.filter_eq_self.mpr fun a ha => by rw [List.mem_singleton.mp ha, decide_eq_false hn]; rfl
              show _ = some (HO.lst (_ ++ (([cc] : List Nat).filter _).map _))
              rw [e2]
              rfl
          · refine ⟨nD, u2, ?_⟩
            have e2 : ([cc] : List Nat).filter (fun c => !decide (c ∈ alpha)) = [] := List.filter_eq_nil_iff.mpr fun a ha => by rw [List.mem_singleton.mp ha, decide_eq_true hn]; exact Bool.false_ne_true
            rw [List.take_add_one, hcc', List.filter_append]
            show _ = some (HO.lst ((_ ++ (([cc] : List Nat).filter _)).map _))
            rw [e2, List.append_nil]
            exact hD
        obtain ⟨nD, u2, hD⟩ := p
        have et : z.cps.toList.take z.cps.size = z.cps.toList := List.take_of_length_le (by rw [Array.length_toList]; exact Nat.le_refl _)
        rw [et] at hD
        walk_at "rn"
        refine n_lst (by decide) fun J3 l3 u3 nn3 h3 => ?_
        walk_at "rn"
        refine r_eqD (.lst (.of (u3 _ _ hD)) (dp_sg _)) (.lst (.of h3) .nil) (shaped_sg _ fun c hc => zc c (List.mem_filter.mp hc).1) (by kernel_rfl) ?_
        rw [eqv_nil, map_isEmpty, filter_all]
        have N3 := N1.same (u2.trans u3)
        have uA := (u1.trans u2).trans u3
        have hnl3 := off_same uA _ _ hnl
        have hlc3 := off_same uA _ _ hlc
        have lzn := pm.length_eq
        walk_at "rn"
        rcases hwy with rfl | rfl
        · walk_at "rn"
          refine if_decF (by decide) ?_
          walk_at "rn"
          refine if_decT rfl ?_
          refine K54.r_asg (K54.and4 (b1 := z.cps.toList.all fun c => decide (c ∈ alpha)) (b2 := decide (1 ≤ z.length ∧ z.length ≤ 4)) (b3 := decide (z ∉ zn)) (b4 := decide (zn.length < 4)) (fun Q' q' => ?_) (fun Q' q' => ?_) (fun Q' q' => ?_) (fun Q' q' => ?_) ?_)
          · walk_at "rn"
            exact q'
          · walk_at "rn"
            refine r_lenS (Nat.le_trans lz5 (by decide)) ?_
            walk_at "rn"
            refine if_dec (fun g1 => ?_) (fun g1 => ?_)
            · walk_at "rn"
              have e : decide ((z.length : Int) ≤ 4) = decide (1 ≤ z.length ∧ z.length ≤ 4) := decide_eq_decide.mpr ⟨fun q => ⟨by omega, by omega⟩, fun q => by omega⟩
              rw [e]
              exact q'
            · rw [decide_eq_false (show ¬ (1 ≤ z.length ∧ z.length ≤ 4) by omega)] at q'
              exact q'
          · walk_at "rn"
            refine r_notIn (.inl (.of (off_get hnl3))) rfl (flat_strs _) ?_
            rw [inV_str]
            have e : (!decide (z ∈ zn)) = decide (z ∉ zn) := by by_cases h : z ∈ zn <;> simp [h]
            rw [e]
            exact q'
          · walk_at "rn"
            refine r_lenL (.of (off_get hnl3)) ?_
            rw [List.length_map]
            walk_at "rn"
            have e : decide ((zn.length : Int) < 4) = decide (zn.length < 4) := decide_eq_decide.mpr ⟨fun q => by omega, fun q => by omega⟩
            rw [e]
            exact q'
          have gi := good0 (z := z) pm
          generalize ((z.cps.toList.all fun c => decide (c ∈ alpha)) && (decide (1 ≤ z.length ∧ z.length ≤ 4) && (decide (z ∉ zn) && decide (zn.length < 4)))) = gb at gi ⊢
          walk_at "rn"
          refine .inl ⟨mm, st, z, by rw [N3.mp] <;> rfl, N3.pa, n9, by omega, fun g J4 ys l4 u4 pmy p4 h4 => ?_, fun ng J4 l4 u4 nn4 h4 => ?_⟩
          · obtain rfl : gb = true := gi.mpr g
            have g' := gi.mp rfl
            have hnl4 := u4 _ _ hnl3
            have hlc4 := u4 _ _ hlc3
            have h4' := off_get h4
            have N4 : LI K H1 mm { st with called := ys, news := ys, num := st.num + 1, grown := true } J4 m.p n := ⟨p4, N3.mp, N3.s.trans u4, N3.own, N3.made, N3.outD, N3.rowD, rfl⟩
            walk_at "rn"
            refine n_lst (by show 4 ≤ sizeLine; decide) fun J5 l5 u5 nn5 h5 => ?_
            walk_at "rn"
            refine n_lst (by decide) fun J6 l6 u6 nn6 h6 => ?_
            walk_at "rn"
            refine n_lst (by show 2 ≤ sizeLine; decide) fun J7 l7 u7 nn7 h7 => ?_
            walk_at "rn"
            refine .inr ⟨_, rfl, ?_⟩
            have u57 := (u5.trans u6).trans u7
            walk_at "rn"
            refine r_ixL (.of h7) (atI_nat (j := 1) rfl) ?_
            walk_at "rn"
            refine r_ne4 (bs := []) (u57 _ _ h4') (u7 _ _ h6) rfl (by kernel_rfl) ?_
            walk_at "rn"
            refine if_bF rfl ?_
            walk_at "rn"
            have N7 := N4.same u57
            have hnl7 := off_same u57 _ _ hnl4
            have hlc7 := off_same u57 _ _ hlc4
            walk_at "rn"
            refine iteT ?_
            walk_at "rn"
            refine if_decT rfl ?_
            walk_at "rn"
            refine n_lst (by show 1 ≤ sizeLine; decide) fun J8 l8 u8 nn8 h8 => ?_
            walk_at "rn"
            refine n_cat (u8 _ _ (off_get hnl7)) h8 (by rw [List.length_map]; exact Nat.le_trans (show zn.length + 1 ≤ 5 by have := g'.2.2; omega) (by decide)) fun J9 nl9 u9 nn9 h9 => ?_
            have e9 : zn.map V.str ++ [V.str z] = (zn ++ [z]).map V.str := by rw [List.map_append]; rfl
            rw [e9] at h9
            have u89 := u8.trans u9
            have N9 := N7.same u89
            have hlc9 := off_same u89 _ _ hlc7
            have hnl9 : off mm.M J9 nl9 = some (.lst ((zn ++ [z]).map V.str)) := off_of h9 ((N7.same u8).nM nn9)
            have pm9 : (zn ++ [z]).Perm ys := (pm.append_right [z]).trans pmy.symm
            walk_at "rn"
            obtain ⟨dxa, ia, oba⟩ := N9.ob
            walk_at "rn"
            refine r_methAt oba (by kernel_rfl) ?_
            walk_at "rn"
            refine ⟨mm, _, by rw [N9.mp] <;> rfl, N9.pa, fun K1 w1 r1 => ?_⟩
            have O1 : LI K H1 mm { ({ st with called := ys, news := ys, num := st.num + 1, grown := true } : PSt) with grown := false } K1 m.p n := ⟨r1, N9.mp, N9.s.trans w1, N9.own, N9.made, N9.outD, N9.rowD, N9.nw⟩
            walk_at "rn"
            refine r_neB ?_
            walk_at "rn"
            refine if_ndecT rfl ?_
            obtain ⟨dxb, ib, obb⟩ := O1.ob
            walk_at "rn"
            refine r_methAt obb (by kernel_rfl) ?_
            walk_at "rn"
            refine ⟨mm, _, by rw [O1.mp] <;> rfl, O1.pa, fun K2 w2 r2 => ?_⟩
            have O2 : LI K H1 mm { ({ st with called := ys, news := ys, num := st.num + 1, grown := true } : PSt) with grown := false } K2 m.p n := ⟨r2, O1.mp, O1.s.trans w2, O1.own, O1.made, O1.outD, O1.rowD, O1.nw⟩
            walk_at "rn"
            refine r_notBl ?_
            walk_at "rn"
            refine if_bF rfl ?_
            have hnl2 := w2 _ _ (w1 _ _ hnl9)
            have hlc2 := w2 _ _ (w1 _ _ hlc9)
            walk_at "rn"
            refine ⟨mm, _, nl9, (zn ++ [z]), by rw [O2.mp, O2.own] <;> rfl, O2.pa, O2.nw, off_get hnl2, pm9, fun K3 w3 => ?_⟩
            have O3 := O2.same w3
            walk_at "rn"
            refine if_bF rfl ?_
            walk_at "rn"
            refine ⟨mm, _, c, by rw [O3.mp] <;> rfl, hc0, O3.pa, by rw [O3.made]; decide, by rw [O3.outD]; decide, by rw [O3.rowD]; decide, fun K4 w4 => ?_⟩
            have O4 := O3.same w4
            walk_at "rn"
            refine if_bF rfl ?_
            obtain ⟨dxc, ic, obc⟩ := O4.ob
            walk_at "rn"
            refine r_methAt obc (by kernel_rfl) ?_
            walk_at "rn"
            refine ⟨mm, _, by rw [O4.mp] <;> rfl, O4.pa, fun K5 m5 w5 nm5 d5 => ?_⟩
            walk_at "rn"
            refine n_lst (by decide) fun K6 m6 w6 nm6 h6' => ?_
            walk_at "rn"
            rw [O4.rowD] at d5
            walk_at "rn"
            refine r_neSame (d := .list []) (dp_same w6 _ _ d5) (.lst (.of h6') .nil) (by kernel_rfl) ?_
            walk_at "rn"
            refine if_bF rfl ?_
            have O6 := O4.same (w5.trans w6)
            obtain ⟨dxd, id6, obd⟩ := O6.ob
            walk_at "rn"
            refine r_methAt obd (by kernel_rfl) ?_
            walk_at "rn"
            refine ⟨mm, _, by rw [O6.mp] <;> rfl, O6.pa, fun m7 K7 em7 w7 r7 d7 => ?_⟩
            walk_at "rn"
            refine n_lst (by decide) fun K8 m8 w8 nm8 h8' => ?_
            walk_at "rn"
            rw [O6.outD] at d7
            walk_at "rn"
            refine r_neSame (d := .list []) (dp_same (off_sub.trans w8) _ _ d7) (.lst (.of h8') .nil) (by kernel_rfl) ?_
            walk_at "rn"
            refine if_bF rfl ?_
            have O8 : LI K H1 m7 { ({ st with called := ys, news := ys, num := st.num + 1, grown := true } : PSt) with grown := false, outD := [] } K8 m.p n := ⟨r7.same w8, em7.trans O6.mp, (O6.s.trans w7).trans (off_same w8), O6.own, O6.made, rfl, O6.rowD, O6.nw⟩
            obtain ⟨dxe, ie, obe⟩ := O8.ob
            walk_at "rn"
            refine r_methAt obe (by kernel_rfl) ?_
            walk_at "rn"
            refine ⟨m7, _, by rw [O8.mp] <;> rfl, O8.pa, fun K9 w9 => ?_⟩
            walk_at "rn"
            refine if_ndecT rfl ?_
            walk_at "rn"
            have O9 := O8.same w9
            have wz := (((off_same ((w3.trans w4).trans (w5.trans w6))).trans w7).trans (off_same w8)).trans (off_same w9)
            exact ⟨m7, _, nl9, (zn ++ [z]), O9, rfl, by show st.num + 1 ≤ ((j + 1 : Nat) : Int); omega, wz _ _ hnl2, pm9, wz _ _ hlc2, _, _, _, _, _, _, _, _, _, rfl⟩
          · obtain rfl : gb = false := by
              cases gb with
              | false => rfl
              | true => exact absurd (gi.mp rfl) ng
            have hnl4 := off_same u4 _ _ hnl3
            have hlc4 := off_same u4 _ _ hlc3
            have h4' := h4
            have N4 := N3.same u4
            walk_at "rn"
            refine n_lst (by show 4 ≤ sizeLine; decide) fun J5 l5 u5 nn5 h5 => ?_
            walk_at "rn"
            refine n_lst (by decide) fun J6 l6 u6 nn6 h6 => ?_
            walk_at "rn"
            refine n_lst (by show 2 ≤ sizeLine; decide) fun J7 l7 u7 nn7 h7 => ?_
            walk_at "rn"
            refine .inr ⟨_, rfl, ?_⟩
            have u57 := (u5.trans u6).trans u7
            walk_at "rn"
            refine r_ixL (.of h7) (atI_nat (j := 0) rfl) ?_
            walk_at "rn"
            refine r_ne4 (bs := [true, false, true, false]) (u57 _ _ h4') ((u6.trans u7) _ _ h5) rfl (by kernel_rfl) ?_
            walk_at "rn"
            refine if_bF rfl ?_
            walk_at "rn"
            have N7 := N4.same u57
            have hnl7 := off_same u57 _ _ hnl4
            have hlc7 := off_same u57 _ _ hlc4
            walk_at "rn"
            refine iteF ?_
            walk_at "rn"
            obtain ⟨dxa, ia, oba⟩ := N7.ob
            walk_at "rn"
            refine r_methAt oba (by kernel_rfl) ?_
            walk_at "rn"
            refine ⟨mm, _, by rw [N7.mp] <;> rfl, N7.pa, fun K1 w1 r1 => ?_⟩
            have O1 : LI K H1 mm { (st : PSt) with grown := false } K1 m.p n := ⟨r1, N7.mp, N7.s.trans w1, N7.own, N7.made, N7.outD, N7.rowD, N7.nw⟩
            walk_at "rn"
            refine r_neB ?_
            walk_at "rn"
            refine if_ndecT gf ?_
            obtain ⟨dxb, ib, obb⟩ := O1.ob
            walk_at "rn"
            refine r_methAt obb (by kernel_rfl) ?_
            walk_at "rn"
            refine ⟨mm, _, by rw [O1.mp] <;> rfl, O1.pa, fun K2 w2 r2 => ?_⟩
            have O2 : LI K H1 mm { (st : PSt) with grown := false } K2 m.p n := ⟨r2, O1.mp, O1.s.trans w2, O1.own, O1.made, O1.outD, O1.rowD, O1.nw⟩
            walk_at "rn"
            refine r_notBl ?_
            walk_at "rn"
            refine if_bF rfl ?_
            have hnl2 := w2 _ _ (w1 _ _ hnl7)
            have hlc2 := w2 _ _ (w1 _ _ hlc7)
            walk_at "rn"
            refine ⟨mm, _, nl, zn, by rw [O2.mp, O2.own] <;> rfl, O2.pa, O2.nw, off_get hnl2, pm, fun K3 w3 => ?_⟩
            have O3 := O2.same w3
            walk_at "rn"
            refine if_bF rfl ?_
            walk_at "rn"
            refine ⟨mm, _, c, by rw [O3.mp] <;> rfl, hc0, O3.pa, by rw [O3.made]; decide, by rw [O3.outD]; decide, by rw [O3.rowD]; decide, fun K4 w4 => ?_⟩
            have O4 := O3.same w4
            walk_at "rn"
            refine if_bF rfl ?_
            obtain ⟨dxc, ic, obc⟩ := O4.ob
            walk_at "rn"
            refine r_methAt obc (by kernel_rfl) ?_
            walk_at "rn"
            refine ⟨mm, _, by rw [O4.mp] <;> rfl, O4.pa, fun K5 m5 w5 nm5 d5 => ?_⟩
            walk_at "rn"
            refine n_lst (by decide) fun K6 m6 w6 nm6 h6' => ?_
            walk_at "rn"
            rw [O4.rowD] at d5
            walk_at "rn"
            refine r_neSame (d := .list []) (dp_same w6 _ _ d5) (.lst (.of h6') .nil) (by kernel_rfl) ?_
            walk_at "rn"
            refine if_bF rfl ?_
            have O6 := O4.same (w5.trans w6)
            obtain ⟨dxd, id6, obd⟩ := O6.ob
            walk_at "rn"
            refine r_methAt obd (by kernel_rfl) ?_
            walk_at "rn"
            refine ⟨mm, _, by rw [O6.mp] <;> rfl, O6.pa, fun m7 K7 em7 w7 r7 d7 => ?_⟩
            walk_at "rn"
            refine n_lst (by decide) fun K8 m8 w8 nm8 h8' => ?_
            walk_at "rn"
            rw [O6.outD] at d7
            walk_at "rn"
            refine r_neSame (d := .list []) (dp_same (off_sub.trans w8) _ _ d7) (.lst (.of h8') .nil) (by kernel_rfl) ?_
            walk_at "rn"
            refine if_bF rfl ?_
            have O8 : LI K H1 m7 { (st : PSt) with grown := false, outD := [] } K8 m.p n := ⟨r7.same w8, em7.trans O6.mp, (O6.s.trans w7).trans (off_same w8), O6.own, O6.made, rfl, O6.rowD, O6.nw⟩
            obtain ⟨dxe, ie, obe⟩ := O8.ob
            walk_at "rn"
            refine r_methAt obe (by kernel_rfl) ?_
            walk_at "rn"
            refine ⟨m7, _, by rw [O8.mp] <;> rfl, O8.pa, fun K9 w9 => ?_⟩
            walk_at "rn"
            refine if_ndecT rfl ?_
            walk_at "rn"
            have O9 := O8.same w9
            have wz := (((off_same ((w3.trans w4).trans (w5.trans w6))).trans w7).trans (off_same w8)).trans (off_same w9)
            exact ⟨m7, _, nl, zn, O9, rfl, by show st.num ≤ ((j + 1 : Nat) : Int); omega, wz _ _ hnl2, pm, wz _ _ hlc2, _, _, _, _, _, _, _, _, _, rfl⟩
        · walk_at "rn"
          refine if_decT rfl ?_
          walk_at "rn"
          refine r_in (.inl (.of (off_get hnl3))) rfl (flat_strs _) ?_
          rw [inV_str]
          have gi : decide (z ∈ zn) = true ↔ z ∈ st.called := ⟨fun h => pm.mem_iff.mp (of_decide_eq_true h), fun h => decide_eq_true (pm.mem_iff.mpr h)⟩
          generalize decide (z ∈ zn) = gb at gi ⊢
          walk_at "rn"
          refine if_decF (by decide) ?_
          walk_at "rn"
          refine .inr (.inl ⟨mm, st, z, by rw [N3.mp] <;> rfl, N3.pa, n9, fun g J4 l4 u4 p4 h4 => ?_, fun ng J4 l4 u4 nn4 h4 => ?_⟩)
          · obtain rfl : gb = true := gi.mpr g
            have hnl4 := u4 _ _ hnl3
            have hlc4 := u4 _ _ hlc3
            have h4' := off_get h4
            have N4 : LI K H1 mm { st with called := st.called.filter fun y => decide (y ≠ z), news := st.called.filter fun y => decide (y ≠ z), num := st.num + 1, grown := true } J4 m.p n := ⟨p4, N3.mp, N3.s.trans u4, N3.own, N3.made, N3.outD, N3.rowD, rfl⟩
            walk_at "rn"
            refine n_lst (by show 4 ≤ sizeLine; decide) fun J5 l5 u5 nn5 h5 => ?_
            walk_at "rn"
            refine n_lst (by decide) fun J6 l6 u6 nn6 h6 => ?_
            walk_at "rn"
            refine n_lst (by show 2 ≤ sizeLine; decide) fun J7 l7 u7 nn7 h7 => ?_
            walk_at "rn"
            refine .inr ⟨_, rfl, ?_⟩
            have u57 := (u5.trans u6).trans u7
            walk_at "rn"
            refine r_ixL (.of h7) (atI_nat (j := 1) rfl) ?_
            walk_at "rn"
            refine r_ne4 (bs := []) (u57 _ _ h4') (u7 _ _ h6) rfl (by kernel_rfl) ?_
            walk_at "rn"
            refine if_bF rfl ?_
            walk_at "rn"
            have N7 := N4.same u57
            have hnl7 := off_same u57 _ _ hnl4
            have hlc7 := off_same u57 _ _ hlc4
            walk_at "rn"
            refine iteT ?_
            walk_at "rn"
            refine if_decF (by decide) ?_
            walk_at "rn"
            refine r_iL (.of (off_get hnl7)) ?_
            walk_at "rn"
            refine l_it walk_list (fun D i J8 => J7 D = none ∧ Same J7 J8 ∧ J8 D = some (.lst (((zn.take i).filter fun y => decide (y ≠ z)).map V.str))) (fun D nD => ⟨nD, same_upd nD, upd_same⟩) (fun D i J8 _ p => .of (p.2.1 _ _ (off_get hnl7))) (fun D i x J8 J9 hi p y => ?_) (fun nl9 J9 p => ?_)
            · obtain ⟨nD2, u8, hD2⟩ := p
              obtain ⟨rfl, hx2⟩ := y
              rw [List.getElem?_map] at hx2
              obtain ⟨y2, hy2, rfl⟩ := Option.map_eq_some_iff.mp hx2
              walk_at "rn"
              refine ⟨rfl, ?_⟩
              walk_at "rn"
              refine if_ndec (fun hn => ?_) (fun he => ?_)
              · walk_at "rn"
                refine ⟨_, hD2, ?_, nD2, same_re nD2 u8, ?_⟩
                · rw [List.length_map]
                  have l1 := List.length_filter_le (fun y => decide (y ≠ z)) (zn.take i)
                  have l2 := (List.take_sublist i zn).length_le
                  obtain ⟨ii, qq⟩ := N3.pa
                  have l4 := qq.b3.2.2.1
                  exact Nat.lt_of_le_of_lt (show _ ≤ 4 by omega) (by decide)
                · rw [List.take_add_one, hy2, List.filter_append, List.map_append]
                  simp [hn, upd_same]
              · refine ⟨nD2, u8, ?_⟩
                rw [List.take_add_one, hy2, List.filter_append, List.map_append]
                simpa [he] using hD2
            obtain ⟨nD2, u89, hD2⟩ := p
            rw [List.length_map, List.take_length] at hD2
            have N9 := N7.same u89
            have hlc9 := off_same u89 _ _ hlc7
            have hnl9 : off mm.M J9 nl9 = some (.lst ((zn.filter fun y => decide (y ≠ z)).map V.str)) := off_of hD2 (N7.nM nD2)
            have pm9 := pm.filter fun y => decide (y ≠ z)
            walk_at "rn"
            obtain ⟨dxa, ia, oba⟩ := N9.ob
            walk_at "rn"
            refine r_methAt oba (by kernel_rfl) ?_
            walk_at "rn"
            refine ⟨mm, _, by rw [N9.mp] <;> rfl, N9.pa, fun K1 w1 r1 => ?_⟩
            have O1 : LI K H1 mm { ({ st with called := st.called.filter fun y => decide (y ≠ z), news := st.called.filter fun y => decide (y ≠ z), num := st.num + 1, grown := true } : PSt) with grown := false } K1 m.p n := ⟨r1, N9.mp, N9.s.trans w1, N9.own, N9.made, N9.outD, N9.rowD, N9.nw⟩
            walk_at "rn"
            refine r_neB ?_
            walk_at "rn"
            refine if_ndecT rfl ?_
            obtain ⟨dxb, ib, obb⟩ := O1.ob
            walk_at "rn"
            refine r_methAt obb (by kernel_rfl) ?_
            walk_at "rn"
            refine ⟨mm, _, by rw [O1.mp] <;> rfl, O1.pa, fun K2 w2 r2 => ?_⟩
            have O2 : LI K H1 mm { ({ st with called := st.called.filter fun y => decide (y ≠ z), news := st.called.filter fun y => decide (y ≠ z), num := st.num + 1, grown := true } : PSt) with grown := false } K2 m.p n := ⟨r2, O1.mp, O1.s.trans w2, O1.own, O1.made, O1.outD, O1.rowD, O1.nw⟩
            walk_at "rn"
            refine r_notBl ?_
            walk_at "rn"
            refine if_bF rfl ?_
            have hnl2 := w2 _ _ (w1 _ _ hnl9)
            have hlc2 := w2 _ _ (w1 _ _ hlc9)
            walk_at "rn"
            refine ⟨mm, _, nl9, (zn.filter fun y => decide (y ≠ z)), by rw [O2.mp, O2.own] <;> rfl, O2.pa, O2.nw, off_get hnl2, pm9, fun K3 w3 => ?_⟩
            have O3 := O2.same w3
            walk_at "rn"
            refine if_bF rfl ?_
            walk_at "rn"
            refine ⟨mm, _, c, by rw [O3.mp] <;> rfl, hc0, O3.pa, by rw [O3.made]; decide, by rw [O3.outD]; decide, by rw [O3.rowD]; decide, fun K4 w4 => ?_⟩
            have O4 := O3.same w4
            walk_at "rn"
            refine if_bF rfl ?_
            obtain ⟨dxc, ic, obc⟩ := O4.ob
            walk_at "rn"
            refine r_methAt obc (by kernel_rfl) ?_
            walk_at "rn"
            refine ⟨mm, _, by rw [O4.mp] <;> rfl, O4.pa, fun K5 m5 w5 nm5 d5 => ?_⟩
            walk_at "rn"
            refine n_lst (by decide) fun K6 m6 w6 nm6 h6' => ?_
            walk_at "rn"
            rw [O4.rowD] at d5
            walk_at "rn"
            refine r_neSame (d := .list []) (dp_same w6 _ _ d5) (.lst (.of h6') .nil) (by kernel_rfl) ?_
            walk_at "rn"
            refine if_bF rfl ?_
            have O6 := O4.same (w5.trans w6)
            obtain ⟨dxd, id6, obd⟩ := O6.ob
            walk_at "rn"
            refine r_methAt obd (by kernel_rfl) ?_
            walk_at "rn"
            refine ⟨mm, _, by rw [O6.mp] <;> rfl, O6.pa, fun m7 K7 em7 w7 r7 d7 => ?_⟩
            walk_at "rn"
            refine n_lst (by decide) fun K8 m8 w8 nm8 h8' => ?_
            walk_at "rn"
            rw [O6.outD] at d7
            walk_at "rn"
            refine r_neSame (d := .list []) (dp_same (off_sub.trans w8) _ _ d7) (.lst (.of h8') .nil) (by kernel_rfl) ?_
            walk_at "rn"
            refine if_bF rfl ?_
            have O8 : LI K H1 m7 { ({ st with called := st.called.filter fun y => decide (y ≠ z), news := st.called.filter fun y => decide (y ≠ z), num := st.num + 1, grown := true } : PSt) with grown := false, outD := [] } K8 m.p n := ⟨r7.same w8, em7.trans O6.mp, (O6.s.trans w7).trans (off_same w8), O6.own, O6.made, rfl, O6.rowD, O6.nw⟩
            obtain ⟨dxe, ie, obe⟩ := O8.ob
            walk_at "rn"
            refine r_methAt obe (by kernel_rfl) ?_
            walk_at "rn"
            refine ⟨m7, _, by rw [O8.mp] <;> rfl, O8.pa, fun K9 w9 => ?_⟩
            walk_at "rn"
            refine if_ndecT rfl ?_
            walk_at "rn"
            have O9 := O8.same w9
            have wz := (((off_same ((w3.trans w4).trans (w5.trans w6))).trans w7).trans (off_same w8)).trans (off_same w9)
            exact ⟨m7, _, nl9, (zn.filter fun y => decide (y ≠ z)), O9, rfl, by show st.num + 1 ≤ ((j + 1 : Nat) : Int); omega, wz _ _ hnl2, pm9, wz _ _ hlc2, _, _, _, _, _, _, _, _, _, rfl⟩
          · obtain rfl : gb = false := by
              cases gb with
              | false => rfl
              | true => exact absurd (gi.mp rfl) ng
            have hnl4 := off_same u4 _ _ hnl3
            have hlc4 := off_same u4 _ _ hlc3
            have h4' := h4
            have N4 := N3.same u4
            walk_at "rn"
            refine n_lst (by show 4 ≤ sizeLine; decide) fun J5 l5 u5 nn5 h5 => ?_
            walk_at "rn"
            refine n_lst (by decide) fun J6 l6 u6 nn6 h6 => ?_
            walk_at "rn"
            refine n_lst (by show 2 ≤ sizeLine; decide) fun J7 l7 u7 nn7 h7 => ?_
            walk_at "rn"
            refine .inr ⟨_, rfl, ?_⟩
            have u57 := (u5.trans u6).trans u7
            walk_at "rn"
            refine r_ixL (.of h7) (atI_nat (j := 0) rfl) ?_
            walk_at "rn"
            refine r_ne4 (bs := [true, false, true, false]) (u57 _ _ h4') ((u6.trans u7) _ _ h5) rfl (by kernel_rfl) ?_
            walk_at "rn"
            refine if_bF rfl ?_
            walk_at "rn"
            have N7 := N4.same u57
            have hnl7 := off_same u57 _ _ hnl4
            have hlc7 := off_same u57 _ _ hlc4
            walk_at "rn"
            refine iteF ?_
            walk_at "rn"
            obtain ⟨dxa, ia, oba⟩ := N7.ob
            walk_at "rn"
            refine r_methAt oba (by kernel_rfl) ?_
            walk_at "rn"
            refine ⟨mm, _, by rw [N7.mp] <;> rfl, N7.pa, fun K1 w1 r1 => ?_⟩
            have O1 : LI K H1 mm { (st : PSt) with grown := false } K1 m.p n := ⟨r1, N7.mp, N7.s.trans w1, N7.own, N7.made, N7.outD, N7.rowD, N7.nw⟩
            walk_at "rn"
            refine r_neB ?_
            walk_at "rn"
            refine if_ndecT gf ?_
            obtain ⟨dxb, ib, obb⟩ := O1.ob
            walk_at "rn"
            refine r_methAt obb (by kernel_rfl) ?_
            walk_at "rn"
            refine ⟨mm, _, by rw [O1.mp] <;> rfl, O1.pa, fun K2 w2 r2 => ?_⟩
            have O2 : LI K H1 mm { (st : PSt) with grown := false } K2 m.p n := ⟨r2, O1.mp, O1.s.trans w2, O1.own, O1.made, O1.outD, O1.rowD, O1.nw⟩
            walk_at "rn"
            refine r_notBl ?_
            walk_at "rn"
            refine if_bF rfl ?_
            have hnl2 := w2 _ _ (w1 _ _ hnl7)
            have hlc2 := w2 _ _ (w1 _ _ hlc7)
            walk_at "rn"
            refine ⟨mm, _, nl, zn, by rw [O2.mp, O2.own] <;> rfl, O2.pa, O2.nw, off_get hnl2, pm, fun K3 w3 => ?_⟩
            have O3 := O2.same w3
            walk_at "rn"
            refine if_bF rfl ?_
            walk_at "rn"
            refine ⟨mm, _, c, by rw [O3.mp] <;> rfl, hc0, O3.pa, by rw [O3.made]; decide, by rw [O3.outD]; decide, by rw [O3.rowD]; decide, fun K4 w4 => ?_⟩
            have O4 := O3.same w4
            walk_at "rn"
            refine if_bF rfl ?_
            obtain ⟨dxc, ic, obc⟩ := O4.ob
            walk_at "rn"
            refine r_methAt obc (by kernel_rfl) ?_
            walk_at "rn"
            refine ⟨mm, _, by rw [O4.mp] <;> rfl, O4.pa, fun K5 m5 w5 nm5 d5 => ?_⟩
            walk_at "rn"
            refine n_lst (by decide) fun K6 m6 w6 nm6 h6' => ?_
            walk_at "rn"
            rw [O4.rowD] at d5
            walk_at "rn"
            refine r_neSame (d := .list []) (dp_same w6 _ _ d5) (.lst (.of h6') .nil) (by kernel_rfl) ?_
            walk_at "rn"
            refine if_bF rfl ?_
            have O6 := O4.same (w5.trans w6)
            obtain ⟨dxd, id6, obd⟩ := O6.ob
            walk_at "rn"
            refine r_methAt obd (by kernel_rfl) ?_
            walk_at "rn"
            refine ⟨mm, _, by rw [O6.mp] <;> rfl, O6.pa, fun m7 K7 em7 w7 r7 d7 => ?_⟩
            walk_at "rn"
            refine n_lst (by decide) fun K8 m8 w8 nm8 h8' => ?_
            walk_at "rn"
            rw [O6.outD] at d7
            walk_at "rn"
            refine r_neSame (d := .list []) (dp_same (off_sub.trans w8) _ _ d7) (.lst (.of h8') .nil) (by kernel_rfl) ?_
            walk_at "rn"
            refine if_bF rfl ?_
            have O8 : LI K H1 m7 { (st : PSt) with grown := false, outD := [] } K8 m.p n := ⟨r7.same w8, em7.trans O6.mp, (O6.s.trans w7).trans (off_same w8), O6.own, O6.made, rfl, O6.rowD, O6.nw⟩
            obtain ⟨dxe, ie, obe⟩ := O8.ob
            walk_at "rn"
            refine r_methAt obe (by kernel_rfl) ?_
            walk_at "rn"
            refine ⟨m7, _, by rw [O8.mp] <;> rfl, O8.pa, fun K9 w9 => ?_⟩
            walk_at "rn"
            refine if_ndecT rfl ?_
            walk_at "rn"
            have O9 := O8.same w9
            have wz := (((off_same ((w3.trans w4).trans (w5.trans w6))).trans w7).trans (off_same w8)).trans (off_same w9)
            exact ⟨m7, _, nl, zn, O9, rfl, by show st.num ≤ ((j + 1 : Nat) : Int); omega, wz _ _ hnl2, pm, wz _ _ hlc2, _, _, _, _, _, _, _, _, _, rfl⟩
      · obtain ⟨mm, st, nl, zn, LJ, gf, cj, hnl, pm, hlc, v5, v8, v9, v10, v11, v12, v13, v14, v15, rfl⟩ := p
        walk_at "rn"
        exact ⟨mm, st, _, by rw [LJ.mp] <;> rfl, hd32, LJ.pa, LJ.made, LJ.outD, LJ.rowD, k⟩

end
end K54

namespace K54
open PySem PySem.Spec PyProof.Rows L2
section
variable {P : Program} {w : World} {K : PySem.W.Frag} {mg : Str → Option Value} {base : Heap}
theorem okAll (T : Txt K mg) {fd : FuncData} (F : FunD K "law" "law" (defArgs s_law) (defBody s_law) (defScope s_law) [] [] (He.ga K "law") fd) : FnOk P w K mg base CX0 11 (He.ga K "law") fd ["script"] (spLaw K) := by
  have g1 := okS_are_signs (P := P) (w := w) (base := base) T
  have g2 := okS_is_way (P := P) (w := w) (base := base) T
  have g3 := okS_made_letter (P := P) (w := w) (base := base) T g2 g1
  have g4 := okS_look_late (P := P) (w := w) (base := base) T
  have g5 := okS_look_measure (P := P) (w := w) (base := base) T g4
  have g6 := okS_quiet_of (P := P) (w := w) (base := base) T g5
  have g7 := okS_LinkEnd_init (P := P) (w := w) (base := base) T g6
  have g8 := okS_LinkEnd_up (P := P) (w := w) (base := base) T
  have g9 := okS_Queue_init (P := P) (w := w) (base := base) T
  have g10 := okS_Queue_waiting (P := P) (w := w) (base := base) T
  have g11 := okS_Joiner_init (P := P) (w := w) (base := base) T
  have g12 := okS_Wire_init (P := P) (w := w) (base := base) T g7 g9 g11
  have g13 := okS_Wire_many_waiting (P := P) (w := w) (base := base) T g10
  have g14 := okS_is_house (P := P) (w := w) (base := base) T
  have g15 := okS_is_name (P := P) (w := w) (base := base) T
  have g16 := okS_look_at_near (P := P) (w := w) (base := base) T g14
  have g17 := okS_look_at_names (P := P) (w := w) (base := base) T g15
  have g18 := okS_made_news (P := P) (w := w) (base := base) T g14 g16 g17
  have g19 := okS_Map_init (P := P) (w := w) (base := base) T
  have g20 := okS_Map_hear (P := P) (w := w) (base := base) T
  have g21 := okS_Map_news (P := P) (w := w) (base := base) T
  have g22 := okS_Map_wires (P := P) (w := w) (base := base) T
  have g23 := okS_Map_copy (P := P) (w := w) (base := base) T g19 g20
  have g24 := okS_beside (P := P) (w := w) (base := base) T
  have g25 := okS_lengths_to (P := P) (w := w) (base := base) T g24
  have g26 := okS_way_of (P := P) (w := w) (base := base) T g22 g24 g25
  have g27 := okS_Post_row_tick (P := P) (w := w) (base := base) T
  have g28 := okS_Post_number (P := P) (w := w) (base := base) T
  have g29 := okS_Post_events (P := P) (w := w) (base := base) T
  have g30 := okS_Post_book (P := P) (w := w) (base := base) T
  have g31 := okS_Post_waiting (P := P) (w := w) (base := base) T g13
  have g32 := okS_Post_came (P := P) (w := w) (base := base) T
  have g33 := okS_Post_grew (P := P) (w := w) (base := base) T
  have g34 := okS_Post_map_now (P := P) (w := w) (base := base) T g23
  have g35 := okS_Post_spread (P := P) (w := w) (base := base) T g8
  have g36 := okS_Post_enter (P := P) (w := w) (base := base) T g27
  have g37 := okS_Post_own_letter (P := P) (w := w) (base := base) T g3
  have g38 := okS_ask_house (P := P) (w := w) (base := base) T
  have g39 := okS_ask_name (P := P) (w := w) (base := base) T
  have g40 := okS_Post_renew (P := P) (w := w) (base := base) T g8 g18 g20 g35
  have g41 := okS_Post_take_name (P := P) (w := w) (base := base) T g39 g40
  have g42 := okS_Post_drop_name (P := P) (w := w) (base := base) T g40
  have g43 := okS_Post_post (P := P) (w := w) (base := base) T g38 g3 g26 g37 g36
  have g44 := okS_Post_init (P := P) (w := w) (base := base) T g38 g12 g19 g20 g18
  have g45 := okS_law_cell_at (P := P) (w := w) (base := base) T
  have g46 := okS_law_whole (P := P) (w := w) (base := base) T
  have g47 := okS_law_mixed (P := P) (w := w) (base := base) T
  have g48 := okS_law_row (P := P) (w := w) (base := base) T g47
  have g49 := okS_law_alike (P := P) (w := w) (base := base) T g46 3
  have g50 := okS_law_name (P := P) (w := w) (base := base) T g48
  have g51 := okS_law_news_right (P := P) (w := w) (base := base) T g34 g21 g22 g49
  have g52 := okS_law_wires (P := P) (w := w) (base := base) T g48
  have g53 := okS_law_bad_posts (P := P) (w := w) (base := base) T
  have g54 := okS_law_kinds (P := P) (w := w) (base := base) T g41 g42 g44
  have g55 := okS_law_post_kinds (P := P) (w := w) (base := base) T g43
  have g56 := okS_law_posts_refused (P := P) (w := w) (base := base) T g28 g55 g43
  have g57 := okS_law_own_letters_right (P := P) (w := w) (base := base) T g28 g30 g32 g55 g43
  exact okS_law T g45 g52 g44 g46 g28 g29 g30 g31 g32 g33 g53 g54 g50 g51 g56 g57 F
theorem facts {h : Heap} {f : Addr} (X : K.In h) (G : h.Ns mainGlobals mg) (hfa : mg ("law" : Str) = some (.ref f)) (c : He.SaysD fa fn K) (e : ex K = true) :
    ∃ fd : FuncData, (∀ (s : Shared) (v : Value), BindsTo s fd ⟨[v], []⟩ [("script", v)]) ∧ ∀ base : Heap, K.In base → base.Ns mainGlobals mg → FnOk P w K mg base CX0 11 f fd ["script"] (spLaw K) := by
  have T := txt_of X G c e
  obtain ⟨fd, F⟩ := T.f_law
  have ee := hfa.symm.trans T.g_law
  cases ee
  have b := FunD.bindsA (ps := ["script"]) F fun _ _ _ _ _ _ us hl => match us, hl with | [_], _ => rfl
  exact ⟨fd, fun s v => b s [v] rfl, fun base _ _ => okAll T F⟩

end
end K54

set_option maxHeartbeats 0
open PySem PySem.W PySem.Calls PyProof.Rows
theorem PySem.Challenge.cw_stormpost_k54_posts_and_names_holds : PySem.Challenge.rw_stormpost_k54_posts_and_names.Holds := by
  w_on
  o_law
  refine HandSHeadRun.head_any (r := OpenLaw.row PySem.Challenge.rw_stormpost_k54_posts_and_names) (q := view (OpenLaw.row PySem.Challenge.rw_stormpost_k54_posts_and_names).prog [125]) (H := K54.hk) (ob := K54.ob) (M := 9300) (loose := K54.loose)
    (d := HandSHeadRun.topDef (OpenLaw.row PySem.Challenge.rw_stormpost_k54_posts_and_names).prog 125) (kwd := []) K54.ob_eq
    (by kernel_rfl) (fun s => by kernel_rfl) K54.run (by kernel_rfl) (by kernel_rfl) (by kernel_rfl) (by rfl) (by first | assumption | decide +kernel) (by decide +kernel) ⟨rfl, rfl, rfl, rfl, rfl, by decide +kernel⟩ ?hw ?hc
  case hw => w_witness2
  case hc =>
    refine L2.walk_ofE (l := PySem.Challenge.rw_stormpost_k54_posts_and_names) (n := 63) (k := 11) (x := "script") (CX := L2.CX0) rfl (by decide) (by kernel_rfl) ⟨rfl, by decide, by decide⟩ ?F (fun _ _ _ _ z => z)
    intro w mg fa h Y G hmg0
    obtain ⟨K, KX, c, e⟩ := Y
    have hmg : mg ("law" : PySem.Str) = some (.ref fa) := by
      have en : (HandSHeadRun.topDef (OpenLaw.row PySem.Challenge.rw_stormpost_k54_posts_and_names).prog 125).name = ("law" : PySem.Str) := by kernel_rfl
      rw [← en]
      exact hmg0
    obtain ⟨fd, hb, hF⟩ := K54.facts (P := (PySem.Challenge.rw_stormpost_k54_posts_and_names).prog) (w := w) KX G hmg c e
    exact ⟨K, fd, K54.spLaw K, KX, hb, fun H a ns hl _ hS => ⟨a, ns, rfl, hS, hl, fun _ => rfl⟩, hF⟩
