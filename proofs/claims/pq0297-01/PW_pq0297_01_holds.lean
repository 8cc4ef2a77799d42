import PyProof.Rows.All
import Wide.All
import OpenK.AllK
import Wide.FinOn
import PySem.Challenge.RW_pq0297_01
set_option compiler.extract_closed false
section
open PySem PySem.W PyProof.Rows
set_option maxRecDepth 100000
set_option maxHeartbeats 8000000
set_option Elab.async false
namespace Mine
noncomputable abbrev pw := PySem.Challenge.pw_pq0297_01
noncomputable abbrev S (x : String) : PySem.Str := PySem.Str.ofString x
noncomputable abbrev noStmt : Stmt := .Pass ⟨0, 0, 0, 0⟩
noncomputable def stAt (i : Nat) : Stmt := pw.main.body.getD i noStmt
noncomputable def mAt (i j : Nat) : Stmt := match stAt i with | .ClassDef _ _ _ b _ _ _ _ _ _ _ => b.getD j noStmt | s => s
noncomputable def sName : Stmt → PySem.Str | .FunctionDef n _ _ _ _ _ _ _ _ _ => n | _ => S ""
noncomputable def sArgs : Stmt → Arguments | .FunctionDef _ a _ _ _ _ _ _ _ _ => a | _ => { posonlyargs := [], args := [], vararg := none, kwonlyargs := [], kw_defaults := [], kwarg := none, defaults := [] }
noncomputable def sBody : Stmt → List Stmt | .FunctionDef _ _ b _ _ _ _ _ _ _ => b | _ => []
noncomputable def sScope : Stmt → Scope | .FunctionDef _ _ _ _ _ _ sc _ _ _ => sc | _ => { kind := .function, names := [], isGenerator := false, isCoroutine := false, more := [] }
noncomputable def fnS (st : Stmt) (qual : PySem.Str) (dV pm cd : Value) : FuncData := fnOf (sName st) qual (sArgs st) (sBody st) (sScope st) dV .none .none pm none cd .none
noncomputable abbrev c_Amalgam : Addr := 38
noncomputable abbrev c_GapText : Addr := 136
noncomputable abbrev c_Markers : Addr := 206
noncomputable abbrev c_Buffer : Addr := 347
noncomputable abbrev c_LispSignal : Addr := 366
noncomputable abbrev c_Piece : Addr := 471
noncomputable abbrev c_UndoList : Addr := 568
noncomputable abbrev c_Recording : Addr := 615
noncomputable abbrev c_Undoing : Addr := 740
noncomputable abbrev f_law : Addr := 857
noncomputable abbrev f__law_deck : Addr := 838
noncomputable abbrev f__law_draw : Addr := 845
noncomputable abbrev f__law_typed : Addr := 852
noncomputable abbrev f_begin_change : Addr := 49
noncomputable abbrev f_Amalgam_init : Addr := 35
noncomputable abbrev f_GapText_init : Addr := 63
noncomputable abbrev f_GapText_size : Addr := 70
noncomputable abbrev f_GapText_codes : Addr := 84
noncomputable abbrev f_GapText_move_gap : Addr := 91
noncomputable abbrev f_GapText_widen_gap : Addr := 98
noncomputable abbrev f_GapText_insert : Addr := 105
noncomputable abbrev f_GapText_delete : Addr := 112
noncomputable abbrev f_Markers_init : Addr := 154
noncomputable abbrev f_Markers_numbers : Addr := 161
noncomputable abbrev f_Markers_within : Addr := 182
noncomputable abbrev f_Markers_inserted : Addr := 189
noncomputable abbrev f_Markers_deleted : Addr := 196
noncomputable abbrev f_Buffer_init : Addr := 260
noncomputable abbrev f_Buffer_size : Addr := 295
noncomputable abbrev f_Buffer_codes : Addr := 309
noncomputable abbrev f_Buffer_goto : Addr := 316
noncomputable abbrev f_Buffer_is_modified : Addr := 330
noncomputable abbrev f_Buffer_set_modified : Addr := 337
noncomputable abbrev f_Buffer_touch : Addr := 344
noncomputable abbrev f_LispSignal_init : Addr := 363
noncomputable abbrev f_need_writable : Addr := 376
noncomputable abbrev f_need_room : Addr := 383
noncomputable abbrev f_reached : Addr := 390
noncomputable abbrev f_tell_ahead : Addr := 397
noncomputable abbrev f_tell_behind : Addr := 404
noncomputable abbrev f_text_out : Addr := 411
noncomputable abbrev f_text_in : Addr := 418
noncomputable abbrev f_hung_out : Addr := 425
noncomputable abbrev f_hung_in : Addr := 432
noncomputable abbrev f_put_in : Addr := 439
noncomputable abbrev f_insert : Addr := 447
noncomputable abbrev f_delete : Addr := 454
noncomputable abbrev f_Piece_init : Addr := 468
noncomputable abbrev f_UndoList_init : Addr := 490
noncomputable abbrev f_UndoList_count : Addr := 497
noncomputable abbrev f_UndoList_is_at_boundary : Addr := 504
noncomputable abbrev f_UndoList_boundary : Addr := 511
noncomputable abbrev f_UndoList_begin_command : Addr := 518
noncomputable abbrev f_UndoList_note_state : Addr := 525
noncomputable abbrev f_UndoList_note_begin : Addr := 532
noncomputable abbrev f_UndoList_note_insert : Addr := 539
noncomputable abbrev f_UndoList_note_delete : Addr := 546
noncomputable abbrev f_UndoList_renew_unmodified : Addr := 558
noncomputable abbrev f_Recording_init : Addr := 593
noncomputable abbrev f_Recording_text_comes : Addr := 600
noncomputable abbrev f_Recording_text_goes : Addr := 605
noncomputable abbrev f_insert_piece : Addr := 662
noncomputable abbrev f_need_visible : Addr := 681
noncomputable abbrev f_markers_ahead : Addr := 688
noncomputable abbrev f_undo_insert : Addr := 695
noncomputable abbrev f_undo_delete : Addr := 702
noncomputable abbrev f_undo_row : Addr := 709
noncomputable abbrev f_above_boundaries : Addr := 716
noncomputable abbrev f_undo_group : Addr := 723
noncomputable abbrev f_Undoing_init : Addr := 737
noncomputable abbrev f_trimmed_count : Addr := 751
noncomputable abbrev f_last_was_undo : Addr := 758
noncomputable abbrev f_drop_points : Addr := 763
noncomputable abbrev f_elder_rows : Addr := 770
noncomputable abbrev f_is_in_row : Addr := 784
noncomputable abbrev f_begin_undo : Addr := 791
noncomputable abbrev f_end_undo : Addr := 798
noncomputable abbrev f_undo_more : Addr := 805
noncomputable abbrev f_undo : Addr := 812
noncomputable abbrev f_go_on_behind_redo : Addr := 819
noncomputable abbrev f_undo_redo : Addr := 826
noncomputable abbrev a_BOUNDARY : Addr := 476
noncomputable def KK0 (P : Params) : Frag := [
  (3, ⟨.type "dict", none, .dict #[⟨PyData.keyHash P (S "__name__"), .str (S "__name__") 165, .str (S "law_pq0297_01") 1342⟩, ⟨PyData.keyHash P (S "__doc__"), .str (S "__doc__") 166, .none⟩, ⟨PyData.keyHash P (S "__package__"), .str (S "__package__") 167, .none⟩, ⟨PyData.keyHash P (S "__loader__"), .str (S "__loader__") 168, .builtin "__main__.__loader__#opaque"⟩, ⟨PyData.keyHash P (S "__spec__"), .str (S "__spec__") 169, .none⟩, ⟨PyData.keyHash P (S "__annotations__"), .str (S "__annotations__") 170, .ref 6⟩, ⟨PyData.keyHash P (S "__builtins__"), .str (S "__builtins__") 171, .ref 4⟩, ⟨PyData.keyHash P (S "__file__"), .str (S "__file__") 173, .str (S "/claim/cut.py") 172⟩, ⟨PyData.keyHash P (S "__cached__"), .str (S "__cached__") 174, .none⟩, ⟨PyData.keyHash P (S "_wall"), .str (S "_wall") 193, .ref 21⟩, ⟨PyData.keyHash P (S "JOINED"), .str (S "JOINED") 197, .int 20 196⟩, ⟨PyData.keyHash P (S "Amalgam"), .str (S "Amalgam") 226, .ref 38⟩, ⟨PyData.keyHash P (S "begin_change"), .str (S "begin_change") 235, .ref 49⟩, ⟨PyData.keyHash P (S "GapText"), .str (S "GapText") 355, .ref 136⟩, ⟨PyData.keyHash P (S "Markers"), .str (S "Markers") 453, .ref 206⟩, ⟨PyData.keyHash P (S "Opaque"), .str (S "Opaque") 497, .ref 241⟩, ⟨PyData.keyHash P (S "Buffer"), .str (S "Buffer") 636, .ref 347⟩, ⟨PyData.keyHash P (S "LispSignal"), .str (S "LispSignal") 669, .ref 366⟩, ⟨PyData.keyHash P (S "LONGEST"), .str (S "LONGEST") 675, .int 4194304 674⟩, ⟨PyData.keyHash P (S "need_writable"), .str (S "need_writable") 682, .ref 376⟩, ⟨PyData.keyHash P (S "need_room"), .str (S "need_room") 690, .ref 383⟩, ⟨PyData.keyHash P (S "reached"), .str (S "reached") 701, .ref 390⟩, ⟨PyData.keyHash P (S "tell_ahead"), .str (S "tell_ahead") 711, .ref 397⟩, ⟨PyData.keyHash P (S "tell_behind"), .str (S "tell_behind") 722, .ref 404⟩, ⟨PyData.keyHash P (S "text_out"), .str (S "text_out") 732, .ref 411⟩, ⟨PyData.keyHash P (S "text_in"), .str (S "text_in") 741, .ref 418⟩, ⟨PyData.keyHash P (S "hung_out"), .str (S "hung_out") 750, .ref 425⟩, ⟨PyData.keyHash P (S "hung_in"), .str (S "hung_in") 760, .ref 432⟩, ⟨PyData.keyHash P (S "put_in"), .str (S "put_in") 771, .ref 439⟩, ⟨PyData.keyHash P (S "insert"), .str (S "insert") 780, .ref 447⟩, ⟨PyData.keyHash P (S "delete"), .str (S "delete") 792, .ref 454⟩, ⟨PyData.keyHash P (S "Piece"), .str (S "Piece") 825, .ref 471⟩, ⟨PyData.keyHash P (S "BOUNDARY"), .str (S "BOUNDARY") 829, .ref 476⟩, ⟨PyData.keyHash P (S "UndoList"), .str (S "UndoList") 964, .ref 568⟩, ⟨PyData.keyHash P (S "marker_distance"), .str (S "marker_distance") 974, .ref 579⟩, ⟨PyData.keyHash P (S "Recording"), .str (S "Recording") 1032, .ref 615⟩, ⟨PyData.keyHash P (S "eq"), .str (S "eq") 1042, .ref 626⟩, ⟨PyData.keyHash P (S "plist_find"), .str (S "plist_find") 1051, .ref 633⟩, ⟨PyData.keyHash P (S "plist_get"), .str (S "plist_get") 1060, .ref 640⟩, ⟨PyData.keyHash P (S "plist_with"), .str (S "plist_with") 1070, .ref 647⟩, ⟨PyData.keyHash P (S "plist_without"), .str (S "plist_without") 1076, .ref 652⟩, ⟨PyData.keyHash P (S "plist_rows"), .str (S "plist_rows") 1084, .ref 657⟩, ⟨PyData.keyHash P (S "insert_piece"), .str (S "insert_piece") 1090, .ref 662⟩, ⟨PyData.keyHash P (S "is_value"), .str (S "is_value") 1100, .ref 669⟩, ⟨PyData.keyHash P (S "set_property"), .str (S "set_property") 1106, .ref 674⟩, ⟨PyData.keyHash P (S "need_visible"), .str (S "need_visible") 1117, .ref 681⟩, ⟨PyData.keyHash P (S "markers_ahead"), .str (S "markers_ahead") 1126, .ref 688⟩, ⟨PyData.keyHash P (S "undo_insert"), .str (S "undo_insert") 1134, .ref 695⟩, ⟨PyData.keyHash P (S "undo_delete"), .str (S "undo_delete") 1147, .ref 702⟩, ⟨PyData.keyHash P (S "undo_row"), .str (S "undo_row") 1158, .ref 709⟩, ⟨PyData.keyHash P (S "above_boundaries"), .str (S "above_boundaries") 1166, .ref 716⟩, ⟨PyData.keyHash P (S "undo_group"), .str (S "undo_group") 1175, .ref 723⟩, ⟨PyData.keyHash P (S "IN_REGION"), .str (S "IN_REGION") 1180, .int (-1) 1179⟩, ⟨PyData.keyHash P (S "Undoing"), .str (S "Undoing") 1211, .ref 740⟩, ⟨PyData.keyHash P (S "trimmed_count"), .str (S "trimmed_count") 1218, .ref 751⟩, ⟨PyData.keyHash P (S "last_was_undo"), .str (S "last_was_undo") 1226, .ref 758⟩, ⟨PyData.keyHash P (S "drop_points"), .str (S "drop_points") 1232, .ref 763⟩, ⟨PyData.keyHash P (S "elder_rows"), .str (S "elder_rows") 1241, .ref 770⟩, ⟨PyData.keyHash P (S "skipped_undos"), .str (S "skipped_undos") 1249, .ref 777⟩, ⟨PyData.keyHash P (S "is_in_row"), .str (S "is_in_row") 1258, .ref 784⟩, ⟨PyData.keyHash P (S "begin_undo"), .str (S "begin_undo") 1267, .ref 791⟩, ⟨PyData.keyHash P (S "end_undo"), .str (S "end_undo") 1278, .ref 798⟩, ⟨PyData.keyHash P (S "undo_more"), .str (S "undo_more") 1295, .ref 805⟩, ⟨PyData.keyHash P (S "undo"), .str (S "undo") 1305, .ref 812⟩, ⟨PyData.keyHash P (S "go_on_behind_redo"), .str (S "go_on_behind_redo") 1313, .ref 819⟩, ⟨PyData.keyHash P (S "undo_redo"), .str (S "undo_redo") 1328, .ref 826⟩, ⟨PyData.keyHash P (S "region_more"), .str (S "region_more") 1341, .ref 833⟩, ⟨PyData.keyHash P (S "_law_deck"), .str (S "_law_deck") 1349, .ref 838⟩, ⟨PyData.keyHash P (S "_law_draw"), .str (S "_law_draw") 1359, .ref 845⟩, ⟨PyData.keyHash P (S "_law_typed"), .str (S "_law_typed") 1371, .ref 852⟩, ⟨PyData.keyHash P (S "law"), .str (S "law") 1377, .ref 857⟩] 71, #[]⟩),
  (38, ⟨.type "type", none, .cls { name := (S "Amalgam"), bases := [.type "object"], mro := [.ref 38, .type "object"], ns := 37, qualname := (S "Amalgam"), hasDict := true, slotNames := [], subclasses := [], abstract := false, collection := none, hasDel := false }, #[none, none, some (.str (S "Amalgam") 198), some (.str (S "Amalgam") 206), some (.builtin "object.__new__"), some (.bool true)]⟩),
  (37, ⟨.type "dict", none, .dict #[⟨PyData.keyHash P (S "__module__"), .str (S "__module__") 205, .str (S "emacs.amalgam") 194⟩, ⟨PyData.keyHash P (S "__firstlineno__"), .str (S "__firstlineno__") 209, .int 6 208⟩, ⟨PyData.keyHash P (S "__init__"), .str (S "__init__") 216, .ref 35⟩, ⟨PyData.keyHash P (S "__static_attributes__"), .str (S "__static_attributes__") 219, .ref 36⟩, ⟨PyData.keyHash P (S "__dict__"), .str (S "__dict__") 221, .ref 39⟩, ⟨PyData.keyHash P (S "__weakref__"), .str (S "__weakref__") 223, .ref 40⟩, ⟨PyData.keyHash P (S "__doc__"), .str (S "__doc__") 224, .none⟩] 4, #[]⟩),
  (136, ⟨.type "type", none, .cls { name := (S "GapText"), bases := [.type "object"], mro := [.ref 136, .type "object"], ns := 135, qualname := (S "GapText"), hasDict := true, slotNames := [], subclasses := [], abstract := false, collection := none, hasDel := false }, #[none, none, some (.str (S "GapText") 238), some (.str (S "GapText") 246), some (.builtin "object.__new__"), some (.bool true)]⟩),
  (135, ⟨.type "dict", none, .dict #[⟨PyData.keyHash P (S "__module__"), .str (S "__module__") 245, .str (S "emacs.gap") 236⟩, ⟨PyData.keyHash P (S "__firstlineno__"), .str (S "__firstlineno__") 249, .int 20 248⟩, ⟨PyData.keyHash P (S "__init__"), .str (S "__init__") 258, .ref 63⟩, ⟨PyData.keyHash P (S "size"), .str (S "size") 265, .ref 70⟩, ⟨PyData.keyHash P (S "code"), .str (S "code") 273, .ref 77⟩, ⟨PyData.keyHash P (S "codes"), .str (S "codes") 283, .ref 84⟩, ⟨PyData.keyHash P (S "move_gap"), .str (S "move_gap") 292, .ref 91⟩, ⟨PyData.keyHash P (S "widen_gap"), .str (S "widen_gap") 301, .ref 98⟩, ⟨PyData.keyHash P (S "insert"), .str (S "insert") 310, .ref 105⟩, ⟨PyData.keyHash P (S "delete"), .str (S "delete") 320, .ref 112⟩, ⟨PyData.keyHash P (S "put"), .str (S "put") 329, .ref 119⟩, ⟨PyData.keyHash P (S "narrow_gap"), .str (S "narrow_gap") 336, .ref 126⟩, ⟨PyData.keyHash P (S "is_whole"), .str (S "is_whole") 343, .ref 133⟩, ⟨PyData.keyHash P (S "__static_attributes__"), .str (S "__static_attributes__") 348, .ref 134⟩, ⟨PyData.keyHash P (S "__dict__"), .str (S "__dict__") 350, .ref 137⟩, ⟨PyData.keyHash P (S "__weakref__"), .str (S "__weakref__") 352, .ref 138⟩, ⟨PyData.keyHash P (S "__doc__"), .str (S "__doc__") 353, .none⟩] 4, #[]⟩),
  (206, ⟨.type "type", none, .cls { name := (S "Markers"), bases := [.type "object"], mro := [.ref 206, .type "object"], ns := 205, qualname := (S "Markers"), hasDict := true, slotNames := [], subclasses := [], abstract := false, collection := none, hasDel := false }, #[none, none, some (.str (S "Markers") 358), some (.str (S "Markers") 366), some (.builtin "object.__new__"), some (.bool true)]⟩),
  (205, ⟨.type "dict", none, .dict #[⟨PyData.keyHash P (S "__module__"), .str (S "__module__") 365, .str (S "emacs.markers") 356⟩, ⟨PyData.keyHash P (S "__firstlineno__"), .str (S "__firstlineno__") 369, .int 84 368⟩, ⟨PyData.keyHash P (S "__init__"), .str (S "__init__") 376, .ref 154⟩, ⟨PyData.keyHash P (S "numbers"), .str (S "numbers") 383, .ref 161⟩, ⟨PyData.keyHash P (S "put"), .str (S "put") 392, .ref 168⟩, ⟨PyData.keyHash P (S "drop"), .str (S "drop") 400, .ref 175⟩, ⟨PyData.keyHash P (S "within"), .str (S "within") 411, .ref 182⟩, ⟨PyData.keyHash P (S "inserted"), .str (S "inserted") 423, .ref 189⟩, ⟨PyData.keyHash P (S "deleted"), .str (S "deleted") 434, .ref 196⟩, ⟨PyData.keyHash P (S "replaced"), .str (S "replaced") 444, .ref 203⟩, ⟨PyData.keyHash P (S "__static_attributes__"), .str (S "__static_attributes__") 446, .ref 204⟩, ⟨PyData.keyHash P (S "__dict__"), .str (S "__dict__") 448, .ref 207⟩, ⟨PyData.keyHash P (S "__weakref__"), .str (S "__weakref__") 450, .ref 208⟩, ⟨PyData.keyHash P (S "__doc__"), .str (S "__doc__") 451, .none⟩] 4, #[]⟩),
  (241, ⟨.type "type", none, .cls { name := (S "Opaque"), bases := [.type "object"], mro := [.ref 241, .type "object"], ns := 240, qualname := (S "Opaque"), hasDict := true, slotNames := [], subclasses := [.ref 347], abstract := false, collection := none, hasDel := false }, #[none, none, some (.str (S "Opaque") 456), some (.str (S "Opaque") 464), some (.builtin "object.__new__"), some (.bool true)]⟩),
  (240, ⟨.type "dict", none, .dict #[⟨PyData.keyHash P (S "__module__"), .str (S "__module__") 463, .str (S "emacs.objects") 454⟩, ⟨PyData.keyHash P (S "__firstlineno__"), .str (S "__firstlineno__") 467, .int 122 466⟩, ⟨PyData.keyHash P (S "shown"), .str (S "shown") 474, .ref 224⟩, ⟨PyData.keyHash P (S "kind"), .str (S "kind") 481, .ref 231⟩, ⟨PyData.keyHash P (S "same_as"), .str (S "same_as") 489, .ref 238⟩, ⟨PyData.keyHash P (S "__static_attributes__"), .str (S "__static_attributes__") 490, .ref 239⟩, ⟨PyData.keyHash P (S "__dict__"), .str (S "__dict__") 492, .ref 242⟩, ⟨PyData.keyHash P (S "__weakref__"), .str (S "__weakref__") 494, .ref 243⟩, ⟨PyData.keyHash P (S "__doc__"), .str (S "__doc__") 495, .none⟩] 4, #[]⟩),
  (347, ⟨.type "type", none, .cls { name := (S "Buffer"), bases := [.ref 241], mro := [.ref 347, .ref 241, .type "object"], ns := 346, qualname := (S "Buffer"), hasDict := true, slotNames := [], subclasses := [], abstract := false, collection := none, hasDel := false }, #[some (.ref 246), none, some (.str (S "Buffer") 500), some (.str (S "Buffer") 508), some (.builtin "object.__new__"), some (.bool true)]⟩),
  (346, ⟨.type "dict", none, .dict #[⟨PyData.keyHash P (S "__module__"), .str (S "__module__") 507, .str (S "emacs.buffer") 498⟩, ⟨PyData.keyHash P (S "__firstlineno__"), .str (S "__firstlineno__") 511, .int 133 510⟩, ⟨PyData.keyHash P (S "__init__"), .str (S "__init__") 522, .ref 260⟩, ⟨PyData.keyHash P (S "shown"), .str (S "shown") 529, .ref 267⟩, ⟨PyData.keyHash P (S "kind"), .str (S "kind") 536, .ref 274⟩, ⟨PyData.keyHash P (S "begin"), .str (S "begin") 543, .ref 281⟩, ⟨PyData.keyHash P (S "end"), .str (S "end") 550, .ref 288⟩, ⟨PyData.keyHash P (S "size"), .str (S "size") 557, .ref 295⟩, ⟨PyData.keyHash P (S "code_at"), .str (S "code_at") 565, .ref 302⟩, ⟨PyData.keyHash P (S "codes"), .str (S "codes") 574, .ref 309⟩, ⟨PyData.keyHash P (S "goto"), .str (S "goto") 582, .ref 316⟩, ⟨PyData.keyHash P (S "tick"), .str (S "tick") 589, .ref 323⟩, ⟨PyData.keyHash P (S "is_modified"), .str (S "is_modified") 596, .ref 330⟩, ⟨PyData.keyHash P (S "set_modified"), .str (S "set_modified") 604, .ref 337⟩, ⟨PyData.keyHash P (S "touch"), .str (S "touch") 612, .ref 344⟩, ⟨PyData.keyHash P (S "__static_attributes__"), .str (S "__static_attributes__") 633, .ref 345⟩, ⟨PyData.keyHash P (S "__doc__"), .str (S "__doc__") 634, .none⟩] 2, #[]⟩),
  (366, ⟨.type "type", none, .cls { name := (S "LispSignal"), bases := [.type "Exception"], mro := [.ref 366, .type "Exception", .type "BaseException", .type "object"], ns := 365, qualname := (S "LispSignal"), hasDict := true, slotNames := [], subclasses := [], abstract := false, collection := none, hasDel := false }, #[some (.ref 350), none, some (.str (S "LispSignal") 639), some (.str (S "LispSignal") 647), some (.builtin "Exception.__new__"), some (.bool true)]⟩),
  (365, ⟨.type "dict", none, .dict #[⟨PyData.keyHash P (S "__module__"), .str (S "__module__") 646, .str (S "emacs.errors") 637⟩, ⟨PyData.keyHash P (S "__firstlineno__"), .str (S "__firstlineno__") 650, .int 199 649⟩, ⟨PyData.keyHash P (S "__init__"), .str (S "__init__") 659, .ref 363⟩, ⟨PyData.keyHash P (S "__static_attributes__"), .str (S "__static_attributes__") 662, .ref 364⟩, ⟨PyData.keyHash P (S "__weakref__"), .str (S "__weakref__") 664, .ref 367⟩, ⟨PyData.keyHash P (S "__doc__"), .str (S "__doc__") 665, .none⟩] 3, #[]⟩),
  (471, ⟨.type "type", none, .cls { name := (S "Piece"), bases := [.type "object"], mro := [.ref 471, .type "object"], ns := 470, qualname := (S "Piece"), hasDict := true, slotNames := [], subclasses := [], abstract := false, collection := none, hasDel := false }, #[none, none, some (.str (S "Piece") 795), some (.str (S "Piece") 803), some (.builtin "object.__new__"), some (.bool true)]⟩),
  (470, ⟨.type "dict", none, .dict #[⟨PyData.keyHash P (S "__module__"), .str (S "__module__") 802, .str (S "emacs.pieces") 793⟩, ⟨PyData.keyHash P (S "__firstlineno__"), .str (S "__firstlineno__") 806, .int 276 805⟩, ⟨PyData.keyHash P (S "__init__"), .str (S "__init__") 815, .ref 468⟩, ⟨PyData.keyHash P (S "__static_attributes__"), .str (S "__static_attributes__") 818, .ref 469⟩, ⟨PyData.keyHash P (S "__dict__"), .str (S "__dict__") 820, .ref 472⟩, ⟨PyData.keyHash P (S "__weakref__"), .str (S "__weakref__") 822, .ref 473⟩, ⟨PyData.keyHash P (S "__doc__"), .str (S "__doc__") 823, .none⟩] 4, #[]⟩),
  (568, ⟨.type "type", none, .cls { name := (S "UndoList"), bases := [.type "object"], mro := [.ref 568, .type "object"], ns := 567, qualname := (S "UndoList"), hasDict := true, slotNames := [], subclasses := [], abstract := false, collection := none, hasDel := false }, #[none, none, some (.str (S "UndoList") 830), some (.str (S "UndoList") 838), some (.builtin "object.__new__"), some (.bool true)]⟩),
  (567, ⟨.type "dict", none, .dict #[⟨PyData.keyHash P (S "__module__"), .str (S "__module__") 837, .str (S "emacs.undolist") 826⟩, ⟨PyData.keyHash P (S "__firstlineno__"), .str (S "__firstlineno__") 841, .int 283 840⟩, ⟨PyData.keyHash P (S "__init__"), .str (S "__init__") 848, .ref 490⟩, ⟨PyData.keyHash P (S "count"), .str (S "count") 855, .ref 497⟩, ⟨PyData.keyHash P (S "is_at_boundary"), .str (S "is_at_boundary") 862, .ref 504⟩, ⟨PyData.keyHash P (S "boundary"), .str (S "boundary") 869, .ref 511⟩, ⟨PyData.keyHash P (S "begin_command"), .str (S "begin_command") 877, .ref 518⟩, ⟨PyData.keyHash P (S "note_state"), .str (S "note_state") 886, .ref 525⟩, ⟨PyData.keyHash P (S "note_begin"), .str (S "note_begin") 897, .ref 532⟩, ⟨PyData.keyHash P (S "note_insert"), .str (S "note_insert") 910, .ref 539⟩, ⟨PyData.keyHash P (S "note_delete"), .str (S "note_delete") 925, .ref 546⟩, ⟨PyData.keyHash P (S "note_property"), .str (S "note_property") 938, .ref 553⟩, ⟨PyData.keyHash P (S "renew_unmodified"), .str (S "renew_unmodified") 944, .ref 558⟩, ⟨PyData.keyHash P (S "clear"), .str (S "clear") 951, .ref 565⟩, ⟨PyData.keyHash P (S "__static_attributes__"), .str (S "__static_attributes__") 957, .ref 566⟩, ⟨PyData.keyHash P (S "__dict__"), .str (S "__dict__") 959, .ref 569⟩, ⟨PyData.keyHash P (S "__weakref__"), .str (S "__weakref__") 961, .ref 570⟩, ⟨PyData.keyHash P (S "__doc__"), .str (S "__doc__") 962, .none⟩] 4, #[]⟩),
  (615, ⟨.type "type", none, .cls { name := (S "Recording"), bases := [.type "object"], mro := [.ref 615, .type "object"], ns := 614, qualname := (S "Recording"), hasDict := true, slotNames := [], subclasses := [], abstract := false, collection := none, hasDel := false }, #[none, none, some (.str (S "Recording") 977), some (.str (S "Recording") 985), some (.builtin "object.__new__"), some (.bool true)]⟩),
  (614, ⟨.type "dict", none, .dict #[⟨PyData.keyHash P (S "__module__"), .str (S "__module__") 984, .str (S "emacs.recording") 975⟩, ⟨PyData.keyHash P (S "__firstlineno__"), .str (S "__firstlineno__") 988, .int 351 987⟩, ⟨PyData.keyHash P (S "__init__"), .str (S "__init__") 995, .ref 593⟩, ⟨PyData.keyHash P (S "text_comes"), .str (S "text_comes") 1005, .ref 600⟩, ⟨PyData.keyHash P (S "text_goes"), .str (S "text_goes") 1011, .ref 605⟩, ⟨PyData.keyHash P (S "property_changes"), .str (S "property_changes") 1023, .ref 612⟩, ⟨PyData.keyHash P (S "__static_attributes__"), .str (S "__static_attributes__") 1025, .ref 613⟩, ⟨PyData.keyHash P (S "__dict__"), .str (S "__dict__") 1027, .ref 616⟩, ⟨PyData.keyHash P (S "__weakref__"), .str (S "__weakref__") 1029, .ref 617⟩, ⟨PyData.keyHash P (S "__doc__"), .str (S "__doc__") 1030, .none⟩] 4, #[]⟩),
  (740, ⟨.type "type", none, .cls { name := (S "Undoing"), bases := [.type "object"], mro := [.ref 740, .type "object"], ns := 739, qualname := (S "Undoing"), hasDict := true, slotNames := [], subclasses := [], abstract := false, collection := none, hasDel := false }, #[none, none, some (.str (S "Undoing") 1181), some (.str (S "Undoing") 1189), some (.builtin "object.__new__"), some (.bool true)]⟩),
  (739, ⟨.type "dict", none, .dict #[⟨PyData.keyHash P (S "__module__"), .str (S "__module__") 1188, .str (S "emacs.undocommand") 1176⟩, ⟨PyData.keyHash P (S "__firstlineno__"), .str (S "__firstlineno__") 1192, .int 486 1191⟩, ⟨PyData.keyHash P (S "__init__"), .str (S "__init__") 1199, .ref 737⟩, ⟨PyData.keyHash P (S "__static_attributes__"), .str (S "__static_attributes__") 1204, .ref 738⟩, ⟨PyData.keyHash P (S "__dict__"), .str (S "__dict__") 1206, .ref 741⟩, ⟨PyData.keyHash P (S "__weakref__"), .str (S "__weakref__") 1208, .ref 742⟩, ⟨PyData.keyHash P (S "__doc__"), .str (S "__doc__") 1209, .none⟩] 4, #[]⟩),
  (857, ⟨.type "function", none, .func (fnS (stAt 76) (S "law") (.none) (.str (S "law_pq0297_01") 1342) (.ref 856)), #[]⟩),
  (856, ⟨.type "code", none, .fields #[.str (S "law") 1372, .str (S "law") 1373, .str (S "/claim/cut.py") 1374, .int 605 0, .int 1 0, .int 0 0, .int 0 0, .int 3 0, .ref 853, .bool true, .int 181 0, .ref 854, .none, .none, .none, .ref 855, .int 1375 0, .int 605 0, .str (S "/claim/cut.py") 1376], #[]⟩),
  (838, ⟨.type "function", none, .func (fnS (stAt 73) (S "_law_deck") (.none) (.str (S "law_pq0297_01") 1342) (.ref 837)), #[]⟩)]
noncomputable def KK1 (P : Params) : Frag := [
  (837, ⟨.type "code", none, .fields #[.str (S "_law_deck") 1344, .str (S "_law_deck") 1345, .str (S "/claim/cut.py") 1346, .int 576 0, .int 1 0, .int 0 0, .int 0 0, .int 3 0, .ref 834, .bool true, .int 181 0, .ref 835, .none, .none, .none, .ref 836, .int 1347 0, .int 576 0, .str (S "/claim/cut.py") 1348], #[]⟩),
  (845, ⟨.type "function", none, .func (fnS (stAt 74) (S "_law_draw") (.none) (.str (S "law_pq0297_01") 1342) (.ref 844)), #[]⟩),
  (844, ⟨.type "code", none, .fields #[.str (S "_law_draw") 1350, .str (S "_law_draw") 1351, .str (S "/claim/cut.py") 1352, .int 579 0, .int 2 0, .int 0 0, .int 0 0, .int 3 0, .ref 839, .bool true, .int 181 0, .ref 840, .none, .ref 841, .ref 842, .ref 843, .int 1357 0, .int 579 0, .str (S "/claim/cut.py") 1358], #[]⟩),
  (852, ⟨.type "function", none, .func (fnS (stAt 75) (S "_law_typed") (.none) (.str (S "law_pq0297_01") 1342) (.ref 851)), #[]⟩),
  (851, ⟨.type "code", none, .fields #[.str (S "_law_typed") 1360, .str (S "_law_typed") 1361, .str (S "/claim/cut.py") 1362, .int 590 0, .int 5 0, .int 0 0, .int 0 0, .int 3 0, .ref 846, .bool true, .int 181 0, .ref 847, .none, .ref 848, .ref 849, .ref 850, .int 1369 0, .int 590 0, .str (S "/claim/cut.py") 1370], #[]⟩),
  (49, ⟨.type "function", none, .func (fnS (stAt 4) (S "begin_change") (.none) (.str (S "emacs.amalgam") 194) (.ref 48)), #[]⟩),
  (48, ⟨.type "code", none, .fields #[.str (S "begin_change") 227, .str (S "begin_change") 228, .str (S "/claim/cut.py") 229, .int 11 0, .int 3 0, .int 0 0, .int 0 0, .int 3 0, .ref 43, .bool true, .int 181 0, .ref 44, .none, .ref 45, .ref 46, .ref 47, .int 233 0, .int 11 0, .str (S "/claim/cut.py") 234], #[]⟩),
  (35, ⟨.type "function", none, .func (fnS (mAt 3 0) (S "Amalgam.__init__") (.none) (.str (S "emacs.amalgam") 194) (.ref 34)), #[]⟩),
  (34, ⟨.type "code", none, .fields #[.str (S "__init__") 210, .str (S "Amalgam.__init__") 211, .str (S "/claim/cut.py") 212, .int 8 0, .int 1 0, .int 0 0, .int 0 0, .int 3 0, .ref 29, .bool true, .int 181 0, .ref 30, .none, .ref 31, .ref 32, .ref 33, .int 214 0, .int 8 0, .str (S "/claim/cut.py") 215], #[]⟩),
  (63, ⟨.type "function", none, .func (fnS (mAt 6 0) (S "GapText.__init__") (.none) (.str (S "emacs.gap") 236) (.ref 62)), #[]⟩),
  (62, ⟨.type "code", none, .fields #[.str (S "__init__") 250, .str (S "GapText.__init__") 251, .str (S "/claim/cut.py") 252, .int 22 0, .int 3 0, .int 0 0, .int 0 0, .int 3 0, .ref 57, .bool true, .int 181 0, .ref 58, .none, .ref 59, .ref 60, .ref 61, .int 256 0, .int 22 0, .str (S "/claim/cut.py") 257], #[]⟩),
  (70, ⟨.type "function", none, .func (fnS (mAt 6 1) (S "GapText.size") (.none) (.str (S "emacs.gap") 236) (.ref 69)), #[]⟩),
  (69, ⟨.type "code", none, .fields #[.str (S "size") 259, .str (S "GapText.size") 260, .str (S "/claim/cut.py") 261, .int 28 0, .int 1 0, .int 0 0, .int 0 0, .int 3 0, .ref 64, .bool true, .int 181 0, .ref 65, .none, .ref 66, .ref 67, .ref 68, .int 263 0, .int 28 0, .str (S "/claim/cut.py") 264], #[]⟩),
  (84, ⟨.type "function", none, .func (fnS (mAt 6 3) (S "GapText.codes") (.none) (.str (S "emacs.gap") 236) (.ref 83)), #[]⟩),
  (83, ⟨.type "code", none, .fields #[.str (S "codes") 274, .str (S "GapText.codes") 275, .str (S "/claim/cut.py") 276, .int 34 0, .int 3 0, .int 0 0, .int 0 0, .int 3 0, .ref 78, .bool true, .int 181 0, .ref 79, .none, .ref 80, .ref 81, .ref 82, .int 281 0, .int 34 0, .str (S "/claim/cut.py") 282], #[]⟩),
  (91, ⟨.type "function", none, .func (fnS (mAt 6 4) (S "GapText.move_gap") (.none) (.str (S "emacs.gap") 236) (.ref 90)), #[]⟩),
  (90, ⟨.type "code", none, .fields #[.str (S "move_gap") 284, .str (S "GapText.move_gap") 285, .str (S "/claim/cut.py") 286, .int 42 0, .int 2 0, .int 0 0, .int 0 0, .int 3 0, .ref 85, .bool true, .int 181 0, .ref 86, .none, .ref 87, .ref 88, .ref 89, .int 290 0, .int 42 0, .str (S "/claim/cut.py") 291], #[]⟩),
  (98, ⟨.type "function", none, .func (fnS (mAt 6 5) (S "GapText.widen_gap") (.none) (.str (S "emacs.gap") 236) (.ref 97)), #[]⟩),
  (97, ⟨.type "code", none, .fields #[.str (S "widen_gap") 293, .str (S "GapText.widen_gap") 294, .str (S "/claim/cut.py") 295, .int 53 0, .int 2 0, .int 0 0, .int 0 0, .int 3 0, .ref 92, .bool true, .int 181 0, .ref 93, .none, .ref 94, .ref 95, .ref 96, .int 299 0, .int 53 0, .str (S "/claim/cut.py") 300], #[]⟩),
  (105, ⟨.type "function", none, .func (fnS (mAt 6 6) (S "GapText.insert") (.none) (.str (S "emacs.gap") 236) (.ref 104)), #[]⟩),
  (104, ⟨.type "code", none, .fields #[.str (S "insert") 302, .str (S "GapText.insert") 303, .str (S "/claim/cut.py") 304, .int 59 0, .int 3 0, .int 0 0, .int 0 0, .int 3 0, .ref 99, .bool true, .int 181 0, .ref 100, .none, .ref 101, .ref 102, .ref 103, .int 308 0, .int 59 0, .str (S "/claim/cut.py") 309], #[]⟩),
  (112, ⟨.type "function", none, .func (fnS (mAt 6 7) (S "GapText.delete") (.none) (.str (S "emacs.gap") 236) (.ref 111)), #[]⟩),
  (111, ⟨.type "code", none, .fields #[.str (S "delete") 311, .str (S "GapText.delete") 312, .str (S "/claim/cut.py") 313, .int 65 0, .int 3 0, .int 0 0, .int 0 0, .int 3 0, .ref 106, .bool true, .int 181 0, .ref 107, .none, .ref 108, .ref 109, .ref 110, .int 318 0, .int 65 0, .str (S "/claim/cut.py") 319], #[]⟩),
  (154, ⟨.type "function", none, .func (fnS (mAt 8 0) (S "Markers.__init__") (.none) (.str (S "emacs.markers") 356) (.ref 153)), #[]⟩)]
noncomputable def KK2 (P : Params) : Frag := [
  (153, ⟨.type "code", none, .fields #[.str (S "__init__") 370, .str (S "Markers.__init__") 371, .str (S "/claim/cut.py") 372, .int 86 0, .int 1 0, .int 0 0, .int 0 0, .int 3 0, .ref 148, .bool true, .int 181 0, .ref 149, .none, .ref 150, .ref 151, .ref 152, .int 374 0, .int 86 0, .str (S "/claim/cut.py") 375], #[]⟩),
  (161, ⟨.type "function", none, .func (fnS (mAt 8 1) (S "Markers.numbers") (.none) (.str (S "emacs.markers") 356) (.ref 160)), #[]⟩),
  (160, ⟨.type "code", none, .fields #[.str (S "numbers") 377, .str (S "Markers.numbers") 378, .str (S "/claim/cut.py") 379, .int 89 0, .int 1 0, .int 0 0, .int 0 0, .int 3 0, .ref 155, .bool true, .int 181 0, .ref 156, .none, .ref 157, .ref 158, .ref 159, .int 381 0, .int 89 0, .str (S "/claim/cut.py") 382], #[]⟩),
  (182, ⟨.type "function", none, .func (fnS (mAt 8 4) (S "Markers.within") (.none) (.str (S "emacs.markers") 356) (.ref 181)), #[]⟩),
  (181, ⟨.type "code", none, .fields #[.str (S "within") 401, .str (S "Markers.within") 402, .str (S "/claim/cut.py") 403, .int 98 0, .int 3 0, .int 0 0, .int 0 0, .int 3 0, .ref 176, .bool true, .int 181 0, .ref 177, .none, .ref 178, .ref 179, .ref 180, .int 409 0, .int 98 0, .str (S "/claim/cut.py") 410], #[]⟩),
  (189, ⟨.type "function", none, .func (fnS (mAt 8 5) (S "Markers.inserted") (.none) (.str (S "emacs.markers") 356) (.ref 188)), #[]⟩),
  (188, ⟨.type "code", none, .fields #[.str (S "inserted") 412, .str (S "Markers.inserted") 413, .str (S "/claim/cut.py") 414, .int 105 0, .int 4 0, .int 0 0, .int 0 0, .int 3 0, .ref 183, .bool true, .int 181 0, .ref 184, .none, .ref 185, .ref 186, .ref 187, .int 421 0, .int 105 0, .str (S "/claim/cut.py") 422], #[]⟩),
  (196, ⟨.type "function", none, .func (fnS (mAt 8 6) (S "Markers.deleted") (.none) (.str (S "emacs.markers") 356) (.ref 195)), #[]⟩),
  (195, ⟨.type "code", none, .fields #[.str (S "deleted") 424, .str (S "Markers.deleted") 425, .str (S "/claim/cut.py") 426, .int 111 0, .int 3 0, .int 0 0, .int 0 0, .int 3 0, .ref 190, .bool true, .int 181 0, .ref 191, .none, .ref 192, .ref 193, .ref 194, .int 432 0, .int 111 0, .str (S "/claim/cut.py") 433], #[]⟩),
  (260, ⟨.type "function", none, .func (fnS (mAt 12 0) (S "Buffer.__init__") (.ref 253) (.str (S "emacs.buffer") 498) (.ref 259)), #[]⟩),
  (259, ⟨.type "code", none, .fields #[.str (S "__init__") 513, .str (S "Buffer.__init__") 514, .str (S "/claim/cut.py") 515, .int 135 0, .int 4 0, .int 0 0, .int 0 0, .int 3 0, .ref 254, .bool true, .int 181 0, .ref 255, .none, .ref 256, .ref 257, .ref 258, .int 520 0, .int 135 0, .str (S "/claim/cut.py") 521], #[]⟩),
  (295, ⟨.type "function", none, .func (fnS (mAt 12 5) (S "Buffer.size") (.none) (.str (S "emacs.buffer") 498) (.ref 294)), #[]⟩),
  (294, ⟨.type "code", none, .fields #[.str (S "size") 551, .str (S "Buffer.size") 552, .str (S "/claim/cut.py") 553, .int 169 0, .int 1 0, .int 0 0, .int 0 0, .int 3 0, .ref 289, .bool true, .int 181 0, .ref 290, .none, .ref 291, .ref 292, .ref 293, .int 555 0, .int 169 0, .str (S "/claim/cut.py") 556], #[]⟩),
  (309, ⟨.type "function", none, .func (fnS (mAt 12 7) (S "Buffer.codes") (.none) (.str (S "emacs.buffer") 498) (.ref 308)), #[]⟩),
  (308, ⟨.type "code", none, .fields #[.str (S "codes") 566, .str (S "Buffer.codes") 567, .str (S "/claim/cut.py") 568, .int 175 0, .int 3 0, .int 0 0, .int 0 0, .int 3 0, .ref 303, .bool true, .int 181 0, .ref 304, .none, .ref 305, .ref 306, .ref 307, .int 572 0, .int 175 0, .str (S "/claim/cut.py") 573], #[]⟩),
  (316, ⟨.type "function", none, .func (fnS (mAt 12 8) (S "Buffer.goto") (.none) (.str (S "emacs.buffer") 498) (.ref 315)), #[]⟩),
  (315, ⟨.type "code", none, .fields #[.str (S "goto") 575, .str (S "Buffer.goto") 576, .str (S "/claim/cut.py") 577, .int 178 0, .int 2 0, .int 0 0, .int 0 0, .int 3 0, .ref 310, .bool true, .int 181 0, .ref 311, .none, .ref 312, .ref 313, .ref 314, .int 580 0, .int 178 0, .str (S "/claim/cut.py") 581], #[]⟩),
  (330, ⟨.type "function", none, .func (fnS (mAt 12 10) (S "Buffer.is_modified") (.none) (.str (S "emacs.buffer") 498) (.ref 329)), #[]⟩),
  (329, ⟨.type "code", none, .fields #[.str (S "is_modified") 590, .str (S "Buffer.is_modified") 591, .str (S "/claim/cut.py") 592, .int 185 0, .int 1 0, .int 0 0, .int 0 0, .int 3 0, .ref 324, .bool true, .int 181 0, .ref 325, .none, .ref 326, .ref 327, .ref 328, .int 594 0, .int 185 0, .str (S "/claim/cut.py") 595], #[]⟩),
  (337, ⟨.type "function", none, .func (fnS (mAt 12 11) (S "Buffer.set_modified") (.none) (.str (S "emacs.buffer") 498) (.ref 336)), #[]⟩),
  (336, ⟨.type "code", none, .fields #[.str (S "set_modified") 597, .str (S "Buffer.set_modified") 598, .str (S "/claim/cut.py") 599, .int 188 0, .int 2 0, .int 0 0, .int 0 0, .int 3 0, .ref 331, .bool true, .int 181 0, .ref 332, .none, .ref 333, .ref 334, .ref 335, .int 602 0, .int 188 0, .str (S "/claim/cut.py") 603], #[]⟩),
  (344, ⟨.type "function", none, .func (fnS (mAt 12 12) (S "Buffer.touch") (.none) (.str (S "emacs.buffer") 498) (.ref 343)), #[]⟩),
  (343, ⟨.type "code", none, .fields #[.str (S "touch") 605, .str (S "Buffer.touch") 606, .str (S "/claim/cut.py") 607, .int 194 0, .int 2 0, .int 0 0, .int 0 0, .int 3 0, .ref 338, .bool true, .int 181 0, .ref 339, .none, .ref 340, .ref 341, .ref 342, .int 610 0, .int 194 0, .str (S "/claim/cut.py") 611], #[]⟩),
  (363, ⟨.type "function", none, .func (fnS (mAt 14 0) (S "LispSignal.__init__") (.none) (.str (S "emacs.errors") 637) (.ref 362)), #[]⟩)]
noncomputable def KK3 (P : Params) : Frag := [
  (362, ⟨.type "code", none, .fields #[.str (S "__init__") 651, .str (S "LispSignal.__init__") 652, .str (S "/claim/cut.py") 653, .int 201 0, .int 3 0, .int 0 0, .int 0 0, .int 3 0, .ref 357, .bool true, .int 181 0, .ref 358, .none, .ref 359, .ref 360, .ref 361, .int 657 0, .int 201 0, .str (S "/claim/cut.py") 658], #[]⟩),
  (376, ⟨.type "function", none, .func (fnS (stAt 17) (S "need_writable") (.none) (.str (S "emacs.editing") 670) (.ref 375)), #[]⟩),
  (375, ⟨.type "code", none, .fields #[.str (S "need_writable") 676, .str (S "need_writable") 677, .str (S "/claim/cut.py") 678, .int 206 0, .int 1 0, .int 0 0, .int 0 0, .int 3 0, .ref 370, .bool true, .int 181 0, .ref 371, .none, .ref 372, .ref 373, .ref 374, .int 680 0, .int 206 0, .str (S "/claim/cut.py") 681], #[]⟩),
  (383, ⟨.type "function", none, .func (fnS (stAt 18) (S "need_room") (.none) (.str (S "emacs.editing") 670) (.ref 382)), #[]⟩),
  (382, ⟨.type "code", none, .fields #[.str (S "need_room") 683, .str (S "need_room") 684, .str (S "/claim/cut.py") 685, .int 209 0, .int 2 0, .int 0 0, .int 0 0, .int 3 0, .ref 377, .bool true, .int 181 0, .ref 378, .none, .ref 379, .ref 380, .ref 381, .int 688 0, .int 209 0, .str (S "/claim/cut.py") 689], #[]⟩),
  (390, ⟨.type "function", none, .func (fnS (stAt 19) (S "reached") (.none) (.str (S "emacs.editing") 670) (.ref 389)), #[]⟩),
  (389, ⟨.type "code", none, .fields #[.str (S "reached") 691, .str (S "reached") 692, .str (S "/claim/cut.py") 693, .int 212 0, .int 3 0, .int 0 0, .int 0 0, .int 3 0, .ref 384, .bool true, .int 181 0, .ref 385, .none, .ref 386, .ref 387, .ref 388, .int 699 0, .int 212 0, .str (S "/claim/cut.py") 700], #[]⟩),
  (397, ⟨.type "function", none, .func (fnS (stAt 20) (S "tell_ahead") (.none) (.str (S "emacs.editing") 670) (.ref 396)), #[]⟩),
  (396, ⟨.type "code", none, .fields #[.str (S "tell_ahead") 702, .str (S "tell_ahead") 703, .str (S "/claim/cut.py") 704, .int 217 0, .int 3 0, .int 0 0, .int 0 0, .int 3 0, .ref 391, .bool true, .int 181 0, .ref 392, .none, .ref 393, .ref 394, .ref 395, .int 709 0, .int 217 0, .str (S "/claim/cut.py") 710], #[]⟩),
  (404, ⟨.type "function", none, .func (fnS (stAt 21) (S "tell_behind") (.none) (.str (S "emacs.editing") 670) (.ref 403)), #[]⟩),
  (403, ⟨.type "code", none, .fields #[.str (S "tell_behind") 712, .str (S "tell_behind") 713, .str (S "/claim/cut.py") 714, .int 220 0, .int 4 0, .int 0 0, .int 0 0, .int 3 0, .ref 398, .bool true, .int 181 0, .ref 399, .none, .ref 400, .ref 401, .ref 402, .int 720 0, .int 220 0, .str (S "/claim/cut.py") 721], #[]⟩),
  (411, ⟨.type "function", none, .func (fnS (stAt 22) (S "text_out") (.none) (.str (S "emacs.editing") 670) (.ref 410)), #[]⟩),
  (410, ⟨.type "code", none, .fields #[.str (S "text_out") 723, .str (S "text_out") 724, .str (S "/claim/cut.py") 725, .int 224 0, .int 3 0, .int 0 0, .int 0 0, .int 3 0, .ref 405, .bool true, .int 181 0, .ref 406, .none, .ref 407, .ref 408, .ref 409, .int 730 0, .int 224 0, .str (S "/claim/cut.py") 731], #[]⟩),
  (418, ⟨.type "function", none, .func (fnS (stAt 23) (S "text_in") (.none) (.str (S "emacs.editing") 670) (.ref 417)), #[]⟩),
  (417, ⟨.type "code", none, .fields #[.str (S "text_in") 733, .str (S "text_in") 734, .str (S "/claim/cut.py") 735, .int 232 0, .int 3 0, .int 0 0, .int 0 0, .int 3 0, .ref 412, .bool true, .int 181 0, .ref 413, .none, .ref 414, .ref 415, .ref 416, .int 739 0, .int 232 0, .str (S "/claim/cut.py") 740], #[]⟩),
  (425, ⟨.type "function", none, .func (fnS (stAt 24) (S "hung_out") (.none) (.str (S "emacs.editing") 670) (.ref 424)), #[]⟩),
  (424, ⟨.type "code", none, .fields #[.str (S "hung_out") 742, .str (S "hung_out") 743, .str (S "/claim/cut.py") 744, .int 239 0, .int 3 0, .int 0 0, .int 0 0, .int 3 0, .ref 419, .bool true, .int 181 0, .ref 420, .none, .ref 421, .ref 422, .ref 423, .int 748 0, .int 239 0, .str (S "/claim/cut.py") 749], #[]⟩),
  (432, ⟨.type "function", none, .func (fnS (stAt 25) (S "hung_in") (.none) (.str (S "emacs.editing") 670) (.ref 431)), #[]⟩),
  (431, ⟨.type "code", none, .fields #[.str (S "hung_in") 751, .str (S "hung_in") 752, .str (S "/claim/cut.py") 753, .int 244 0, .int 4 0, .int 0 0, .int 0 0, .int 3 0, .ref 426, .bool true, .int 181 0, .ref 427, .none, .ref 428, .ref 429, .ref 430, .int 758 0, .int 244 0, .str (S "/claim/cut.py") 759], #[]⟩),
  (439, ⟨.type "function", none, .func (fnS (stAt 26) (S "put_in") (.none) (.str (S "emacs.editing") 670) (.ref 438)), #[]⟩),
  (438, ⟨.type "code", none, .fields #[.str (S "put_in") 761, .str (S "put_in") 762, .str (S "/claim/cut.py") 763, .int 249 0, .int 5 0, .int 0 0, .int 0 0, .int 3 0, .ref 433, .bool true, .int 181 0, .ref 434, .none, .ref 435, .ref 436, .ref 437, .int 769 0, .int 249 0, .str (S "/claim/cut.py") 770], #[]⟩),
  (447, ⟨.type "function", none, .func (fnS (stAt 27) (S "insert") (.ref 440) (.str (S "emacs.editing") 670) (.ref 446)), #[]⟩),
  (446, ⟨.type "code", none, .fields #[.str (S "insert") 772, .str (S "insert") 773, .str (S "/claim/cut.py") 774, .int 262 0, .int 3 0, .int 0 0, .int 0 0, .int 3 0, .ref 441, .bool true, .int 181 0, .ref 442, .none, .ref 443, .ref 444, .ref 445, .int 778 0, .int 262 0, .str (S "/claim/cut.py") 779], #[]⟩),
  (454, ⟨.type "function", none, .func (fnS (stAt 28) (S "delete") (.none) (.str (S "emacs.editing") 670) (.ref 453)), #[]⟩)]
noncomputable def KK4 (P : Params) : Frag := [
  (453, ⟨.type "code", none, .fields #[.str (S "delete") 781, .str (S "delete") 782, .str (S "/claim/cut.py") 783, .int 264 0, .int 3 0, .int 0 0, .int 0 0, .int 3 0, .ref 448, .bool true, .int 181 0, .ref 449, .none, .ref 450, .ref 451, .ref 452, .int 790 0, .int 264 0, .str (S "/claim/cut.py") 791], #[]⟩),
  (468, ⟨.type "function", none, .func (fnS (mAt 30 0) (S "Piece.__init__") (.none) (.str (S "emacs.pieces") 793) (.ref 467)), #[]⟩),
  (467, ⟨.type "code", none, .fields #[.str (S "__init__") 807, .str (S "Piece.__init__") 808, .str (S "/claim/cut.py") 809, .int 278 0, .int 3 0, .int 0 0, .int 0 0, .int 3 0, .ref 462, .bool true, .int 181 0, .ref 463, .none, .ref 464, .ref 465, .ref 466, .int 813 0, .int 278 0, .str (S "/claim/cut.py") 814], #[]⟩),
  (490, ⟨.type "function", none, .func (fnS (mAt 33 0) (S "UndoList.__init__") (.none) (.str (S "emacs.undolist") 826) (.ref 489)), #[]⟩),
  (489, ⟨.type "code", none, .fields #[.str (S "__init__") 842, .str (S "UndoList.__init__") 843, .str (S "/claim/cut.py") 844, .int 285 0, .int 1 0, .int 0 0, .int 0 0, .int 3 0, .ref 484, .bool true, .int 181 0, .ref 485, .none, .ref 486, .ref 487, .ref 488, .int 846 0, .int 285 0, .str (S "/claim/cut.py") 847], #[]⟩),
  (497, ⟨.type "function", none, .func (fnS (mAt 33 1) (S "UndoList.count") (.none) (.str (S "emacs.undolist") 826) (.ref 496)), #[]⟩),
  (496, ⟨.type "code", none, .fields #[.str (S "count") 849, .str (S "UndoList.count") 850, .str (S "/claim/cut.py") 851, .int 292 0, .int 1 0, .int 0 0, .int 0 0, .int 3 0, .ref 491, .bool true, .int 181 0, .ref 492, .none, .ref 493, .ref 494, .ref 495, .int 853 0, .int 292 0, .str (S "/claim/cut.py") 854], #[]⟩),
  (504, ⟨.type "function", none, .func (fnS (mAt 33 2) (S "UndoList.is_at_boundary") (.none) (.str (S "emacs.undolist") 826) (.ref 503)), #[]⟩),
  (503, ⟨.type "code", none, .fields #[.str (S "is_at_boundary") 856, .str (S "UndoList.is_at_boundary") 857, .str (S "/claim/cut.py") 858, .int 295 0, .int 1 0, .int 0 0, .int 0 0, .int 3 0, .ref 498, .bool true, .int 181 0, .ref 499, .none, .ref 500, .ref 501, .ref 502, .int 860 0, .int 295 0, .str (S "/claim/cut.py") 861], #[]⟩),
  (511, ⟨.type "function", none, .func (fnS (mAt 33 3) (S "UndoList.boundary") (.none) (.str (S "emacs.undolist") 826) (.ref 510)), #[]⟩),
  (510, ⟨.type "code", none, .fields #[.str (S "boundary") 863, .str (S "UndoList.boundary") 864, .str (S "/claim/cut.py") 865, .int 298 0, .int 1 0, .int 0 0, .int 0 0, .int 3 0, .ref 505, .bool true, .int 181 0, .ref 506, .none, .ref 507, .ref 508, .ref 509, .int 867 0, .int 298 0, .str (S "/claim/cut.py") 868], #[]⟩),
  (518, ⟨.type "function", none, .func (fnS (mAt 33 4) (S "UndoList.begin_command") (.none) (.str (S "emacs.undolist") 826) (.ref 517)), #[]⟩),
  (517, ⟨.type "code", none, .fields #[.str (S "begin_command") 870, .str (S "UndoList.begin_command") 871, .str (S "/claim/cut.py") 872, .int 302 0, .int 2 0, .int 0 0, .int 0 0, .int 3 0, .ref 512, .bool true, .int 181 0, .ref 513, .none, .ref 514, .ref 515, .ref 516, .int 875 0, .int 302 0, .str (S "/claim/cut.py") 876], #[]⟩),
  (525, ⟨.type "function", none, .func (fnS (mAt 33 5) (S "UndoList.note_state") (.none) (.str (S "emacs.undolist") 826) (.ref 524)), #[]⟩),
  (524, ⟨.type "code", none, .fields #[.str (S "note_state") 878, .str (S "UndoList.note_state") 879, .str (S "/claim/cut.py") 880, .int 305 0, .int 3 0, .int 0 0, .int 0 0, .int 3 0, .ref 519, .bool true, .int 181 0, .ref 520, .none, .ref 521, .ref 522, .ref 523, .int 884 0, .int 305 0, .str (S "/claim/cut.py") 885], #[]⟩),
  (532, ⟨.type "function", none, .func (fnS (mAt 33 6) (S "UndoList.note_begin") (.none) (.str (S "emacs.undolist") 826) (.ref 531)), #[]⟩),
  (531, ⟨.type "code", none, .fields #[.str (S "note_begin") 887, .str (S "UndoList.note_begin") 888, .str (S "/claim/cut.py") 889, .int 310 0, .int 4 0, .int 0 0, .int 0 0, .int 3 0, .ref 526, .bool true, .int 181 0, .ref 527, .none, .ref 528, .ref 529, .ref 530, .int 895 0, .int 310 0, .str (S "/claim/cut.py") 896], #[]⟩),
  (539, ⟨.type "function", none, .func (fnS (mAt 33 7) (S "UndoList.note_insert") (.none) (.str (S "emacs.undolist") 826) (.ref 538)), #[]⟩),
  (538, ⟨.type "code", none, .fields #[.str (S "note_insert") 898, .str (S "UndoList.note_insert") 899, .str (S "/claim/cut.py") 900, .int 316 0, .int 6 0, .int 0 0, .int 0 0, .int 3 0, .ref 533, .bool true, .int 181 0, .ref 534, .none, .ref 535, .ref 536, .ref 537, .int 908 0, .int 316 0, .str (S "/claim/cut.py") 909], #[]⟩),
  (546, ⟨.type "function", none, .func (fnS (mAt 33 8) (S "UndoList.note_delete") (.none) (.str (S "emacs.undolist") 826) (.ref 545)), #[]⟩),
  (545, ⟨.type "code", none, .fields #[.str (S "note_delete") 911, .str (S "UndoList.note_delete") 912, .str (S "/claim/cut.py") 913, .int 326 0, .int 7 0, .int 0 0, .int 0 0, .int 3 0, .ref 540, .bool true, .int 181 0, .ref 541, .none, .ref 542, .ref 543, .ref 544, .int 923 0, .int 326 0, .str (S "/claim/cut.py") 924], #[]⟩),
  (558, ⟨.type "function", none, .func (fnS (mAt 33 10) (S "UndoList.renew_unmodified") (.none) (.str (S "emacs.undolist") 826) (.ref 557)), #[]⟩),
  (557, ⟨.type "code", none, .fields #[.str (S "renew_unmodified") 939, .str (S "UndoList.renew_unmodified") 940, .str (S "/claim/cut.py") 941, .int 340 0, .int 3 0, .int 0 0, .int 0 0, .int 3 0, .ref 554, .bool true, .int 181 0, .ref 555, .none, .none, .none, .ref 556, .int 942 0, .int 340 0, .str (S "/claim/cut.py") 943], #[]⟩),
  (593, ⟨.type "function", none, .func (fnS (mAt 36 0) (S "Recording.__init__") (.none) (.str (S "emacs.recording") 975) (.ref 592)), #[]⟩)]
noncomputable def KK5 (P : Params) : Frag := [
  (592, ⟨.type "code", none, .fields #[.str (S "__init__") 989, .str (S "Recording.__init__") 990, .str (S "/claim/cut.py") 991, .int 353 0, .int 1 0, .int 0 0, .int 0 0, .int 3 0, .ref 587, .bool true, .int 181 0, .ref 588, .none, .ref 589, .ref 590, .ref 591, .int 993 0, .int 353 0, .str (S "/claim/cut.py") 994], #[]⟩),
  (600, ⟨.type "function", none, .func (fnS (mAt 36 1) (S "Recording.text_comes") (.none) (.str (S "emacs.recording") 975) (.ref 599)), #[]⟩),
  (599, ⟨.type "code", none, .fields #[.str (S "text_comes") 996, .str (S "Recording.text_comes") 997, .str (S "/claim/cut.py") 998, .int 356 0, .int 4 0, .int 0 0, .int 0 0, .int 3 0, .ref 594, .bool true, .int 181 0, .ref 595, .none, .ref 596, .ref 597, .ref 598, .int 1003 0, .int 356 0, .str (S "/claim/cut.py") 1004], #[]⟩),
  (605, ⟨.type "function", none, .func (fnS (mAt 36 2) (S "Recording.text_goes") (.none) (.str (S "emacs.recording") 975) (.ref 604)), #[]⟩),
  (604, ⟨.type "code", none, .fields #[.str (S "text_goes") 1006, .str (S "Recording.text_goes") 1007, .str (S "/claim/cut.py") 1008, .int 359 0, .int 4 0, .int 0 0, .int 0 0, .int 3 0, .ref 601, .bool true, .int 181 0, .ref 602, .none, .none, .none, .ref 603, .int 1009 0, .int 359 0, .str (S "/claim/cut.py") 1010], #[]⟩),
  (662, ⟨.type "function", none, .func (fnS (stAt 45) (S "insert_piece") (.none) (.str (S "emacs.piecing") 1077) (.ref 661)), #[]⟩),
  (661, ⟨.type "code", none, .fields #[.str (S "insert_piece") 1085, .str (S "insert_piece") 1086, .str (S "/claim/cut.py") 1087, .int 397 0, .int 2 0, .int 0 0, .int 0 0, .int 3 0, .ref 658, .bool true, .int 181 0, .ref 659, .none, .none, .none, .ref 660, .int 1088 0, .int 397 0, .str (S "/claim/cut.py") 1089], #[]⟩),
  (681, ⟨.type "function", none, .func (fnS (stAt 49) (S "need_visible") (.none) (.str (S "emacs.primundo") 1107) (.ref 680)), #[]⟩),
  (680, ⟨.type "code", none, .fields #[.str (S "need_visible") 1109, .str (S "need_visible") 1110, .str (S "/claim/cut.py") 1111, .int 431 0, .int 3 0, .int 0 0, .int 0 0, .int 3 0, .ref 675, .bool true, .int 181 0, .ref 676, .none, .ref 677, .ref 678, .ref 679, .int 1115 0, .int 431 0, .str (S "/claim/cut.py") 1116], #[]⟩),
  (688, ⟨.type "function", none, .func (fnS (stAt 50) (S "markers_ahead") (.none) (.str (S "emacs.primundo") 1107) (.ref 687)), #[]⟩),
  (687, ⟨.type "code", none, .fields #[.str (S "markers_ahead") 1118, .str (S "markers_ahead") 1119, .str (S "/claim/cut.py") 1120, .int 434 0, .int 2 0, .int 0 0, .int 0 0, .int 3 0, .ref 682, .bool true, .int 181 0, .ref 683, .none, .ref 684, .ref 685, .ref 686, .int 1124 0, .int 434 0, .str (S "/claim/cut.py") 1125], #[]⟩),
  (695, ⟨.type "function", none, .func (fnS (stAt 51) (S "undo_insert") (.none) (.str (S "emacs.primundo") 1107) (.ref 694)), #[]⟩),
  (694, ⟨.type "code", none, .fields #[.str (S "undo_insert") 1127, .str (S "undo_insert") 1128, .str (S "/claim/cut.py") 1129, .int 440 0, .int 2 0, .int 0 0, .int 0 0, .int 3 0, .ref 689, .bool true, .int 181 0, .ref 690, .none, .ref 691, .ref 692, .ref 693, .int 1132 0, .int 440 0, .str (S "/claim/cut.py") 1133], #[]⟩),
  (702, ⟨.type "function", none, .func (fnS (stAt 52) (S "undo_delete") (.none) (.str (S "emacs.primundo") 1107) (.ref 701)), #[]⟩),
  (701, ⟨.type "code", none, .fields #[.str (S "undo_delete") 1135, .str (S "undo_delete") 1136, .str (S "/claim/cut.py") 1137, .int 444 0, .int 3 0, .int 0 0, .int 0 0, .int 3 0, .ref 696, .bool true, .int 181 0, .ref 697, .none, .ref 698, .ref 699, .ref 700, .int 1145 0, .int 444 0, .str (S "/claim/cut.py") 1146], #[]⟩),
  (709, ⟨.type "function", none, .func (fnS (stAt 53) (S "undo_row") (.none) (.str (S "emacs.primundo") 1107) (.ref 708)), #[]⟩),
  (708, ⟨.type "code", none, .fields #[.str (S "undo_row") 1148, .str (S "undo_row") 1149, .str (S "/claim/cut.py") 1150, .int 456 0, .int 3 0, .int 0 0, .int 0 0, .int 3 0, .ref 703, .bool true, .int 181 0, .ref 704, .none, .ref 705, .ref 706, .ref 707, .int 1156 0, .int 456 0, .str (S "/claim/cut.py") 1157], #[]⟩),
  (716, ⟨.type "function", none, .func (fnS (stAt 54) (S "above_boundaries") (.none) (.str (S "emacs.primundo") 1107) (.ref 715)), #[]⟩),
  (715, ⟨.type "code", none, .fields #[.str (S "above_boundaries") 1159, .str (S "above_boundaries") 1160, .str (S "/claim/cut.py") 1161, .int 475 0, .int 2 0, .int 0 0, .int 0 0, .int 3 0, .ref 710, .bool true, .int 181 0, .ref 711, .none, .ref 712, .ref 713, .ref 714, .int 1164 0, .int 475 0, .str (S "/claim/cut.py") 1165], #[]⟩),
  (723, ⟨.type "function", none, .func (fnS (stAt 55) (S "undo_group") (.none) (.str (S "emacs.primundo") 1107) (.ref 722)), #[]⟩),
  (722, ⟨.type "code", none, .fields #[.str (S "undo_group") 1167, .str (S "undo_group") 1168, .str (S "/claim/cut.py") 1169, .int 479 0, .int 3 0, .int 0 0, .int 0 0, .int 3 0, .ref 717, .bool true, .int 181 0, .ref 718, .none, .ref 719, .ref 720, .ref 721, .int 1173 0, .int 479 0, .str (S "/claim/cut.py") 1174], #[]⟩),
  (737, ⟨.type "function", none, .func (fnS (mAt 58 0) (S "Undoing.__init__") (.none) (.str (S "emacs.undocommand") 1176) (.ref 736)), #[]⟩),
  (736, ⟨.type "code", none, .fields #[.str (S "__init__") 1193, .str (S "Undoing.__init__") 1194, .str (S "/claim/cut.py") 1195, .int 488 0, .int 1 0, .int 0 0, .int 0 0, .int 3 0, .ref 731, .bool true, .int 181 0, .ref 732, .none, .ref 733, .ref 734, .ref 735, .int 1197 0, .int 488 0, .str (S "/claim/cut.py") 1198], #[]⟩),
  (751, ⟨.type "function", none, .func (fnS (stAt 59) (S "trimmed_count") (.none) (.str (S "emacs.undocommand") 1176) (.ref 750)), #[]⟩)]
noncomputable def KK6 (P : Params) : Frag := [
  (750, ⟨.type "code", none, .fields #[.str (S "trimmed_count") 1212, .str (S "trimmed_count") 1213, .str (S "/claim/cut.py") 1214, .int 493 0, .int 1 0, .int 0 0, .int 0 0, .int 3 0, .ref 745, .bool true, .int 181 0, .ref 746, .none, .ref 747, .ref 748, .ref 749, .int 1216 0, .int 493 0, .str (S "/claim/cut.py") 1217], #[]⟩),
  (758, ⟨.type "function", none, .func (fnS (stAt 60) (S "last_was_undo") (.none) (.str (S "emacs.undocommand") 1176) (.ref 757)), #[]⟩),
  (757, ⟨.type "code", none, .fields #[.str (S "last_was_undo") 1219, .str (S "last_was_undo") 1220, .str (S "/claim/cut.py") 1221, .int 495 0, .int 2 0, .int 0 0, .int 0 0, .int 3 0, .ref 752, .bool true, .int 181 0, .ref 753, .none, .ref 754, .ref 755, .ref 756, .int 1224 0, .int 495 0, .str (S "/claim/cut.py") 1225], #[]⟩),
  (763, ⟨.type "function", none, .func (fnS (stAt 61) (S "drop_points") (.none) (.str (S "emacs.undocommand") 1176) (.ref 762)), #[]⟩),
  (762, ⟨.type "code", none, .fields #[.str (S "drop_points") 1227, .str (S "drop_points") 1228, .str (S "/claim/cut.py") 1229, .int 497 0, .int 2 0, .int 0 0, .int 0 0, .int 3 0, .ref 759, .bool true, .int 181 0, .ref 760, .none, .none, .none, .ref 761, .int 1230 0, .int 497 0, .str (S "/claim/cut.py") 1231], #[]⟩),
  (770, ⟨.type "function", none, .func (fnS (stAt 62) (S "elder_rows") (.none) (.str (S "emacs.undocommand") 1176) (.ref 769)), #[]⟩),
  (769, ⟨.type "code", none, .fields #[.str (S "elder_rows") 1233, .str (S "elder_rows") 1234, .str (S "/claim/cut.py") 1235, .int 500 0, .int 2 0, .int 0 0, .int 0 0, .int 3 0, .ref 764, .bool true, .int 181 0, .ref 765, .none, .ref 766, .ref 767, .ref 768, .int 1239 0, .int 500 0, .str (S "/claim/cut.py") 1240], #[]⟩),
  (784, ⟨.type "function", none, .func (fnS (stAt 64) (S "is_in_row") (.none) (.str (S "emacs.undocommand") 1176) (.ref 783)), #[]⟩),
  (783, ⟨.type "code", none, .fields #[.str (S "is_in_row") 1250, .str (S "is_in_row") 1251, .str (S "/claim/cut.py") 1252, .int 509 0, .int 3 0, .int 0 0, .int 0 0, .int 3 0, .ref 778, .bool true, .int 181 0, .ref 779, .none, .ref 780, .ref 781, .ref 782, .int 1256 0, .int 509 0, .str (S "/claim/cut.py") 1257], #[]⟩),
  (791, ⟨.type "function", none, .func (fnS (stAt 65) (S "begin_undo") (.none) (.str (S "emacs.undocommand") 1176) (.ref 790)), #[]⟩),
  (790, ⟨.type "code", none, .fields #[.str (S "begin_undo") 1259, .str (S "begin_undo") 1260, .str (S "/claim/cut.py") 1261, .int 515 0, .int 3 0, .int 0 0, .int 0 0, .int 3 0, .ref 785, .bool true, .int 181 0, .ref 786, .none, .ref 787, .ref 788, .ref 789, .int 1265 0, .int 515 0, .str (S "/claim/cut.py") 1266], #[]⟩),
  (798, ⟨.type "function", none, .func (fnS (stAt 66) (S "end_undo") (.none) (.str (S "emacs.undocommand") 1176) (.ref 797)), #[]⟩),
  (797, ⟨.type "code", none, .fields #[.str (S "end_undo") 1268, .str (S "end_undo") 1269, .str (S "/claim/cut.py") 1270, .int 522 0, .int 4 0, .int 0 0, .int 0 0, .int 3 0, .ref 792, .bool true, .int 181 0, .ref 793, .none, .ref 794, .ref 795, .ref 796, .int 1276 0, .int 522 0, .str (S "/claim/cut.py") 1277], #[]⟩),
  (805, ⟨.type "function", none, .func (fnS (stAt 67) (S "undo_more") (.none) (.str (S "emacs.undocommand") 1176) (.ref 804)), #[]⟩),
  (804, ⟨.type "code", none, .fields #[.str (S "undo_more") 1279, .str (S "undo_more") 1280, .str (S "/claim/cut.py") 1281, .int 529 0, .int 5 0, .int 0 0, .int 0 0, .int 3 0, .ref 799, .bool true, .int 181 0, .ref 800, .none, .ref 801, .ref 802, .ref 803, .int 1293 0, .int 529 0, .str (S "/claim/cut.py") 1294], #[]⟩),
  (812, ⟨.type "function", none, .func (fnS (stAt 68) (S "undo") (.none) (.str (S "emacs.undocommand") 1176) (.ref 811)), #[]⟩),
  (811, ⟨.type "code", none, .fields #[.str (S "undo") 1296, .str (S "undo") 1297, .str (S "/claim/cut.py") 1298, .int 540 0, .int 4 0, .int 0 0, .int 0 0, .int 3 0, .ref 806, .bool true, .int 181 0, .ref 807, .none, .ref 808, .ref 809, .ref 810, .int 1303 0, .int 540 0, .str (S "/claim/cut.py") 1304], #[]⟩),
  (819, ⟨.type "function", none, .func (fnS (stAt 69) (S "go_on_behind_redo") (.none) (.str (S "emacs.undocommand") 1176) (.ref 818)), #[]⟩),
  (818, ⟨.type "code", none, .fields #[.str (S "go_on_behind_redo") 1306, .str (S "go_on_behind_redo") 1307, .str (S "/claim/cut.py") 1308, .int 545 0, .int 2 0, .int 0 0, .int 0 0, .int 3 0, .ref 813, .bool true, .int 181 0, .ref 814, .none, .ref 815, .ref 816, .ref 817, .int 1311 0, .int 545 0, .str (S "/claim/cut.py") 1312], #[]⟩),
  (826, ⟨.type "function", none, .func (fnS (stAt 70) (S "undo_redo") (.none) (.str (S "emacs.undocommand") 1176) (.ref 825)), #[]⟩),
  (825, ⟨.type "code", none, .fields #[.str (S "undo_redo") 1314, .str (S "undo_redo") 1315, .str (S "/claim/cut.py") 1316, .int 550 0, .int 3 0, .int 0 0, .int 0 0, .int 3 0, .ref 820, .bool true, .int 181 0, .ref 821, .none, .ref 822, .ref 823, .ref 824, .int 1326 0, .int 550 0, .str (S "/claim/cut.py") 1327], #[]⟩),
  (579, ⟨.type "function", none, .func (fnS (stAt 34) (S "marker_distance") (.none) (.str (S "emacs.undolist") 826) (.ref 578)), #[]⟩),
  (578, ⟨.type "code", none, .fields #[.str (S "marker_distance") 965, .str (S "marker_distance") 966, .str (S "/claim/cut.py") 967, .int 346 0, .int 4 0, .int 0 0, .int 0 0, .int 3 0, .ref 573, .bool true, .int 181 0, .ref 574, .none, .ref 575, .ref 576, .ref 577, .int 972 0, .int 346 0, .str (S "/claim/cut.py") 973], #[]⟩),
  (253, ⟨.type "tuple", none, .seq #[.int 8 512] 0, #[]⟩)]
noncomputable def KK7 (P : Params) : Frag := [
  (440, ⟨.type "tuple", none, .seq #[.bool false] 0, #[]⟩),
  (476, ⟨.type "tuple", none, .seq #[.str (S "boundary") 828] 0, #[]⟩)]
noncomputable def KK (P : Params) : Frag := KK0 P ++ (KK1 P ++ (KK2 P ++ (KK3 P ++ (KK4 P ++ (KK5 P ++ (KK6 P ++ (KK7 P)))))))
noncomputable def KA : List Addr := [3, 38, 37, 136, 135, 206, 205, 241, 240, 347, 346, 366, 365, 471, 470, 568, 567, 615, 614, 740, 739, 857, 856, 838, 837, 845, 844, 852, 851, 49, 48, 35, 34, 63, 62, 70, 69, 84, 83, 91, 90, 98, 97, 105, 104, 112, 111, 154, 153, 161, 160, 182, 181, 189, 188, 196, 195, 260, 259, 295, 294, 309, 308, 316, 315, 330, 329, 337, 336, 344, 343, 363, 362, 376, 375, 383, 382, 390, 389, 397, 396, 404, 403, 411, 410, 418, 417, 425, 424, 432, 431, 439, 438, 447, 446, 454, 453, 468, 467, 490, 489, 497, 496, 504, 503, 511, 510, 518, 517, 525, 524, 532, 531, 539, 538, 546, 545, 558, 557, 593, 592, 600, 599, 605, 604, 662, 661, 681, 680, 688, 687, 695, 694, 702, 701, 709, 708, 716, 715, 723, 722, 737, 736, 751, 750, 758, 757, 763, 762, 770, 769, 784, 783, 791, 790, 798, 797, 805, 804, 812, 811, 819, 818, 826, 825, 579, 578, 253, 440, 476]
noncomputable def q : Program := { pw with main := { pw.main with body := pw.main.body.drop 76 } }
noncomputable def loose : List PySem.Str := (["_wall", "JOINED", "Amalgam", "begin_change", "GapText", "Markers", "Opaque", "Buffer", "LispSignal", "LONGEST", "need_writable", "need_room", "reached", "tell_ahead", "tell_behind", "text_out", "text_in", "hung_out", "hung_in", "put_in", "insert", "delete", "Piece", "BOUNDARY", "UndoList", "marker_distance", "Recording", "eq", "plist_find", "plist_get", "plist_with", "plist_without", "plist_rows", "insert_piece", "is_value", "set_property", "need_visible", "markers_ahead", "undo_insert", "undo_delete", "undo_row", "above_boundaries", "undo_group", "IN_REGION", "Undoing", "trimmed_count", "last_was_undo", "drop_points", "elder_rows", "skipped_undos", "is_in_row", "begin_undo", "end_undo", "undo_more", "undo", "go_on_behind_redo", "undo_redo", "region_more", "_law_deck", "_law_draw", "_law_typed"] : List String).map PySem.Str.ofString
noncomputable def runQ (p : Program) (w : World) (n₀ : Nat) (ann : Option Value) : Nat → SharedT → Thread → Option SharedT
  | 0, _, _ => none
  | n + 1, s, t => match through t with
    | true => some s
    | false => match PySem.W.Fast.tw6613529449190102663 n₀ ann t with
      | false => none
      | true => match PySem.W.Fast.tw10156331382660048174 (PySem.W.Fast.tw11892475500146522536 PySem.W.Fast.tw14364793385576792824) p w s t with
        | some (s', t') => runQ p w n₀ ann n s' t'
        | none => none
theorem runQ_spec {p : Program} {w : World} {n₀ : Nat} {ann : Option Value} {n : Nat} : ∀ {s s' : SharedT} {t : Thread}, runQ p w n₀ ann n s t = some s' → topRun treeTable p w n₀ ann n s.abs t = some s'.abs := by
  induction n with
  | zero => intro s s' t h; cases h
  | succ n ih =>
    intro s s' t h
    unfold runQ at h
    rw [← PySem.W.Fast.te6613529449190102663, ← PySem.W.Fast.te10156331382660048174, ← PySem.W.Fast.te11892475500146522536, ← PySem.W.Fast.te14364793385576792824] at h
    unfold topRun
    cases ht : through t with
    | true => rw [ht] at h; cases h; rfl
    | false =>
      rw [ht] at h
      cases hk : stepOk n₀ ann t with
      | false => rw [hk] at h; cases h
      | true =>
        rw [hk] at h
        cases hs : stepT (denote treeTable) p w s t with
        | none => rw [hs] at h; cases h
        | some r => obtain ⟨s₂, t₂⟩ := r; rw [hs] at h; rw [stepT_spec hs]; exact ih h
noncomputable def T0 (P : Params) : BT := .node (boot_o_0 P) (.node (boot_o_1 P) (.node (boot_o_3 P) (.node (boot_o_7 P) .nil .nil) .nil) (.node (boot_o_5 P) (.node (boot_o_9 P) .nil .nil) .nil)) (.node (boot_o_2 P) (.node (boot_o_4 P) (.node (boot_o_8 P) .nil .nil) .nil) (.node (boot_o_6 P) (.node (boot_o_10 P) .nil .nil) .nil))
theorem T0_eq (P : Params) : absHeap (T0 P) 11 (boot_heap P).life = boot_heap P := by rfl
theorem run (w : World) (os : OsState) : (runQ pw w 11 (some (.ref 6)) 6000 ⟨T0 w.params, 11, (boot_heap w.params).life, #[], boot_drawn, boot_toks, os⟩ (topStub pw)).map (fun s =>
   ((staticsOk (PySem.W.Fast.tw5923862056798008813 pw.main.body) (boot_heap w.params) s.abs.heap && namesBound pw s.abs.heap && gensDone s.abs && laidKept (boot_heap w.params) s.abs.heap),
    PySem.W.Fast.tw4187177175401517315 q loose (PySem.W.Fast.tw5923862056798008813 pw.main.body) (fun s => xlAt q [] s && recOk [] s) true s.abs, KA.map s.abs.heap.get?)) = some (true, openGood q loose, (KK w.params).map fun p => some p.2) := by
  kernel_rfl
theorem left_of_run {p q : Program} {loose : List Str} {Xt : Shared → Bool} {α : Type} {Yf : Shared → α} {Ya : World → α} {N M m₀ : Nat} {ann : Option Value}
    (open_ : ∀ w : World, (fencedOpening treeTable p w N).map (fun s => (s.heap, s.gens, s.drawn, s.toks)) = some (boot_heap w.params, #[], boot_drawn, boot_toks))
    (size : ∀ w : World, ((boot_heap w.params).isNs mainGlobals, (boot_heap w.params).objs.size, (boot_heap w.params).nsMap mainGlobals "__annotations__") = (true, m₀, ann)) (le : M ≤ N)
    (run : ∀ (w : World) (os : OsState), ∃ s, topRun treeTable p w m₀ ann M ⟨boot_heap w.params, #[], boot_drawn, boot_toks, os⟩ (topStub p) = some s ∧
      (staticsOk (importedModules p.main.body) (boot_heap w.params) s.heap && namesBound p s.heap && gensDone s && laidKept (boot_heap w.params) s.heap) = true ∧
      openSeen q loose (importedModules p.main.body) Xt true s = openGood q loose ∧ Yf s = Ya w) : LeftO p q loose Xt Yf Ya N := fun w => by
  obtain ⟨⟨h, gs, d, k, os⟩, e, e'⟩ := Option.map_eq_some_iff.mp (open_ w)
  obtain ⟨rfl, rfl, rfl, rfl⟩ : h = boot_heap w.params ∧ gs = #[] ∧ d = boot_drawn ∧ k = boot_toks := by simpa using e'
  obtain ⟨z1, z2, z3⟩ : _ ∧ _ ∧ _ := by simpa only [Prod.mk.injEq] using size w
  obtain ⟨s₁, r, l1, l2, l3⟩ := run w os
  have r := topRun_mono (N - M) _ _ _ _ r
  rw [Nat.add_sub_cancel' le] at r
  have t : topFrom treeTable p w N ⟨boot_heap w.params, #[], boot_drawn, boot_toks, os⟩ = some s₁ := by
    have z : ((boot_heap w.params).isNs mainGlobals && (#[] : Array GenState).size == 0) = true := by rw [z1]; rfl
    unfold topFrom
    dsimp only
    rw [z, z2, z3, r]
    show (match staticsOk (importedModules p.main.body) (boot_heap w.params) s₁.heap && namesBound p s₁.heap && gensDone s₁ && laidKept (boot_heap w.params) s₁.heap with | true => _ | false => _) = _
    rw [l1]
  unfold openEnds
  rw [e]
  show (topFrom treeTable p w N _).map _ = _
  rw [t]
  exact congrArg some (Prod.ext l2 l3)
noncomputable def hook : Hook := kHook KK KA (fun _ => by kernel_rfl)
theorem left : LeftO pw q loose (fun s => xlAt q [] s && recOk [] s) hook.obs hook.val 6000 := by
  refine left_of_run (M := 6000) (m₀ := 11) (ann := some (.ref 6)) (boot_open (by rfl) (by rfl) (fun s => by rfl)) (fun w => by kernel_rfl) (Nat.le_refl _) fun w os => ?_
  have h := run w os
  rw [← PySem.W.Fast.te5923862056798008813, ← PySem.W.Fast.te4187177175401517315] at h
  obtain ⟨s, h1, h2⟩ := Option.map_eq_some_iff.mp h
  have h3 := runQ_spec h1
  have e0 : (SharedT.abs ⟨T0 w.params, 11, (boot_heap w.params).life, #[], boot_drawn, boot_toks, os⟩) = (⟨boot_heap w.params, #[], boot_drawn, boot_toks, os⟩ : Shared) := by
    show (⟨absHeap (T0 w.params) 11 (boot_heap w.params).life, _, _, _, _⟩ : Shared) = _
    rw [T0_eq]
  rw [e0] at h3
  obtain ⟨a, b⟩ := Prod.mk.inj h2
  obtain ⟨b, c⟩ := Prod.mk.inj b
  exact ⟨_, h3, a, b, c⟩
theorem ws_and {a b c d e f : Bool} (x : a = true) (y : b = true) (z : c = true) (u : d = true) (v : e = true) (w : f = true) : (a && b && c && d && e && f) = true := by rw [x, y, z, u, v, w]; rfl
noncomputable abbrev ws_rw := PySem.Challenge.rw_pq0297_01
theorem ws_a : sreFenced ws_rw.prog.main = true := by kernel_rfl
theorem ws_b : ((moduleNames ws_rw.prog.main.body).isEmpty || lookedIntoSs (moduleNames ws_rw.prog.main.body) ws_rw.prog.main.body) = true := by kernel_rfl
theorem ws_c : namesResolve ws_rw.prog = true := by kernel_rfl
theorem ws_d : ws_rw.prog.boundNames.all (fun n => !worldNames.contains n) = true := by kernel_rfl
theorem ws_e : noRoadLSs { strict := !(importedModules ws_rw.prog.main.body).all cThrough.contains, foot := none, bare := (["vars", "dir", "locals"] : List Str).filter (readsOut ws_rw.prog ws_rw.prog.main.body) } ws_rw.prog.main.body = true := by kernel_rfl
theorem ws_f : namesMeet ws_rw.prog ws_rw.prog.main.body (fun _ n => attrL n) = true := by kernel_rfl
theorem ws_look : looksOpen ws_rw.prog = true := by
  delta looksOpen
  exact ws_and ws_a ws_b ws_c ws_d ws_e ws_f
theorem ws_row : (OpenLaw.row ws_rw).wellSaid = true := by
  have h : looksOpen (OpenLaw.row ws_rw).toRowW.prog = true := ws_look
  delta OpenRow.wellSaid OpenRow.partSaid
  rw [h]
  kernel_rfl
theorem ws1 : OpenLaw.wellSaid PySem.Challenge.rw_pq0297_01 = true := by
  delta OpenLaw.wellSaid
  rw [ws_row]
  kernel_rfl
theorem top_ {d : DefRec} {kwd : List (Str × Expr)} (hdef : defOf q (S "law") = some (d, kwd)) (hp : pw.theDef (S "law") = some (d.params, d.body, d.scope)) (hk : kwWritten? d.params.kwonlyargs d.params.kw_defaults = some kwd)
    (call : WalkO q loose (XL q []) hook.says PySem.Challenge.rw_pq0297_01.row.toRowW d kwd fun f vs => PySem.call f vs) : PySem.Challenge.rw_pq0297_01.Holds := by
  refine holds_law ws1 fun said => ?_
  refine holds_open (q := q) (loose := loose) (Xt := fun s => xlAt q [] s && recOk [] s) (XP := XL q []) (Yf := hook.obs) (Ya := hook.val) (YP := hook.says) (N := 6000) left hook.of hook.keeps
    (fun s e => xl_of s (Bool.and_eq_true_iff.mp e).1) XL.keeps hdef hp hk (fun s e => recFacts_of (Bool.and_eq_true_iff.mp e).2) (by rfl) (by assumption) (by decide +kernel) ⟨rfl, rfl, rfl, rfl, rfl, by decide +kernel⟩ ?hw call
  case hw => w_witness2
end Mine
end
section
open PySem PySem.W PyProof.Rows PySem.Calls
set_option maxRecDepth 100000
set_option maxHeartbeats 8000000
set_option Elab.async false
set_option linter.unusedVariables false
namespace Mine
inductive AV where
  | int (i : Int)
  | str (x : PySem.Str)
  | bool (b : Bool)
  | none
  | ref (a : Addr)
def AV.val : AV → Tok → Value
  | .int i, t => .int i t
  | .str x, t => .str x t
  | .bool b, _ => .bool b
  | .none, _ => .none
  | .ref a, _ => .ref a
def Ab (v : Value) (a : AV) : Prop := ∃ t, v = a.val t
inductive AbL : List Value → List AV → Prop
  | nil : AbL [] []
  | cons {v a vs as} (h : Ab v a) (t : AbL vs as) : AbL (v :: vs) (a :: as)
theorem AbL.length {vs as} (h : AbL vs as) : vs.length = as.length := by
  induction h with
  | nil => rfl
  | cons _ _ ih => exact congrArg Nat.succ ih
theorem AbL.append {vs as us bs} (h : AbL vs as) (k : AbL us bs) : AbL (vs ++ us) (as ++ bs) := by
  induction h with
  | nil => exact k
  | cons h _ ih => exact .cons h ih
theorem AbL.get {vs as} (h : AbL vs as) : ∀ (i : Nat) {a}, as[i]? = some a → ∃ v, vs[i]? = some v ∧ Ab v a := by
  induction h with
  | nil => intro i a e; cases e
  | cons h _ ih =>
    intro i a e
    cases i with
    | zero => cases e; exact ⟨_, rfl, h⟩
    | succ i => exact ih i e
theorem AbL.getV {vs as} (h : AbL vs as) : ∀ (i : Nat) {v}, vs[i]? = some v → ∃ a, as[i]? = some a ∧ Ab v a := by
  induction h with
  | nil => intro i a e; cases e
  | cons h _ ih =>
    intro i a e
    cases i with
    | zero => cases e; exact ⟨_, rfl, h⟩
    | succ i => exact ih i e
theorem AbL.take {vs as} (h : AbL vs as) : ∀ n, AbL (vs.take n) (as.take n) := by
  induction h with
  | nil => intro n; cases n <;> exact .nil
  | cons h _ ih => intro n; cases n with
    | zero => exact .nil
    | succ n => exact .cons h (ih n)
theorem AbL.drop {vs as} (h : AbL vs as) : ∀ n, AbL (vs.drop n) (as.drop n) := by
  induction h with
  | nil => intro n; cases n <;> exact .nil
  | cons h t ih => intro n; cases n with
    | zero => exact .cons h t
    | succ n => exact ih n
theorem AbL.set {vs as} (h : AbL vs as) : ∀ (n : Nat) {v a}, Ab v a → AbL (vs.set n v) (as.set n a) := by
  induction h with
  | nil => intro n v a k; exact .nil
  | cons h t ih => intro n v a k; cases n with
    | zero => exact .cons k t
    | succ n => exact .cons h (ih n k)
abbrev Flds := List (PySem.Str × AV)
inductive EntL : List DictEntry → Flds → Prop
  | nil : EntL [] []
  | cons {hs k t v a es fs} (h : Ab v a) (r : EntL es fs) : EntL (⟨hs, .str k t, v⟩ :: es) ((k, a) :: fs)
abbrev Big : Nat := 1048576
inductive Cell where
  | dict (C : Addr) (fs : Flds)
  | list (xs : List AV)
  | tup (xs : List AV)
  | inst (C dx : Addr)
  | frame (sc : Scope) (vs : List (PySem.Str × Option AV))
  | imap (es : List (Int × Int))
  | prop (P : Obj → Prop)
inductive EntI : List (Int × Value) → List (Int × Int) → Prop
  | nil : EntI [] []
  | cons {k v t es fs} (r : EntI es fs) : EntI ((k, .int v t) :: es) ((k, v) :: fs)
def FrameIs (vs : List (PySem.Str × Option AV)) (m : PySem.Str → Option Value) : Prop :=
  ∀ p ∈ vs, ∀ a, p.2 = some a → ∃ v, m p.1 = some v ∧ Ab v a
structure FldOk (P : Params) (C : Addr) (k : PySem.Str) : Prop where
  find : findIn (KK P) (.ref C) k = some Option.none
  plain : plainGet (KK P) C k = true
  hasDict : hasDictIn (KK P) C = true
  over : plainOver (KK P) C = true
  set : findIn (KK P) (.ref C) "__setattr__" = some (some (.builtin "object.__setattr__"))
  taker : takerIn (KK P) C k = some Option.none
def Cell.Is (w : World) : Cell → Obj → Prop
  | .dict C fs, o => ∃ es n, o = dictOf es n ∧ EntL es fs ∧ (fs.map (·.1)).Nodup ∧ fs.length ≤ 100 ∧ ∀ p ∈ fs, FldOk w.params C p.1
  | .list xs, o => ∃ vs n, o = { cls := .type "list", data := .seq vs.toArray n } ∧ AbL vs xs ∧ xs.length ≤ Big
  | .tup xs, o => ∃ vs n, o = { cls := .type "tuple", data := .seq vs.toArray n } ∧ AbL vs xs
  | .inst C dx, o => o = instObj C dx
  | .frame sc vs, o => ∃ m es ep, o.data = .dict es ep ∧ PySem.StrKeys es ∧ (∀ name, PySem.nsFind es name = m name) ∧ FrameIs vs m ∧ (vs.map (·.1)).Nodup ∧ sc.kind = .function ∧
      ∀ p ∈ vs, sc.names.lookup p.1 = some .local ∧ (p.1 == ("__debug__" : PySem.Str)) = false
  | .imap es, o => ∃ kvs, o.IsDictOf (intKind pw w) kvs ∧ EntI kvs es ∧ es.length ≤ Big
  | .prop P, o => P o
abbrev Led := List (Addr × Cell)
structure Gx where
  w : World
  hb : Heap
  os : OsState
  mean : ExcName → Option Value
  mg : PySem.Str → Option Value
  mb : PySem.Str → Option Value
  X : (KK w.params).In hb
  T : Top q loose mean mg mb hb
structure St (g : Gx) (s : Shared) (led : Led) : Prop where
  keep : ∀ b o, g.hb.get? b = some o → s.heap.get? b = some o
  size : g.hb.objs.size ≤ s.heap.objs.size
  at_ : ∀ p ∈ led, ∃ o, s.heap.get? p.1 = some o ∧ p.2.Is g.w o
  nodup : (led.map (·.1)).Nodup
  fresh : ∀ p ∈ led, g.hb.objs.size ≤ p.1
  os_ : s.os = g.os
  gens : s.gens = #[]
section
variable {g : Gx} {s : Shared} {led led' : Led}
theorem St.K (S : St g s led) : (KK g.w.params).In s.heap := g.X.keeps S.keep
theorem St.gs (S : St g s led) : s.heap.Ns mainGlobals g.mg := g.T.g.keeps S.keep
theorem St.bs (S : St g s led) : s.heap.Ns builtinsNs g.mb := g.T.b.keeps S.keep
theorem St.toks (S : St g s led) (t : Nat) : St g { s with toks := t } led := ⟨S.keep, S.size, S.at_, S.nodup, S.fresh, S.os_, S.gens⟩
theorem St.perm (S : St g s led) (h : led.Perm led') : St g s led' :=
  ⟨S.keep, S.size, fun p hp => S.at_ p (h.mem_iff.mpr hp), (h.map _).nodup_iff.mp S.nodup, fun p hp => S.fresh p (h.mem_iff.mpr hp), S.os_, S.gens⟩
theorem St.sub (S : St g s led) (h : led'.Sublist led) : St g s led' :=
  ⟨S.keep, S.size, fun p hp => S.at_ p (h.subset hp), (h.map _).nodup S.nodup, fun p hp => S.fresh p (h.subset hp), S.os_, S.gens⟩
theorem St.lt (S : St g s led) : ∀ p ∈ led, p.1 < s.heap.objs.size := fun p hp => let ⟨_, e, _⟩ := S.at_ p hp; Heap.lt_size e
theorem St.push (S : St g s led) (o : Obj) : St g { s with heap := s.heap.push o } led :=
  ⟨fun b o' e => Heap.get?_push_of_some _ (S.keep b o' e), by show _ ≤ (s.heap.push o).objs.size; rw [Heap.size_push]; have := S.size; lia,
   fun p hp => let ⟨o', e, i⟩ := S.at_ p hp; ⟨o', Heap.get?_push_of_some _ e, i⟩, S.nodup, S.fresh, S.os_, S.gens⟩
theorem St.new (S : St g s led) {o : Obj} {c : Cell} (i : c.Is g.w o) (hf : o.isFreed = false) : St g { s with heap := s.heap.push o } ((s.heap.objs.size, c) :: led) := by
  have P := S.push o
  refine ⟨P.keep, P.size, fun p hp => ?_, ?_, fun p hp => ?_, P.os_, P.gens⟩
  · rcases List.mem_cons.mp hp with rfl | hp
    · exact ⟨o, Heap.get?_push_size _ hf, i⟩
    · exact P.at_ p hp
  · rw [List.map_cons, List.nodup_cons]
    refine ⟨fun hm => ?_, S.nodup⟩
    obtain ⟨p, hp, e⟩ := List.mem_map.mp hm
    exact absurd (S.lt p hp) (by rw [e]; exact Nat.lt_irrefl _)
  · rcases List.mem_cons.mp hp with rfl | hp
    · exact S.size
    · exact S.fresh p hp
end
theorem St.newAt {g : Gx} {s s' : Shared} {led : Led} (S : St g s led) (S' : St g s' led) {o : Obj} {c : Cell} (e : s'.heap.get? s.heap.objs.size = some o) (i : c.Is g.w o) : St g s' ((s.heap.objs.size, c) :: led) := by
  refine ⟨S'.keep, S'.size, fun p hp => ?_, List.nodup_cons.mpr ⟨fun hm => ?_, S.nodup⟩, fun p hp => ?_, S'.os_, S'.gens⟩
  · rcases List.mem_cons.mp hp with rfl | hp
    · exact ⟨o, e, i⟩
    · exact S'.at_ p hp
  · obtain ⟨p, hp, e⟩ := List.mem_map.mp hm
    exact absurd (S.lt p hp) (by rw [e]; exact Nat.lt_irrefl _)
  · rcases List.mem_cons.mp hp with rfl | hp
    · exact S.size
    · exact S.fresh p hp
inductive LPut (a : Addr) (c c' : Cell) : Led → Led → Prop
  | head {r} : LPut a c c' ((a, c) :: r) ((a, c') :: r)
  | tail {p r r'} (t : LPut a c c' r r') : LPut a c c' (p :: r) (p :: r')
theorem LPut.mem {a c c'} {l l' : Led} (h : LPut a c c' l l') : (a, c) ∈ l := by
  induction h with
  | head => exact List.mem_cons_self
  | tail _ ih => exact List.mem_cons_of_mem _ ih
theorem LPut.fst {a c c'} {l l' : Led} (h : LPut a c c' l l') : l'.map (·.1) = l.map (·.1) := by
  induction h with
  | head => rfl
  | tail _ ih => rw [List.map_cons, List.map_cons, ih]
theorem LPut.of {a c c'} {l l' : Led} (h : LPut a c c' l l') : (l.map (·.1)).Nodup → ∀ p ∈ l', (p = (a, c')) ∨ (p ∈ l ∧ p.1 ≠ a) := by
  induction h with
  | head =>
    intro nd p hp
    rcases List.mem_cons.mp hp with rfl | hp
    · exact .inl rfl
    · exact .inr ⟨List.mem_cons_of_mem _ hp, fun e => (List.nodup_cons.mp nd).1 (List.mem_map.mpr ⟨p, hp, e⟩)⟩
  | tail t ih =>
    intro nd p hp
    rcases List.mem_cons.mp hp with rfl | hp
    · exact .inr ⟨List.mem_cons_self, fun e => (List.nodup_cons.mp nd).1 (List.mem_map.mpr ⟨_, t.mem, e.symm⟩)⟩
    · rcases ih (List.nodup_cons.mp nd).2 p hp with e | m
      · exact .inl e
      · exact .inr ⟨List.mem_cons_of_mem _ m.1, m.2⟩
theorem St.upd {g : Gx} {s : Shared} {led led' : Led} {a : Addr} {c c' : Cell} {o' : Obj} {h' : Heap} {tk : Nat} (S : St g s led) (U : LPut a c c' led led')
    (hsz : h'.objs.size = s.heap.objs.size) (hne : ∀ b o, b ≠ a → s.heap.get? b = some o → h'.get? b = some o) (ha : h'.get? a = some o') (i : c'.Is g.w o') : St g { s with heap := h', toks := tk } led' := by
  have hfr := S.fresh _ U.mem
  refine ⟨fun b o e => hne b o ?_ (S.keep b o e), by show _ ≤ h'.objs.size; rw [hsz]; exact S.size, fun p hp => ?_, by rw [U.fst]; exact S.nodup, fun p hp => ?_, S.os_, S.gens⟩
  · rintro rfl
    exact absurd (Heap.lt_size e) (Nat.not_lt.mpr hfr)
  · rcases U.of S.nodup p hp with rfl | ⟨m, n⟩
    · exact ⟨o', ha, i⟩
    · obtain ⟨o, e, j⟩ := S.at_ p m
      exact ⟨o, hne _ _ n e, j⟩
  · rcases U.of S.nodup p hp with rfl | ⟨m, n⟩
    · exact hfr
    · exact S.fresh p m
inductive Pick {α : Type} (x : α) : List α → List α → Prop
  | head {r} : Pick x (x :: r) r
  | tail {y l r} (t : Pick x l r) : Pick x (y :: l) (y :: r)
theorem Pick.perm {α : Type} {x : α} {l r : List α} (h : Pick x l r) : l.Perm (x :: r) := by
  induction h with
  | head => exact .refl _
  | tail _ ih => exact (ih.cons _).trans (.swap ..)
inductive Picks {α : Type} : List α → List α → List α → Prop
  | nil {l} : Picks l [] l
  | cons {x xs l l' r} (h : Pick x l l') (t : Picks l' xs r) : Picks l (x :: xs) r
theorem Picks.perm {α : Type} {l xs r : List α} (h : Picks l xs r) : l.Perm (xs ++ r) := by
  induction h with
  | nil => exact .refl _
  | cons h _ ih => exact h.perm.trans (ih.cons _)
structure Rm (n : Nat) (A : Around) : Prop where
  handled : A.handled = Option.none
  room : A.depth + 2 * n < recursionLimit
  units : A.units + 10 * n < cLine
theorem Rm.less {n m : Nat} {A : Around} (R : Rm n A) (h : m ≤ n) : Rm m A := ⟨R.handled, Nat.lt_of_le_of_lt (Nat.add_le_add_left (Nat.mul_le_mul_left 2 h) _) R.room, Nat.lt_of_le_of_lt (Nat.add_le_add_left (Nat.mul_le_mul_left 10 h) _) R.units⟩
theorem rm_room {d n r : Nat} (h : d + 2 * (n + 1) < r) : d + 1 + 2 * n < r := by lia
theorem rm_units {d n r : Nat} (h : d + 10 * (n + 1) < r) : d + 3 + 10 * n < r := by lia
theorem Rm.deeper {n : Nat} {A : Around} (R : Rm (n + 1) A) (env : Env) : Rm n (A.deeper env) :=
  ⟨R.handled, rm_room R.room, rm_units R.units⟩
inductive Out where | next | brk | cont | ret (a : AV)
def Out.Is : Out → Flow → Prop
  | .next, f => f = .next
  | .brk, f => f = .brk
  | .cont, f => f = .cont
  | .ret a, f => ∃ v, f = .ret v ∧ Ab v a
inductive Post {α β : Type} (g : Gx) (R : α → β → Prop) (Φ : β → Led → Prop) (v : α) (s' : Shared) : Prop
  | mk (b : β) (led' : Led) (r : R v b) (S : St g s' led') (h : Φ b led') : Post g R Φ v s'
section
variable (g : Gx) (A : Around) (E : Value → Shared → Prop)
def wpS {α β : Type} (R : α → β → Prop) (t : Sem α) (led : Led) (Φ : β → Led → Prop) : Prop :=
  ∀ s, St g s led → wpAny (model pw g.w) A t (Post g R Φ) E s
def wpE (env : Env) (e : Expr) (led : Led) (Φ : AV → Led → Prop) : Prop := wpS g A E Ab (eval e env) led Φ
def wpT (env : Env) (e : Expr) (led : Led) (Φ : Bool → Led → Prop) : Prop := wpS g A E Eq (isTrue e env (eval e env)) led Φ
def wpX (env : Env) (b : List Stmt) (led : Led) (Φ : Out → Led → Prop) : Prop := wpS g A E (fun f o => Out.Is o f) (execs b env) led Φ
def wpC (f : Value) (args : List AV) (led : Led) (Φ : AV → Led → Prop) : Prop := ∀ vs, AbL vs args → ∀ s, St g s led → codeAny (model pw g.w) A (.call f ⟨vs, []⟩)
  (fun r s' => match r with | .ok (.ret v) => Post g Ab Φ v s' | .ok _ => False | .error e => E e s') s
def wpK (f : Value) (args : List AV) (led : Led) (Φ : AV → Led → Prop) : Prop := ∀ vs, AbL vs args → wpS g A E Ab (call f vs) led Φ
def wpL (env : Env) (pos : Pos) (es : List Expr) (led : Led) (Φ : List AV → Led → Prop) : Prop := wpS g A E AbL (spliced (backTo pos (starEach es env))) led Φ
end
section
variable {g : Gx} {A : Around} {E : Value → Shared → Prop} {led led' : Led}
theorem wpS.run {α β : Type} {R : α → β → Prop} {t : Sem α} {Φ : β → Led → Prop} (h : wpS g A E R t led Φ) {s : Shared} (S : St g s led) {Q : α → Shared → Prop} (k : ∀ v s' b l, R v b → St g s' l → Φ b l → Q v s') : wpAny (model pw g.w) A t Q E s :=
  wpAny_mono (h s S) (fun v s' z => by cases z with | mk b l r S' h => exact k v s' b l r S' h) fun _ _ x => x
theorem wpS.mono {α β : Type} {R : α → β → Prop} {t : Sem α} {Φ Φ' : β → Led → Prop} (h : wpS g A E R t led Φ) (k : ∀ b l, Φ b l → Φ' b l) : wpS g A E R t led Φ' :=
  fun s S => h.run S fun v s' b l r i j => ⟨b, l, r, i, k _ _ j⟩
theorem wpS.perm {α β : Type} {R : α → β → Prop} {t : Sem α} {Φ : β → Led → Prop} (p : led.Perm led') (h : wpS g A E R t led' Φ) : wpS g A E R t led Φ := fun s S => h s (S.perm p)
theorem wpS.sub {α β : Type} {R : α → β → Prop} {t : Sem α} {Φ : β → Led → Prop} (p : led'.Sublist led) (h : wpS g A E R t led' Φ) : wpS g A E R t led Φ := fun s S => h s (S.sub p)
theorem wpS.bind {α α' β β' : Type} {R : α → β → Prop} {R' : α' → β' → Prop} {t : Sem α} {f : α → Sem α'} {Φ : β' → Led → Prop}
    (h : wpS g A E R t led fun b l => ∀ a, R a b → wpS g A E R' (f a) l Φ) : wpS g A E R' (t >>= f) led Φ :=
  fun s S => wpAny_bind (h.run S fun a s' b l r i j => j a r s' i)
theorem wpS.pure {α β : Type} {R : α → β → Prop} {a : α} {b : β} {Φ : β → Led → Prop} (r : R a b) (h : Φ b led) : wpS g A E R (pure a) led Φ := fun s S => wpAny_pure ⟨b, led, r, S, h⟩
theorem wpK_C {f : Value} {args : List AV} {Φ : AV → Led → Prop} (h : wpC g A E f args led Φ) : wpK g A E f args led Φ := fun vs ab s S => wpAny_call (h vs ab s S)
theorem wpC_perm {f : Value} {args : List AV} {Φ : AV → Led → Prop} (p : led.Perm led') (h : wpC g A E f args led' Φ) : wpC g A E f args led Φ := fun vs ab s S => h vs ab s (S.perm p)
end
end Mine
end
section
open PySem PySem.W PyProof.Rows PySem.Calls
set_option maxRecDepth 100000
set_option maxHeartbeats 400000
set_option Elab.async false
set_option linter.unusedVariables false
namespace Mine
theorem isStr_str (k n : PySem.Str) (t : Tok) : (Value.str k t).isStr n = (k == n) := rfl
theorem EntL.length {es fs} (h : EntL es fs) : es.length = fs.length := by
  induction h with
  | nil => rfl
  | cons _ _ ih => exact congrArg Nat.succ ih
theorem EntL.noRef {es fs} (h : EntL es fs) : es.any (·.refKey) = false := by
  induction h with
  | nil => rfl
  | cons _ _ ih => rw [List.any_cons, ih]; rfl
theorem EntL.any {es fs} (h : EntL es fs) (k) : es.any (·.key.isStr k) = fs.any (·.1 == k) := by
  induction h with
  | nil => rfl
  | cons _ _ ih => rw [List.any_cons, List.any_cons, ih]; rfl
theorem getL_some {k : PySem.Str} {es : List DictEntry} {e : DictEntry} (h : es.find? (·.key.isStr k) = some e) : getL k es = some (some e.val) := by delta getL; rw [h]
theorem getL_none {k : PySem.Str} {es : List DictEntry} (h : es.find? (·.key.isStr k) = none) : getL k es = if es.any (·.refKey) then none else some none := by delta getL; rw [h]
theorem getL_hit {k : PySem.Str} {hs : Int} {t : Tok} {v : Value} {es : List DictEntry} : getL k (⟨hs, .str k t, v⟩ :: es) = some (some v) :=
  getL_some (List.find?_cons_of_pos (p := fun e : DictEntry => e.key.isStr k) (a := ⟨hs, .str k t, v⟩) (show (Value.str k t).isStr k = true from beq_self_eq_true k))
theorem getL_next {k k' : PySem.Str} {hs : Int} {t : Tok} {v : Value} {es : List DictEntry} (hk : (k' == k) = false) : getL k (⟨hs, .str k' t, v⟩ :: es) = getL k es := by
  have e := List.find?_cons_of_neg (p := fun e : DictEntry => e.key.isStr k) (a := ⟨hs, .str k' t, v⟩) (l := es) fun h => absurd (hk.symm.trans h) Bool.false_ne_true
  cases hf : es.find? (·.key.isStr k) with
  | some d => exact (getL_some (e.trans hf)).trans (getL_some hf).symm
  | none => exact (getL_none (e.trans hf)).trans (getL_none hf).symm
theorem EntL.get {es fs} (h : EntL es fs) : ∀ {k a}, (k, a) ∈ fs → (fs.map (·.1)).Nodup → ∃ v, getL k es = some (some v) ∧ Ab v a := by
  induction h with
  | nil => intro k a hm; cases hm
  | cons h r ih =>
    intro k a hm nd
    rcases List.mem_cons.mp hm with e | hm
    · cases e; exact ⟨_, getL_hit, h⟩
    · obtain ⟨v, hv, hb⟩ := ih hm (List.nodup_cons.mp nd).2
      exact ⟨v, (getL_next (beq_eq_false_iff_ne.mpr fun e => (List.nodup_cons.mp nd).1 (List.mem_map.mpr ⟨_, hm, e.symm⟩))).trans hv, hb⟩
theorem EntL.miss {es fs} (h : EntL es fs) {k : PySem.Str} (n : fs.any (·.1 == k) = false) : getL k es = some Option.none := by
  have h1 := h.any k
  rw [n] at h1
  have h2 : es.find? (·.key.isStr k) = Option.none := by
    rw [List.find?_eq_none]
    intro e he
    have := List.any_eq_false.mp h1 e he
    simpa using this
  rw [getL_none h2, h.noRef]; rfl
theorem EntL.some {es fs} (h : EntL es fs) (k : PySem.Str) : (getL k es).isSome = true := by
  cases hf : es.find? (·.key.isStr k) with
  | some e => rw [getL_some hf]; rfl
  | none => rw [getL_none hf, h.noRef]; rfl
inductive FPut (k : PySem.Str) (a : AV) : Flds → Flds → Prop
  | head {b r} : FPut k a ((k, b) :: r) ((k, a) :: r)
  | tail {p r r'} (t : FPut k a r r') : FPut k a (p :: r) (p :: r')
theorem FPut.mem {k a} {l l'} (h : FPut k a l l') : k ∈ l.map (·.1) := by
  induction h with
  | head => exact List.mem_cons_self
  | tail _ ih => exact List.mem_cons_of_mem _ ih
theorem FPut.fst {k a} {l l'} (h : FPut k a l l') : l'.map (·.1) = l.map (·.1) := by
  induction h with
  | head => rfl
  | tail _ ih => rw [List.map_cons, List.map_cons, ih]
theorem FPut.fld {k a} {l l'} (h : FPut k a l l') : ∀ p ∈ l', ∃ b, (p.1, b) ∈ l := by
  induction h with
  | head =>
    intro p hp
    rcases List.mem_cons.mp hp with rfl | hp
    · exact ⟨_, List.mem_cons_self⟩
    · exact ⟨p.2, List.mem_cons_of_mem _ hp⟩
  | tail t ih =>
    intro p hp
    rcases List.mem_cons.mp hp with rfl | hp
    · exact ⟨p.2, List.mem_cons_self⟩
    · exact (ih p hp).imp fun b hb => List.mem_cons_of_mem _ hb
theorem putL_hit {k : PySem.Str} {h hs : Int} {t : Tok} {key v w : Value} {es : List DictEntry} : putL k h key v (⟨hs, .str k t, w⟩ :: es) = ⟨hs, .str k t, v⟩ :: es := by
  rw [putL]; simp only [isStr_str, beq_self_eq_true, if_true]
theorem putL_next {k k' : PySem.Str} {h hs : Int} {t : Tok} {key v w : Value} {es : List DictEntry} (hk : (k' == k) = false) : putL k h key v (⟨hs, .str k' t, w⟩ :: es) = ⟨hs, .str k' t, w⟩ :: putL k h key v es := by
  rw [putL]; simp only [isStr_str, hk, Bool.false_eq_true, if_false]
theorem EntL.put {k a} {hs : Int} {key v : Value} (ab : Ab v a) {fs fs'} (u : FPut k a fs fs') : ∀ {es}, EntL es fs → (fs.map (·.1)).Nodup → EntL (putL k hs key v es) fs' := by
  induction u with
  | head =>
    intro es h nd
    cases h with
    | cons h r => rw [putL_hit]; exact .cons ab r
  | tail u ih =>
    intro es h nd
    cases h with
    | cons h r => rw [putL_next (beq_eq_false_iff_ne.mpr fun e => (List.nodup_cons.mp nd).1 (by subst e; exact u.mem))]; exact .cons h (ih r (List.nodup_cons.mp nd).2)
theorem EntL.add {k a} {hs : Int} {t : Tok} {v : Value} (ab : Ab v a) {es fs} (h : EntL es fs) (n : fs.any (·.1 == k) = false) : EntL (putL k hs (.str k t) v es) (fs ++ [(k, a)]) := by
  induction h with
  | nil => exact .cons ab .nil
  | cons h r ih =>
    have n := Bool.or_eq_false_iff.mp (List.any_cons.symm.trans n)
    rw [putL_next n.1]
    exact .cons h (ih n.2)
section
variable {g : Gx} {A : Around} {E : Value → Shared → Prop} {led : Led} {qual : PySem.Str} {sc : Scope} {L f : Addr} {cd : Value} {vs : List (PySem.Str × Option AV)} {cl : List (PySem.Str × Addr)}
def PE (g : Gx) (A : Around) (env : Env) (led : Led) (e : Expr) (a : AV) : Prop := ∀ (E : Value → Shared → Prop) (Φ : AV → Led → Prop), Φ a led → wpE g A E env e led Φ
def PT (g : Gx) (A : Around) (env : Env) (led : Led) (e : Expr) (b : Bool) : Prop := ∀ (E : Value → Shared → Prop) (Φ : Bool → Led → Prop), Φ b led → wpT g A E env e led Φ
def PL (g : Gx) (A : Around) (env : Env) (led : Led) (pos : Pos) (es : List Expr) (as : List AV) : Prop := ∀ (E : Value → Shared → Prop) (Φ : List AV → Led → Prop), Φ as led → wpL g A E env pos es led Φ
theorem PE.out {env : Env} {e : Expr} {a : AV} (h : PE g A env led e a) {s : Shared} (S : St g s led) {Q : Value → Shared → Prop} (k : ∀ v s', Ab v a → St g s' led → Q v s') : wpAny (model pw g.w) A (eval e env) Q E s :=
  wpS.run (h E (fun a' l' => a' = a ∧ l' = led) ⟨rfl, rfl⟩) S fun v s' b l ab S' e => by obtain ⟨rfl, rfl⟩ := e; exact k v s' ab S'
theorem St.ns {s : Shared} (S : St g s led) (hm : (L, Cell.frame sc vs) ∈ led) : ∃ m, s.heap.Ns L m ∧ FrameIs vs m ∧ (vs.map (·.1)).Nodup ∧ sc.kind = .function ∧ ∀ p ∈ vs, sc.names.lookup p.1 = some .local ∧ (p.1 == ("__debug__" : PySem.Str)) = false := by
  obtain ⟨o, ho, m, es, ep, hd, hk, hn, hf, nd, hsc, hl⟩ := S.at_ _ hm
  exact ⟨m, ⟨o, es, ep, ho, hd, hk, hn⟩, hf, nd, hsc, hl⟩
theorem kindOf_local {x : PySem.Str} (h : sc.names.lookup x = some .local) : (envX qual sc L f cd cl).kindOf x = some .local := h
theorem PE_name {x : PySem.Str} {pos : Pos} {a : AV} (hm : (L, Cell.frame sc vs) ∈ led) (hx : (x, some a) ∈ vs) : PE g A (envX qual sc L f cd cl) led (.Name x pos) a := fun E Φ h s S => by
  obtain ⟨m, hn, hf, -, hk, hl⟩ := S.ns hm
  obtain ⟨v, hv, ab⟩ := hf _ hx _ rfl
  exact wpAny_Name (wpAny_loadName_local hk (kindOf_local (hl _ hx).1) hn hv ⟨a, led, ab, S, h⟩) (hl _ hx).2
theorem PE_int {i : Int} {k pos} {env : Env} : PE g A env led (.Constant (.int i) k pos) (.int i) := fun E Φ h s S => wpAny_Constant_int ⟨_, _, ⟨_, rfl⟩, S.toks _, h⟩
theorem PE_str {x : PySem.Str} {k pos} {env : Env} : PE g A env led (.Constant (.str x) k pos) (.str x) := fun E Φ h s S => wpAny_Constant_str ⟨_, _, ⟨_, rfl⟩, S.toks _, h⟩
theorem PE_bool {b : Bool} {k pos} {env : Env} : PE g A env led (.Constant (.bool b) k pos) (.bool b) := fun E Φ h s S => wpAny_Constant_bool ⟨.bool b, _, ⟨0, rfl⟩, S, h⟩
theorem PE_none {k pos} {env : Env} : PE g A env led (.Constant .none k pos) .none := fun E Φ h s S => wpAny_Constant_none ⟨.none, _, ⟨0, rfl⟩, S, h⟩
def Glb (x : PySem.Str) (v : Value) : Prop := ∀ P, nsIn (KK P) mainGlobals x = some (some v)
theorem glb_name {x : PySem.Str} {pos : Pos} {v : Value} {s : Shared} {Q : Value → Shared → Prop} (S : St g s led) (G : Glb x v) (hk : sc.kind = .function) (hx : sc.names.lookup x = some .globalImplicit) (hd : (x == ("__debug__" : PySem.Str)) = false) (h : Q v s) :
    wpAny (model pw g.w) A (eval (.Name x pos) (envX qual sc L f cd cl)) Q E s :=
  Name_function_global hk hx (loadGlobal_global (env := envX qual sc L f cd cl) S.gs (mg_of g.X g.T.g (G _)) h) hd
def Blt (x : PySem.Str) (v : Value) : Prop := (∀ P, nsIn (KK P) mainGlobals x = some Option.none) ∧ bootBuiltins x = some v ∧ x ≠ "__name__"
theorem blt_name {x : PySem.Str} {pos : Pos} {v : Value} {s : Shared} {Q : Value → Shared → Prop} (S : St g s led) (G : Blt x v) (hk : sc.kind = .function) (hx : sc.names.lookup x = some .globalImplicit) (hd : (x == ("__debug__" : PySem.Str)) = false) (h : Q v s) :
    wpAny (model pw g.w) A (eval (.Name x pos) (envX qual sc L f cd cl)) Q E s :=
  Name_function_global hk hx (loadGlobal_builtin (env := envX qual sc L f cd cl) S.gs (mg_none_of g.X g.T.g (G.1 _)) S.bs ((g.T.builtins x G.2.2).trans G.2.1) h) hd
theorem PE_glb {x : PySem.Str} {pos : Pos} {a : AV} (G : Glb x (a.val 0) ∨ ∃ t, Glb x (a.val t)) (hm : (L, Cell.frame sc vs) ∈ led) (hx : (sc.names.lookup x == some .globalImplicit && !(x == ("__debug__" : PySem.Str))) = true) :
    PE g A (envX qual sc L f cd cl) led (.Name x pos) a := fun E Φ h s S => by
  obtain ⟨m, hn, hf, -, hk, hl⟩ := S.ns hm
  rw [Bool.and_eq_true, beq_iff_eq, Bool.not_eq_true'] at hx
  rcases G with G | ⟨t, G⟩
  · exact glb_name S G hk hx.1 hx.2 ⟨a, led, ⟨0, rfl⟩, S, h⟩
  · exact glb_name S G hk hx.1 hx.2 ⟨a, led, ⟨t, rfl⟩, S, h⟩
theorem St.inst {s : Shared} {x C dx : Addr} {fs : Flds} (S : St g s led) (hx : (x, Cell.inst C dx) ∈ led) (hd : (dx, Cell.dict C fs) ∈ led) :
    ∃ es n, InstAt s.heap x (instObj C dx) C (some (dictOf es n)) ∧ EntL es fs ∧ (fs.map (·.1)).Nodup ∧ fs.length ≤ 100 ∧ (∀ p ∈ fs, FldOk g.w.params C p.1) ∧ s.heap.get? dx = some (dictOf es n) := by
  obtain ⟨o, ho, rfl⟩ := S.at_ _ hx
  obtain ⟨d, hd', es, n, rfl, he, nd, hl, hk⟩ := S.at_ _ hd
  exact ⟨es, n, ⟨ho, rfl, rfl, hd'⟩, he, nd, hl, hk, hd'⟩
theorem handed_ab {v : Value} {a : AV} (h : Ab v a) : handedIn v = true := by obtain ⟨t, rfl⟩ := h; cases a <;> rfl
theorem getattr_ {s : Shared} {x C dx : Addr} {fs : Flds} {k : PySem.Str} {a : AV} {expr : Bool} {Q : Value → Shared → Prop} (S : St g s led) (hx : (x, Cell.inst C dx) ∈ led) (hd : (dx, Cell.dict C fs) ∈ led) (hk : (k, a) ∈ fs)
    (h : ∀ v s', Ab v a → St g s' led → Q v s') : wpAny (model pw g.w) A (getAttr (.ref x) k expr) Q E s := by
  obtain ⟨es, n, I, he, nd, -, ok, -⟩ := S.inst hx hd
  obtain ⟨v, hv, ab⟩ := he.get hk nd
  have O := ok _ hk
  exact get_value S.K I (plainGet_of O.plain).1 (findObj_own O.hasDict O.find rfl (by rw [lookIn_dict]; exact hv)) (handed_ab ab) (h _ _ ab (S.toks _))
structure Atr (led : Led) (k : PySem.Str) (o a : AV) : Prop where
  out : ∃ x C dx fs, o = .ref x ∧ (x, Cell.inst C dx) ∈ led ∧ (dx, Cell.dict C fs) ∈ led ∧ (k, a) ∈ fs
theorem Atr.mk' {k : PySem.Str} {x C dx : Addr} {fs : Flds} {a : AV} (hx : (x, Cell.inst C dx) ∈ led) (hd : (dx, Cell.dict C fs) ∈ led) (hk : (k, a) ∈ fs) : Atr led k (.ref x) a := ⟨_, _, _, _, rfl, hx, hd, hk⟩
theorem attr_fin {s s' : Shared} {k : PySem.Str} {o a : AV} {v : Value} {E : Value → Shared → Prop} {Φ : AV → Led → Prop} (ht : Atr led k o a) (h : Φ a led) (ab : Ab v o) (S : St g s' led) :
    wpAny (model pw g.w) A (getAttr v k true) (Post g Ab Φ) E s' := by
  obtain ⟨x, C, dx, fs, rfl, hx, hd, hk⟩ := ht.out
  obtain ⟨t, rfl⟩ := ab
  exact getattr_ S hx hd hk fun v s'' ab S'' => ⟨a, _, ab, S'', h⟩
theorem PE_attrN {x : PySem.Str} {p pos : Pos} {k : PySem.Str} {env : Env} {o a : AV} (he : PE g A env led (.Name x p) o) (ht : Atr led k o a) : PE g A env led (.Attribute (.Name x p) k pos) a := fun E Φ h s S =>
  Attribute_any_ (he.out S fun v s' ab S' => attr_fin (s := s) ht h ab S')
theorem PE_attrA {e : Expr} {k' : PySem.Str} {p pos : Pos} {k : PySem.Str} {env : Env} {o a : AV} (he : PE g A env led (.Attribute e k' p) o) (ht : Atr led k o a) : PE g A env led (.Attribute (.Attribute e k' p) k pos) a := fun E Φ h s S =>
  Attribute_any_ (he.out S fun v s' ab S' => attr_fin (s := s) ht h ab S')
theorem raws_of {s : Shared} (l : Led) (h : ∀ p ∈ l, ∃ o, s.heap.get? p.1 = some o ∧ p.2.Is g.w o) : ∃ rs : List (Addr × Obj), (∀ p ∈ rs, s.heap.get? p.1 = some p.2) ∧ ∀ p ∈ l, ∃ o, (p.1, o) ∈ rs ∧ p.2.Is g.w o := by
  induction l with
  | nil => exact ⟨[], fun _ h => (nomatch h), fun _ h => (nomatch h)⟩
  | cons p l ih =>
    obtain ⟨o, ho, i⟩ := h p List.mem_cons_self
    obtain ⟨rs, h1, h2⟩ := ih fun q hq => h q (List.mem_cons_of_mem _ hq)
    refine ⟨(p.1, o) :: rs, fun q hq => ?_, fun q hq => ?_⟩
    · rcases List.mem_cons.mp hq with rfl | hq
      · exact ho
      · exact h1 q hq
    · rcases List.mem_cons.mp hq with rfl | hq
      · exact ⟨o, List.mem_cons_self, i⟩
      · exact (h2 q hq).imp fun o' m => ⟨List.mem_cons_of_mem _ m.1, m.2⟩
theorem St.func {s : Shared} (S : St g s led) {a : Addr} {c c' : Cell} {o o' : Obj} (e : s.heap.get? a = some o) (e' : s.heap.get? a = some o') : o = o' := by rw [e] at e'; exact Option.some.inj e'
theorem nodup_fst {l : Led} (nd : (l.map (·.1)).Nodup) {a : Addr} {c c' : Cell} (h : (a, c) ∈ l) (h' : (a, c') ∈ l) : c = c' := by
  induction l with
  | nil => cases h
  | cons p l ih =>
    rw [List.map_cons, List.nodup_cons] at nd
    rcases List.mem_cons.mp h with e | h <;> rcases List.mem_cons.mp h' with e' | h'
    · rw [← e] at e'; exact (congrArg Prod.snd e').symm
    · exact absurd (by rw [← e]; exact List.mem_map_of_mem (f := (·.1)) h') nd.1
    · exact absurd (by rw [← e']; exact List.mem_map_of_mem (f := (·.1)) h) nd.1
    · exact ih nd.2 h h'
theorem setattr_ {s : Shared} {x C dx : Addr} {fs fs' : Flds} {k : PySem.Str} {a : AV} {v : Value} {led' : Led} {Q : Unit → Shared → Prop} (S : St g s led) (hm : (L, Cell.frame sc vs) ∈ led) (hx : (x, Cell.inst C dx) ∈ led) (U : LPut dx (.dict C fs) (.dict C fs') led led')
    (ok : FldOk g.w.params C k) (ab : Ab v a) (hp : ∀ es, EntL es fs → ∀ t, EntL (putL k (PyData.keyHash g.w.params k) (.str k t) v es) fs') (hn : (fs'.map (·.1)).Nodup) (hl' : fs'.length ≤ 100) (hk' : ∀ p ∈ fs', FldOk g.w.params C p.1)
    (h : ∀ s', St g s' led' → Q () s') : wpAny (model pw g.w) A (setAttr (.ref x) k v) Q E s := by
  obtain ⟨es, n, I, he, nd, hl, hok, hdx⟩ := S.inst hx U.mem
  obtain ⟨m, hns, hf, fnd, hsk, hll⟩ := S.ns hm
  obtain ⟨rs, r1, r2⟩ := raws_of led S.at_
  have hLx : L ≠ dx := fun e => by
    have := nodup_fst S.nodup hm (e ▸ U.mem)
    cases this
  have fr : ∀ p ∈ rs, (∃ c, (p.1, c) ∈ led) ∨ True := fun _ _ => .inr trivial
  have hfresh : ∀ b, g.hb.objs.size ≤ b → g.hb.get? b = Option.none := fun b hb => Heap.get?_none_of_le hb
  let post := rs.filter fun p => p.1 != dx && p.1 != L && decide (g.hb.objs.size ≤ p.1)
  have hpost : ∀ p ∈ post, p ∈ rs ∧ p.1 ≠ dx ∧ p.1 ≠ L ∧ g.hb.objs.size ≤ p.1 := fun p hp => by
    have := List.mem_filter.mp hp
    simp only [Bool.and_eq_true, bne_iff_ne, decide_eq_true_eq] at this
    exact ⟨this.1, this.2.1.1, this.2.1.2, this.2.2⟩
  have F : Fr g.hb L s.heap m := ⟨hns, S.keep, S.fresh _ hm⟩
  have N : News g.hb L s.heap ([] ++ (dx, dictOf es n) :: post) := fun p hp => by
    rcases List.mem_cons.mp hp with rfl | hp
    · exact ⟨hdx, Ne.symm hLx, hfresh _ (S.fresh _ U.mem)⟩
    · obtain ⟨q1, q2, q3, q4⟩ := hpost p hp
      exact ⟨r1 _ q1, q3, hfresh _ q4⟩
  have e1 := putName_dict k (PyData.keyHash g.w.params k) (.str k (s.toks + 1)) v es n
  have hE := hp es he (s.toks + 1)
  refine set_plain S.K I ok.set (osa_dict (s := { s with toks := s.toks + 1 }) F N S.K I rfl ok.over ok.taker ok.hasDict (by rw [lookIn_dict]; exact he.some k) (fun _ h => nomatch h) (fun p hp => (hpost p hp).2.1) e1 rfl (by rw [hE.length]; lia) fun h' F' N' => ?_)
  refine h _ ⟨F'.keep, Nat.le_of_lt (Nat.lt_of_le_of_lt F'.above F'.ns.lt), fun p hp => ?_, by rw [U.fst]; exact S.nodup, fun p hp => ?_, S.os_, S.gens⟩
  · rcases U.of S.nodup p hp with rfl | ⟨hm', hne⟩
    · exact ⟨_, (N' _ List.mem_cons_self).1, _, _, rfl, hE, hn, hl', hk'⟩
    · by_cases eL : p.1 = L
      · obtain ⟨oL, es', ep', hg, hd', hk2, hn2⟩ := F'.ns
        have ec : p.2 = Cell.frame sc vs := nodup_fst S.nodup (a := p.1) hm' (by rw [eL]; exact hm)
        refine ⟨oL, by rw [eL]; exact hg, ?_⟩
        rw [ec]
        exact ⟨m, es', ep', hd', hk2, hn2, hf, fnd, hsk, hll⟩
      · obtain ⟨o, mo, io⟩ := r2 p hm'
        have : (p.1, o) ∈ post := List.mem_filter.mpr ⟨mo, by simp only [Bool.and_eq_true, bne_iff_ne, decide_eq_true_eq]; exact ⟨⟨hne, eL⟩, S.fresh p hm'⟩⟩
        exact ⟨o, (N' _ (List.mem_cons_of_mem _ this)).1, io⟩
  · rcases U.of S.nodup p hp with rfl | ⟨hm', hne⟩
    · exact (S.fresh _ U.mem : _ ≤ dx)
    · exact S.fresh p hm'
end
end Mine
end
section
open PySem PySem.W PyProof.Rows PySem.Calls
set_option maxRecDepth 100000
set_option maxHeartbeats 400000
set_option Elab.async false
set_option linter.unusedVariables false
namespace Mine
section
variable {g : Gx} {A : Around} {E : Value → Shared → Prop} {led led' : Led} {qual : PySem.Str} {sc : Scope} {L f : Addr} {cd : Value} {vs vs' : List (PySem.Str × Option AV)} {cl : List (PySem.Str × Addr)} {env : Env}
theorem PE.use {e : Expr} {a : AV} {Φ : AV → Led → Prop} (h : PE g A env led e a) (k : Φ a led) : wpE g A E env e led Φ := h E Φ k
theorem PT.use {e : Expr} {b : Bool} {Φ : Bool → Led → Prop} (h : PT g A env led e b) (k : Φ b led) : wpT g A E env e led Φ := h E Φ k
theorem PE.mk' {e : Expr} {a : AV} (h : ∀ s E, St g s led → ∀ Q : Value → Shared → Prop, (∀ v s', Ab v a → St g s' led → Q v s') → wpAny (model pw g.w) A (eval e env) Q E s) : PE g A env led e a :=
  fun E Φ k s S => h s E S _ fun v s' ab S' => ⟨a, led, ab, S', k⟩
theorem PT.out {e : Expr} {b : Bool} (h : PT g A env led e b) {s : Shared} (S : St g s led) {Q : Bool → Shared → Prop} (k : ∀ s', St g s' led → Q b s') : wpAny (model pw g.w) A (isTrue e env (eval e env)) Q E s :=
  wpS.run (h E (fun a' l' => a' = b ∧ l' = led) ⟨rfl, rfl⟩) S fun v s' b l ab S' e => by obtain ⟨rfl, rfl⟩ := e; subst ab; exact k s' S'
theorem PT.mk' {e : Expr} {b : Bool} (h : ∀ s E, St g s led → ∀ Q : Bool → Shared → Prop, (∀ s', St g s' led → Q b s') → wpAny (model pw g.w) A (isTrue e env (eval e env)) Q E s) : PT g A env led e b :=
  fun E Φ k s S => h s E S _ fun s' S' => ⟨b, led, rfl, S', k⟩
inductive BinIs : Operator → AV → AV → AV → Prop
  | add {x y : Int} : BinIs .Add (.int x) (.int y) (.int (x + y))
  | sub {x y : Int} : BinIs .Sub (.int x) (.int y) (.int (x - y))
  | mul {x y : Int} (h : IntMulOk x y) : BinIs .Mult (.int x) (.int y) (.int (x * y))
  | mod {x y : Int} (h : y ≠ 0) : BinIs .Mod (.int x) (.int y) (.int (x.fmod y))
  | fdiv {x y : Int} (h : y ≠ 0) (p : Builtin.divisionGoesByPylong x y = false) : BinIs .FloorDiv (.int x) (.int y) (.int (x.fdiv y))
theorem bin_ {op : Operator} {x y z : AV} (b : BinIs op x y z) {v u : Value} (hv : Ab v x) (hu : Ab u y) {s : Shared} (S : St g s led) {Q : Value → Shared → Prop} (k : ∀ r s', Ab r z → St g s' led → Q r s') : wpAny (model pw g.w) A (binaryOp op v u) Q E s := by
  obtain ⟨t, rfl⟩ := hv
  obtain ⟨t', rfl⟩ := hu
  cases b with
  | add => exact PyProof.Rows.add_int (k _ _ ⟨_, rfl⟩ (S.toks _))
  | sub => exact PyProof.Rows.sub_int (k _ _ ⟨_, rfl⟩ (S.toks _))
  | mul h => exact PyProof.Rows.mul_int (k _ _ ⟨_, rfl⟩ (S.toks _)) h
  | mod h => exact PyProof.Rows.mod_int' h (k _ _ ⟨_, rfl⟩ (S.toks _))
  | fdiv h p => exact PyProof.Rows.floordiv_int h (k _ _ ⟨_, rfl⟩ (S.toks _)) (.inl p)
theorem PE_bin {op : Operator} {l r : Expr} {pos : Pos} {x y z : AV} (hl : PE g A env led l x) (hr : PE g A env led r y) (b : BinIs op x y z) : PE g A env led (.BinOp l op r pos) z :=
  PE.mk' fun s E S Q k => wpAny_BinOp (hl.out S fun v s1 hv S1 => hr.out S1 fun u s2 hu S2 => bin_ b hv hu S2 k)
theorem wE_bin {op : Operator} {l r : Expr} {pos : Pos} {Φ : AV → Led → Prop} (h : wpE g A E env l led fun x l1 => wpE g A E env r l1 fun y l2 => ∃ z, BinIs op x y z ∧ Φ z l2) : wpE g A E env (.BinOp l op r pos) led Φ := fun s S =>
  wpAny_BinOp (h.run S fun v s1 x l1 hv S1 h1 => h1.run S1 fun u s2 y l2 hu S2 z => z.elim fun z h2 => bin_ h2.1 hv hu S2 fun r s3 hr S3 => ⟨z, l2, hr, S3, h2.2⟩)
theorem PE_neg {e : Expr} {pos : Pos} {x : Int} (h : PE g A env led e (.int x)) : PE g A env led (.UnaryOp .USub e pos) (.int (-x)) :=
  PE.mk' fun s E S Q k => wpAny_UnaryOp (h.out S fun v s1 hv S1 => by obtain ⟨t, rfl⟩ := hv; exact PySem.P.neg_int (k _ _ ⟨_, rfl⟩ (S1.toks _)))
def AV.isNone : AV → Bool
  | .none => true
  | _ => false
inductive CmpIs : CmpOp → AV → AV → Bool → Prop
  | lt {x y : Int} : CmpIs .Lt (.int x) (.int y) (decide (x < y))
  | le {x y : Int} : CmpIs .LtE (.int x) (.int y) (decide (x ≤ y))
  | gt {x y : Int} : CmpIs .Gt (.int x) (.int y) (decide (x > y))
  | ge {x y : Int} : CmpIs .GtE (.int x) (.int y) (decide (x ≥ y))
  | eq {x y : Int} : CmpIs .Eq (.int x) (.int y) (x == y)
  | ne {x y : Int} : CmpIs .NotEq (.int x) (.int y) (x != y)
  | seq {x y : PySem.Str} : CmpIs .Eq (.str x) (.str y) (x == y)
  | sne {x y : PySem.Str} : CmpIs .NotEq (.str x) (.str y) (x != y)
  | isNone {a : AV} : CmpIs .Is a .none a.isNone
  | isNot {a : AV} : CmpIs .IsNot a .none (!a.isNone)
  | nei {x : Int} : CmpIs .NotEq .none (.int x) true
  | nie {x : Int} : CmpIs .NotEq (.int x) .none true
  | eqi {x : Int} : CmpIs .Eq .none (.int x) false
  | eie {x : Int} : CmpIs .Eq (.int x) .none false
theorem eq_ab_none {t : Value} {a : AV} (h : Ab t a) : (t == .none) = a.isNone := by
  obtain ⟨t, rfl⟩ := h; cases a <;> rfl
theorem cmp_ {op : CmpOp} {x y : AV} {c : Bool} (b : CmpIs op x y c) {v u : Value} (hv : Ab v x) (hu : Ab u y) {s : Shared} (S : St g s led) {Q : Value → Shared → Prop} (k : Q (.bool c) s) : wpAny (model pw g.w) A (compareOp op v u) Q E s := by
  obtain ⟨t, rfl⟩ := hv
  obtain ⟨t', rfl⟩ := hu
  cases b with
  | isNone => exact is_none (by rw [eq_ab_none ⟨t, rfl⟩]; exact k)
  | isNot => exact isNot_none (by rw [eq_ab_none ⟨t, rfl⟩]; exact k)
  | nei => exact PySem.EqNone.ne_none_int k
  | nie => exact PySem.EqNone.ne_int_none k
  | eqi => exact PySem.EqNone.eq_none_int k
  | eie => exact PySem.EqNone.eq_int_none k
  | seq => exact PyProof.Rows.eq_str k
  | sne => exact PyProof.Rows.ne_str k
  | lt => exact PySem.P.lt_int k
  | le => exact PySem.P.le_int k
  | gt => exact PySem.P.gt_int k
  | ge => exact PySem.P.ge_int k
  | eq => exact PySem.P.eq_int k
  | ne => exact PySem.P.ne_int k
theorem PT_cmp {op : CmpOp} {l r : Expr} {pos : Pos} {x y : AV} {c : Bool} (hl : PE g A env led l x) (hr : PE g A env led r y) (b : CmpIs op x y c) (hm : behindInMarks op r = false := by rfl) : PT g A env led (.Compare l [op] [r] pos) c :=
  PT.mk' fun s E S Q k => wpAny_isTrue_Compare1 (hl.out S fun v s1 hv S1 => hr.out S1 fun u s2 hu S2 => cmp_ b hv hu S2 (wpAny_truthy_bool (k _ S2))) hm
theorem PE_cmp {op : CmpOp} {l r : Expr} {pos : Pos} {x y : AV} {c : Bool} (hl : PE g A env led l x) (hr : PE g A env led r y) (b : CmpIs op x y c) (hm : behindInMarks op r = false := by rfl) : PE g A env led (.Compare l [op] [r] pos) (.bool c) :=
  PE.mk' fun s E S Q k => wpAny_Compare1 (hl.out S fun v s1 hv S1 => hr.out S1 fun u s2 hu S2 => cmp_ b hv hu S2 (k _ _ ⟨0, rfl⟩ S2)) hm
inductive TruIs : AV → Bool → Prop
  | bool {b : Bool} : TruIs (.bool b) b
  | int {x : Int} : TruIs (.int x) (x != 0)
  | none : TruIs .none false
theorem tru_ {x : AV} {c : Bool} (b : TruIs x c) {v : Value} (hv : Ab v x) {s : Shared} {Q : Bool → Shared → Prop} (k : Q c s) : wpAny (model pw g.w) A (truthy v) Q E s := by
  obtain ⟨t, rfl⟩ := hv
  cases b with
  | bool => exact wpAny_truthy_bool k
  | int => exact PySem.P.truthy_int k
  | none => exact PyProof.Rows.truthy_none k
theorem PT_name {x : PySem.Str} {p : Pos} {a : AV} {c : Bool} (h : PE g A env led (.Name x p) a) (b : TruIs a c) : PT g A env led (.Name x p) c :=
  PT.mk' fun s E S Q k => isTrue_plain (h.out S fun v s1 hv S1 => tru_ b hv (k _ S1))
theorem PT_attr {e : Expr} {x : PySem.Str} {p : Pos} {a : AV} {c : Bool} (h : PE g A env led (.Attribute e x p) a) (b : TruIs a c) : PT g A env led (.Attribute e x p) c :=
  PT.mk' fun s E S Q k => isTrue_plain (h.out S fun v s1 hv S1 => tru_ b hv (k _ S1))
theorem PT_call {e : Expr} {as : List Expr} {p : Pos} {a : AV} {c : Bool} (h : PE g A env led (.Call e as [] p) a) (b : TruIs a c) : PT g A env led (.Call e as [] p) c :=
  PT.mk' fun s E S Q k => isTrue_plain (h.out S fun v s1 hv S1 => tru_ b hv (k _ S1))
theorem PT_not {e : Expr} {pos : Pos} {b : Bool} (h : PT g A env led e b) : PT g A env led (.UnaryOp .Not e pos) (!b) :=
  PT.mk' fun s E S Q k => isTrue_not (h.out S fun s1 S1 => k _ S1)
theorem PT_andN {pos : Pos} : PT g A env led (.BoolOp .And [] pos) true := PT.mk' fun s E S Q k => isTrue_and_nil (k _ S)
theorem PT_orN {pos : Pos} : PT g A env led (.BoolOp .Or [] pos) false := PT.mk' fun s E S Q k => isTrue_or_nil (k _ S)
theorem PT_and {e : Expr} {es : List Expr} {pos : Pos} {b c : Bool} (h : PT g A env led e b) (hr : b = true → PT g A env led (.BoolOp .And es pos) c) : PT g A env led (.BoolOp .And (e :: es) pos) (b && c) :=
  PT.mk' fun s E S Q k => isTrue_and (h.out S fun s1 S1 => by
    cases b with
    | false => exact k _ S1
    | true => exact (hr rfl).out S1 fun s2 S2 => k _ S2)
theorem PT_or {e : Expr} {es : List Expr} {pos : Pos} {b c : Bool} (h : PT g A env led e b) (hr : b = false → PT g A env led (.BoolOp .Or es pos) c) : PT g A env led (.BoolOp .Or (e :: es) pos) (b || c) :=
  PT.mk' fun s E S Q k => isTrue_or (h.out S fun s1 S1 => by
    cases b with
    | true => exact k _ S1
    | false => exact (hr rfl).out S1 fun s2 S2 => k _ S2)
theorem PE_or {e e' : Expr} {es : List Expr} {pos : Pos} {b c : Bool} (h : PE g A env led e (.bool b)) (hr : b = false → PE g A env led (.BoolOp .Or (e' :: es) pos) (.bool c)) : PE g A env led (.BoolOp .Or (e :: e' :: es) pos) (.bool (b || c)) :=
  PE.mk' fun s E S Q k => BoolOp_or (h.out S fun v s1 hv S1 => by
    obtain ⟨t, rfl⟩ := hv
    refine wpAny_truthy_bool ?_
    cases b with
    | true => exact k _ _ ⟨0, rfl⟩ S1
    | false => exact (hr rfl).out S1 fun v s2 hv S2 => k _ _ hv S2)
theorem PE_or1 {e : Expr} {pos : Pos} {a : AV} (h : PE g A env led e a) : PE g A env led (.BoolOp .Or [e] pos) a := PE.mk' fun s E S Q k => BoolOp_one (h.out S k)
theorem PE_not {e : Expr} {pos : Pos} {a : AV} {b : Bool} (h : PE g A env led e a) (t : TruIs a b) : PE g A env led (.UnaryOp .Not e pos) (.bool (!b)) :=
  PE.mk' fun s E S Q k => wpAny_UnaryOp (h.out S fun v s1 hv S1 => PyProof.Rows.not_of (tru_ t hv (k _ _ ⟨0, rfl⟩ S1)))
theorem PE_if {t b o : Expr} {pos : Pos} {c : Bool} {x y : AV} (ht : PT g A env led t c) (hb : c = true → PE g A env led b x) (ho : c = false → PE g A env led o y) : PE g A env led (.IfExp t b o pos) (if c then x else y) :=
  PE.mk' fun s E S Q k => wpAny_IfExp (ht.out S fun s1 S1 => by
    cases c with
    | false => exact (ho rfl).out S1 k
    | true => exact (hb rfl).out S1 k)
theorem wE_if {t b o : Expr} {pos : Pos} {Φ : AV → Led → Prop} (h : wpT g A E env t led fun c l => if c = true then wpE g A E env b l Φ else wpE g A E env o l Φ) : wpE g A E env (.IfExp t b o pos) led Φ := fun s S =>
  wpAny_IfExp (h.run S fun c s1 b l e S1 h1 => by subst e; cases c <;> exact h1 s1 S1)
theorem wX_nil {Φ : Out → Led → Prop} (h : Φ .next led) : wpX g A E env [] led Φ := fun s S => wpAny_execs_nil ⟨.next, led, rfl, S, h⟩
theorem wX_cons {st : Stmt} {rest : List Stmt} {Φ : Out → Led → Prop} (h : ∀ s, St g s led → wpAny (model pw g.w) A (exec st env) (fun f s' => (f = .next ∧ ∃ l, St g s' l ∧ wpX g A E env rest l Φ) ∨ (f ≠ .next ∧ ∃ o l, Out.Is o f ∧ St g s' l ∧ Φ o l)) E s) :
    wpX g A E env (st :: rest) led Φ := fun s S =>
  wpAny_execs_cons (wpAny_mono (h s S) (fun f s' z => by
    rcases z with ⟨rfl, l, S', k⟩ | ⟨hf, o, l, r, S', k⟩
    · exact k s' S'
    · cases f with
      | next => exact absurd rfl hf
      | brk => exact ⟨o, l, r, S', k⟩
      | cont => exact ⟨o, l, r, S', k⟩
      | ret v => exact ⟨o, l, r, S', k⟩) fun _ _ x => x)
theorem wX_next {st : Stmt} {rest : List Stmt} {Φ : Out → Led → Prop} (h : ∀ s, St g s led → wpAny (model pw g.w) A (exec st env) (fun f s' => f = .next ∧ ∃ l, St g s' l ∧ wpX g A E env rest l Φ) E s) :
    wpX g A E env (st :: rest) led Φ := wX_cons fun s S => wpAny_mono (h s S) (fun _ _ z => .inl z) fun _ _ x => x
theorem wX_expr {e : Expr} {pos : Pos} {rest : List Stmt} {Φ : Out → Led → Prop} (h : wpE g A E env e led fun _ l => wpX g A E env rest l Φ) (hi : interactive env = false := by rfl) (hs : swapsWith e none pos.line env = pure false := by rfl) :
    wpX g A E env (.Expr e pos :: rest) led Φ :=
  wX_next fun s S => wpAny_Expr_any (h.run S fun v s' b l ab S' k => ⟨rfl, l, S', k⟩) hi hs
theorem wX_ret {e : Expr} {pos : Pos} {rest : List Stmt} {Φ : Out → Led → Prop} (h : wpE g A E env e led fun a l => Φ (.ret a) l) : wpX g A E env (.Return (some e) pos :: rest) led Φ :=
  wX_cons fun s S => wpAny_Return_some (h.run S fun v s' b l ab S' k => .inr ⟨(fun e => nomatch e), .ret b, l, ⟨v, rfl, ab⟩, S', k⟩)
theorem wX_ret0 {pos : Pos} {rest : List Stmt} {Φ : Out → Led → Prop} (h : Φ (.ret .none) led) : wpX g A E env (.Return none pos :: rest) led Φ :=
  wX_cons fun s S => wpAny_Return_none (.inr ⟨(fun e => nomatch e), .ret .none, led, ⟨_, rfl, 0, rfl⟩, S, h⟩)
def Sq (g : Gx) (A : Around) (E : Value → Shared → Prop) (env : Env) (rest : List Stmt) (Φ : Out → Led → Prop) (o : Out) (l : Led) : Prop := match o with
  | .next => wpX g A E env rest l Φ
  | o => Φ o l
theorem sq_fin {f : Flow} {s' : Shared} {rest : List Stmt} {Φ : Out → Led → Prop} (h : Post g (fun f o => Out.Is o f) (Sq g A E env rest Φ) f s') :
    (f = .next ∧ ∃ l, St g s' l ∧ wpX g A E env rest l Φ) ∨ (f ≠ .next ∧ ∃ o l, Out.Is o f ∧ St g s' l ∧ Φ o l) := by
  obtain ⟨o, l, r, S, k⟩ := h
  cases o with
  | next => exact .inl ⟨r, l, S, k⟩
  | brk => exact .inr ⟨(fun e => nomatch e.symm.trans (show f = .brk from r)), .brk, l, r, S, k⟩
  | cont => exact .inr ⟨(fun e => nomatch e.symm.trans (show f = .cont from r)), .cont, l, r, S, k⟩
  | ret a => exact .inr ⟨(fun e => r.elim fun v r => nomatch e.symm.trans r.1), .ret a, l, r, S, k⟩
theorem wX_if {t : Expr} {b o rest : List Stmt} {pos : Pos} {Φ : Out → Led → Prop} (h : wpT g A E env t led fun c l => if c = true then wpX g A E env b l (Sq g A E env rest Φ) else wpX g A E env o l (Sq g A E env rest Φ)) : wpX g A E env (.If t b o pos :: rest) led Φ :=
  wX_cons fun s S => wpAny_If (h.run S fun c s1 b' l e S1 h1 => by
    subst e
    cases c with
    | false => exact wpAny_mono (h1 s1 S1) (fun _ _ z => sq_fin z) fun _ _ x => x
    | true => exact wpAny_mono (h1 s1 S1) (fun _ _ z => sq_fin z) fun _ _ x => x)
theorem wX_ifP {t : Expr} {b o rest : List Stmt} {pos : Pos} {c : Bool} {Φ : Out → Led → Prop} (ht : PT g A env led t c) (h1 : c = true → wpX g A E env b led (Sq g A E env rest Φ)) (h2 : c = false → wpX g A E env o led (Sq g A E env rest Φ)) : wpX g A E env (.If t b o pos :: rest) led Φ :=
  wX_if (ht.use (by cases c with | false => exact h2 rfl | true => exact h1 rfl))
inductive VPut (x : PySem.Str) (a : AV) : List (PySem.Str × Option AV) → List (PySem.Str × Option AV) → Prop
  | head {b r} : VPut x a ((x, b) :: r) ((x, some a) :: r)
  | tail {p r r'} (t : VPut x a r r') : VPut x a (p :: r) (p :: r')
theorem VPut.mem {x a} {l l'} (h : VPut x a l l') : ∃ b, (x, b) ∈ l := by
  induction h with
  | head => exact ⟨_, List.mem_cons_self⟩
  | tail _ ih => exact ih.imp fun b h => List.mem_cons_of_mem _ h
theorem VPut.fst {x a} {l l'} (h : VPut x a l l') : l'.map (·.1) = l.map (·.1) := by
  induction h with
  | head => rfl
  | tail _ ih => rw [List.map_cons, List.map_cons, ih]
theorem VPut.of {x a} {l l'} (h : VPut x a l l') : (l.map (·.1)).Nodup → ∀ p ∈ l', p = (x, some a) ∨ (p ∈ l ∧ p.1 ≠ x) := by
  induction h with
  | head =>
    intro nd p hp
    rcases List.mem_cons.mp hp with rfl | hp
    · exact .inl rfl
    · exact .inr ⟨List.mem_cons_of_mem _ hp, fun e => (List.nodup_cons.mp nd).1 (List.mem_map.mpr ⟨p, hp, e⟩)⟩
  | tail t ih =>
    intro nd p hp
    rcases List.mem_cons.mp hp with rfl | hp
    · exact .inr ⟨List.mem_cons_self, fun e => t.mem.elim fun b hb => (List.nodup_cons.mp nd).1 (List.mem_map.mpr ⟨_, hb, e.symm⟩)⟩
    · rcases ih (List.nodup_cons.mp nd).2 p hp with e | m
      · exact .inl e
      · exact .inr ⟨List.mem_cons_of_mem _ m.1, m.2⟩
theorem VPut.any {x a} {l l' : List (PySem.Str × Option AV)} (t : VPut x a l l') {P : PySem.Str → Prop} (h : ∀ p ∈ l, P p.1) : ∀ p ∈ l', P p.1 := fun p hp => by
  have : p.1 ∈ l.map (·.1) := by rw [← t.fst]; exact List.mem_map_of_mem (f := (·.1)) hp
  obtain ⟨q, hq, e⟩ := List.mem_map.mp this
  rw [← e]; exact h q hq
theorem store_ {x : PySem.Str} {a : AV} {v : Value} {s : Shared} {Q : Unit → Shared → Prop} (S : St g s led) (U : LPut L (.frame sc vs) (.frame sc vs') led led') (V : VPut x a vs vs') (ab : Ab v a) (h : ∀ s', St g s' led' → Q () s') :
    wpAny (model pw g.w) A (storeName (envX qual sc L f cd cl) x v) Q E s := by
  obtain ⟨m, hn, hf, nd, hk, hl⟩ := S.ns U.mem
  obtain ⟨b, hb⟩ := V.mem
  refine wpAny_storeName_local (kindOf_local (hl _ hb).1) hn (fun h' hn' hs => h _ ?_) (by show (sc.kind == .class || (sc.kind == .module && L != mainGlobals)) = false; rw [hk]; rfl)
  obtain ⟨o', es, ep, ho, hd, hsk, hfd⟩ := hn'
  refine S.upd (tk := s.toks + 1) U hs.1 (fun b o hb e => by rw [hs.2 b hb]; exact e) ho ⟨_, es, ep, hd, hsk, hfd, ?_, by rw [V.fst]; exact nd, hk, V.any (P := fun y => sc.names.lookup y = some .local ∧ (y == ("__debug__" : PySem.Str)) = false) hl⟩
  intro p hp a' e'
  rcases V.of nd p hp with rfl | ⟨hm, hne⟩
  · cases e'
    exact ⟨v, by simp, ab⟩
  · obtain ⟨u, hu, hb'⟩ := hf p hm a' e'
    exact ⟨u, by simp only [hne, if_false]; exact hu, hb'⟩
theorem wX_name {x : PySem.Str} {p pos : Pos} {e : Expr} {rest : List Stmt} {Φ : Out → Led → Prop}
    (h : wpE g A E (envX qual sc L f cd cl) e led fun a l => ∃ vs vs' l', LPut L (.frame sc vs) (.frame sc vs') l l' ∧ VPut x a vs vs' ∧ wpX g A E (envX qual sc L f cd cl) rest l' Φ)
    (hs : swapsWith e (some (.Name x p)) pos.line (envX qual sc L f cd cl) = pure false := by rfl) : wpX g A E (envX qual sc L f cd cl) (.Assign [.Name x p] e pos :: rest) led Φ :=
  wX_next fun s S => wpAny_Assign_Name (h.run S fun v s1 a l ab S1 z => by
    obtain ⟨vs, vs', l', U, V, k⟩ := z
    exact store_ S1 U V ab fun s2 S2 => ⟨rfl, l', S2, k⟩) hs
theorem wX_nameP {x : PySem.Str} {p pos : Pos} {e : Expr} {a : AV} {rest : List Stmt} {Φ : Out → Led → Prop} (he : PE g A (envX qual sc L f cd cl) led e a) (U : LPut L (.frame sc vs) (.frame sc vs') led led') (V : VPut x a vs vs')
    (h : wpX g A E (envX qual sc L f cd cl) rest led' Φ) (hs : swapsWith e (some (.Name x p)) pos.line (envX qual sc L f cd cl) = pure false := by rfl) : wpX g A E (envX qual sc L f cd cl) (.Assign [.Name x p] e pos :: rest) led Φ :=
  wX_name (he.use ⟨_, _, _, U, V, h⟩) hs
inductive AttrP (g : Gx) (A : Around) (E : Value → Shared → Prop) (env : Env) (k : PySem.Str) (rest : List Stmt) (Φ : Out → Led → Prop) (a ov : AV) (l2 : Led) : Prop
  | mk (L : Addr) (sc : Scope) (vs : List (PySem.Str × Option AV)) (x C dx : Addr) (fs fs' : Flds) (l3 : Led) (e1 : ov = .ref x) (hm : (L, Cell.frame sc vs) ∈ l2) (hx : (x, Cell.inst C dx) ∈ l2) (U : LPut dx (.dict C fs) (.dict C fs') l2 l3) (V : FPut k a fs fs') (h : wpX g A E env rest l3 Φ) : AttrP g A E env k rest Φ a ov l2
theorem FPut.len {k : PySem.Str} {a : AV} {fs fs' : Flds} (V : FPut k a fs fs') : fs'.length = fs.length := by
  have := congrArg List.length V.fst; rwa [List.length_map, List.length_map] at this
theorem attr_put {s : Shared} {x C dx : Addr} {fs fs' : Flds} {k : PySem.Str} {a : AV} {v : Value} {led' : Led} {t : Tok} {Q : Unit → Shared → Prop} (S : St g s led) (hm : (L, Cell.frame sc vs) ∈ led) (hx : (x, Cell.inst C dx) ∈ led) (U : LPut dx (.dict C fs) (.dict C fs') led led') (V : FPut k a fs fs')
    (ab : Ab v a) (h : ∀ s', St g s' led' → Q () s') : wpAny (model pw g.w) A (setAttr (AV.val (.ref x) t) k v) Q E s := by
  obtain ⟨es, n, I, he, nd, hl, hok, -⟩ := S.inst hx U.mem
  obtain ⟨q, hq, eq⟩ := List.mem_map.mp V.mem
  exact setattr_ S hm hx U (eq ▸ hok q hq) ab (fun es he t => he.put ab V nd) (V.fst ▸ nd) (Nat.le_trans (Nat.le_of_eq V.len) hl) (fun p hp => (V.fld p hp).elim fun b hb => hok (p.1, b) hb) h
theorem nodup_add {fs : Flds} {k : PySem.Str} {a : AV} (nd : (fs.map (·.1)).Nodup) (hn : fs.any (·.1 == k) = false) : ((fs ++ [(k, a)]).map (·.1)).Nodup := by
  rw [List.map_append, List.nodup_append]
  refine ⟨nd, List.pairwise_singleton .., fun y hy z hz e => ?_⟩
  obtain ⟨q, hq, rfl⟩ := List.mem_map.mp hy
  exact List.any_eq_false.mp hn q hq (beq_iff_eq.mpr (e.trans (List.mem_singleton.mp hz)))
theorem attr_add {s : Shared} {x C dx : Addr} {fs : Flds} {k : PySem.Str} {a : AV} {v : Value} {led' : Led} {t : Tok} {Q : Unit → Shared → Prop} (S : St g s led) (hm : (L, Cell.frame sc vs) ∈ led) (hx : (x, Cell.inst C dx) ∈ led) (U : LPut dx (.dict C fs) (.dict C (fs ++ [(k, a)])) led led')
    (ok : ∀ P, FldOk P C k) (hn : fs.any (·.1 == k) = false) (hz : fs.length < 100) (ab : Ab v a) (h : ∀ s', St g s' led' → Q () s') : wpAny (model pw g.w) A (setAttr (AV.val (.ref x) t) k v) Q E s := by
  obtain ⟨es, n, I, he, nd, hl, hok, -⟩ := S.inst hx U.mem
  refine setattr_ S hm hx U (ok _) ab (fun es he t => he.add ab hn) (nodup_add nd hn) (by rw [List.length_append]; exact hz) (fun p hp => ?_) h
  rcases List.mem_append.mp hp with hp | hp
  · exact hok p hp
  · rw [List.mem_singleton.mp hp]; exact ok _
theorem wX_attr {o e : Expr} {k : PySem.Str} {p pos : Pos} {rest : List Stmt} {Φ : Out → Led → Prop}
    (h : wpE g A E env e led fun a l => wpE g A E env o l (AttrP g A E env k rest Φ a))
    (hs : swapsWith e (some (.Attribute o k p)) pos.line env = pure false := by rfl) : wpX g A E env (.Assign [.Attribute o k p] e pos :: rest) led Φ :=
  wX_next fun s S => plainObj_wpAny_Assign_Attribute (h.run S fun v s1 a l ab S1 h1 => wpS.run h1 S1 fun u s2 ov l2 ab2 S2 z => by
    obtain ⟨L, sc, vs, x, C, dx, fs, fs', l3, e1, hm, hx, U, V, k⟩ := z
    subst e1
    obtain ⟨t, rfl⟩ := ab2
    exact attr_put S2 hm hx U V ab fun s3 S3 => ⟨rfl, l3, S3, k⟩) hs
theorem wX_attrP {o e : Expr} {k : PySem.Str} {p pos : Pos} {a : AV} {x C dx : Addr} {fs fs' : Flds} {rest : List Stmt} {Φ : Out → Led → Prop} (he : PE g A env led e a) (ho : PE g A env led o (.ref x)) (hm : (L, Cell.frame sc vs) ∈ led) (hx : (x, Cell.inst C dx) ∈ led)
    (U : LPut dx (.dict C fs) (.dict C fs') led led') (V : FPut k a fs fs') (h : wpX g A E env rest led' Φ) (hs : swapsWith e (some (.Attribute o k p)) pos.line env = pure false := by rfl) : wpX g A E env (.Assign [.Attribute o k p] e pos :: rest) led Φ :=
  wX_attr (he.use (ho.use ⟨_, _, _, _, _, _, _, _, _, rfl, hm, hx, U, V, h⟩)) hs
theorem wX_attrN {o e : Expr} {k : PySem.Str} {p pos : Pos} {x C dx : Addr} {fs : Flds} {rest : List Stmt} {Φ : Out → Led → Prop} (ok : ∀ P, FldOk P C k) (hn : fs.any (·.1 == k) = false) (hz : fs.length < 100)
    (h : wpE g A E env e led fun a l => PE g A env l o (.ref x) ∧ ∃ L sc vs l3, (L, Cell.frame sc vs) ∈ l ∧ (x, Cell.inst C dx) ∈ l ∧ LPut dx (.dict C fs) (.dict C (fs ++ [(k, a)])) l l3 ∧ wpX g A E env rest l3 Φ)
    (hs : swapsWith e (some (.Attribute o k p)) pos.line env = pure false := by rfl) : wpX g A E env (.Assign [.Attribute o k p] e pos :: rest) led Φ :=
  wX_next fun s S => plainObj_wpAny_Assign_Attribute (h.run S fun v s1 a l ab S1 z => by
    obtain ⟨ho, L, sc, vs, l3, hm, hx, U, k'⟩ := z
    exact ho.out S1 fun u s2 ab2 S2 => ab2.elim fun t e => by
      subst e
      exact attr_add S2 hm hx U ok hn hz ab fun s3 S3 => ⟨rfl, l3, S3, k'⟩) hs
end
end Mine
end
section
open PySem PySem.W PyProof.Rows PySem.Calls
set_option maxRecDepth 100000
set_option maxHeartbeats 400000
set_option Elab.async false
set_option linter.unusedVariables false
namespace Mine
section
variable {g : Gx} {A : Around} {E : Value → Shared → Prop} {led led' : Led} {qual : PySem.Str} {sc : Scope} {L f : Addr} {cd : Value} {vs vs' : List (PySem.Str × Option AV)} {cl : List (PySem.Str × Addr)} {env : Env}
theorem wL_nil {pos : Pos} {Φ : List AV → Led → Prop} (h : Φ [] led) : wpL g A E env pos [] led Φ := fun s S => args_nil ⟨[], led, .nil, S, h⟩
theorem wL_cons {pos : Pos} {e : Expr} {es : List Expr} {Φ : List AV → Led → Prop} (h : wpE g A E env e led fun a l => wpL g A E env pos es l fun as l2 => Φ (a :: as) l2)
    (he : starEach (e :: es) env = (false, eval e env) :: starEach es env := by rfl) : wpL g A E env pos (e :: es) led Φ := fun s S =>
  args_cons (h.run S fun v s1 a l ab S1 h1 => wpS.run h1 S1 fun vs s2 as l2 ab2 S2 h2 => ⟨a :: as, l2, .cons ab ab2, S2, h2⟩) he
theorem PL_nil {pos : Pos} : PL g A env led pos [] [] := fun E Φ h => wL_nil h
theorem PL_cons {pos : Pos} {e : Expr} {es : List Expr} {a : AV} {as : List AV} (h : PE g A env led e a) (t : PL g A env led pos es as) (he : starEach (e :: es) env = (false, eval e env) :: starEach es env := by rfl) : PL g A env led pos (e :: es) (a :: as) :=
  fun E Φ k => wL_cons (h E _ (t E _ k)) he
structure FnOk (fn : Addr) (st : Stmt) (qual : PySem.Str) (cd : Addr) (dV pm : Value) (ps ls : List PySem.Str) (ds : List AV) : Prop where
  look : ∀ P, (KK P).lookup fn = some ⟨.type "function", none, .func (fnS st qual dV pm (.ref cd)), #[]⟩
  code : ∀ P, codeIn (KK P) (.ref cd) qual = true
  bind : ∀ (w : World) (s : Shared), (KK w.params).In s.heap → ∀ vs : List Value, vs.length + ds.length = ps.length → ∃ us, AbL us ds ∧ BindsTo s (fnS st qual dV pm (.ref cd)) ⟨vs, []⟩ (ps.zip (vs ++ us))
  kind : (sScope st).kind = .function
  coro : (sScope st).isCoroutine = false
  gen : (sScope st).isGenerator = false
  cell : ((sScope st).names.all fun x => x.2 != .cell) = true
  loc : ((ps ++ ls).all fun x => (sScope st).names.lookup x == some .local && !(x == ("__debug__" : PySem.Str))) = true
  nd : decide ((ps ++ ls).Nodup) = true
def RetIs : Out → AV → Prop
  | .ret a, b => a = b
  | .next, b => b = .none
  | _, _ => False
def Ret (Φ : AV → Led → Prop) (o : Out) (l : Led) : Prop := ∃ a l2, RetIs o a ∧ l2.Sublist l ∧ Φ a l2
def frameOf (ps ls : List PySem.Str) (as : List AV) : List (PySem.Str × Option AV) := ps.zip (as.map some) ++ ls.map fun x => (x, none)
theorem zip_at {x : PySem.Str} {a : AV} : ∀ {ps : List PySem.Str} {vs : List Value} {as : List AV}, AbL vs as → (x, some a) ∈ ps.zip (as.map some) → ∃ v, (x, v) ∈ ps.zip vs ∧ Ab v a := by
  intro ps vs as h
  induction h generalizing ps with
  | nil => intro hm; rw [List.map_nil, List.zip_nil_right] at hm; cases hm
  | cons h t ih =>
    intro hm
    cases ps with
    | nil => cases hm
    | cons p ps =>
      rcases List.mem_cons.mp hm with e | hm
      · cases e; exact ⟨_, List.mem_cons_self, h⟩
      · exact (ih hm).imp fun v z => ⟨List.mem_cons_of_mem _ z.1, z.2⟩
theorem zip_sub {ps : List PySem.Str} : ∀ {vs : List Value}, ((ps.zip vs).map (·.1)).Sublist ps := by
  induction ps with
  | nil => intro vs; exact .slnil
  | cons p ps ih =>
    intro vs
    cases vs with
    | nil => exact List.nil_sublist _
    | cons v vs => exact ih.cons_cons p
theorem lookup_at {x : PySem.Str} {v : Value} {l : List (PySem.Str × Value)} (nd : (l.map (·.1)).Nodup) (hm : (x, v) ∈ l) : l.lookup x = some v := by
  induction l with
  | nil => cases hm
  | cons q l ih =>
    rcases List.mem_cons.mp hm with e | hm
    · subst e; exact List.lookup_cons_self
    · rw [List.lookup_cons, beq_eq_false_iff_ne.mpr fun e : x = q.1 => (List.nodup_cons.mp nd).1 (List.mem_map.mpr ⟨_, hm, e⟩)]; exact ih (List.nodup_cons.mp nd).2 hm
theorem zip_lookup {ps : List PySem.Str} (nd : ps.Nodup) {vs : List Value} {as : List AV} (h : AbL vs as) (x a) (hm : (x, some a) ∈ ps.zip (as.map some)) : ∃ v, (ps.zip vs).reverse.lookup x = some v ∧ Ab v a :=
  (zip_at h hm).imp fun v z => ⟨lookup_at (by rw [List.map_reverse]; exact (List.reverse_perm _).nodup_iff.mpr (zip_sub.nodup nd)) (List.mem_reverse.mpr z.1), z.2⟩
theorem zip_fst {ps : List PySem.Str} {as : List AV} (h : as.length = ps.length) : (ps.zip (as.map some)).map (·.1) = ps := List.map_fst_zip (Nat.le_of_eq (h.symm.trans (List.length_map _).symm))
theorem frame_fst {ps ls : List PySem.Str} {as : List AV} (h : as.length = ps.length) : (frameOf ps ls as).map (·.1) = ps ++ ls := by
  unfold frameOf
  rw [List.map_append, zip_fst h, List.map_map, show ((fun x : PySem.Str × Option AV => x.1) ∘ fun x => (x, none)) = id from rfl, List.map_id]
theorem frame_mem {ps ls : List PySem.Str} {as : List AV} {x : PySem.Str} {a : AV} (h : (x, some a) ∈ frameOf ps ls as) : (x, some a) ∈ ps.zip (as.map some) := by
  rcases List.mem_append.mp h with h | h
  · exact h
  · obtain ⟨y, _, e⟩ := List.mem_map.mp h
    cases e
theorem frame_at {ps ls : List PySem.Str} {as : List AV} (h : as.length = ps.length) {p : PySem.Str × Option AV} (hp : p ∈ frameOf ps ls as) : p.1 ∈ ps ++ ls := frame_fst h ▸ List.mem_map.mpr ⟨p, hp, rfl⟩
theorem loc_at {st : Stmt} {xs : List PySem.Str} (h : (xs.all fun x => (sScope st).names.lookup x == some .local && !(x == ("__debug__" : PySem.Str))) = true) {x : PySem.Str} (hx : x ∈ xs) : (sScope st).names.lookup x = some .local ∧ (x == ("__debug__" : PySem.Str)) = false := by
  have := List.all_eq_true.mp h x hx
  rw [Bool.and_eq_true, beq_iff_eq, Bool.not_eq_true'] at this
  exact this
theorem enterE {fn : Addr} {st : Stmt} {dV pm : Value} {cda : Addr} {ps ls : List PySem.Str} {as ds : List AV} {n : Nat} {Φ : AV → Led → Prop} (F : FnOk fn st qual cda dV pm ps ls ds) (R : Rm (n + 1) A) (hl : as.length + ds.length = ps.length)
    (h : ∀ L, wpX g (A.deeper (envX qual (sScope st) L fn (.ref cda) [])) (fun e s' => wpAny (model pw g.w) (A.deeper (envX qual (sScope st) L fn (.ref cda) [])) (leaving (envX qual (sScope st) L fn (.ref cda) []) e) (fun _ s'' => E e s'') (fun e' s'' => E e' s'') s')
      (envX qual (sScope st) L fn (.ref cda) []) (sBody st) ((L, .frame (sScope st) (frameOf ps ls (as ++ ds))) :: led) (Ret Φ)) : wpC g A E (.ref fn) as led Φ := fun us ab s S => by
  have K := S.K
  have hlen : us.length + ds.length = ps.length := by rw [ab.length]; exact hl
  obtain ⟨us', ab', hbind⟩ := F.bind g.w s S.K us hlen
  have abb := ab.append ab'
  have nd : (ps ++ ls).Nodup := of_decide_eq_true F.nd
  have ndp : ps.Nodup := (List.nodup_append.mp nd).1
  have hla : (as ++ ds).length = ps.length := List.length_append.trans hl
  refine codeAny_call_def (fd := fnS st qual dV pm (.ref cda)) (body := sBody st) (binds := ps.zip (us ++ us')) (by have := R.room; lia) (K _ _ (F.look _)) rfl (g.T.nolimit.keeps S.keep) (codeRec_of K (F.code _)) rfl hbind (fun x hx => bne_iff_ne.mp (List.all_eq_true.mp F.cell x hx))
    (fun x hx => (loc_at F.loc (List.mem_append_left _ (List.of_mem_zip hx).1)).1) (fun h₁ hns hk₁ => ?_) F.coro F.gen F.kind
  have hL : s.heap.objs.size < h₁.objs.size := hns.lt
  obtain ⟨o, es, ep, ho, hd, hsk, hfd⟩ := hns
  refine wpAny_mono (h s.heap.objs.size _ ⟨fun b o e => hk₁ b o (S.keep b o e), Nat.le_of_lt (Nat.lt_of_le_of_lt S.size hL), fun p hp => ?_, ?_, fun p hp => ?_, S.os_, S.gens⟩) (fun fl s' z => ?_) (fun e s' z => z)
  · rcases List.mem_cons.mp hp with rfl | hp
    · refine ⟨o, ho, _, es, ep, hd, hsk, hfd, fun p hp a e => ?_, by rw [frame_fst hla]; exact nd, F.kind, fun p hp => loc_at F.loc (frame_at hla hp)⟩
      obtain ⟨x, b⟩ := p
      cases e
      exact zip_lookup ndp abb x a (frame_mem hp)
    · exact (S.at_ p hp).imp fun o' e => ⟨hk₁ _ _ e.1, e.2⟩
  · refine List.nodup_cons.mpr ⟨fun hm => ?_, S.nodup⟩
    obtain ⟨p, hp, e⟩ := List.mem_map.mp hm
    exact absurd (S.lt p hp) (by rw [e]; exact Nat.lt_irrefl _)
  · rcases List.mem_cons.mp hp with rfl | hp
    · exact S.size
    · exact S.fresh p hp
  · obtain ⟨out, l, r, S', a, l2, ra, sub, k⟩ := z
    cases out with
    | next => exact ⟨a, l2, by rw [show a = .none from ra]; rw [show fl = .next from r]; exact ⟨0, rfl⟩, S'.sub sub, k⟩
    | brk => exact ra.elim
    | cont => exact ra.elim
    | ret b => obtain ⟨v, rfl, ab'⟩ := r; exact ⟨a, l2, by rw [← show b = a from ra]; exact ab', S'.sub sub, k⟩
theorem wpS_E {α β : Type} {R : α → β → Prop} {t : Sem α} {E' : Value → Shared → Prop} {Φ : β → Led → Prop} (h : wpS g A E R t led Φ) (k : ∀ e s, E e s → E' e s) : wpS g A E' R t led Φ := fun s S => wpAny_mono (h s S) (fun _ _ x => x) k
theorem enter {fn : Addr} {st : Stmt} {dV pm : Value} {cda : Addr} {ps ls : List PySem.Str} {as ds : List AV} {n : Nat} {Φ : AV → Led → Prop} (F : FnOk fn st qual cda dV pm ps ls ds) (R : Rm (n + 1) A) (hl : as.length + ds.length = ps.length)
    (h : ∀ A' L, Rm n A' → wpX g A' (fun _ _ => False) (envX qual (sScope st) L fn (.ref cda) []) (sBody st) ((L, .frame (sScope st) (frameOf ps ls (as ++ ds))) :: led) (Ret Φ)) : wpC g A E (.ref fn) as led Φ :=
  enterE F R hl fun L => wpS_E (h _ L (R.deeper _)) fun _ _ x => x.elim
theorem wE_call {x : PySem.Str} {p pos : Pos} {v : Value} {e : Expr} {es : List Expr} {Φ : AV → Led → Prop} (G : Glb x v) (hk : ∀ P, keepIn (KK P) v = true) (hm : (L, Cell.frame sc vs) ∈ led)
    (hx : (sc.names.lookup x == some .globalImplicit && !(x == ("__debug__" : PySem.Str))) = true)
    (h : wpL g A E (envX qual sc L f cd cl) pos (e :: es) led fun as l => wpK g A E v as l Φ)
    (he : starEach (e :: es) (envX qual sc L f cd cl) = (false, eval e (envX qual sc L f cd cl)) :: starEach es (envX qual sc L f cd cl) := by rfl)
    (hp : (backTo pos (starEach es (envX qual sc L f cd cl))).any (·.1) = false := by rfl) : wpE g A E (envX qual sc L f cd cl) (.Call (.Name x p) (e :: es) [] pos) led Φ := fun s S => by
  obtain ⟨m, hn, hf, -, hsk, hl⟩ := S.ns hm
  rw [Bool.and_eq_true, beq_iff_eq, Bool.not_eq_true'] at hx
  refine Call_ (glb_name S G hsk hx.1 hx.2 (callWith_K (h₀ := g.hb) g.X (hk _) (h.run S fun us s1 as l ab S1 h1 => ⟨S1.K, h1 us ab s1 S1⟩) he hp))
theorem wE_call0 {x : PySem.Str} {p pos : Pos} {v : Value} {Φ : AV → Led → Prop} (G : Glb x v) (hk : ∀ P, keepIn (KK P) v = true) (hm : (L, Cell.frame sc vs) ∈ led)
    (hx : (sc.names.lookup x == some .globalImplicit && !(x == ("__debug__" : PySem.Str))) = true)
    (h : wpK g A E v [] led Φ) : wpE g A E (envX qual sc L f cd cl) (.Call (.Name x p) [] [] pos) led Φ := fun s S => by
  obtain ⟨m, hn, hf, -, hsk, hl⟩ := S.ns hm
  rw [Bool.and_eq_true, beq_iff_eq, Bool.not_eq_true'] at hx
  exact Call_ (glb_name S G hsk hx.1 hx.2 (callWith_K0 S.K (hk _) (h [] .nil s S)))
structure MthOk (C : Addr) (k : PySem.Str) (fn : Addr) : Prop where
  find : ∀ P, findIn (KK P) (.ref C) k = some (some (.ref fn))
  plain : ∀ P, plainGet (KK P) C k = true
  isFn : ∀ P, isFn (KK P) (.ref fn) = true
  keep : ∀ P, keepIn (KK P) (.ref fn) = true
theorem getmethod_ {s : Shared} {x C dx fn : Addr} {fs : Flds} {k : PySem.Str} {pl : Sem Bool} {Q : Value × List Value → Shared → Prop} (M : MthOk C k fn) (S : St g s led) (hx : (x, Cell.inst C dx) ∈ led) (hd : (dx, Cell.dict C fs) ∈ led)
    (h : Q (.ref fn, [.ref x]) s) : wpAny (model pw g.w) A (getMethod (.ref x) k pl) Q E s := by
  obtain ⟨es, n, I, he, nd, -, ok, -⟩ := S.inst hx hd
  have hmiss : fs.any (·.1 == k) = false := by
    rw [List.any_eq_false]
    intro p hp e
    have := (ok p hp).find
    rw [show p.1 = k from by simpa using e, M.find] at this
    cases this
  exact method_fn S.K I (plainGet_of (M.plain _)).1 (plainGet_of (M.plain _)).2 (M.find _) (beq_iff_eq.mp (M.isFn _)) (by show (lookIn k (dictOf es n)).map _ = _; rw [lookIn_dict, he.miss hmiss]; rfl) h
theorem wE_meth {o : Expr} {k : PySem.Str} {apos pos : Pos} {x C dx fn : Addr} {fs : Flds} {e : Expr} {es : List Expr} {pl : Sem Bool} {Φ : AV → Led → Prop} (ho : PE g A env led o (.ref x)) (M : MthOk C k fn) (hx : (x, Cell.inst C dx) ∈ led) (hd : (dx, Cell.dict C fs) ∈ led)
    (h : wpL g A E env pos (e :: es) led fun as l => wpC g A E (.ref fn) (.ref x :: as) l Φ)
    (hev : eval (.Call (.Attribute o k apos) (e :: es) [] pos) env = (do
      let ov ← eval o env
      standAt apos.atName
      let (f, first) ← holding [ov] (getMethod ov k pl)
      callWith pos f first (backTo pos (starEach (e :: es) env)) (backToKw pos (keywordEach [] env))) := by rfl)
    (he : starEach (e :: es) env = (false, eval e env) :: starEach es env := by rfl)
    (hp : (backTo pos (starEach es env)).any (·.1) = false := by rfl) : wpE g A E env (.Call (.Attribute o k apos) (e :: es) [] pos) led Φ := fun s S =>
  methodCall_KW (ho.out S fun v s1 ab S1 => by
    obtain ⟨t, rfl⟩ := ab
    refine getmethod_ M S1 hx hd ?_
    exact callWith_K (h₀ := g.hb) g.X (M.keep _) (h.run S1 fun us s2 as l ab S2 h2 => ⟨S2.K, wpK_C h2 (.ref x :: us) (.cons ⟨0, rfl⟩ ab) s2 S2⟩) he hp) hev
theorem wE_meth0 {o : Expr} {k : PySem.Str} {apos pos : Pos} {x C dx fn : Addr} {fs : Flds} {pl : Sem Bool} {Φ : AV → Led → Prop} (ho : PE g A env led o (.ref x)) (M : MthOk C k fn) (hx : (x, Cell.inst C dx) ∈ led) (hd : (dx, Cell.dict C fs) ∈ led)
    (h : wpC g A E (.ref fn) [.ref x] led Φ)
    (hev : eval (.Call (.Attribute o k apos) [] [] pos) env = (do
      let ov ← eval o env
      standAt apos.atName
      let (f, first) ← holding [ov] (getMethod ov k pl)
      callWith pos f first (backTo pos (starEach [] env)) (backToKw pos (keywordEach [] env))) := by rfl) : wpE g A E env (.Call (.Attribute o k apos) [] [] pos) led Φ := fun s S =>
  methodCall_KW (ho.out S fun v s1 ab S1 => by
    obtain ⟨t, rfl⟩ := ab
    refine getmethod_ M S1 hx hd ?_
    exact callWith_K0 S1.K (M.keep _) (wpK_C h [.ref x] (.cons ⟨0, rfl⟩ .nil) s1 S1)) hev
structure ClsOk (C fI : Addr) : Prop where
  makes : ∀ P, makesIn (KK P) C = true
  init : ∀ P, findIn (KK P) (.ref C) "__init__" = some (some (.ref fI))
  isFn : ∀ P, isFn (KK P) (.ref fI) = true
theorem Rm.make {n : Nat} (R : Rm (n + 1) A) (C : Addr) (us : List Value) : Rm n (A.under (.builtin "type.__call__" ⟨.ref C :: us, []⟩)) :=
  ⟨R.handled, by rw [depth_under_kw]; have := R.room; lia, by rw [units_under_make]; have := R.units; lia⟩
theorem wC_new {C fI : Addr} {as : List AV} {n : Nat} {Φ : AV → Led → Prop} (O : ClsOk C fI) (R : Rm (n + 1) A)
    (h : ∀ A' x dx, Rm n A' → wpC g A' E (.ref fI) (.ref x :: as) ((x, .inst C dx) :: (dx, .dict C []) :: led) fun a l => a = .none ∧ Φ (.ref x) l) : wpC g A E (.ref C) as led Φ := fun us ab s S => by
  obtain ⟨hh, gg, d, t, os⟩ := s
  have K := S.K
  have S1 := S.new (c := .dict C []) (o := emptyDict) ⟨[], 0, rfl, .nil, by simp, by simp, fun _ h => nomatch h⟩ rfl
  have S2 := S1.new (c := .inst C hh.objs.size) (o := instObj C hh.objs.size) rfl rfl
  rw [show ({ heap := hh.push emptyDict, gens := gg, drawn := d, toks := t, os := os } : Shared).heap.objs.size = hh.objs.size + 1 from Heap.size_push ..] at S2
  refine make_core (makes_of K (O.makes _)) (looks_findIn K (O.init _)) (fun self => bind_fn K self (beq_iff_eq.mp (O.isFn _))) (.inl rfl) ?_
  refine codeAny_mono (h _ (hh.objs.size + 1) hh.objs.size (R.make C us) (.ref (hh.objs.size + 1) :: us) (.cons ⟨0, rfl⟩ ab) _ S2) fun r s' z => ?_
  rcases r with e | (v | _ | _ | _)
  · exact z
  · exact z
  · exact z
  · exact z
  · obtain ⟨b, l, i, j, rfl, k⟩ := z
    obtain ⟨t, rfl⟩ := i
    exact ⟨rfl, .ref (hh.objs.size + 1), l, ⟨0, rfl⟩, j, k⟩
end
end Mine
end
section
open PySem PySem.W PyProof.Rows PySem.Calls
set_option maxRecDepth 100000
set_option maxHeartbeats 400000
set_option Elab.async false
set_option linter.unusedVariables false
namespace Mine
theorem lv1 {vs : List Value} (h : vs.length = 1) : ∃ a, vs = [a] := List.length_eq_one_iff.mp h
theorem lv2 {vs : List Value} (h : vs.length = 2) : ∃ a b, vs = [a, b] := by
  cases vs with
  | nil => cases h
  | cons a r => obtain ⟨b, rfl⟩ := lv1 (Nat.succ.inj h); exact ⟨a, b, rfl⟩
theorem lv3 {vs : List Value} (h : vs.length = 3) : ∃ a b c, vs = [a, b, c] := by
  cases vs with
  | nil => cases h
  | cons a r => obtain ⟨b, c, rfl⟩ := lv2 (Nat.succ.inj h); exact ⟨a, b, c, rfl⟩
theorem lv4 {vs : List Value} (h : vs.length = 4) : ∃ a b c d, vs = [a, b, c, d] := by
  cases vs with
  | nil => cases h
  | cons a r => obtain ⟨b, c, d, rfl⟩ := lv3 (Nat.succ.inj h); exact ⟨a, b, c, d, rfl⟩
theorem lv5 {vs : List Value} (h : vs.length = 5) : ∃ a b c d e, vs = [a, b, c, d, e] := by
  cases vs with
  | nil => cases h
  | cons a r => obtain ⟨b, c, d, e, rfl⟩ := lv4 (Nat.succ.inj h); exact ⟨a, b, c, d, e, rfl⟩
theorem lv6 {vs : List Value} (h : vs.length = 6) : ∃ a b c d e f, vs = [a, b, c, d, e, f] := by
  cases vs with
  | nil => cases h
  | cons a r => obtain ⟨b, c, d, e, f, rfl⟩ := lv5 (Nat.succ.inj h); exact ⟨a, b, c, d, e, f, rfl⟩
theorem lv7 {vs : List Value} (h : vs.length = 7) : ∃ a b c d e f g, vs = [a, b, c, d, e, f, g] := by
  cases vs with
  | nil => cases h
  | cons a r => obtain ⟨b, c, d, e, f, g, rfl⟩ := lv6 (Nat.succ.inj h); exact ⟨a, b, c, d, e, f, g, rfl⟩
theorem KA_nodup : KA.Nodup := by decide +kernel
theorem KK_keys (P : Params) : (KK P).map (·.1) = KA := by kernel_rfl
theorem lookup_of_get {l : Frag} : ∀ {i : Nat} {a : Addr} {o : Obj}, (l.map (·.1)).Nodup → l[i]? = some (a, o) → l.lookup a = some o := by
  induction l with
  | nil => intro i a o _ h; cases h
  | cons p l ih =>
    intro i a o nd h
    cases i with
    | zero => cases h; exact List.lookup_cons_self
    | succ i =>
      have h : l[i]? = some (a, o) := h
      rw [List.lookup_cons, beq_eq_false_iff_ne.mpr fun e : a = p.1 => (List.nodup_cons.mp nd).1 (List.mem_map.mpr ⟨_, List.mem_of_getElem? h, e⟩)]
      exact ih (List.nodup_cons.mp nd).2 h
theorem look_at {P : Params} {i : Nat} {a : Addr} {o : Obj} (h : (KK P)[i]? = some (a, o)) : (KK P).lookup a = some o := lookup_of_get (by rw [KK_keys]; exact KA_nodup) h
theorem isFn_of {P : Params} {fn : Addr} {fd : FuncData} (h : (KK P).lookup fn = some ⟨.type "function", none, .func fd, #[]⟩) : isFn (KK P) (.ref fn) = true := by
  show (((KK P).lookup fn).map (·.cls) == some (.type "function")) = true
  rw [h]; rfl
theorem keep_of {P : Params} {fn : Addr} {fd : FuncData} (h : (KK P).lookup fn = some ⟨.type "function", none, .func fd, #[]⟩) : keepIn (KK P) (.ref fn) = true := by
  unfold keepIn; dsimp only; rw [h]
def codeB (o : Obj) (qual : PySem.Str) : Bool := match o with
  | ⟨_, _, .fields vs, _⟩ => (match vs.toList with | _ :: .str n _ :: _ => n == qual | _ => false)
  | _ => false
theorem code_of {P : Params} {cd : Addr} {o : Obj} {qual : PySem.Str} (h : (KK P).lookup cd = some o) (e : codeB o qual = true) : codeIn (KK P) (.ref cd) qual = true := by
  unfold codeIn; dsimp only; rw [h]; obtain ⟨c, d, dt, sl⟩ := o; cases dt <;> exact e
structure ClsF (P : Params) (C : Addr) : Prop where
  plain : ∀ k, plainGet (KK P) C k = true
  hasDict : hasDictIn (KK P) C = true
  over : plainOver (KK P) C = true
  set : findIn (KK P) (.ref C) "__setattr__" = some (some (.builtin "object.__setattr__"))
theorem fld_of {P : Params} {C : Addr} {k : PySem.Str} (c : ClsF P C) (h : findIn (KK P) (.ref C) k = some none) : FldOk P C k := ⟨h, c.plain k, c.hasDict, c.over, c.set, by unfold takerIn; rw [h]; rfl⟩
theorem nth {α : Type} {l l' : List α} (h : l = l') (i : Nat) {a b : α} (ha : l[i]? = some a) (hb : l'[i]? = some b) : a = b := by rw [h, hb] at ha; exact (Option.some.inj ha).symm
def scB (sc : Scope) (xs : List PySem.Str) : Bool := sc.kind == .function && !sc.isCoroutine && !sc.isGenerator && (sc.names.all fun x => x.2 != .cell) && (xs.all fun x => sc.names.lookup x == some .local && !(x == ("__debug__" : PySem.Str))) && decide xs.Nodup
theorem fn_of {fn : Addr} {st : Stmt} {qual : PySem.Str} {cd : Addr} {dV pm : Value} {ps ls : List PySem.Str} {ds : List AV} (look : ∀ P, (KK P).lookup fn = some ⟨.type "function", none, .func (fnS st qual dV pm (.ref cd)), #[]⟩) (code : ∀ P, codeIn (KK P) (.ref cd) qual = true)
    (bind : ∀ (w : World) (s : Shared), (KK w.params).In s.heap → ∀ vs : List Value, vs.length + ds.length = ps.length → ∃ us, AbL us ds ∧ BindsTo s (fnS st qual dV pm (.ref cd)) ⟨vs, []⟩ (ps.zip (vs ++ us))) (h : scB (sScope st) (ps ++ ls) = true) : FnOk fn st qual cd dV pm ps ls ds := by
  unfold scB at h
  simp only [Bool.and_eq_true, Bool.not_eq_true', beq_iff_eq] at h
  obtain ⟨⟨⟨⟨⟨a, b⟩, c⟩, d⟩, e⟩, f⟩ := h
  exact ⟨look, code, bind, a, b, c, d, by simpa using e, f⟩
theorem look_law (P : Params) : (KK P).lookup f_law = some ⟨.type "function", none, .func (fnS (stAt 76) (S "law") (.none) (.str (S "law_pq0297_01") 1342) (.ref 856)), #[]⟩ := look_at (i := 21) (by kernel_rfl)
theorem code_law (P : Params) : codeIn (KK P) (.ref 856) (S "law") = true := code_of (look_at (i := 22) (o := ⟨.type "code", none, .fields #[.str (S "law") 1372, .str (S "law") 1373, .str (S "/claim/cut.py") 1374, .int 605 0, .int 1 0, .int 0 0, .int 0 0, .int 3 0, .ref 853, .bool true, .int 181 0, .ref 854, .none, .none, .none, .ref 855, .int 1375 0, .int 605 0, .str (S "/claim/cut.py") 1376], #[]⟩) (by kernel_rfl)) (by kernel_rfl)
theorem F_law : FnOk f_law (stAt 76) (S "law") 856 (.none) (.str (S "law_pq0297_01") 1342) [S "script"] [S "deck", S "buffer", S "amalgam", S "undoing", S "sort", S "last", S "many", S "ahead", S "turn", S "way", S "text", S "joins", S "is_fresh", S "texts", S "place", S "error"] [] :=
  fn_of look_law code_law (fun w s X vs h => by obtain ⟨a, rfl⟩ := lv1 h; exact ⟨[], .nil, BindsTo.of_eq (by kernel_rfl)⟩) (by kernel_rfl)
theorem look__law_deck (P : Params) : (KK P).lookup f__law_deck = some ⟨.type "function", none, .func (fnS (stAt 73) (S "_law_deck") (.none) (.str (S "law_pq0297_01") 1342) (.ref 837)), #[]⟩ := look_at (i := 23) (by kernel_rfl)
theorem code__law_deck (P : Params) : codeIn (KK P) (.ref 837) (S "_law_deck") = true := code_of (look_at (i := 24) (o := ⟨.type "code", none, .fields #[.str (S "_law_deck") 1344, .str (S "_law_deck") 1345, .str (S "/claim/cut.py") 1346, .int 576 0, .int 1 0, .int 0 0, .int 0 0, .int 3 0, .ref 834, .bool true, .int 181 0, .ref 835, .none, .none, .none, .ref 836, .int 1347 0, .int 576 0, .str (S "/claim/cut.py") 1348], #[]⟩) (by kernel_rfl)) (by kernel_rfl)
theorem keep__law_deck (P : Params) : keepIn (KK P) (.ref f__law_deck) = true := keep_of (look__law_deck P)
theorem F__law_deck : FnOk f__law_deck (stAt 73) (S "_law_deck") 837 (.none) (.str (S "law_pq0297_01") 1342) [S "script"] [S "cells"] [] :=
  fn_of look__law_deck code__law_deck (fun w s X vs h => by obtain ⟨a, rfl⟩ := lv1 h; exact ⟨[], .nil, BindsTo.of_eq (by kernel_rfl)⟩) (by kernel_rfl)
theorem look__law_draw (P : Params) : (KK P).lookup f__law_draw = some ⟨.type "function", none, .func (fnS (stAt 74) (S "_law_draw") (.none) (.str (S "law_pq0297_01") 1342) (.ref 844)), #[]⟩ := look_at (i := 25) (by kernel_rfl)
theorem code__law_draw (P : Params) : codeIn (KK P) (.ref 844) (S "_law_draw") = true := code_of (look_at (i := 26) (o := ⟨.type "code", none, .fields #[.str (S "_law_draw") 1350, .str (S "_law_draw") 1351, .str (S "/claim/cut.py") 1352, .int 579 0, .int 2 0, .int 0 0, .int 0 0, .int 3 0, .ref 839, .bool true, .int 181 0, .ref 840, .none, .ref 841, .ref 842, .ref 843, .int 1357 0, .int 579 0, .str (S "/claim/cut.py") 1358], #[]⟩) (by kernel_rfl)) (by kernel_rfl)
theorem keep__law_draw (P : Params) : keepIn (KK P) (.ref f__law_draw) = true := keep_of (look__law_draw P)
theorem F__law_draw : FnOk f__law_draw (stAt 74) (S "_law_draw") 844 (.none) (.str (S "law_pq0297_01") 1342) [S "deck", S "many"] [S "rest", S "mixed"] [] :=
  fn_of look__law_draw code__law_draw (fun w s X vs h => by obtain ⟨a, b, rfl⟩ := lv2 h; exact ⟨[], .nil, BindsTo.of_eq (by kernel_rfl)⟩) (by kernel_rfl)
theorem look__law_typed (P : Params) : (KK P).lookup f__law_typed = some ⟨.type "function", none, .func (fnS (stAt 75) (S "_law_typed") (.none) (.str (S "law_pq0297_01") 1342) (.ref 851)), #[]⟩ := look_at (i := 27) (by kernel_rfl)
theorem code__law_typed (P : Params) : codeIn (KK P) (.ref 851) (S "_law_typed") = true := code_of (look_at (i := 28) (o := ⟨.type "code", none, .fields #[.str (S "_law_typed") 1360, .str (S "_law_typed") 1361, .str (S "/claim/cut.py") 1362, .int 590 0, .int 5 0, .int 0 0, .int 0 0, .int 3 0, .ref 846, .bool true, .int 181 0, .ref 847, .none, .ref 848, .ref 849, .ref 850, .int 1369 0, .int 590 0, .str (S "/claim/cut.py") 1370], #[]⟩) (by kernel_rfl)) (by kernel_rfl)
theorem keep__law_typed (P : Params) : keepIn (KK P) (.ref f__law_typed) = true := keep_of (look__law_typed P)
theorem F__law_typed : FnOk f__law_typed (stAt 75) (S "_law_typed") 851 (.none) (.str (S "law_pq0297_01") 1342) [S "deck", S "buffer", S "amalgam", S "sort", S "fresh"] [S "size"] [] :=
  fn_of look__law_typed code__law_typed (fun w s X vs h => by obtain ⟨a, b, c, d, e, rfl⟩ := lv5 h; exact ⟨[], .nil, BindsTo.of_eq (by kernel_rfl)⟩) (by kernel_rfl)
theorem look_begin_change (P : Params) : (KK P).lookup f_begin_change = some ⟨.type "function", none, .func (fnS (stAt 4) (S "begin_change") (.none) (.str (S "emacs.amalgam") 194) (.ref 48)), #[]⟩ := look_at (i := 29) (by kernel_rfl)
theorem code_begin_change (P : Params) : codeIn (KK P) (.ref 48) (S "begin_change") = true := code_of (look_at (i := 30) (o := ⟨.type "code", none, .fields #[.str (S "begin_change") 227, .str (S "begin_change") 228, .str (S "/claim/cut.py") 229, .int 11 0, .int 3 0, .int 0 0, .int 0 0, .int 3 0, .ref 43, .bool true, .int 181 0, .ref 44, .none, .ref 45, .ref 46, .ref 47, .int 233 0, .int 11 0, .str (S "/claim/cut.py") 234], #[]⟩) (by kernel_rfl)) (by kernel_rfl)
theorem keep_begin_change (P : Params) : keepIn (KK P) (.ref f_begin_change) = true := keep_of (look_begin_change P)
theorem F_begin_change : FnOk f_begin_change (stAt 4) (S "begin_change") 48 (.none) (.str (S "emacs.amalgam") 194) [S "amalgam", S "undo", S "sort"] [] [] :=
  fn_of look_begin_change code_begin_change (fun w s X vs h => by obtain ⟨a, b, c, rfl⟩ := lv3 h; exact ⟨[], .nil, BindsTo.of_eq (by kernel_rfl)⟩) (by kernel_rfl)
theorem look_Amalgam_init (P : Params) : (KK P).lookup f_Amalgam_init = some ⟨.type "function", none, .func (fnS (mAt 3 0) (S "Amalgam.__init__") (.none) (.str (S "emacs.amalgam") 194) (.ref 34)), #[]⟩ := look_at (i := 31) (by kernel_rfl)
theorem code_Amalgam_init (P : Params) : codeIn (KK P) (.ref 34) (S "Amalgam.__init__") = true := code_of (look_at (i := 32) (o := ⟨.type "code", none, .fields #[.str (S "__init__") 210, .str (S "Amalgam.__init__") 211, .str (S "/claim/cut.py") 212, .int 8 0, .int 1 0, .int 0 0, .int 0 0, .int 3 0, .ref 29, .bool true, .int 181 0, .ref 30, .none, .ref 31, .ref 32, .ref 33, .int 214 0, .int 8 0, .str (S "/claim/cut.py") 215], #[]⟩) (by kernel_rfl)) (by kernel_rfl)
theorem F_Amalgam_init : FnOk f_Amalgam_init (mAt 3 0) (S "Amalgam.__init__") 34 (.none) (.str (S "emacs.amalgam") 194) [S "self"] [] [] :=
  fn_of look_Amalgam_init code_Amalgam_init (fun w s X vs h => by obtain ⟨a, rfl⟩ := lv1 h; exact ⟨[], .nil, BindsTo.of_eq (by kernel_rfl)⟩) (by kernel_rfl)
theorem look_GapText_init (P : Params) : (KK P).lookup f_GapText_init = some ⟨.type "function", none, .func (fnS (mAt 6 0) (S "GapText.__init__") (.none) (.str (S "emacs.gap") 236) (.ref 62)), #[]⟩ := look_at (i := 33) (by kernel_rfl)
theorem code_GapText_init (P : Params) : codeIn (KK P) (.ref 62) (S "GapText.__init__") = true := code_of (look_at (i := 34) (o := ⟨.type "code", none, .fields #[.str (S "__init__") 250, .str (S "GapText.__init__") 251, .str (S "/claim/cut.py") 252, .int 22 0, .int 3 0, .int 0 0, .int 0 0, .int 3 0, .ref 57, .bool true, .int 181 0, .ref 58, .none, .ref 59, .ref 60, .ref 61, .int 256 0, .int 22 0, .str (S "/claim/cut.py") 257], #[]⟩) (by kernel_rfl)) (by kernel_rfl)
theorem F_GapText_init : FnOk f_GapText_init (mAt 6 0) (S "GapText.__init__") 62 (.none) (.str (S "emacs.gap") 236) [S "self", S "codes", S "room"] [] [] :=
  fn_of look_GapText_init code_GapText_init (fun w s X vs h => by obtain ⟨a, b, c, rfl⟩ := lv3 h; exact ⟨[], .nil, BindsTo.of_eq (by kernel_rfl)⟩) (by kernel_rfl)
theorem look_GapText_size (P : Params) : (KK P).lookup f_GapText_size = some ⟨.type "function", none, .func (fnS (mAt 6 1) (S "GapText.size") (.none) (.str (S "emacs.gap") 236) (.ref 69)), #[]⟩ := look_at (i := 35) (by kernel_rfl)
theorem code_GapText_size (P : Params) : codeIn (KK P) (.ref 69) (S "GapText.size") = true := code_of (look_at (i := 36) (o := ⟨.type "code", none, .fields #[.str (S "size") 259, .str (S "GapText.size") 260, .str (S "/claim/cut.py") 261, .int 28 0, .int 1 0, .int 0 0, .int 0 0, .int 3 0, .ref 64, .bool true, .int 181 0, .ref 65, .none, .ref 66, .ref 67, .ref 68, .int 263 0, .int 28 0, .str (S "/claim/cut.py") 264], #[]⟩) (by kernel_rfl)) (by kernel_rfl)
theorem F_GapText_size : FnOk f_GapText_size (mAt 6 1) (S "GapText.size") 69 (.none) (.str (S "emacs.gap") 236) [S "self"] [] [] :=
  fn_of look_GapText_size code_GapText_size (fun w s X vs h => by obtain ⟨a, rfl⟩ := lv1 h; exact ⟨[], .nil, BindsTo.of_eq (by kernel_rfl)⟩) (by kernel_rfl)
theorem look_GapText_codes (P : Params) : (KK P).lookup f_GapText_codes = some ⟨.type "function", none, .func (fnS (mAt 6 3) (S "GapText.codes") (.none) (.str (S "emacs.gap") 236) (.ref 83)), #[]⟩ := look_at (i := 37) (by kernel_rfl)
theorem code_GapText_codes (P : Params) : codeIn (KK P) (.ref 83) (S "GapText.codes") = true := code_of (look_at (i := 38) (o := ⟨.type "code", none, .fields #[.str (S "codes") 274, .str (S "GapText.codes") 275, .str (S "/claim/cut.py") 276, .int 34 0, .int 3 0, .int 0 0, .int 0 0, .int 3 0, .ref 78, .bool true, .int 181 0, .ref 79, .none, .ref 80, .ref 81, .ref 82, .int 281 0, .int 34 0, .str (S "/claim/cut.py") 282], #[]⟩) (by kernel_rfl)) (by kernel_rfl)
theorem F_GapText_codes : FnOk f_GapText_codes (mAt 6 3) (S "GapText.codes") 83 (.none) (.str (S "emacs.gap") 236) [S "self", S "start", S "end"] [S "shift"] [] :=
  fn_of look_GapText_codes code_GapText_codes (fun w s X vs h => by obtain ⟨a, b, c, rfl⟩ := lv3 h; exact ⟨[], .nil, BindsTo.of_eq (by kernel_rfl)⟩) (by kernel_rfl)
theorem look_GapText_move_gap (P : Params) : (KK P).lookup f_GapText_move_gap = some ⟨.type "function", none, .func (fnS (mAt 6 4) (S "GapText.move_gap") (.none) (.str (S "emacs.gap") 236) (.ref 90)), #[]⟩ := look_at (i := 39) (by kernel_rfl)
theorem code_GapText_move_gap (P : Params) : codeIn (KK P) (.ref 90) (S "GapText.move_gap") = true := code_of (look_at (i := 40) (o := ⟨.type "code", none, .fields #[.str (S "move_gap") 284, .str (S "GapText.move_gap") 285, .str (S "/claim/cut.py") 286, .int 42 0, .int 2 0, .int 0 0, .int 0 0, .int 3 0, .ref 85, .bool true, .int 181 0, .ref 86, .none, .ref 87, .ref 88, .ref 89, .int 290 0, .int 42 0, .str (S "/claim/cut.py") 291], #[]⟩) (by kernel_rfl)) (by kernel_rfl)
theorem F_GapText_move_gap : FnOk f_GapText_move_gap (mAt 6 4) (S "GapText.move_gap") 90 (.none) (.str (S "emacs.gap") 236) [S "self", S "at"] [S "moved"] [] :=
  fn_of look_GapText_move_gap code_GapText_move_gap (fun w s X vs h => by obtain ⟨a, b, rfl⟩ := lv2 h; exact ⟨[], .nil, BindsTo.of_eq (by kernel_rfl)⟩) (by kernel_rfl)
theorem look_GapText_widen_gap (P : Params) : (KK P).lookup f_GapText_widen_gap = some ⟨.type "function", none, .func (fnS (mAt 6 5) (S "GapText.widen_gap") (.none) (.str (S "emacs.gap") 236) (.ref 97)), #[]⟩ := look_at (i := 41) (by kernel_rfl)
theorem code_GapText_widen_gap (P : Params) : codeIn (KK P) (.ref 97) (S "GapText.widen_gap") = true := code_of (look_at (i := 42) (o := ⟨.type "code", none, .fields #[.str (S "widen_gap") 293, .str (S "GapText.widen_gap") 294, .str (S "/claim/cut.py") 295, .int 53 0, .int 2 0, .int 0 0, .int 0 0, .int 3 0, .ref 92, .bool true, .int 181 0, .ref 93, .none, .ref 94, .ref 95, .ref 96, .int 299 0, .int 53 0, .str (S "/claim/cut.py") 300], #[]⟩) (by kernel_rfl)) (by kernel_rfl)
theorem F_GapText_widen_gap : FnOk f_GapText_widen_gap (mAt 6 5) (S "GapText.widen_gap") 97 (.none) (.str (S "emacs.gap") 236) [S "self", S "wanted"] [S "lack"] [] :=
  fn_of look_GapText_widen_gap code_GapText_widen_gap (fun w s X vs h => by obtain ⟨a, b, rfl⟩ := lv2 h; exact ⟨[], .nil, BindsTo.of_eq (by kernel_rfl)⟩) (by kernel_rfl)
theorem look_GapText_insert (P : Params) : (KK P).lookup f_GapText_insert = some ⟨.type "function", none, .func (fnS (mAt 6 6) (S "GapText.insert") (.none) (.str (S "emacs.gap") 236) (.ref 104)), #[]⟩ := look_at (i := 43) (by kernel_rfl)
theorem code_GapText_insert (P : Params) : codeIn (KK P) (.ref 104) (S "GapText.insert") = true := code_of (look_at (i := 44) (o := ⟨.type "code", none, .fields #[.str (S "insert") 302, .str (S "GapText.insert") 303, .str (S "/claim/cut.py") 304, .int 59 0, .int 3 0, .int 0 0, .int 0 0, .int 3 0, .ref 99, .bool true, .int 181 0, .ref 100, .none, .ref 101, .ref 102, .ref 103, .int 308 0, .int 59 0, .str (S "/claim/cut.py") 309], #[]⟩) (by kernel_rfl)) (by kernel_rfl)
theorem F_GapText_insert : FnOk f_GapText_insert (mAt 6 6) (S "GapText.insert") 104 (.none) (.str (S "emacs.gap") 236) [S "self", S "at", S "codes"] [] [] :=
  fn_of look_GapText_insert code_GapText_insert (fun w s X vs h => by obtain ⟨a, b, c, rfl⟩ := lv3 h; exact ⟨[], .nil, BindsTo.of_eq (by kernel_rfl)⟩) (by kernel_rfl)
theorem look_GapText_delete (P : Params) : (KK P).lookup f_GapText_delete = some ⟨.type "function", none, .func (fnS (mAt 6 7) (S "GapText.delete") (.none) (.str (S "emacs.gap") 236) (.ref 111)), #[]⟩ := look_at (i := 45) (by kernel_rfl)
theorem code_GapText_delete (P : Params) : codeIn (KK P) (.ref 111) (S "GapText.delete") = true := code_of (look_at (i := 46) (o := ⟨.type "code", none, .fields #[.str (S "delete") 311, .str (S "GapText.delete") 312, .str (S "/claim/cut.py") 313, .int 65 0, .int 3 0, .int 0 0, .int 0 0, .int 3 0, .ref 106, .bool true, .int 181 0, .ref 107, .none, .ref 108, .ref 109, .ref 110, .int 318 0, .int 65 0, .str (S "/claim/cut.py") 319], #[]⟩) (by kernel_rfl)) (by kernel_rfl)
theorem F_GapText_delete : FnOk f_GapText_delete (mAt 6 7) (S "GapText.delete") 111 (.none) (.str (S "emacs.gap") 236) [S "self", S "start", S "end"] [S "gone"] [] :=
  fn_of look_GapText_delete code_GapText_delete (fun w s X vs h => by obtain ⟨a, b, c, rfl⟩ := lv3 h; exact ⟨[], .nil, BindsTo.of_eq (by kernel_rfl)⟩) (by kernel_rfl)
theorem look_Markers_init (P : Params) : (KK P).lookup f_Markers_init = some ⟨.type "function", none, .func (fnS (mAt 8 0) (S "Markers.__init__") (.none) (.str (S "emacs.markers") 356) (.ref 153)), #[]⟩ := look_at (i := 47) (by kernel_rfl)
theorem code_Markers_init (P : Params) : codeIn (KK P) (.ref 153) (S "Markers.__init__") = true := code_of (look_at (i := 48) (o := ⟨.type "code", none, .fields #[.str (S "__init__") 370, .str (S "Markers.__init__") 371, .str (S "/claim/cut.py") 372, .int 86 0, .int 1 0, .int 0 0, .int 0 0, .int 3 0, .ref 148, .bool true, .int 181 0, .ref 149, .none, .ref 150, .ref 151, .ref 152, .int 374 0, .int 86 0, .str (S "/claim/cut.py") 375], #[]⟩) (by kernel_rfl)) (by kernel_rfl)
theorem F_Markers_init : FnOk f_Markers_init (mAt 8 0) (S "Markers.__init__") 153 (.none) (.str (S "emacs.markers") 356) [S "self"] [] [] :=
  fn_of look_Markers_init code_Markers_init (fun w s X vs h => by obtain ⟨a, rfl⟩ := lv1 h; exact ⟨[], .nil, BindsTo.of_eq (by kernel_rfl)⟩) (by kernel_rfl)
theorem look_Markers_numbers (P : Params) : (KK P).lookup f_Markers_numbers = some ⟨.type "function", none, .func (fnS (mAt 8 1) (S "Markers.numbers") (.none) (.str (S "emacs.markers") 356) (.ref 160)), #[]⟩ := look_at (i := 49) (by kernel_rfl)
theorem code_Markers_numbers (P : Params) : codeIn (KK P) (.ref 160) (S "Markers.numbers") = true := code_of (look_at (i := 50) (o := ⟨.type "code", none, .fields #[.str (S "numbers") 377, .str (S "Markers.numbers") 378, .str (S "/claim/cut.py") 379, .int 89 0, .int 1 0, .int 0 0, .int 0 0, .int 3 0, .ref 155, .bool true, .int 181 0, .ref 156, .none, .ref 157, .ref 158, .ref 159, .int 381 0, .int 89 0, .str (S "/claim/cut.py") 382], #[]⟩) (by kernel_rfl)) (by kernel_rfl)
theorem F_Markers_numbers : FnOk f_Markers_numbers (mAt 8 1) (S "Markers.numbers") 160 (.none) (.str (S "emacs.markers") 356) [S "self"] [] [] :=
  fn_of look_Markers_numbers code_Markers_numbers (fun w s X vs h => by obtain ⟨a, rfl⟩ := lv1 h; exact ⟨[], .nil, BindsTo.of_eq (by kernel_rfl)⟩) (by kernel_rfl)
theorem look_Markers_within (P : Params) : (KK P).lookup f_Markers_within = some ⟨.type "function", none, .func (fnS (mAt 8 4) (S "Markers.within") (.none) (.str (S "emacs.markers") 356) (.ref 181)), #[]⟩ := look_at (i := 51) (by kernel_rfl)
theorem code_Markers_within (P : Params) : codeIn (KK P) (.ref 181) (S "Markers.within") = true := code_of (look_at (i := 52) (o := ⟨.type "code", none, .fields #[.str (S "within") 401, .str (S "Markers.within") 402, .str (S "/claim/cut.py") 403, .int 98 0, .int 3 0, .int 0 0, .int 0 0, .int 3 0, .ref 176, .bool true, .int 181 0, .ref 177, .none, .ref 178, .ref 179, .ref 180, .int 409 0, .int 98 0, .str (S "/claim/cut.py") 410], #[]⟩) (by kernel_rfl)) (by kernel_rfl)
theorem F_Markers_within : FnOk f_Markers_within (mAt 8 4) (S "Markers.within") 181 (.none) (.str (S "emacs.markers") 356) [S "self", S "start", S "end"] [S "found", S "number"] [] :=
  fn_of look_Markers_within code_Markers_within (fun w s X vs h => by obtain ⟨a, b, c, rfl⟩ := lv3 h; exact ⟨[], .nil, BindsTo.of_eq (by kernel_rfl)⟩) (by kernel_rfl)
theorem look_Markers_inserted (P : Params) : (KK P).lookup f_Markers_inserted = some ⟨.type "function", none, .func (fnS (mAt 8 5) (S "Markers.inserted") (.none) (.str (S "emacs.markers") 356) (.ref 188)), #[]⟩ := look_at (i := 53) (by kernel_rfl)
theorem code_Markers_inserted (P : Params) : codeIn (KK P) (.ref 188) (S "Markers.inserted") = true := code_of (look_at (i := 54) (o := ⟨.type "code", none, .fields #[.str (S "inserted") 412, .str (S "Markers.inserted") 413, .str (S "/claim/cut.py") 414, .int 105 0, .int 4 0, .int 0 0, .int 0 0, .int 3 0, .ref 183, .bool true, .int 181 0, .ref 184, .none, .ref 185, .ref 186, .ref 187, .int 421 0, .int 105 0, .str (S "/claim/cut.py") 422], #[]⟩) (by kernel_rfl)) (by kernel_rfl)
theorem F_Markers_inserted : FnOk f_Markers_inserted (mAt 8 5) (S "Markers.inserted") 188 (.none) (.str (S "emacs.markers") 356) [S "self", S "start", S "end", S "is_before"] [S "number", S "marker"] [] :=
  fn_of look_Markers_inserted code_Markers_inserted (fun w s X vs h => by obtain ⟨a, b, c, d, rfl⟩ := lv4 h; exact ⟨[], .nil, BindsTo.of_eq (by kernel_rfl)⟩) (by kernel_rfl)
theorem look_Markers_deleted (P : Params) : (KK P).lookup f_Markers_deleted = some ⟨.type "function", none, .func (fnS (mAt 8 6) (S "Markers.deleted") (.none) (.str (S "emacs.markers") 356) (.ref 195)), #[]⟩ := look_at (i := 55) (by kernel_rfl)
theorem code_Markers_deleted (P : Params) : codeIn (KK P) (.ref 195) (S "Markers.deleted") = true := code_of (look_at (i := 56) (o := ⟨.type "code", none, .fields #[.str (S "deleted") 424, .str (S "Markers.deleted") 425, .str (S "/claim/cut.py") 426, .int 111 0, .int 3 0, .int 0 0, .int 0 0, .int 3 0, .ref 190, .bool true, .int 181 0, .ref 191, .none, .ref 192, .ref 193, .ref 194, .int 432 0, .int 111 0, .str (S "/claim/cut.py") 433], #[]⟩) (by kernel_rfl)) (by kernel_rfl)
theorem F_Markers_deleted : FnOk f_Markers_deleted (mAt 8 6) (S "Markers.deleted") 195 (.none) (.str (S "emacs.markers") 356) [S "self", S "start", S "end"] [S "number", S "marker"] [] :=
  fn_of look_Markers_deleted code_Markers_deleted (fun w s X vs h => by obtain ⟨a, b, c, rfl⟩ := lv3 h; exact ⟨[], .nil, BindsTo.of_eq (by kernel_rfl)⟩) (by kernel_rfl)
theorem look_Buffer_init (P : Params) : (KK P).lookup f_Buffer_init = some ⟨.type "function", none, .func (fnS (mAt 12 0) (S "Buffer.__init__") (.ref 253) (.str (S "emacs.buffer") 498) (.ref 259)), #[]⟩ := look_at (i := 57) (by kernel_rfl)
theorem code_Buffer_init (P : Params) : codeIn (KK P) (.ref 259) (S "Buffer.__init__") = true := code_of (look_at (i := 58) (o := ⟨.type "code", none, .fields #[.str (S "__init__") 513, .str (S "Buffer.__init__") 514, .str (S "/claim/cut.py") 515, .int 135 0, .int 4 0, .int 0 0, .int 0 0, .int 3 0, .ref 254, .bool true, .int 181 0, .ref 255, .none, .ref 256, .ref 257, .ref 258, .int 520 0, .int 135 0, .str (S "/claim/cut.py") 521], #[]⟩) (by kernel_rfl)) (by kernel_rfl)
theorem F_Buffer_init : FnOk f_Buffer_init (mAt 12 0) (S "Buffer.__init__") 259 (.ref 253) (.str (S "emacs.buffer") 498) [S "self", S "number", S "name", S "room"] [] [.int 8] :=
  fn_of look_Buffer_init code_Buffer_init (fun w s X vs h => by obtain ⟨a, b, c, rfl⟩ := lv3 (Nat.succ.inj h); exact ⟨[.int 8 512], .cons ⟨512, rfl⟩ .nil, binds_K (T := 253) (o := ⟨.type "tuple", none, .seq #[.int 8 512] 0, #[]⟩) X rfl (look_at (i := 167) (by kernel_rfl)) rfl rfl (by kernel_rfl)⟩) (by kernel_rfl)
theorem look_Buffer_size (P : Params) : (KK P).lookup f_Buffer_size = some ⟨.type "function", none, .func (fnS (mAt 12 5) (S "Buffer.size") (.none) (.str (S "emacs.buffer") 498) (.ref 294)), #[]⟩ := look_at (i := 59) (by kernel_rfl)
theorem code_Buffer_size (P : Params) : codeIn (KK P) (.ref 294) (S "Buffer.size") = true := code_of (look_at (i := 60) (o := ⟨.type "code", none, .fields #[.str (S "size") 551, .str (S "Buffer.size") 552, .str (S "/claim/cut.py") 553, .int 169 0, .int 1 0, .int 0 0, .int 0 0, .int 3 0, .ref 289, .bool true, .int 181 0, .ref 290, .none, .ref 291, .ref 292, .ref 293, .int 555 0, .int 169 0, .str (S "/claim/cut.py") 556], #[]⟩) (by kernel_rfl)) (by kernel_rfl)
theorem F_Buffer_size : FnOk f_Buffer_size (mAt 12 5) (S "Buffer.size") 294 (.none) (.str (S "emacs.buffer") 498) [S "self"] [] [] :=
  fn_of look_Buffer_size code_Buffer_size (fun w s X vs h => by obtain ⟨a, rfl⟩ := lv1 h; exact ⟨[], .nil, BindsTo.of_eq (by kernel_rfl)⟩) (by kernel_rfl)
theorem look_Buffer_codes (P : Params) : (KK P).lookup f_Buffer_codes = some ⟨.type "function", none, .func (fnS (mAt 12 7) (S "Buffer.codes") (.none) (.str (S "emacs.buffer") 498) (.ref 308)), #[]⟩ := look_at (i := 61) (by kernel_rfl)
theorem code_Buffer_codes (P : Params) : codeIn (KK P) (.ref 308) (S "Buffer.codes") = true := code_of (look_at (i := 62) (o := ⟨.type "code", none, .fields #[.str (S "codes") 566, .str (S "Buffer.codes") 567, .str (S "/claim/cut.py") 568, .int 175 0, .int 3 0, .int 0 0, .int 0 0, .int 3 0, .ref 303, .bool true, .int 181 0, .ref 304, .none, .ref 305, .ref 306, .ref 307, .int 572 0, .int 175 0, .str (S "/claim/cut.py") 573], #[]⟩) (by kernel_rfl)) (by kernel_rfl)
theorem F_Buffer_codes : FnOk f_Buffer_codes (mAt 12 7) (S "Buffer.codes") 308 (.none) (.str (S "emacs.buffer") 498) [S "self", S "start", S "end"] [] [] :=
  fn_of look_Buffer_codes code_Buffer_codes (fun w s X vs h => by obtain ⟨a, b, c, rfl⟩ := lv3 h; exact ⟨[], .nil, BindsTo.of_eq (by kernel_rfl)⟩) (by kernel_rfl)
theorem look_Buffer_goto (P : Params) : (KK P).lookup f_Buffer_goto = some ⟨.type "function", none, .func (fnS (mAt 12 8) (S "Buffer.goto") (.none) (.str (S "emacs.buffer") 498) (.ref 315)), #[]⟩ := look_at (i := 63) (by kernel_rfl)
theorem code_Buffer_goto (P : Params) : codeIn (KK P) (.ref 315) (S "Buffer.goto") = true := code_of (look_at (i := 64) (o := ⟨.type "code", none, .fields #[.str (S "goto") 575, .str (S "Buffer.goto") 576, .str (S "/claim/cut.py") 577, .int 178 0, .int 2 0, .int 0 0, .int 0 0, .int 3 0, .ref 310, .bool true, .int 181 0, .ref 311, .none, .ref 312, .ref 313, .ref 314, .int 580 0, .int 178 0, .str (S "/claim/cut.py") 581], #[]⟩) (by kernel_rfl)) (by kernel_rfl)
theorem F_Buffer_goto : FnOk f_Buffer_goto (mAt 12 8) (S "Buffer.goto") 315 (.none) (.str (S "emacs.buffer") 498) [S "self", S "place"] [] [] :=
  fn_of look_Buffer_goto code_Buffer_goto (fun w s X vs h => by obtain ⟨a, b, rfl⟩ := lv2 h; exact ⟨[], .nil, BindsTo.of_eq (by kernel_rfl)⟩) (by kernel_rfl)
theorem look_Buffer_is_modified (P : Params) : (KK P).lookup f_Buffer_is_modified = some ⟨.type "function", none, .func (fnS (mAt 12 10) (S "Buffer.is_modified") (.none) (.str (S "emacs.buffer") 498) (.ref 329)), #[]⟩ := look_at (i := 65) (by kernel_rfl)
theorem code_Buffer_is_modified (P : Params) : codeIn (KK P) (.ref 329) (S "Buffer.is_modified") = true := code_of (look_at (i := 66) (o := ⟨.type "code", none, .fields #[.str (S "is_modified") 590, .str (S "Buffer.is_modified") 591, .str (S "/claim/cut.py") 592, .int 185 0, .int 1 0, .int 0 0, .int 0 0, .int 3 0, .ref 324, .bool true, .int 181 0, .ref 325, .none, .ref 326, .ref 327, .ref 328, .int 594 0, .int 185 0, .str (S "/claim/cut.py") 595], #[]⟩) (by kernel_rfl)) (by kernel_rfl)
theorem F_Buffer_is_modified : FnOk f_Buffer_is_modified (mAt 12 10) (S "Buffer.is_modified") 329 (.none) (.str (S "emacs.buffer") 498) [S "self"] [] [] :=
  fn_of look_Buffer_is_modified code_Buffer_is_modified (fun w s X vs h => by obtain ⟨a, rfl⟩ := lv1 h; exact ⟨[], .nil, BindsTo.of_eq (by kernel_rfl)⟩) (by kernel_rfl)
theorem look_Buffer_set_modified (P : Params) : (KK P).lookup f_Buffer_set_modified = some ⟨.type "function", none, .func (fnS (mAt 12 11) (S "Buffer.set_modified") (.none) (.str (S "emacs.buffer") 498) (.ref 336)), #[]⟩ := look_at (i := 67) (by kernel_rfl)
theorem code_Buffer_set_modified (P : Params) : codeIn (KK P) (.ref 336) (S "Buffer.set_modified") = true := code_of (look_at (i := 68) (o := ⟨.type "code", none, .fields #[.str (S "set_modified") 597, .str (S "Buffer.set_modified") 598, .str (S "/claim/cut.py") 599, .int 188 0, .int 2 0, .int 0 0, .int 0 0, .int 3 0, .ref 331, .bool true, .int 181 0, .ref 332, .none, .ref 333, .ref 334, .ref 335, .int 602 0, .int 188 0, .str (S "/claim/cut.py") 603], #[]⟩) (by kernel_rfl)) (by kernel_rfl)
theorem F_Buffer_set_modified : FnOk f_Buffer_set_modified (mAt 12 11) (S "Buffer.set_modified") 336 (.none) (.str (S "emacs.buffer") 498) [S "self", S "is_so"] [] [] :=
  fn_of look_Buffer_set_modified code_Buffer_set_modified (fun w s X vs h => by obtain ⟨a, b, rfl⟩ := lv2 h; exact ⟨[], .nil, BindsTo.of_eq (by kernel_rfl)⟩) (by kernel_rfl)
theorem look_Buffer_touch (P : Params) : (KK P).lookup f_Buffer_touch = some ⟨.type "function", none, .func (fnS (mAt 12 12) (S "Buffer.touch") (.none) (.str (S "emacs.buffer") 498) (.ref 343)), #[]⟩ := look_at (i := 69) (by kernel_rfl)
theorem code_Buffer_touch (P : Params) : codeIn (KK P) (.ref 343) (S "Buffer.touch") = true := code_of (look_at (i := 70) (o := ⟨.type "code", none, .fields #[.str (S "touch") 605, .str (S "Buffer.touch") 606, .str (S "/claim/cut.py") 607, .int 194 0, .int 2 0, .int 0 0, .int 0 0, .int 3 0, .ref 338, .bool true, .int 181 0, .ref 339, .none, .ref 340, .ref 341, .ref 342, .int 610 0, .int 194 0, .str (S "/claim/cut.py") 611], #[]⟩) (by kernel_rfl)) (by kernel_rfl)
theorem F_Buffer_touch : FnOk f_Buffer_touch (mAt 12 12) (S "Buffer.touch") 343 (.none) (.str (S "emacs.buffer") 498) [S "self", S "are_codes"] [] [] :=
  fn_of look_Buffer_touch code_Buffer_touch (fun w s X vs h => by obtain ⟨a, b, rfl⟩ := lv2 h; exact ⟨[], .nil, BindsTo.of_eq (by kernel_rfl)⟩) (by kernel_rfl)
theorem look_LispSignal_init (P : Params) : (KK P).lookup f_LispSignal_init = some ⟨.type "function", none, .func (fnS (mAt 14 0) (S "LispSignal.__init__") (.none) (.str (S "emacs.errors") 637) (.ref 362)), #[]⟩ := look_at (i := 71) (by kernel_rfl)
theorem code_LispSignal_init (P : Params) : codeIn (KK P) (.ref 362) (S "LispSignal.__init__") = true := code_of (look_at (i := 72) (o := ⟨.type "code", none, .fields #[.str (S "__init__") 651, .str (S "LispSignal.__init__") 652, .str (S "/claim/cut.py") 653, .int 201 0, .int 3 0, .int 0 0, .int 0 0, .int 3 0, .ref 357, .bool true, .int 181 0, .ref 358, .none, .ref 359, .ref 360, .ref 361, .int 657 0, .int 201 0, .str (S "/claim/cut.py") 658], #[]⟩) (by kernel_rfl)) (by kernel_rfl)
theorem F_LispSignal_init : FnOk f_LispSignal_init (mAt 14 0) (S "LispSignal.__init__") 362 (.none) (.str (S "emacs.errors") 637) [S "self", S "symbol", S "data"] [] [] :=
  fn_of look_LispSignal_init code_LispSignal_init (fun w s X vs h => by obtain ⟨a, b, c, rfl⟩ := lv3 h; exact ⟨[], .nil, BindsTo.of_eq (by kernel_rfl)⟩) (by kernel_rfl)
theorem look_need_writable (P : Params) : (KK P).lookup f_need_writable = some ⟨.type "function", none, .func (fnS (stAt 17) (S "need_writable") (.none) (.str (S "emacs.editing") 670) (.ref 375)), #[]⟩ := look_at (i := 73) (by kernel_rfl)
theorem code_need_writable (P : Params) : codeIn (KK P) (.ref 375) (S "need_writable") = true := code_of (look_at (i := 74) (o := ⟨.type "code", none, .fields #[.str (S "need_writable") 676, .str (S "need_writable") 677, .str (S "/claim/cut.py") 678, .int 206 0, .int 1 0, .int 0 0, .int 0 0, .int 3 0, .ref 370, .bool true, .int 181 0, .ref 371, .none, .ref 372, .ref 373, .ref 374, .int 680 0, .int 206 0, .str (S "/claim/cut.py") 681], #[]⟩) (by kernel_rfl)) (by kernel_rfl)
theorem keep_need_writable (P : Params) : keepIn (KK P) (.ref f_need_writable) = true := keep_of (look_need_writable P)
theorem F_need_writable : FnOk f_need_writable (stAt 17) (S "need_writable") 375 (.none) (.str (S "emacs.editing") 670) [S "buffer"] [] [] :=
  fn_of look_need_writable code_need_writable (fun w s X vs h => by obtain ⟨a, rfl⟩ := lv1 h; exact ⟨[], .nil, BindsTo.of_eq (by kernel_rfl)⟩) (by kernel_rfl)
theorem look_need_room (P : Params) : (KK P).lookup f_need_room = some ⟨.type "function", none, .func (fnS (stAt 18) (S "need_room") (.none) (.str (S "emacs.editing") 670) (.ref 382)), #[]⟩ := look_at (i := 75) (by kernel_rfl)
theorem code_need_room (P : Params) : codeIn (KK P) (.ref 382) (S "need_room") = true := code_of (look_at (i := 76) (o := ⟨.type "code", none, .fields #[.str (S "need_room") 683, .str (S "need_room") 684, .str (S "/claim/cut.py") 685, .int 209 0, .int 2 0, .int 0 0, .int 0 0, .int 3 0, .ref 377, .bool true, .int 181 0, .ref 378, .none, .ref 379, .ref 380, .ref 381, .int 688 0, .int 209 0, .str (S "/claim/cut.py") 689], #[]⟩) (by kernel_rfl)) (by kernel_rfl)
theorem keep_need_room (P : Params) : keepIn (KK P) (.ref f_need_room) = true := keep_of (look_need_room P)
theorem F_need_room : FnOk f_need_room (stAt 18) (S "need_room") 382 (.none) (.str (S "emacs.editing") 670) [S "buffer", S "growth"] [] [] :=
  fn_of look_need_room code_need_room (fun w s X vs h => by obtain ⟨a, b, rfl⟩ := lv2 h; exact ⟨[], .nil, BindsTo.of_eq (by kernel_rfl)⟩) (by kernel_rfl)
theorem look_reached (P : Params) : (KK P).lookup f_reached = some ⟨.type "function", none, .func (fnS (stAt 19) (S "reached") (.none) (.str (S "emacs.editing") 670) (.ref 389)), #[]⟩ := look_at (i := 77) (by kernel_rfl)
theorem code_reached (P : Params) : codeIn (KK P) (.ref 389) (S "reached") = true := code_of (look_at (i := 78) (o := ⟨.type "code", none, .fields #[.str (S "reached") 691, .str (S "reached") 692, .str (S "/claim/cut.py") 693, .int 212 0, .int 3 0, .int 0 0, .int 0 0, .int 3 0, .ref 384, .bool true, .int 181 0, .ref 385, .none, .ref 386, .ref 387, .ref 388, .int 699 0, .int 212 0, .str (S "/claim/cut.py") 700], #[]⟩) (by kernel_rfl)) (by kernel_rfl)
theorem keep_reached (P : Params) : keepIn (KK P) (.ref f_reached) = true := keep_of (look_reached P)
theorem F_reached : FnOk f_reached (stAt 19) (S "reached") 389 (.none) (.str (S "emacs.editing") 670) [S "buffer", S "start", S "end"] [S "low", S "high"] [] :=
  fn_of look_reached code_reached (fun w s X vs h => by obtain ⟨a, b, c, rfl⟩ := lv3 h; exact ⟨[], .nil, BindsTo.of_eq (by kernel_rfl)⟩) (by kernel_rfl)
theorem look_tell_ahead (P : Params) : (KK P).lookup f_tell_ahead = some ⟨.type "function", none, .func (fnS (stAt 20) (S "tell_ahead") (.none) (.str (S "emacs.editing") 670) (.ref 396)), #[]⟩ := look_at (i := 79) (by kernel_rfl)
theorem code_tell_ahead (P : Params) : codeIn (KK P) (.ref 396) (S "tell_ahead") = true := code_of (look_at (i := 80) (o := ⟨.type "code", none, .fields #[.str (S "tell_ahead") 702, .str (S "tell_ahead") 703, .str (S "/claim/cut.py") 704, .int 217 0, .int 3 0, .int 0 0, .int 0 0, .int 3 0, .ref 391, .bool true, .int 181 0, .ref 392, .none, .ref 393, .ref 394, .ref 395, .int 709 0, .int 217 0, .str (S "/claim/cut.py") 710], #[]⟩) (by kernel_rfl)) (by kernel_rfl)
theorem keep_tell_ahead (P : Params) : keepIn (KK P) (.ref f_tell_ahead) = true := keep_of (look_tell_ahead P)
theorem F_tell_ahead : FnOk f_tell_ahead (stAt 20) (S "tell_ahead") 396 (.none) (.str (S "emacs.editing") 670) [S "buffer", S "start", S "end"] [S "listener"] [] :=
  fn_of look_tell_ahead code_tell_ahead (fun w s X vs h => by obtain ⟨a, b, c, rfl⟩ := lv3 h; exact ⟨[], .nil, BindsTo.of_eq (by kernel_rfl)⟩) (by kernel_rfl)
theorem look_tell_behind (P : Params) : (KK P).lookup f_tell_behind = some ⟨.type "function", none, .func (fnS (stAt 21) (S "tell_behind") (.none) (.str (S "emacs.editing") 670) (.ref 403)), #[]⟩ := look_at (i := 81) (by kernel_rfl)
theorem code_tell_behind (P : Params) : codeIn (KK P) (.ref 403) (S "tell_behind") = true := code_of (look_at (i := 82) (o := ⟨.type "code", none, .fields #[.str (S "tell_behind") 712, .str (S "tell_behind") 713, .str (S "/claim/cut.py") 714, .int 220 0, .int 4 0, .int 0 0, .int 0 0, .int 3 0, .ref 398, .bool true, .int 181 0, .ref 399, .none, .ref 400, .ref 401, .ref 402, .int 720 0, .int 220 0, .str (S "/claim/cut.py") 721], #[]⟩) (by kernel_rfl)) (by kernel_rfl)
theorem keep_tell_behind (P : Params) : keepIn (KK P) (.ref f_tell_behind) = true := keep_of (look_tell_behind P)
theorem F_tell_behind : FnOk f_tell_behind (stAt 21) (S "tell_behind") 403 (.none) (.str (S "emacs.editing") 670) [S "buffer", S "start", S "end", S "old_length"] [S "listener"] [] :=
  fn_of look_tell_behind code_tell_behind (fun w s X vs h => by obtain ⟨a, b, c, d, rfl⟩ := lv4 h; exact ⟨[], .nil, BindsTo.of_eq (by kernel_rfl)⟩) (by kernel_rfl)
theorem look_text_out (P : Params) : (KK P).lookup f_text_out = some ⟨.type "function", none, .func (fnS (stAt 22) (S "text_out") (.none) (.str (S "emacs.editing") 670) (.ref 410)), #[]⟩ := look_at (i := 83) (by kernel_rfl)
theorem code_text_out (P : Params) : codeIn (KK P) (.ref 410) (S "text_out") = true := code_of (look_at (i := 84) (o := ⟨.type "code", none, .fields #[.str (S "text_out") 723, .str (S "text_out") 724, .str (S "/claim/cut.py") 725, .int 224 0, .int 3 0, .int 0 0, .int 0 0, .int 3 0, .ref 405, .bool true, .int 181 0, .ref 406, .none, .ref 407, .ref 408, .ref 409, .int 730 0, .int 224 0, .str (S "/claim/cut.py") 731], #[]⟩) (by kernel_rfl)) (by kernel_rfl)
theorem keep_text_out (P : Params) : keepIn (KK P) (.ref f_text_out) = true := keep_of (look_text_out P)
theorem F_text_out : FnOk f_text_out (stAt 22) (S "text_out") 410 (.none) (.str (S "emacs.editing") 670) [S "buffer", S "start", S "end"] [S "gone"] [] :=
  fn_of look_text_out code_text_out (fun w s X vs h => by obtain ⟨a, b, c, rfl⟩ := lv3 h; exact ⟨[], .nil, BindsTo.of_eq (by kernel_rfl)⟩) (by kernel_rfl)
theorem look_text_in (P : Params) : (KK P).lookup f_text_in = some ⟨.type "function", none, .func (fnS (stAt 23) (S "text_in") (.none) (.str (S "emacs.editing") 670) (.ref 417)), #[]⟩ := look_at (i := 85) (by kernel_rfl)
theorem code_text_in (P : Params) : codeIn (KK P) (.ref 417) (S "text_in") = true := code_of (look_at (i := 86) (o := ⟨.type "code", none, .fields #[.str (S "text_in") 733, .str (S "text_in") 734, .str (S "/claim/cut.py") 735, .int 232 0, .int 3 0, .int 0 0, .int 0 0, .int 3 0, .ref 412, .bool true, .int 181 0, .ref 413, .none, .ref 414, .ref 415, .ref 416, .int 739 0, .int 232 0, .str (S "/claim/cut.py") 740], #[]⟩) (by kernel_rfl)) (by kernel_rfl)
theorem keep_text_in (P : Params) : keepIn (KK P) (.ref f_text_in) = true := keep_of (look_text_in P)
theorem F_text_in : FnOk f_text_in (stAt 23) (S "text_in") 417 (.none) (.str (S "emacs.editing") 670) [S "buffer", S "place", S "codes"] [] [] :=
  fn_of look_text_in code_text_in (fun w s X vs h => by obtain ⟨a, b, c, rfl⟩ := lv3 h; exact ⟨[], .nil, BindsTo.of_eq (by kernel_rfl)⟩) (by kernel_rfl)
theorem look_hung_out (P : Params) : (KK P).lookup f_hung_out = some ⟨.type "function", none, .func (fnS (stAt 24) (S "hung_out") (.none) (.str (S "emacs.editing") 670) (.ref 424)), #[]⟩ := look_at (i := 87) (by kernel_rfl)
theorem code_hung_out (P : Params) : codeIn (KK P) (.ref 424) (S "hung_out") = true := code_of (look_at (i := 88) (o := ⟨.type "code", none, .fields #[.str (S "hung_out") 742, .str (S "hung_out") 743, .str (S "/claim/cut.py") 744, .int 239 0, .int 3 0, .int 0 0, .int 0 0, .int 3 0, .ref 419, .bool true, .int 181 0, .ref 420, .none, .ref 421, .ref 422, .ref 423, .int 748 0, .int 239 0, .str (S "/claim/cut.py") 749], #[]⟩) (by kernel_rfl)) (by kernel_rfl)
theorem keep_hung_out (P : Params) : keepIn (KK P) (.ref f_hung_out) = true := keep_of (look_hung_out P)
theorem F_hung_out : FnOk f_hung_out (stAt 24) (S "hung_out") 424 (.none) (.str (S "emacs.editing") 670) [S "buffer", S "start", S "end"] [] [] :=
  fn_of look_hung_out code_hung_out (fun w s X vs h => by obtain ⟨a, b, c, rfl⟩ := lv3 h; exact ⟨[], .nil, BindsTo.of_eq (by kernel_rfl)⟩) (by kernel_rfl)
theorem look_hung_in (P : Params) : (KK P).lookup f_hung_in = some ⟨.type "function", none, .func (fnS (stAt 25) (S "hung_in") (.none) (.str (S "emacs.editing") 670) (.ref 431)), #[]⟩ := look_at (i := 89) (by kernel_rfl)
theorem code_hung_in (P : Params) : codeIn (KK P) (.ref 431) (S "hung_in") = true := code_of (look_at (i := 90) (o := ⟨.type "code", none, .fields #[.str (S "hung_in") 751, .str (S "hung_in") 752, .str (S "/claim/cut.py") 753, .int 244 0, .int 4 0, .int 0 0, .int 0 0, .int 3 0, .ref 426, .bool true, .int 181 0, .ref 427, .none, .ref 428, .ref 429, .ref 430, .int 758 0, .int 244 0, .str (S "/claim/cut.py") 759], #[]⟩) (by kernel_rfl)) (by kernel_rfl)
theorem keep_hung_in (P : Params) : keepIn (KK P) (.ref f_hung_in) = true := keep_of (look_hung_in P)
theorem F_hung_in : FnOk f_hung_in (stAt 25) (S "hung_in") 431 (.none) (.str (S "emacs.editing") 670) [S "buffer", S "place", S "many", S "before_markers"] [] [] :=
  fn_of look_hung_in code_hung_in (fun w s X vs h => by obtain ⟨a, b, c, d, rfl⟩ := lv4 h; exact ⟨[], .nil, BindsTo.of_eq (by kernel_rfl)⟩) (by kernel_rfl)
theorem look_put_in (P : Params) : (KK P).lookup f_put_in = some ⟨.type "function", none, .func (fnS (stAt 26) (S "put_in") (.none) (.str (S "emacs.editing") 670) (.ref 438)), #[]⟩ := look_at (i := 91) (by kernel_rfl)
theorem code_put_in (P : Params) : codeIn (KK P) (.ref 438) (S "put_in") = true := code_of (look_at (i := 92) (o := ⟨.type "code", none, .fields #[.str (S "put_in") 761, .str (S "put_in") 762, .str (S "/claim/cut.py") 763, .int 249 0, .int 5 0, .int 0 0, .int 0 0, .int 3 0, .ref 433, .bool true, .int 181 0, .ref 434, .none, .ref 435, .ref 436, .ref 437, .int 769 0, .int 249 0, .str (S "/claim/cut.py") 770], #[]⟩) (by kernel_rfl)) (by kernel_rfl)
theorem keep_put_in (P : Params) : keepIn (KK P) (.ref f_put_in) = true := keep_of (look_put_in P)
theorem F_put_in : FnOk f_put_in (stAt 26) (S "put_in") 438 (.none) (.str (S "emacs.editing") 670) [S "buffer", S "place", S "codes", S "before_markers", S "is_point_behind"] [] [] :=
  fn_of look_put_in code_put_in (fun w s X vs h => by obtain ⟨a, b, c, d, e, rfl⟩ := lv5 h; exact ⟨[], .nil, BindsTo.of_eq (by kernel_rfl)⟩) (by kernel_rfl)
theorem look_insert (P : Params) : (KK P).lookup f_insert = some ⟨.type "function", none, .func (fnS (stAt 27) (S "insert") (.ref 440) (.str (S "emacs.editing") 670) (.ref 446)), #[]⟩ := look_at (i := 93) (by kernel_rfl)
theorem code_insert (P : Params) : codeIn (KK P) (.ref 446) (S "insert") = true := code_of (look_at (i := 94) (o := ⟨.type "code", none, .fields #[.str (S "insert") 772, .str (S "insert") 773, .str (S "/claim/cut.py") 774, .int 262 0, .int 3 0, .int 0 0, .int 0 0, .int 3 0, .ref 441, .bool true, .int 181 0, .ref 442, .none, .ref 443, .ref 444, .ref 445, .int 778 0, .int 262 0, .str (S "/claim/cut.py") 779], #[]⟩) (by kernel_rfl)) (by kernel_rfl)
theorem keep_insert (P : Params) : keepIn (KK P) (.ref f_insert) = true := keep_of (look_insert P)
theorem F_insert : FnOk f_insert (stAt 27) (S "insert") 446 (.ref 440) (.str (S "emacs.editing") 670) [S "buffer", S "codes", S "before_markers"] [] [.bool false] :=
  fn_of look_insert code_insert (fun w s X vs h => by obtain ⟨a, b, rfl⟩ := lv2 (Nat.succ.inj h); exact ⟨[.bool false], .cons ⟨0, rfl⟩ .nil, binds_K (T := 440) (o := ⟨.type "tuple", none, .seq #[.bool false] 0, #[]⟩) X rfl (look_at (i := 168) (by kernel_rfl)) rfl rfl (by kernel_rfl)⟩) (by kernel_rfl)
theorem look_delete (P : Params) : (KK P).lookup f_delete = some ⟨.type "function", none, .func (fnS (stAt 28) (S "delete") (.none) (.str (S "emacs.editing") 670) (.ref 453)), #[]⟩ := look_at (i := 95) (by kernel_rfl)
theorem code_delete (P : Params) : codeIn (KK P) (.ref 453) (S "delete") = true := code_of (look_at (i := 96) (o := ⟨.type "code", none, .fields #[.str (S "delete") 781, .str (S "delete") 782, .str (S "/claim/cut.py") 783, .int 264 0, .int 3 0, .int 0 0, .int 0 0, .int 3 0, .ref 448, .bool true, .int 181 0, .ref 449, .none, .ref 450, .ref 451, .ref 452, .int 790 0, .int 264 0, .str (S "/claim/cut.py") 791], #[]⟩) (by kernel_rfl)) (by kernel_rfl)
theorem keep_delete (P : Params) : keepIn (KK P) (.ref f_delete) = true := keep_of (look_delete P)
theorem F_delete : FnOk f_delete (stAt 28) (S "delete") 453 (.none) (.str (S "emacs.editing") 670) [S "buffer", S "start", S "end"] [S "low", S "high", S "gone"] [] :=
  fn_of look_delete code_delete (fun w s X vs h => by obtain ⟨a, b, c, rfl⟩ := lv3 h; exact ⟨[], .nil, BindsTo.of_eq (by kernel_rfl)⟩) (by kernel_rfl)
theorem look_Piece_init (P : Params) : (KK P).lookup f_Piece_init = some ⟨.type "function", none, .func (fnS (mAt 30 0) (S "Piece.__init__") (.none) (.str (S "emacs.pieces") 793) (.ref 467)), #[]⟩ := look_at (i := 97) (by kernel_rfl)
theorem code_Piece_init (P : Params) : codeIn (KK P) (.ref 467) (S "Piece.__init__") = true := code_of (look_at (i := 98) (o := ⟨.type "code", none, .fields #[.str (S "__init__") 807, .str (S "Piece.__init__") 808, .str (S "/claim/cut.py") 809, .int 278 0, .int 3 0, .int 0 0, .int 0 0, .int 3 0, .ref 462, .bool true, .int 181 0, .ref 463, .none, .ref 464, .ref 465, .ref 466, .int 813 0, .int 278 0, .str (S "/claim/cut.py") 814], #[]⟩) (by kernel_rfl)) (by kernel_rfl)
theorem F_Piece_init : FnOk f_Piece_init (mAt 30 0) (S "Piece.__init__") 467 (.none) (.str (S "emacs.pieces") 793) [S "self", S "codes", S "runs"] [] [] :=
  fn_of look_Piece_init code_Piece_init (fun w s X vs h => by obtain ⟨a, b, c, rfl⟩ := lv3 h; exact ⟨[], .nil, BindsTo.of_eq (by kernel_rfl)⟩) (by kernel_rfl)
theorem look_UndoList_init (P : Params) : (KK P).lookup f_UndoList_init = some ⟨.type "function", none, .func (fnS (mAt 33 0) (S "UndoList.__init__") (.none) (.str (S "emacs.undolist") 826) (.ref 489)), #[]⟩ := look_at (i := 99) (by kernel_rfl)
theorem code_UndoList_init (P : Params) : codeIn (KK P) (.ref 489) (S "UndoList.__init__") = true := code_of (look_at (i := 100) (o := ⟨.type "code", none, .fields #[.str (S "__init__") 842, .str (S "UndoList.__init__") 843, .str (S "/claim/cut.py") 844, .int 285 0, .int 1 0, .int 0 0, .int 0 0, .int 3 0, .ref 484, .bool true, .int 181 0, .ref 485, .none, .ref 486, .ref 487, .ref 488, .int 846 0, .int 285 0, .str (S "/claim/cut.py") 847], #[]⟩) (by kernel_rfl)) (by kernel_rfl)
theorem F_UndoList_init : FnOk f_UndoList_init (mAt 33 0) (S "UndoList.__init__") 489 (.none) (.str (S "emacs.undolist") 826) [S "self"] [] [] :=
  fn_of look_UndoList_init code_UndoList_init (fun w s X vs h => by obtain ⟨a, rfl⟩ := lv1 h; exact ⟨[], .nil, BindsTo.of_eq (by kernel_rfl)⟩) (by kernel_rfl)
theorem look_UndoList_count (P : Params) : (KK P).lookup f_UndoList_count = some ⟨.type "function", none, .func (fnS (mAt 33 1) (S "UndoList.count") (.none) (.str (S "emacs.undolist") 826) (.ref 496)), #[]⟩ := look_at (i := 101) (by kernel_rfl)
theorem code_UndoList_count (P : Params) : codeIn (KK P) (.ref 496) (S "UndoList.count") = true := code_of (look_at (i := 102) (o := ⟨.type "code", none, .fields #[.str (S "count") 849, .str (S "UndoList.count") 850, .str (S "/claim/cut.py") 851, .int 292 0, .int 1 0, .int 0 0, .int 0 0, .int 3 0, .ref 491, .bool true, .int 181 0, .ref 492, .none, .ref 493, .ref 494, .ref 495, .int 853 0, .int 292 0, .str (S "/claim/cut.py") 854], #[]⟩) (by kernel_rfl)) (by kernel_rfl)
theorem F_UndoList_count : FnOk f_UndoList_count (mAt 33 1) (S "UndoList.count") 496 (.none) (.str (S "emacs.undolist") 826) [S "self"] [] [] :=
  fn_of look_UndoList_count code_UndoList_count (fun w s X vs h => by obtain ⟨a, rfl⟩ := lv1 h; exact ⟨[], .nil, BindsTo.of_eq (by kernel_rfl)⟩) (by kernel_rfl)
theorem look_UndoList_is_at_boundary (P : Params) : (KK P).lookup f_UndoList_is_at_boundary = some ⟨.type "function", none, .func (fnS (mAt 33 2) (S "UndoList.is_at_boundary") (.none) (.str (S "emacs.undolist") 826) (.ref 503)), #[]⟩ := look_at (i := 103) (by kernel_rfl)
theorem code_UndoList_is_at_boundary (P : Params) : codeIn (KK P) (.ref 503) (S "UndoList.is_at_boundary") = true := code_of (look_at (i := 104) (o := ⟨.type "code", none, .fields #[.str (S "is_at_boundary") 856, .str (S "UndoList.is_at_boundary") 857, .str (S "/claim/cut.py") 858, .int 295 0, .int 1 0, .int 0 0, .int 0 0, .int 3 0, .ref 498, .bool true, .int 181 0, .ref 499, .none, .ref 500, .ref 501, .ref 502, .int 860 0, .int 295 0, .str (S "/claim/cut.py") 861], #[]⟩) (by kernel_rfl)) (by kernel_rfl)
theorem F_UndoList_is_at_boundary : FnOk f_UndoList_is_at_boundary (mAt 33 2) (S "UndoList.is_at_boundary") 503 (.none) (.str (S "emacs.undolist") 826) [S "self"] [] [] :=
  fn_of look_UndoList_is_at_boundary code_UndoList_is_at_boundary (fun w s X vs h => by obtain ⟨a, rfl⟩ := lv1 h; exact ⟨[], .nil, BindsTo.of_eq (by kernel_rfl)⟩) (by kernel_rfl)
theorem look_UndoList_boundary (P : Params) : (KK P).lookup f_UndoList_boundary = some ⟨.type "function", none, .func (fnS (mAt 33 3) (S "UndoList.boundary") (.none) (.str (S "emacs.undolist") 826) (.ref 510)), #[]⟩ := look_at (i := 105) (by kernel_rfl)
theorem code_UndoList_boundary (P : Params) : codeIn (KK P) (.ref 510) (S "UndoList.boundary") = true := code_of (look_at (i := 106) (o := ⟨.type "code", none, .fields #[.str (S "boundary") 863, .str (S "UndoList.boundary") 864, .str (S "/claim/cut.py") 865, .int 298 0, .int 1 0, .int 0 0, .int 0 0, .int 3 0, .ref 505, .bool true, .int 181 0, .ref 506, .none, .ref 507, .ref 508, .ref 509, .int 867 0, .int 298 0, .str (S "/claim/cut.py") 868], #[]⟩) (by kernel_rfl)) (by kernel_rfl)
theorem F_UndoList_boundary : FnOk f_UndoList_boundary (mAt 33 3) (S "UndoList.boundary") 510 (.none) (.str (S "emacs.undolist") 826) [S "self"] [] [] :=
  fn_of look_UndoList_boundary code_UndoList_boundary (fun w s X vs h => by obtain ⟨a, rfl⟩ := lv1 h; exact ⟨[], .nil, BindsTo.of_eq (by kernel_rfl)⟩) (by kernel_rfl)
theorem look_UndoList_begin_command (P : Params) : (KK P).lookup f_UndoList_begin_command = some ⟨.type "function", none, .func (fnS (mAt 33 4) (S "UndoList.begin_command") (.none) (.str (S "emacs.undolist") 826) (.ref 517)), #[]⟩ := look_at (i := 107) (by kernel_rfl)
theorem code_UndoList_begin_command (P : Params) : codeIn (KK P) (.ref 517) (S "UndoList.begin_command") = true := code_of (look_at (i := 108) (o := ⟨.type "code", none, .fields #[.str (S "begin_command") 870, .str (S "UndoList.begin_command") 871, .str (S "/claim/cut.py") 872, .int 302 0, .int 2 0, .int 0 0, .int 0 0, .int 3 0, .ref 512, .bool true, .int 181 0, .ref 513, .none, .ref 514, .ref 515, .ref 516, .int 875 0, .int 302 0, .str (S "/claim/cut.py") 876], #[]⟩) (by kernel_rfl)) (by kernel_rfl)
theorem F_UndoList_begin_command : FnOk f_UndoList_begin_command (mAt 33 4) (S "UndoList.begin_command") 517 (.none) (.str (S "emacs.undolist") 826) [S "self", S "point"] [] [] :=
  fn_of look_UndoList_begin_command code_UndoList_begin_command (fun w s X vs h => by obtain ⟨a, b, rfl⟩ := lv2 h; exact ⟨[], .nil, BindsTo.of_eq (by kernel_rfl)⟩) (by kernel_rfl)
theorem look_UndoList_note_state (P : Params) : (KK P).lookup f_UndoList_note_state = some ⟨.type "function", none, .func (fnS (mAt 33 5) (S "UndoList.note_state") (.none) (.str (S "emacs.undolist") 826) (.ref 524)), #[]⟩ := look_at (i := 109) (by kernel_rfl)
theorem code_UndoList_note_state (P : Params) : codeIn (KK P) (.ref 524) (S "UndoList.note_state") = true := code_of (look_at (i := 110) (o := ⟨.type "code", none, .fields #[.str (S "note_state") 878, .str (S "UndoList.note_state") 879, .str (S "/claim/cut.py") 880, .int 305 0, .int 3 0, .int 0 0, .int 0 0, .int 3 0, .ref 519, .bool true, .int 181 0, .ref 520, .none, .ref 521, .ref 522, .ref 523, .int 884 0, .int 305 0, .str (S "/claim/cut.py") 885], #[]⟩) (by kernel_rfl)) (by kernel_rfl)
theorem F_UndoList_note_state : FnOk f_UndoList_note_state (mAt 33 5) (S "UndoList.note_state") 524 (.none) (.str (S "emacs.undolist") 826) [S "self", S "is_modified", S "tick"] [] [] :=
  fn_of look_UndoList_note_state code_UndoList_note_state (fun w s X vs h => by obtain ⟨a, b, c, rfl⟩ := lv3 h; exact ⟨[], .nil, BindsTo.of_eq (by kernel_rfl)⟩) (by kernel_rfl)
theorem look_UndoList_note_begin (P : Params) : (KK P).lookup f_UndoList_note_begin = some ⟨.type "function", none, .func (fnS (mAt 33 6) (S "UndoList.note_begin") (.none) (.str (S "emacs.undolist") 826) (.ref 531)), #[]⟩ := look_at (i := 111) (by kernel_rfl)
theorem code_UndoList_note_begin (P : Params) : codeIn (KK P) (.ref 531) (S "UndoList.note_begin") = true := code_of (look_at (i := 112) (o := ⟨.type "code", none, .fields #[.str (S "note_begin") 887, .str (S "UndoList.note_begin") 888, .str (S "/claim/cut.py") 889, .int 310 0, .int 4 0, .int 0 0, .int 0 0, .int 3 0, .ref 526, .bool true, .int 181 0, .ref 527, .none, .ref 528, .ref 529, .ref 530, .int 895 0, .int 310 0, .str (S "/claim/cut.py") 896], #[]⟩) (by kernel_rfl)) (by kernel_rfl)
theorem F_UndoList_note_begin : FnOk f_UndoList_note_begin (mAt 33 6) (S "UndoList.note_begin") 531 (.none) (.str (S "emacs.undolist") 826) [S "self", S "start", S "is_modified", S "tick"] [S "is_first"] [] :=
  fn_of look_UndoList_note_begin code_UndoList_note_begin (fun w s X vs h => by obtain ⟨a, b, c, d, rfl⟩ := lv4 h; exact ⟨[], .nil, BindsTo.of_eq (by kernel_rfl)⟩) (by kernel_rfl)
theorem look_UndoList_note_insert (P : Params) : (KK P).lookup f_UndoList_note_insert = some ⟨.type "function", none, .func (fnS (mAt 33 7) (S "UndoList.note_insert") (.none) (.str (S "emacs.undolist") 826) (.ref 538)), #[]⟩ := look_at (i := 113) (by kernel_rfl)
theorem code_UndoList_note_insert (P : Params) : codeIn (KK P) (.ref 538) (S "UndoList.note_insert") = true := code_of (look_at (i := 114) (o := ⟨.type "code", none, .fields #[.str (S "note_insert") 898, .str (S "UndoList.note_insert") 899, .str (S "/claim/cut.py") 900, .int 316 0, .int 6 0, .int 0 0, .int 0 0, .int 3 0, .ref 533, .bool true, .int 181 0, .ref 534, .none, .ref 535, .ref 536, .ref 537, .int 908 0, .int 316 0, .str (S "/claim/cut.py") 909], #[]⟩) (by kernel_rfl)) (by kernel_rfl)
theorem F_UndoList_note_insert : FnOk f_UndoList_note_insert (mAt 33 7) (S "UndoList.note_insert") 538 (.none) (.str (S "emacs.undolist") 826) [S "self", S "start", S "many", S "point", S "is_modified", S "tick"] [S "last"] [] :=
  fn_of look_UndoList_note_insert code_UndoList_note_insert (fun w s X vs h => by obtain ⟨a, b, c, d, e, f, rfl⟩ := lv6 h; exact ⟨[], .nil, BindsTo.of_eq (by kernel_rfl)⟩) (by kernel_rfl)
theorem look_UndoList_note_delete (P : Params) : (KK P).lookup f_UndoList_note_delete = some ⟨.type "function", none, .func (fnS (mAt 33 8) (S "UndoList.note_delete") (.none) (.str (S "emacs.undolist") 826) (.ref 545)), #[]⟩ := look_at (i := 115) (by kernel_rfl)
theorem code_UndoList_note_delete (P : Params) : codeIn (KK P) (.ref 545) (S "UndoList.note_delete") = true := code_of (look_at (i := 116) (o := ⟨.type "code", none, .fields #[.str (S "note_delete") 911, .str (S "UndoList.note_delete") 912, .str (S "/claim/cut.py") 913, .int 326 0, .int 7 0, .int 0 0, .int 0 0, .int 3 0, .ref 540, .bool true, .int 181 0, .ref 541, .none, .ref 542, .ref 543, .ref 544, .int 923 0, .int 326 0, .str (S "/claim/cut.py") 924], #[]⟩) (by kernel_rfl)) (by kernel_rfl)
theorem F_UndoList_note_delete : FnOk f_UndoList_note_delete (mAt 33 8) (S "UndoList.note_delete") 545 (.none) (.str (S "emacs.undolist") 826) [S "self", S "start", S "piece", S "point", S "markers", S "is_modified", S "tick"] [S "marker", S "distance"] [] :=
  fn_of look_UndoList_note_delete code_UndoList_note_delete (fun w s X vs h => by obtain ⟨a, b, c, d, e, f, g, rfl⟩ := lv7 h; exact ⟨[], .nil, BindsTo.of_eq (by kernel_rfl)⟩) (by kernel_rfl)
theorem look_UndoList_renew_unmodified (P : Params) : (KK P).lookup f_UndoList_renew_unmodified = some ⟨.type "function", none, .func (fnS (mAt 33 10) (S "UndoList.renew_unmodified") (.none) (.str (S "emacs.undolist") 826) (.ref 557)), #[]⟩ := look_at (i := 117) (by kernel_rfl)
theorem code_UndoList_renew_unmodified (P : Params) : codeIn (KK P) (.ref 557) (S "UndoList.renew_unmodified") = true := code_of (look_at (i := 118) (o := ⟨.type "code", none, .fields #[.str (S "renew_unmodified") 939, .str (S "UndoList.renew_unmodified") 940, .str (S "/claim/cut.py") 941, .int 340 0, .int 3 0, .int 0 0, .int 0 0, .int 3 0, .ref 554, .bool true, .int 181 0, .ref 555, .none, .none, .none, .ref 556, .int 942 0, .int 340 0, .str (S "/claim/cut.py") 943], #[]⟩) (by kernel_rfl)) (by kernel_rfl)
theorem look_Recording_init (P : Params) : (KK P).lookup f_Recording_init = some ⟨.type "function", none, .func (fnS (mAt 36 0) (S "Recording.__init__") (.none) (.str (S "emacs.recording") 975) (.ref 592)), #[]⟩ := look_at (i := 119) (by kernel_rfl)
theorem code_Recording_init (P : Params) : codeIn (KK P) (.ref 592) (S "Recording.__init__") = true := code_of (look_at (i := 120) (o := ⟨.type "code", none, .fields #[.str (S "__init__") 989, .str (S "Recording.__init__") 990, .str (S "/claim/cut.py") 991, .int 353 0, .int 1 0, .int 0 0, .int 0 0, .int 3 0, .ref 587, .bool true, .int 181 0, .ref 588, .none, .ref 589, .ref 590, .ref 591, .int 993 0, .int 353 0, .str (S "/claim/cut.py") 994], #[]⟩) (by kernel_rfl)) (by kernel_rfl)
theorem F_Recording_init : FnOk f_Recording_init (mAt 36 0) (S "Recording.__init__") 592 (.none) (.str (S "emacs.recording") 975) [S "self"] [] [] :=
  fn_of look_Recording_init code_Recording_init (fun w s X vs h => by obtain ⟨a, rfl⟩ := lv1 h; exact ⟨[], .nil, BindsTo.of_eq (by kernel_rfl)⟩) (by kernel_rfl)
theorem look_Recording_text_comes (P : Params) : (KK P).lookup f_Recording_text_comes = some ⟨.type "function", none, .func (fnS (mAt 36 1) (S "Recording.text_comes") (.none) (.str (S "emacs.recording") 975) (.ref 599)), #[]⟩ := look_at (i := 121) (by kernel_rfl)
theorem code_Recording_text_comes (P : Params) : codeIn (KK P) (.ref 599) (S "Recording.text_comes") = true := code_of (look_at (i := 122) (o := ⟨.type "code", none, .fields #[.str (S "text_comes") 996, .str (S "Recording.text_comes") 997, .str (S "/claim/cut.py") 998, .int 356 0, .int 4 0, .int 0 0, .int 0 0, .int 3 0, .ref 594, .bool true, .int 181 0, .ref 595, .none, .ref 596, .ref 597, .ref 598, .int 1003 0, .int 356 0, .str (S "/claim/cut.py") 1004], #[]⟩) (by kernel_rfl)) (by kernel_rfl)
theorem F_Recording_text_comes : FnOk f_Recording_text_comes (mAt 36 1) (S "Recording.text_comes") 599 (.none) (.str (S "emacs.recording") 975) [S "self", S "buffer", S "start", S "many"] [] [] :=
  fn_of look_Recording_text_comes code_Recording_text_comes (fun w s X vs h => by obtain ⟨a, b, c, d, rfl⟩ := lv4 h; exact ⟨[], .nil, BindsTo.of_eq (by kernel_rfl)⟩) (by kernel_rfl)
theorem look_Recording_text_goes (P : Params) : (KK P).lookup f_Recording_text_goes = some ⟨.type "function", none, .func (fnS (mAt 36 2) (S "Recording.text_goes") (.none) (.str (S "emacs.recording") 975) (.ref 604)), #[]⟩ := look_at (i := 123) (by kernel_rfl)
theorem code_Recording_text_goes (P : Params) : codeIn (KK P) (.ref 604) (S "Recording.text_goes") = true := code_of (look_at (i := 124) (o := ⟨.type "code", none, .fields #[.str (S "text_goes") 1006, .str (S "Recording.text_goes") 1007, .str (S "/claim/cut.py") 1008, .int 359 0, .int 4 0, .int 0 0, .int 0 0, .int 3 0, .ref 601, .bool true, .int 181 0, .ref 602, .none, .none, .none, .ref 603, .int 1009 0, .int 359 0, .str (S "/claim/cut.py") 1010], #[]⟩) (by kernel_rfl)) (by kernel_rfl)
theorem look_insert_piece (P : Params) : (KK P).lookup f_insert_piece = some ⟨.type "function", none, .func (fnS (stAt 45) (S "insert_piece") (.none) (.str (S "emacs.piecing") 1077) (.ref 661)), #[]⟩ := look_at (i := 125) (by kernel_rfl)
theorem code_insert_piece (P : Params) : codeIn (KK P) (.ref 661) (S "insert_piece") = true := code_of (look_at (i := 126) (o := ⟨.type "code", none, .fields #[.str (S "insert_piece") 1085, .str (S "insert_piece") 1086, .str (S "/claim/cut.py") 1087, .int 397 0, .int 2 0, .int 0 0, .int 0 0, .int 3 0, .ref 658, .bool true, .int 181 0, .ref 659, .none, .none, .none, .ref 660, .int 1088 0, .int 397 0, .str (S "/claim/cut.py") 1089], #[]⟩) (by kernel_rfl)) (by kernel_rfl)
theorem keep_insert_piece (P : Params) : keepIn (KK P) (.ref f_insert_piece) = true := keep_of (look_insert_piece P)
theorem look_need_visible (P : Params) : (KK P).lookup f_need_visible = some ⟨.type "function", none, .func (fnS (stAt 49) (S "need_visible") (.none) (.str (S "emacs.primundo") 1107) (.ref 680)), #[]⟩ := look_at (i := 127) (by kernel_rfl)
theorem code_need_visible (P : Params) : codeIn (KK P) (.ref 680) (S "need_visible") = true := code_of (look_at (i := 128) (o := ⟨.type "code", none, .fields #[.str (S "need_visible") 1109, .str (S "need_visible") 1110, .str (S "/claim/cut.py") 1111, .int 431 0, .int 3 0, .int 0 0, .int 0 0, .int 3 0, .ref 675, .bool true, .int 181 0, .ref 676, .none, .ref 677, .ref 678, .ref 679, .int 1115 0, .int 431 0, .str (S "/claim/cut.py") 1116], #[]⟩) (by kernel_rfl)) (by kernel_rfl)
theorem keep_need_visible (P : Params) : keepIn (KK P) (.ref f_need_visible) = true := keep_of (look_need_visible P)
theorem F_need_visible : FnOk f_need_visible (stAt 49) (S "need_visible") 680 (.none) (.str (S "emacs.primundo") 1107) [S "buffer", S "start", S "end"] [] [] :=
  fn_of look_need_visible code_need_visible (fun w s X vs h => by obtain ⟨a, b, c, rfl⟩ := lv3 h; exact ⟨[], .nil, BindsTo.of_eq (by kernel_rfl)⟩) (by kernel_rfl)
theorem look_markers_ahead (P : Params) : (KK P).lookup f_markers_ahead = some ⟨.type "function", none, .func (fnS (stAt 50) (S "markers_ahead") (.none) (.str (S "emacs.primundo") 1107) (.ref 687)), #[]⟩ := look_at (i := 129) (by kernel_rfl)
theorem code_markers_ahead (P : Params) : codeIn (KK P) (.ref 687) (S "markers_ahead") = true := code_of (look_at (i := 130) (o := ⟨.type "code", none, .fields #[.str (S "markers_ahead") 1118, .str (S "markers_ahead") 1119, .str (S "/claim/cut.py") 1120, .int 434 0, .int 2 0, .int 0 0, .int 0 0, .int 3 0, .ref 682, .bool true, .int 181 0, .ref 683, .none, .ref 684, .ref 685, .ref 686, .int 1124 0, .int 434 0, .str (S "/claim/cut.py") 1125], #[]⟩) (by kernel_rfl)) (by kernel_rfl)
theorem keep_markers_ahead (P : Params) : keepIn (KK P) (.ref f_markers_ahead) = true := keep_of (look_markers_ahead P)
theorem F_markers_ahead : FnOk f_markers_ahead (stAt 50) (S "markers_ahead") 687 (.none) (.str (S "emacs.primundo") 1107) [S "rows", S "at"] [S "found"] [] :=
  fn_of look_markers_ahead code_markers_ahead (fun w s X vs h => by obtain ⟨a, b, rfl⟩ := lv2 h; exact ⟨[], .nil, BindsTo.of_eq (by kernel_rfl)⟩) (by kernel_rfl)
theorem look_undo_insert (P : Params) : (KK P).lookup f_undo_insert = some ⟨.type "function", none, .func (fnS (stAt 51) (S "undo_insert") (.none) (.str (S "emacs.primundo") 1107) (.ref 694)), #[]⟩ := look_at (i := 131) (by kernel_rfl)
theorem code_undo_insert (P : Params) : codeIn (KK P) (.ref 694) (S "undo_insert") = true := code_of (look_at (i := 132) (o := ⟨.type "code", none, .fields #[.str (S "undo_insert") 1127, .str (S "undo_insert") 1128, .str (S "/claim/cut.py") 1129, .int 440 0, .int 2 0, .int 0 0, .int 0 0, .int 3 0, .ref 689, .bool true, .int 181 0, .ref 690, .none, .ref 691, .ref 692, .ref 693, .int 1132 0, .int 440 0, .str (S "/claim/cut.py") 1133], #[]⟩) (by kernel_rfl)) (by kernel_rfl)
theorem keep_undo_insert (P : Params) : keepIn (KK P) (.ref f_undo_insert) = true := keep_of (look_undo_insert P)
theorem F_undo_insert : FnOk f_undo_insert (stAt 51) (S "undo_insert") 694 (.none) (.str (S "emacs.primundo") 1107) [S "buffer", S "row"] [] [] :=
  fn_of look_undo_insert code_undo_insert (fun w s X vs h => by obtain ⟨a, b, rfl⟩ := lv2 h; exact ⟨[], .nil, BindsTo.of_eq (by kernel_rfl)⟩) (by kernel_rfl)
theorem look_undo_delete (P : Params) : (KK P).lookup f_undo_delete = some ⟨.type "function", none, .func (fnS (stAt 52) (S "undo_delete") (.none) (.str (S "emacs.primundo") 1107) (.ref 701)), #[]⟩ := look_at (i := 133) (by kernel_rfl)
theorem code_undo_delete (P : Params) : codeIn (KK P) (.ref 701) (S "undo_delete") = true := code_of (look_at (i := 134) (o := ⟨.type "code", none, .fields #[.str (S "undo_delete") 1135, .str (S "undo_delete") 1136, .str (S "/claim/cut.py") 1137, .int 444 0, .int 3 0, .int 0 0, .int 0 0, .int 3 0, .ref 696, .bool true, .int 181 0, .ref 697, .none, .ref 698, .ref 699, .ref 700, .int 1145 0, .int 444 0, .str (S "/claim/cut.py") 1146], #[]⟩) (by kernel_rfl)) (by kernel_rfl)
theorem keep_undo_delete (P : Params) : keepIn (KK P) (.ref f_undo_delete) = true := keep_of (look_undo_delete P)
theorem F_undo_delete : FnOk f_undo_delete (stAt 52) (S "undo_delete") 701 (.none) (.str (S "emacs.primundo") 1107) [S "buffer", S "row", S "marker_rows"] [S "valid", S "word", S "marker", S "distance"] [] :=
  fn_of look_undo_delete code_undo_delete (fun w s X vs h => by obtain ⟨a, b, c, rfl⟩ := lv3 h; exact ⟨[], .nil, BindsTo.of_eq (by kernel_rfl)⟩) (by kernel_rfl)
theorem look_undo_row (P : Params) : (KK P).lookup f_undo_row = some ⟨.type "function", none, .func (fnS (stAt 53) (S "undo_row") (.none) (.str (S "emacs.primundo") 1107) (.ref 708)), #[]⟩ := look_at (i := 135) (by kernel_rfl)
theorem code_undo_row (P : Params) : codeIn (KK P) (.ref 708) (S "undo_row") = true := code_of (look_at (i := 136) (o := ⟨.type "code", none, .fields #[.str (S "undo_row") 1148, .str (S "undo_row") 1149, .str (S "/claim/cut.py") 1150, .int 456 0, .int 3 0, .int 0 0, .int 0 0, .int 3 0, .ref 703, .bool true, .int 181 0, .ref 704, .none, .ref 705, .ref 706, .ref 707, .int 1156 0, .int 456 0, .str (S "/claim/cut.py") 1157], #[]⟩) (by kernel_rfl)) (by kernel_rfl)
theorem keep_undo_row (P : Params) : keepIn (KK P) (.ref f_undo_row) = true := keep_of (look_undo_row P)
theorem F_undo_row : FnOk f_undo_row (stAt 53) (S "undo_row") 708 (.none) (.str (S "emacs.primundo") 1107) [S "buffer", S "rows", S "at"] [S "row", S "marker_rows"] [] :=
  fn_of look_undo_row code_undo_row (fun w s X vs h => by obtain ⟨a, b, c, rfl⟩ := lv3 h; exact ⟨[], .nil, BindsTo.of_eq (by kernel_rfl)⟩) (by kernel_rfl)
theorem look_above_boundaries (P : Params) : (KK P).lookup f_above_boundaries = some ⟨.type "function", none, .func (fnS (stAt 54) (S "above_boundaries") (.none) (.str (S "emacs.primundo") 1107) (.ref 715)), #[]⟩ := look_at (i := 137) (by kernel_rfl)
theorem code_above_boundaries (P : Params) : codeIn (KK P) (.ref 715) (S "above_boundaries") = true := code_of (look_at (i := 138) (o := ⟨.type "code", none, .fields #[.str (S "above_boundaries") 1159, .str (S "above_boundaries") 1160, .str (S "/claim/cut.py") 1161, .int 475 0, .int 2 0, .int 0 0, .int 0 0, .int 3 0, .ref 710, .bool true, .int 181 0, .ref 711, .none, .ref 712, .ref 713, .ref 714, .int 1164 0, .int 475 0, .str (S "/claim/cut.py") 1165], #[]⟩) (by kernel_rfl)) (by kernel_rfl)
theorem keep_above_boundaries (P : Params) : keepIn (KK P) (.ref f_above_boundaries) = true := keep_of (look_above_boundaries P)
theorem F_above_boundaries : FnOk f_above_boundaries (stAt 54) (S "above_boundaries") 715 (.none) (.str (S "emacs.primundo") 1107) [S "rows", S "at"] [] [] :=
  fn_of look_above_boundaries code_above_boundaries (fun w s X vs h => by obtain ⟨a, b, rfl⟩ := lv2 h; exact ⟨[], .nil, BindsTo.of_eq (by kernel_rfl)⟩) (by kernel_rfl)
theorem look_undo_group (P : Params) : (KK P).lookup f_undo_group = some ⟨.type "function", none, .func (fnS (stAt 55) (S "undo_group") (.none) (.str (S "emacs.primundo") 1107) (.ref 722)), #[]⟩ := look_at (i := 139) (by kernel_rfl)
theorem code_undo_group (P : Params) : codeIn (KK P) (.ref 722) (S "undo_group") = true := code_of (look_at (i := 140) (o := ⟨.type "code", none, .fields #[.str (S "undo_group") 1167, .str (S "undo_group") 1168, .str (S "/claim/cut.py") 1169, .int 479 0, .int 3 0, .int 0 0, .int 0 0, .int 3 0, .ref 717, .bool true, .int 181 0, .ref 718, .none, .ref 719, .ref 720, .ref 721, .int 1173 0, .int 479 0, .str (S "/claim/cut.py") 1174], #[]⟩) (by kernel_rfl)) (by kernel_rfl)
theorem keep_undo_group (P : Params) : keepIn (KK P) (.ref f_undo_group) = true := keep_of (look_undo_group P)
theorem F_undo_group : FnOk f_undo_group (stAt 55) (S "undo_group") 722 (.none) (.str (S "emacs.primundo") 1107) [S "buffer", S "rows", S "at"] [] [] :=
  fn_of look_undo_group code_undo_group (fun w s X vs h => by obtain ⟨a, b, c, rfl⟩ := lv3 h; exact ⟨[], .nil, BindsTo.of_eq (by kernel_rfl)⟩) (by kernel_rfl)
theorem look_Undoing_init (P : Params) : (KK P).lookup f_Undoing_init = some ⟨.type "function", none, .func (fnS (mAt 58 0) (S "Undoing.__init__") (.none) (.str (S "emacs.undocommand") 1176) (.ref 736)), #[]⟩ := look_at (i := 141) (by kernel_rfl)
theorem code_Undoing_init (P : Params) : codeIn (KK P) (.ref 736) (S "Undoing.__init__") = true := code_of (look_at (i := 142) (o := ⟨.type "code", none, .fields #[.str (S "__init__") 1193, .str (S "Undoing.__init__") 1194, .str (S "/claim/cut.py") 1195, .int 488 0, .int 1 0, .int 0 0, .int 0 0, .int 3 0, .ref 731, .bool true, .int 181 0, .ref 732, .none, .ref 733, .ref 734, .ref 735, .int 1197 0, .int 488 0, .str (S "/claim/cut.py") 1198], #[]⟩) (by kernel_rfl)) (by kernel_rfl)
theorem F_Undoing_init : FnOk f_Undoing_init (mAt 58 0) (S "Undoing.__init__") 736 (.none) (.str (S "emacs.undocommand") 1176) [S "self"] [] [] :=
  fn_of look_Undoing_init code_Undoing_init (fun w s X vs h => by obtain ⟨a, rfl⟩ := lv1 h; exact ⟨[], .nil, BindsTo.of_eq (by kernel_rfl)⟩) (by kernel_rfl)
theorem look_trimmed_count (P : Params) : (KK P).lookup f_trimmed_count = some ⟨.type "function", none, .func (fnS (stAt 59) (S "trimmed_count") (.none) (.str (S "emacs.undocommand") 1176) (.ref 750)), #[]⟩ := look_at (i := 143) (by kernel_rfl)
theorem code_trimmed_count (P : Params) : codeIn (KK P) (.ref 750) (S "trimmed_count") = true := code_of (look_at (i := 144) (o := ⟨.type "code", none, .fields #[.str (S "trimmed_count") 1212, .str (S "trimmed_count") 1213, .str (S "/claim/cut.py") 1214, .int 493 0, .int 1 0, .int 0 0, .int 0 0, .int 3 0, .ref 745, .bool true, .int 181 0, .ref 746, .none, .ref 747, .ref 748, .ref 749, .int 1216 0, .int 493 0, .str (S "/claim/cut.py") 1217], #[]⟩) (by kernel_rfl)) (by kernel_rfl)
theorem keep_trimmed_count (P : Params) : keepIn (KK P) (.ref f_trimmed_count) = true := keep_of (look_trimmed_count P)
theorem F_trimmed_count : FnOk f_trimmed_count (stAt 59) (S "trimmed_count") 750 (.none) (.str (S "emacs.undocommand") 1176) [S "history"] [] [] :=
  fn_of look_trimmed_count code_trimmed_count (fun w s X vs h => by obtain ⟨a, rfl⟩ := lv1 h; exact ⟨[], .nil, BindsTo.of_eq (by kernel_rfl)⟩) (by kernel_rfl)
theorem look_last_was_undo (P : Params) : (KK P).lookup f_last_was_undo = some ⟨.type "function", none, .func (fnS (stAt 60) (S "last_was_undo") (.none) (.str (S "emacs.undocommand") 1176) (.ref 757)), #[]⟩ := look_at (i := 145) (by kernel_rfl)
theorem code_last_was_undo (P : Params) : codeIn (KK P) (.ref 757) (S "last_was_undo") = true := code_of (look_at (i := 146) (o := ⟨.type "code", none, .fields #[.str (S "last_was_undo") 1219, .str (S "last_was_undo") 1220, .str (S "/claim/cut.py") 1221, .int 495 0, .int 2 0, .int 0 0, .int 0 0, .int 3 0, .ref 752, .bool true, .int 181 0, .ref 753, .none, .ref 754, .ref 755, .ref 756, .int 1224 0, .int 495 0, .str (S "/claim/cut.py") 1225], #[]⟩) (by kernel_rfl)) (by kernel_rfl)
theorem keep_last_was_undo (P : Params) : keepIn (KK P) (.ref f_last_was_undo) = true := keep_of (look_last_was_undo P)
theorem F_last_was_undo : FnOk f_last_was_undo (stAt 60) (S "last_was_undo") 757 (.none) (.str (S "emacs.undocommand") 1176) [S "undoing", S "history"] [] [] :=
  fn_of look_last_was_undo code_last_was_undo (fun w s X vs h => by obtain ⟨a, b, rfl⟩ := lv2 h; exact ⟨[], .nil, BindsTo.of_eq (by kernel_rfl)⟩) (by kernel_rfl)
theorem look_drop_points (P : Params) : (KK P).lookup f_drop_points = some ⟨.type "function", none, .func (fnS (stAt 61) (S "drop_points") (.none) (.str (S "emacs.undocommand") 1176) (.ref 762)), #[]⟩ := look_at (i := 147) (by kernel_rfl)
theorem code_drop_points (P : Params) : codeIn (KK P) (.ref 762) (S "drop_points") = true := code_of (look_at (i := 148) (o := ⟨.type "code", none, .fields #[.str (S "drop_points") 1227, .str (S "drop_points") 1228, .str (S "/claim/cut.py") 1229, .int 497 0, .int 2 0, .int 0 0, .int 0 0, .int 3 0, .ref 759, .bool true, .int 181 0, .ref 760, .none, .none, .none, .ref 761, .int 1230 0, .int 497 0, .str (S "/claim/cut.py") 1231], #[]⟩) (by kernel_rfl)) (by kernel_rfl)
theorem keep_drop_points (P : Params) : keepIn (KK P) (.ref f_drop_points) = true := keep_of (look_drop_points P)
theorem F_drop_points : FnOk f_drop_points (stAt 61) (S "drop_points") 762 (.none) (.str (S "emacs.undocommand") 1176) [S "history", S "first"] [S "at"] [] :=
  fn_of look_drop_points code_drop_points (fun w s X vs h => by obtain ⟨a, b, rfl⟩ := lv2 h; exact ⟨[], .nil, BindsTo.of_eq (by kernel_rfl)⟩) (by kernel_rfl)
theorem look_elder_rows (P : Params) : (KK P).lookup f_elder_rows = some ⟨.type "function", none, .func (fnS (stAt 62) (S "elder_rows") (.none) (.str (S "emacs.undocommand") 1176) (.ref 769)), #[]⟩ := look_at (i := 149) (by kernel_rfl)
theorem code_elder_rows (P : Params) : codeIn (KK P) (.ref 769) (S "elder_rows") = true := code_of (look_at (i := 150) (o := ⟨.type "code", none, .fields #[.str (S "elder_rows") 1233, .str (S "elder_rows") 1234, .str (S "/claim/cut.py") 1235, .int 500 0, .int 2 0, .int 0 0, .int 0 0, .int 3 0, .ref 764, .bool true, .int 181 0, .ref 765, .none, .ref 766, .ref 767, .ref 768, .int 1239 0, .int 500 0, .str (S "/claim/cut.py") 1240], #[]⟩) (by kernel_rfl)) (by kernel_rfl)
theorem keep_elder_rows (P : Params) : keepIn (KK P) (.ref f_elder_rows) = true := keep_of (look_elder_rows P)
theorem F_elder_rows : FnOk f_elder_rows (stAt 62) (S "elder_rows") 769 (.none) (.str (S "emacs.undocommand") 1176) [S "history", S "count"] [S "rows"] [] :=
  fn_of look_elder_rows code_elder_rows (fun w s X vs h => by obtain ⟨a, b, rfl⟩ := lv2 h; exact ⟨[], .nil, BindsTo.of_eq (by kernel_rfl)⟩) (by kernel_rfl)
theorem look_is_in_row (P : Params) : (KK P).lookup f_is_in_row = some ⟨.type "function", none, .func (fnS (stAt 64) (S "is_in_row") (.none) (.str (S "emacs.undocommand") 1176) (.ref 783)), #[]⟩ := look_at (i := 151) (by kernel_rfl)
theorem code_is_in_row (P : Params) : codeIn (KK P) (.ref 783) (S "is_in_row") = true := code_of (look_at (i := 152) (o := ⟨.type "code", none, .fields #[.str (S "is_in_row") 1250, .str (S "is_in_row") 1251, .str (S "/claim/cut.py") 1252, .int 509 0, .int 3 0, .int 0 0, .int 0 0, .int 3 0, .ref 778, .bool true, .int 181 0, .ref 779, .none, .ref 780, .ref 781, .ref 782, .int 1256 0, .int 509 0, .str (S "/claim/cut.py") 1257], #[]⟩) (by kernel_rfl)) (by kernel_rfl)
theorem keep_is_in_row (P : Params) : keepIn (KK P) (.ref f_is_in_row) = true := keep_of (look_is_in_row P)
theorem F_is_in_row : FnOk f_is_in_row (stAt 64) (S "is_in_row") 783 (.none) (.str (S "emacs.undocommand") 1176) [S "undoing", S "history", S "is_chained"] [] [] :=
  fn_of look_is_in_row code_is_in_row (fun w s X vs h => by obtain ⟨a, b, c, rfl⟩ := lv3 h; exact ⟨[], .nil, BindsTo.of_eq (by kernel_rfl)⟩) (by kernel_rfl)
theorem look_begin_undo (P : Params) : (KK P).lookup f_begin_undo = some ⟨.type "function", none, .func (fnS (stAt 65) (S "begin_undo") (.none) (.str (S "emacs.undocommand") 1176) (.ref 790)), #[]⟩ := look_at (i := 153) (by kernel_rfl)
theorem code_begin_undo (P : Params) : codeIn (KK P) (.ref 790) (S "begin_undo") = true := code_of (look_at (i := 154) (o := ⟨.type "code", none, .fields #[.str (S "begin_undo") 1259, .str (S "begin_undo") 1260, .str (S "/claim/cut.py") 1261, .int 515 0, .int 3 0, .int 0 0, .int 0 0, .int 3 0, .ref 785, .bool true, .int 181 0, .ref 786, .none, .ref 787, .ref 788, .ref 789, .int 1265 0, .int 515 0, .str (S "/claim/cut.py") 1266], #[]⟩) (by kernel_rfl)) (by kernel_rfl)
theorem keep_begin_undo (P : Params) : keepIn (KK P) (.ref f_begin_undo) = true := keep_of (look_begin_undo P)
theorem F_begin_undo : FnOk f_begin_undo (stAt 65) (S "begin_undo") 790 (.none) (.str (S "emacs.undocommand") 1176) [S "undoing", S "history", S "is_chained"] [] [] :=
  fn_of look_begin_undo code_begin_undo (fun w s X vs h => by obtain ⟨a, b, c, rfl⟩ := lv3 h; exact ⟨[], .nil, BindsTo.of_eq (by kernel_rfl)⟩) (by kernel_rfl)
theorem look_end_undo (P : Params) : (KK P).lookup f_end_undo = some ⟨.type "function", none, .func (fnS (stAt 66) (S "end_undo") (.none) (.str (S "emacs.undocommand") 1176) (.ref 797)), #[]⟩ := look_at (i := 155) (by kernel_rfl)
theorem code_end_undo (P : Params) : codeIn (KK P) (.ref 797) (S "end_undo") = true := code_of (look_at (i := 156) (o := ⟨.type "code", none, .fields #[.str (S "end_undo") 1268, .str (S "end_undo") 1269, .str (S "/claim/cut.py") 1270, .int 522 0, .int 4 0, .int 0 0, .int 0 0, .int 3 0, .ref 792, .bool true, .int 181 0, .ref 793, .none, .ref 794, .ref 795, .ref 796, .int 1276 0, .int 522 0, .str (S "/claim/cut.py") 1277], #[]⟩) (by kernel_rfl)) (by kernel_rfl)
theorem keep_end_undo (P : Params) : keepIn (KK P) (.ref f_end_undo) = true := keep_of (look_end_undo P)
theorem F_end_undo : FnOk f_end_undo (stAt 66) (S "end_undo") 797 (.none) (.str (S "emacs.undocommand") 1176) [S "undoing", S "history", S "first", S "back_to"] [S "behind"] [] :=
  fn_of look_end_undo code_end_undo (fun w s X vs h => by obtain ⟨a, b, c, d, rfl⟩ := lv4 h; exact ⟨[], .nil, BindsTo.of_eq (by kernel_rfl)⟩) (by kernel_rfl)
theorem look_undo_more (P : Params) : (KK P).lookup f_undo_more = some ⟨.type "function", none, .func (fnS (stAt 67) (S "undo_more") (.none) (.str (S "emacs.undocommand") 1176) (.ref 804)), #[]⟩ := look_at (i := 157) (by kernel_rfl)
theorem code_undo_more (P : Params) : codeIn (KK P) (.ref 804) (S "undo_more") = true := code_of (look_at (i := 158) (o := ⟨.type "code", none, .fields #[.str (S "undo_more") 1279, .str (S "undo_more") 1280, .str (S "/claim/cut.py") 1281, .int 529 0, .int 5 0, .int 0 0, .int 0 0, .int 3 0, .ref 799, .bool true, .int 181 0, .ref 800, .none, .ref 801, .ref 802, .ref 803, .int 1293 0, .int 529 0, .str (S "/claim/cut.py") 1294], #[]⟩) (by kernel_rfl)) (by kernel_rfl)
theorem keep_undo_more (P : Params) : keepIn (KK P) (.ref f_undo_more) = true := keep_of (look_undo_more P)
theorem F_undo_more : FnOk f_undo_more (stAt 67) (S "undo_more") 804 (.none) (.str (S "emacs.undocommand") 1176) [S "undoing", S "buffer", S "history", S "count", S "passes_undos"] [S "word", S "start", S "rows", S "first", S "at", S "turn"] [] :=
  fn_of look_undo_more code_undo_more (fun w s X vs h => by obtain ⟨a, b, c, d, e, rfl⟩ := lv5 h; exact ⟨[], .nil, BindsTo.of_eq (by kernel_rfl)⟩) (by kernel_rfl)
theorem look_undo (P : Params) : (KK P).lookup f_undo = some ⟨.type "function", none, .func (fnS (stAt 68) (S "undo") (.none) (.str (S "emacs.undocommand") 1176) (.ref 811)), #[]⟩ := look_at (i := 159) (by kernel_rfl)
theorem code_undo (P : Params) : codeIn (KK P) (.ref 811) (S "undo") = true := code_of (look_at (i := 160) (o := ⟨.type "code", none, .fields #[.str (S "undo") 1296, .str (S "undo") 1297, .str (S "/claim/cut.py") 1298, .int 540 0, .int 4 0, .int 0 0, .int 0 0, .int 3 0, .ref 806, .bool true, .int 181 0, .ref 807, .none, .ref 808, .ref 809, .ref 810, .int 1303 0, .int 540 0, .str (S "/claim/cut.py") 1304], #[]⟩) (by kernel_rfl)) (by kernel_rfl)
theorem keep_undo (P : Params) : keepIn (KK P) (.ref f_undo) = true := keep_of (look_undo P)
theorem F_undo : FnOk f_undo (stAt 68) (S "undo") 811 (.none) (.str (S "emacs.undocommand") 1176) [S "undoing", S "buffer", S "count", S "is_chained"] [] [] :=
  fn_of look_undo code_undo (fun w s X vs h => by obtain ⟨a, b, c, d, rfl⟩ := lv4 h; exact ⟨[], .nil, BindsTo.of_eq (by kernel_rfl)⟩) (by kernel_rfl)
theorem look_go_on_behind_redo (P : Params) : (KK P).lookup f_go_on_behind_redo = some ⟨.type "function", none, .func (fnS (stAt 69) (S "go_on_behind_redo") (.none) (.str (S "emacs.undocommand") 1176) (.ref 818)), #[]⟩ := look_at (i := 161) (by kernel_rfl)
theorem code_go_on_behind_redo (P : Params) : codeIn (KK P) (.ref 818) (S "go_on_behind_redo") = true := code_of (look_at (i := 162) (o := ⟨.type "code", none, .fields #[.str (S "go_on_behind_redo") 1306, .str (S "go_on_behind_redo") 1307, .str (S "/claim/cut.py") 1308, .int 545 0, .int 2 0, .int 0 0, .int 0 0, .int 3 0, .ref 813, .bool true, .int 181 0, .ref 814, .none, .ref 815, .ref 816, .ref 817, .int 1311 0, .int 545 0, .str (S "/claim/cut.py") 1312], #[]⟩) (by kernel_rfl)) (by kernel_rfl)
theorem keep_go_on_behind_redo (P : Params) : keepIn (KK P) (.ref f_go_on_behind_redo) = true := keep_of (look_go_on_behind_redo P)
theorem F_go_on_behind_redo : FnOk f_go_on_behind_redo (stAt 69) (S "go_on_behind_redo") 818 (.none) (.str (S "emacs.undocommand") 1176) [S "undoing", S "history"] [] [] :=
  fn_of look_go_on_behind_redo code_go_on_behind_redo (fun w s X vs h => by obtain ⟨a, b, rfl⟩ := lv2 h; exact ⟨[], .nil, BindsTo.of_eq (by kernel_rfl)⟩) (by kernel_rfl)
theorem look_undo_redo (P : Params) : (KK P).lookup f_undo_redo = some ⟨.type "function", none, .func (fnS (stAt 70) (S "undo_redo") (.none) (.str (S "emacs.undocommand") 1176) (.ref 825)), #[]⟩ := look_at (i := 163) (by kernel_rfl)
theorem code_undo_redo (P : Params) : codeIn (KK P) (.ref 825) (S "undo_redo") = true := code_of (look_at (i := 164) (o := ⟨.type "code", none, .fields #[.str (S "undo_redo") 1314, .str (S "undo_redo") 1315, .str (S "/claim/cut.py") 1316, .int 550 0, .int 3 0, .int 0 0, .int 0 0, .int 3 0, .ref 820, .bool true, .int 181 0, .ref 821, .none, .ref 822, .ref 823, .ref 824, .int 1326 0, .int 550 0, .str (S "/claim/cut.py") 1327], #[]⟩) (by kernel_rfl)) (by kernel_rfl)
theorem keep_undo_redo (P : Params) : keepIn (KK P) (.ref f_undo_redo) = true := keep_of (look_undo_redo P)
theorem F_undo_redo : FnOk f_undo_redo (stAt 70) (S "undo_redo") 825 (.none) (.str (S "emacs.undocommand") 1176) [S "undoing", S "buffer", S "count"] [S "own", S "turn", S "behind", S "rows", S "noted", S "at"] [] :=
  fn_of look_undo_redo code_undo_redo (fun w s X vs h => by obtain ⟨a, b, c, rfl⟩ := lv3 h; exact ⟨[], .nil, BindsTo.of_eq (by kernel_rfl)⟩) (by kernel_rfl)
theorem bigFind (P : Params) : [findIn (KK P) (.ref c_Amalgam) (S "sort"), findIn (KK P) (.ref c_Amalgam) (S "many"), findIn (KK P) (.ref c_Amalgam) (S "__setattr__"), findIn (KK P) (.ref c_Amalgam) (S "__init__"), findIn (KK P) (.ref c_GapText) (S "room"), findIn (KK P) (.ref c_GapText) (S "cells"), findIn (KK P) (.ref c_GapText) (S "gap_start"), findIn (KK P) (.ref c_GapText) (S "gap_end"), findIn (KK P) (.ref c_GapText) (S "__setattr__"), findIn (KK P) (.ref c_GapText) (S "__init__"), findIn (KK P) (.ref c_Markers) (S "rows"), findIn (KK P) (.ref c_Markers) (S "__setattr__"), findIn (KK P) (.ref c_Markers) (S "__init__"), findIn (KK P) (.ref c_Buffer) (S "number"), findIn (KK P) (.ref c_Buffer) (S "name"), findIn (KK P) (.ref c_Buffer) (S "text"), findIn (KK P) (.ref c_Buffer) (S "markers"), findIn (KK P) (.ref c_Buffer) (S "point"), findIn (KK P) (.ref c_Buffer) (S "begv"), findIn (KK P) (.ref c_Buffer) (S "zv"), findIn (KK P) (.ref c_Buffer) (S "mark"), findIn (KK P) (.ref c_Buffer) (S "is_live"), findIn (KK P) (.ref c_Buffer) (S "is_read_only"), findIn (KK P) (.ref c_Buffer) (S "ticks"), findIn (KK P) (.ref c_Buffer) (S "codes_ticks"), findIn (KK P) (.ref c_Buffer) (S "saved_ticks"), findIn (KK P) (.ref c_Buffer) (S "listeners"), findIn (KK P) (.ref c_Buffer) (S "undo"), findIn (KK P) (.ref c_Buffer) (S "props"), findIn (KK P) (.ref c_Buffer) (S "overlays"), findIn (KK P) (.ref c_Buffer) (S "locals"), findIn (KK P) (.ref c_Buffer) (S "syntax"), findIn (KK P) (.ref c_Buffer) (S "file"), findIn (KK P) (.ref c_Buffer) (S "__setattr__"), findIn (KK P) (.ref c_Buffer) (S "__init__"), findIn (KK P) (.ref c_Piece) (S "codes"), findIn (KK P) (.ref c_Piece) (S "runs"), findIn (KK P) (.ref c_Piece) (S "__setattr__"), findIn (KK P) (.ref c_Piece) (S "__init__"), findIn (KK P) (.ref c_UndoList) (S "rows"), findIn (KK P) (.ref c_UndoList) (S "dropped"), findIn (KK P) (.ref c_UndoList) (S "is_on"), findIn (KK P) (.ref c_UndoList) (S "point_before"), findIn (KK P) (.ref c_UndoList) (S "noted_tick"), findIn (KK P) (.ref c_UndoList) (S "__setattr__"), findIn (KK P) (.ref c_UndoList) (S "__init__"), findIn (KK P) (.ref c_Recording) (S "list"), findIn (KK P) (.ref c_Recording) (S "__setattr__"), findIn (KK P) (.ref c_Recording) (S "__init__"), findIn (KK P) (.ref c_Undoing) (S "pending"), findIn (KK P) (.ref c_Undoing) (S "idle"), findIn (KK P) (.ref c_Undoing) (S "chosen"), findIn (KK P) (.ref c_Undoing) (S "equal"), findIn (KK P) (.ref c_Undoing) (S "__setattr__"), findIn (KK P) (.ref c_Undoing) (S "__init__"), findIn (KK P) (.ref c_GapText) (S "size"), findIn (KK P) (.ref c_GapText) (S "codes"), findIn (KK P) (.ref c_GapText) (S "move_gap"), findIn (KK P) (.ref c_GapText) (S "widen_gap"), findIn (KK P) (.ref c_GapText) (S "insert"), findIn (KK P) (.ref c_GapText) (S "delete"), findIn (KK P) (.ref c_Markers) (S "numbers"), findIn (KK P) (.ref c_Markers) (S "within"), findIn (KK P) (.ref c_Markers) (S "inserted"), findIn (KK P) (.ref c_Markers) (S "deleted"), findIn (KK P) (.ref c_Buffer) (S "size"), findIn (KK P) (.ref c_Buffer) (S "codes"), findIn (KK P) (.ref c_Buffer) (S "goto"), findIn (KK P) (.ref c_Buffer) (S "is_modified"), findIn (KK P) (.ref c_Buffer) (S "set_modified"), findIn (KK P) (.ref c_Buffer) (S "touch"), findIn (KK P) (.ref c_UndoList) (S "count"), findIn (KK P) (.ref c_UndoList) (S "is_at_boundary"), findIn (KK P) (.ref c_UndoList) (S "boundary"), findIn (KK P) (.ref c_UndoList) (S "begin_command"), findIn (KK P) (.ref c_UndoList) (S "note_state"), findIn (KK P) (.ref c_UndoList) (S "note_begin"), findIn (KK P) (.ref c_UndoList) (S "note_insert"), findIn (KK P) (.ref c_UndoList) (S "note_delete"), findIn (KK P) (.ref c_UndoList) (S "renew_unmodified"), findIn (KK P) (.ref c_Recording) (S "text_comes"), findIn (KK P) (.ref c_Recording) (S "text_goes")] = [some none, some none, some (some (.builtin "object.__setattr__")), some (some (.ref f_Amalgam_init)), some none, some none, some none, some none, some (some (.builtin "object.__setattr__")), some (some (.ref f_GapText_init)), some none, some (some (.builtin "object.__setattr__")), some (some (.ref f_Markers_init)), some none, some none, some none, some none, some none, some none, some none, some none, some none, some none, some none, some none, some none, some none, some none, some none, some none, some none, some none, some none, some (some (.builtin "object.__setattr__")), some (some (.ref f_Buffer_init)), some none, some none, some (some (.builtin "object.__setattr__")), some (some (.ref f_Piece_init)), some none, some none, some none, some none, some none, some (some (.builtin "object.__setattr__")), some (some (.ref f_UndoList_init)), some none, some (some (.builtin "object.__setattr__")), some (some (.ref f_Recording_init)), some none, some none, some none, some none, some (some (.builtin "object.__setattr__")), some (some (.ref f_Undoing_init)), some (some (.ref f_GapText_size)), some (some (.ref f_GapText_codes)), some (some (.ref f_GapText_move_gap)), some (some (.ref f_GapText_widen_gap)), some (some (.ref f_GapText_insert)), some (some (.ref f_GapText_delete)), some (some (.ref f_Markers_numbers)), some (some (.ref f_Markers_within)), some (some (.ref f_Markers_inserted)), some (some (.ref f_Markers_deleted)), some (some (.ref f_Buffer_size)), some (some (.ref f_Buffer_codes)), some (some (.ref f_Buffer_goto)), some (some (.ref f_Buffer_is_modified)), some (some (.ref f_Buffer_set_modified)), some (some (.ref f_Buffer_touch)), some (some (.ref f_UndoList_count)), some (some (.ref f_UndoList_is_at_boundary)), some (some (.ref f_UndoList_boundary)), some (some (.ref f_UndoList_begin_command)), some (some (.ref f_UndoList_note_state)), some (some (.ref f_UndoList_note_begin)), some (some (.ref f_UndoList_note_insert)), some (some (.ref f_UndoList_note_delete)), some (some (.ref f_UndoList_renew_unmodified)), some (some (.ref f_Recording_text_comes)), some (some (.ref f_Recording_text_goes))] := by kernel_rfl
theorem bigCls (P : Params) : [plainGet (KK P) c_Amalgam (S ""), hasDictIn (KK P) c_Amalgam, plainOver (KK P) c_Amalgam, makesIn (KK P) c_Amalgam, keepIn (KK P) (.ref c_Amalgam), plainGet (KK P) c_GapText (S ""), hasDictIn (KK P) c_GapText, plainOver (KK P) c_GapText, makesIn (KK P) c_GapText, keepIn (KK P) (.ref c_GapText), plainGet (KK P) c_Markers (S ""), hasDictIn (KK P) c_Markers, plainOver (KK P) c_Markers, makesIn (KK P) c_Markers, keepIn (KK P) (.ref c_Markers), plainGet (KK P) c_Buffer (S ""), hasDictIn (KK P) c_Buffer, plainOver (KK P) c_Buffer, makesIn (KK P) c_Buffer, keepIn (KK P) (.ref c_Buffer), plainGet (KK P) c_Piece (S ""), hasDictIn (KK P) c_Piece, plainOver (KK P) c_Piece, makesIn (KK P) c_Piece, keepIn (KK P) (.ref c_Piece), plainGet (KK P) c_UndoList (S ""), hasDictIn (KK P) c_UndoList, plainOver (KK P) c_UndoList, makesIn (KK P) c_UndoList, keepIn (KK P) (.ref c_UndoList), plainGet (KK P) c_Recording (S ""), hasDictIn (KK P) c_Recording, plainOver (KK P) c_Recording, makesIn (KK P) c_Recording, keepIn (KK P) (.ref c_Recording), plainGet (KK P) c_Undoing (S ""), hasDictIn (KK P) c_Undoing, plainOver (KK P) c_Undoing, makesIn (KK P) c_Undoing, keepIn (KK P) (.ref c_Undoing)] = List.replicate 40 true := by kernel_rfl
theorem K_Amalgam (P : Params) : ClsF P c_Amalgam := ⟨fun k => nth (bigCls P) 0 (by kernel_rfl) (by kernel_rfl), nth (bigCls P) 1 (by kernel_rfl) (by kernel_rfl), nth (bigCls P) 2 (by kernel_rfl) (by kernel_rfl), nth (bigFind P) 2 (by kernel_rfl) (by kernel_rfl)⟩
theorem C_Amalgam : ClsOk c_Amalgam f_Amalgam_init := ⟨fun P => nth (bigCls P) 3 (by kernel_rfl) (by kernel_rfl), fun P => nth (bigFind P) 3 (by kernel_rfl) (by kernel_rfl), fun P => isFn_of (look_Amalgam_init P)⟩
theorem keep_Amalgam (P : Params) : keepIn (KK P) (.ref c_Amalgam) = true := nth (bigCls P) 4 (by kernel_rfl) (by kernel_rfl)
theorem K_GapText (P : Params) : ClsF P c_GapText := ⟨fun k => nth (bigCls P) 5 (by kernel_rfl) (by kernel_rfl), nth (bigCls P) 6 (by kernel_rfl) (by kernel_rfl), nth (bigCls P) 7 (by kernel_rfl) (by kernel_rfl), nth (bigFind P) 8 (by kernel_rfl) (by kernel_rfl)⟩
theorem C_GapText : ClsOk c_GapText f_GapText_init := ⟨fun P => nth (bigCls P) 8 (by kernel_rfl) (by kernel_rfl), fun P => nth (bigFind P) 9 (by kernel_rfl) (by kernel_rfl), fun P => isFn_of (look_GapText_init P)⟩
theorem keep_GapText (P : Params) : keepIn (KK P) (.ref c_GapText) = true := nth (bigCls P) 9 (by kernel_rfl) (by kernel_rfl)
theorem K_Markers (P : Params) : ClsF P c_Markers := ⟨fun k => nth (bigCls P) 10 (by kernel_rfl) (by kernel_rfl), nth (bigCls P) 11 (by kernel_rfl) (by kernel_rfl), nth (bigCls P) 12 (by kernel_rfl) (by kernel_rfl), nth (bigFind P) 11 (by kernel_rfl) (by kernel_rfl)⟩
theorem C_Markers : ClsOk c_Markers f_Markers_init := ⟨fun P => nth (bigCls P) 13 (by kernel_rfl) (by kernel_rfl), fun P => nth (bigFind P) 12 (by kernel_rfl) (by kernel_rfl), fun P => isFn_of (look_Markers_init P)⟩
theorem keep_Markers (P : Params) : keepIn (KK P) (.ref c_Markers) = true := nth (bigCls P) 14 (by kernel_rfl) (by kernel_rfl)
theorem K_Buffer (P : Params) : ClsF P c_Buffer := ⟨fun k => nth (bigCls P) 15 (by kernel_rfl) (by kernel_rfl), nth (bigCls P) 16 (by kernel_rfl) (by kernel_rfl), nth (bigCls P) 17 (by kernel_rfl) (by kernel_rfl), nth (bigFind P) 33 (by kernel_rfl) (by kernel_rfl)⟩
theorem C_Buffer : ClsOk c_Buffer f_Buffer_init := ⟨fun P => nth (bigCls P) 18 (by kernel_rfl) (by kernel_rfl), fun P => nth (bigFind P) 34 (by kernel_rfl) (by kernel_rfl), fun P => isFn_of (look_Buffer_init P)⟩
theorem keep_Buffer (P : Params) : keepIn (KK P) (.ref c_Buffer) = true := nth (bigCls P) 19 (by kernel_rfl) (by kernel_rfl)
theorem K_Piece (P : Params) : ClsF P c_Piece := ⟨fun k => nth (bigCls P) 20 (by kernel_rfl) (by kernel_rfl), nth (bigCls P) 21 (by kernel_rfl) (by kernel_rfl), nth (bigCls P) 22 (by kernel_rfl) (by kernel_rfl), nth (bigFind P) 37 (by kernel_rfl) (by kernel_rfl)⟩
theorem C_Piece : ClsOk c_Piece f_Piece_init := ⟨fun P => nth (bigCls P) 23 (by kernel_rfl) (by kernel_rfl), fun P => nth (bigFind P) 38 (by kernel_rfl) (by kernel_rfl), fun P => isFn_of (look_Piece_init P)⟩
theorem keep_Piece (P : Params) : keepIn (KK P) (.ref c_Piece) = true := nth (bigCls P) 24 (by kernel_rfl) (by kernel_rfl)
theorem K_UndoList (P : Params) : ClsF P c_UndoList := ⟨fun k => nth (bigCls P) 25 (by kernel_rfl) (by kernel_rfl), nth (bigCls P) 26 (by kernel_rfl) (by kernel_rfl), nth (bigCls P) 27 (by kernel_rfl) (by kernel_rfl), nth (bigFind P) 44 (by kernel_rfl) (by kernel_rfl)⟩
theorem C_UndoList : ClsOk c_UndoList f_UndoList_init := ⟨fun P => nth (bigCls P) 28 (by kernel_rfl) (by kernel_rfl), fun P => nth (bigFind P) 45 (by kernel_rfl) (by kernel_rfl), fun P => isFn_of (look_UndoList_init P)⟩
theorem keep_UndoList (P : Params) : keepIn (KK P) (.ref c_UndoList) = true := nth (bigCls P) 29 (by kernel_rfl) (by kernel_rfl)
theorem K_Recording (P : Params) : ClsF P c_Recording := ⟨fun k => nth (bigCls P) 30 (by kernel_rfl) (by kernel_rfl), nth (bigCls P) 31 (by kernel_rfl) (by kernel_rfl), nth (bigCls P) 32 (by kernel_rfl) (by kernel_rfl), nth (bigFind P) 47 (by kernel_rfl) (by kernel_rfl)⟩
theorem C_Recording : ClsOk c_Recording f_Recording_init := ⟨fun P => nth (bigCls P) 33 (by kernel_rfl) (by kernel_rfl), fun P => nth (bigFind P) 48 (by kernel_rfl) (by kernel_rfl), fun P => isFn_of (look_Recording_init P)⟩
theorem keep_Recording (P : Params) : keepIn (KK P) (.ref c_Recording) = true := nth (bigCls P) 34 (by kernel_rfl) (by kernel_rfl)
theorem K_Undoing (P : Params) : ClsF P c_Undoing := ⟨fun k => nth (bigCls P) 35 (by kernel_rfl) (by kernel_rfl), nth (bigCls P) 36 (by kernel_rfl) (by kernel_rfl), nth (bigCls P) 37 (by kernel_rfl) (by kernel_rfl), nth (bigFind P) 53 (by kernel_rfl) (by kernel_rfl)⟩
theorem C_Undoing : ClsOk c_Undoing f_Undoing_init := ⟨fun P => nth (bigCls P) 38 (by kernel_rfl) (by kernel_rfl), fun P => nth (bigFind P) 54 (by kernel_rfl) (by kernel_rfl), fun P => isFn_of (look_Undoing_init P)⟩
theorem keep_Undoing (P : Params) : keepIn (KK P) (.ref c_Undoing) = true := nth (bigCls P) 39 (by kernel_rfl) (by kernel_rfl)
theorem A_Amalgam_sort (P : Params) : FldOk P c_Amalgam (S "sort") := fld_of (K_Amalgam P) (nth (bigFind P) 0 (by kernel_rfl) (by kernel_rfl))
theorem A_Amalgam_many (P : Params) : FldOk P c_Amalgam (S "many") := fld_of (K_Amalgam P) (nth (bigFind P) 1 (by kernel_rfl) (by kernel_rfl))
theorem A_GapText_room (P : Params) : FldOk P c_GapText (S "room") := fld_of (K_GapText P) (nth (bigFind P) 4 (by kernel_rfl) (by kernel_rfl))
theorem A_GapText_cells (P : Params) : FldOk P c_GapText (S "cells") := fld_of (K_GapText P) (nth (bigFind P) 5 (by kernel_rfl) (by kernel_rfl))
theorem A_GapText_gap_start (P : Params) : FldOk P c_GapText (S "gap_start") := fld_of (K_GapText P) (nth (bigFind P) 6 (by kernel_rfl) (by kernel_rfl))
theorem A_GapText_gap_end (P : Params) : FldOk P c_GapText (S "gap_end") := fld_of (K_GapText P) (nth (bigFind P) 7 (by kernel_rfl) (by kernel_rfl))
theorem A_Markers_rows (P : Params) : FldOk P c_Markers (S "rows") := fld_of (K_Markers P) (nth (bigFind P) 10 (by kernel_rfl) (by kernel_rfl))
theorem A_Buffer_number (P : Params) : FldOk P c_Buffer (S "number") := fld_of (K_Buffer P) (nth (bigFind P) 13 (by kernel_rfl) (by kernel_rfl))
theorem A_Buffer_name (P : Params) : FldOk P c_Buffer (S "name") := fld_of (K_Buffer P) (nth (bigFind P) 14 (by kernel_rfl) (by kernel_rfl))
theorem A_Buffer_text (P : Params) : FldOk P c_Buffer (S "text") := fld_of (K_Buffer P) (nth (bigFind P) 15 (by kernel_rfl) (by kernel_rfl))
theorem A_Buffer_markers (P : Params) : FldOk P c_Buffer (S "markers") := fld_of (K_Buffer P) (nth (bigFind P) 16 (by kernel_rfl) (by kernel_rfl))
theorem A_Buffer_point (P : Params) : FldOk P c_Buffer (S "point") := fld_of (K_Buffer P) (nth (bigFind P) 17 (by kernel_rfl) (by kernel_rfl))
theorem A_Buffer_begv (P : Params) : FldOk P c_Buffer (S "begv") := fld_of (K_Buffer P) (nth (bigFind P) 18 (by kernel_rfl) (by kernel_rfl))
theorem A_Buffer_zv (P : Params) : FldOk P c_Buffer (S "zv") := fld_of (K_Buffer P) (nth (bigFind P) 19 (by kernel_rfl) (by kernel_rfl))
theorem A_Buffer_mark (P : Params) : FldOk P c_Buffer (S "mark") := fld_of (K_Buffer P) (nth (bigFind P) 20 (by kernel_rfl) (by kernel_rfl))
theorem A_Buffer_is_live (P : Params) : FldOk P c_Buffer (S "is_live") := fld_of (K_Buffer P) (nth (bigFind P) 21 (by kernel_rfl) (by kernel_rfl))
theorem A_Buffer_is_read_only (P : Params) : FldOk P c_Buffer (S "is_read_only") := fld_of (K_Buffer P) (nth (bigFind P) 22 (by kernel_rfl) (by kernel_rfl))
theorem A_Buffer_ticks (P : Params) : FldOk P c_Buffer (S "ticks") := fld_of (K_Buffer P) (nth (bigFind P) 23 (by kernel_rfl) (by kernel_rfl))
theorem A_Buffer_codes_ticks (P : Params) : FldOk P c_Buffer (S "codes_ticks") := fld_of (K_Buffer P) (nth (bigFind P) 24 (by kernel_rfl) (by kernel_rfl))
theorem A_Buffer_saved_ticks (P : Params) : FldOk P c_Buffer (S "saved_ticks") := fld_of (K_Buffer P) (nth (bigFind P) 25 (by kernel_rfl) (by kernel_rfl))
theorem A_Buffer_listeners (P : Params) : FldOk P c_Buffer (S "listeners") := fld_of (K_Buffer P) (nth (bigFind P) 26 (by kernel_rfl) (by kernel_rfl))
theorem A_Buffer_undo (P : Params) : FldOk P c_Buffer (S "undo") := fld_of (K_Buffer P) (nth (bigFind P) 27 (by kernel_rfl) (by kernel_rfl))
theorem A_Buffer_props (P : Params) : FldOk P c_Buffer (S "props") := fld_of (K_Buffer P) (nth (bigFind P) 28 (by kernel_rfl) (by kernel_rfl))
theorem A_Buffer_overlays (P : Params) : FldOk P c_Buffer (S "overlays") := fld_of (K_Buffer P) (nth (bigFind P) 29 (by kernel_rfl) (by kernel_rfl))
theorem A_Buffer_locals (P : Params) : FldOk P c_Buffer (S "locals") := fld_of (K_Buffer P) (nth (bigFind P) 30 (by kernel_rfl) (by kernel_rfl))
theorem A_Buffer_syntax (P : Params) : FldOk P c_Buffer (S "syntax") := fld_of (K_Buffer P) (nth (bigFind P) 31 (by kernel_rfl) (by kernel_rfl))
theorem A_Buffer_file (P : Params) : FldOk P c_Buffer (S "file") := fld_of (K_Buffer P) (nth (bigFind P) 32 (by kernel_rfl) (by kernel_rfl))
theorem A_Piece_codes (P : Params) : FldOk P c_Piece (S "codes") := fld_of (K_Piece P) (nth (bigFind P) 35 (by kernel_rfl) (by kernel_rfl))
theorem A_Piece_runs (P : Params) : FldOk P c_Piece (S "runs") := fld_of (K_Piece P) (nth (bigFind P) 36 (by kernel_rfl) (by kernel_rfl))
theorem A_UndoList_rows (P : Params) : FldOk P c_UndoList (S "rows") := fld_of (K_UndoList P) (nth (bigFind P) 39 (by kernel_rfl) (by kernel_rfl))
theorem A_UndoList_dropped (P : Params) : FldOk P c_UndoList (S "dropped") := fld_of (K_UndoList P) (nth (bigFind P) 40 (by kernel_rfl) (by kernel_rfl))
theorem A_UndoList_is_on (P : Params) : FldOk P c_UndoList (S "is_on") := fld_of (K_UndoList P) (nth (bigFind P) 41 (by kernel_rfl) (by kernel_rfl))
theorem A_UndoList_point_before (P : Params) : FldOk P c_UndoList (S "point_before") := fld_of (K_UndoList P) (nth (bigFind P) 42 (by kernel_rfl) (by kernel_rfl))
theorem A_UndoList_noted_tick (P : Params) : FldOk P c_UndoList (S "noted_tick") := fld_of (K_UndoList P) (nth (bigFind P) 43 (by kernel_rfl) (by kernel_rfl))
theorem A_Recording_list (P : Params) : FldOk P c_Recording (S "list") := fld_of (K_Recording P) (nth (bigFind P) 46 (by kernel_rfl) (by kernel_rfl))
theorem A_Undoing_pending (P : Params) : FldOk P c_Undoing (S "pending") := fld_of (K_Undoing P) (nth (bigFind P) 49 (by kernel_rfl) (by kernel_rfl))
theorem A_Undoing_idle (P : Params) : FldOk P c_Undoing (S "idle") := fld_of (K_Undoing P) (nth (bigFind P) 50 (by kernel_rfl) (by kernel_rfl))
theorem A_Undoing_chosen (P : Params) : FldOk P c_Undoing (S "chosen") := fld_of (K_Undoing P) (nth (bigFind P) 51 (by kernel_rfl) (by kernel_rfl))
theorem A_Undoing_equal (P : Params) : FldOk P c_Undoing (S "equal") := fld_of (K_Undoing P) (nth (bigFind P) 52 (by kernel_rfl) (by kernel_rfl))
theorem M_GapText_size : MthOk c_GapText (S "size") f_GapText_size := ⟨fun P => nth (bigFind P) 55 (by kernel_rfl) (by kernel_rfl), fun P => (K_GapText P).plain _, fun P => isFn_of (look_GapText_size P), fun P => keep_of (look_GapText_size P)⟩
theorem M_GapText_codes : MthOk c_GapText (S "codes") f_GapText_codes := ⟨fun P => nth (bigFind P) 56 (by kernel_rfl) (by kernel_rfl), fun P => (K_GapText P).plain _, fun P => isFn_of (look_GapText_codes P), fun P => keep_of (look_GapText_codes P)⟩
theorem M_GapText_move_gap : MthOk c_GapText (S "move_gap") f_GapText_move_gap := ⟨fun P => nth (bigFind P) 57 (by kernel_rfl) (by kernel_rfl), fun P => (K_GapText P).plain _, fun P => isFn_of (look_GapText_move_gap P), fun P => keep_of (look_GapText_move_gap P)⟩
theorem M_GapText_widen_gap : MthOk c_GapText (S "widen_gap") f_GapText_widen_gap := ⟨fun P => nth (bigFind P) 58 (by kernel_rfl) (by kernel_rfl), fun P => (K_GapText P).plain _, fun P => isFn_of (look_GapText_widen_gap P), fun P => keep_of (look_GapText_widen_gap P)⟩
theorem M_GapText_insert : MthOk c_GapText (S "insert") f_GapText_insert := ⟨fun P => nth (bigFind P) 59 (by kernel_rfl) (by kernel_rfl), fun P => (K_GapText P).plain _, fun P => isFn_of (look_GapText_insert P), fun P => keep_of (look_GapText_insert P)⟩
theorem M_GapText_delete : MthOk c_GapText (S "delete") f_GapText_delete := ⟨fun P => nth (bigFind P) 60 (by kernel_rfl) (by kernel_rfl), fun P => (K_GapText P).plain _, fun P => isFn_of (look_GapText_delete P), fun P => keep_of (look_GapText_delete P)⟩
theorem M_Markers_numbers : MthOk c_Markers (S "numbers") f_Markers_numbers := ⟨fun P => nth (bigFind P) 61 (by kernel_rfl) (by kernel_rfl), fun P => (K_Markers P).plain _, fun P => isFn_of (look_Markers_numbers P), fun P => keep_of (look_Markers_numbers P)⟩
theorem M_Markers_within : MthOk c_Markers (S "within") f_Markers_within := ⟨fun P => nth (bigFind P) 62 (by kernel_rfl) (by kernel_rfl), fun P => (K_Markers P).plain _, fun P => isFn_of (look_Markers_within P), fun P => keep_of (look_Markers_within P)⟩
theorem M_Markers_inserted : MthOk c_Markers (S "inserted") f_Markers_inserted := ⟨fun P => nth (bigFind P) 63 (by kernel_rfl) (by kernel_rfl), fun P => (K_Markers P).plain _, fun P => isFn_of (look_Markers_inserted P), fun P => keep_of (look_Markers_inserted P)⟩
theorem M_Markers_deleted : MthOk c_Markers (S "deleted") f_Markers_deleted := ⟨fun P => nth (bigFind P) 64 (by kernel_rfl) (by kernel_rfl), fun P => (K_Markers P).plain _, fun P => isFn_of (look_Markers_deleted P), fun P => keep_of (look_Markers_deleted P)⟩
theorem M_Buffer_size : MthOk c_Buffer (S "size") f_Buffer_size := ⟨fun P => nth (bigFind P) 65 (by kernel_rfl) (by kernel_rfl), fun P => (K_Buffer P).plain _, fun P => isFn_of (look_Buffer_size P), fun P => keep_of (look_Buffer_size P)⟩
theorem M_Buffer_codes : MthOk c_Buffer (S "codes") f_Buffer_codes := ⟨fun P => nth (bigFind P) 66 (by kernel_rfl) (by kernel_rfl), fun P => (K_Buffer P).plain _, fun P => isFn_of (look_Buffer_codes P), fun P => keep_of (look_Buffer_codes P)⟩
theorem M_Buffer_goto : MthOk c_Buffer (S "goto") f_Buffer_goto := ⟨fun P => nth (bigFind P) 67 (by kernel_rfl) (by kernel_rfl), fun P => (K_Buffer P).plain _, fun P => isFn_of (look_Buffer_goto P), fun P => keep_of (look_Buffer_goto P)⟩
theorem M_Buffer_is_modified : MthOk c_Buffer (S "is_modified") f_Buffer_is_modified := ⟨fun P => nth (bigFind P) 68 (by kernel_rfl) (by kernel_rfl), fun P => (K_Buffer P).plain _, fun P => isFn_of (look_Buffer_is_modified P), fun P => keep_of (look_Buffer_is_modified P)⟩
theorem M_Buffer_set_modified : MthOk c_Buffer (S "set_modified") f_Buffer_set_modified := ⟨fun P => nth (bigFind P) 69 (by kernel_rfl) (by kernel_rfl), fun P => (K_Buffer P).plain _, fun P => isFn_of (look_Buffer_set_modified P), fun P => keep_of (look_Buffer_set_modified P)⟩
theorem M_Buffer_touch : MthOk c_Buffer (S "touch") f_Buffer_touch := ⟨fun P => nth (bigFind P) 70 (by kernel_rfl) (by kernel_rfl), fun P => (K_Buffer P).plain _, fun P => isFn_of (look_Buffer_touch P), fun P => keep_of (look_Buffer_touch P)⟩
theorem M_UndoList_count : MthOk c_UndoList (S "count") f_UndoList_count := ⟨fun P => nth (bigFind P) 71 (by kernel_rfl) (by kernel_rfl), fun P => (K_UndoList P).plain _, fun P => isFn_of (look_UndoList_count P), fun P => keep_of (look_UndoList_count P)⟩
theorem M_UndoList_is_at_boundary : MthOk c_UndoList (S "is_at_boundary") f_UndoList_is_at_boundary := ⟨fun P => nth (bigFind P) 72 (by kernel_rfl) (by kernel_rfl), fun P => (K_UndoList P).plain _, fun P => isFn_of (look_UndoList_is_at_boundary P), fun P => keep_of (look_UndoList_is_at_boundary P)⟩
theorem M_UndoList_boundary : MthOk c_UndoList (S "boundary") f_UndoList_boundary := ⟨fun P => nth (bigFind P) 73 (by kernel_rfl) (by kernel_rfl), fun P => (K_UndoList P).plain _, fun P => isFn_of (look_UndoList_boundary P), fun P => keep_of (look_UndoList_boundary P)⟩
theorem M_UndoList_begin_command : MthOk c_UndoList (S "begin_command") f_UndoList_begin_command := ⟨fun P => nth (bigFind P) 74 (by kernel_rfl) (by kernel_rfl), fun P => (K_UndoList P).plain _, fun P => isFn_of (look_UndoList_begin_command P), fun P => keep_of (look_UndoList_begin_command P)⟩
theorem M_UndoList_note_state : MthOk c_UndoList (S "note_state") f_UndoList_note_state := ⟨fun P => nth (bigFind P) 75 (by kernel_rfl) (by kernel_rfl), fun P => (K_UndoList P).plain _, fun P => isFn_of (look_UndoList_note_state P), fun P => keep_of (look_UndoList_note_state P)⟩
theorem M_UndoList_note_begin : MthOk c_UndoList (S "note_begin") f_UndoList_note_begin := ⟨fun P => nth (bigFind P) 76 (by kernel_rfl) (by kernel_rfl), fun P => (K_UndoList P).plain _, fun P => isFn_of (look_UndoList_note_begin P), fun P => keep_of (look_UndoList_note_begin P)⟩
theorem M_UndoList_note_insert : MthOk c_UndoList (S "note_insert") f_UndoList_note_insert := ⟨fun P => nth (bigFind P) 77 (by kernel_rfl) (by kernel_rfl), fun P => (K_UndoList P).plain _, fun P => isFn_of (look_UndoList_note_insert P), fun P => keep_of (look_UndoList_note_insert P)⟩
theorem M_UndoList_note_delete : MthOk c_UndoList (S "note_delete") f_UndoList_note_delete := ⟨fun P => nth (bigFind P) 78 (by kernel_rfl) (by kernel_rfl), fun P => (K_UndoList P).plain _, fun P => isFn_of (look_UndoList_note_delete P), fun P => keep_of (look_UndoList_note_delete P)⟩
theorem M_UndoList_renew_unmodified : MthOk c_UndoList (S "renew_unmodified") f_UndoList_renew_unmodified := ⟨fun P => nth (bigFind P) 79 (by kernel_rfl) (by kernel_rfl), fun P => (K_UndoList P).plain _, fun P => isFn_of (look_UndoList_renew_unmodified P), fun P => keep_of (look_UndoList_renew_unmodified P)⟩
theorem M_Recording_text_comes : MthOk c_Recording (S "text_comes") f_Recording_text_comes := ⟨fun P => nth (bigFind P) 80 (by kernel_rfl) (by kernel_rfl), fun P => (K_Recording P).plain _, fun P => isFn_of (look_Recording_text_comes P), fun P => keep_of (look_Recording_text_comes P)⟩
theorem M_Recording_text_goes : MthOk c_Recording (S "text_goes") f_Recording_text_goes := ⟨fun P => nth (bigFind P) 81 (by kernel_rfl) (by kernel_rfl), fun P => (K_Recording P).plain _, fun P => isFn_of (look_Recording_text_goes P), fun P => keep_of (look_Recording_text_goes P)⟩
theorem bigNs (P : Params) : [nsIn (KK P) mainGlobals (S "law"), nsIn (KK P) mainGlobals (S "_law_deck"), nsIn (KK P) mainGlobals (S "_law_draw"), nsIn (KK P) mainGlobals (S "_law_typed"), nsIn (KK P) mainGlobals (S "begin_change"), nsIn (KK P) mainGlobals (S "need_writable"), nsIn (KK P) mainGlobals (S "need_room"), nsIn (KK P) mainGlobals (S "reached"), nsIn (KK P) mainGlobals (S "tell_ahead"), nsIn (KK P) mainGlobals (S "tell_behind"), nsIn (KK P) mainGlobals (S "text_out"), nsIn (KK P) mainGlobals (S "text_in"), nsIn (KK P) mainGlobals (S "hung_out"), nsIn (KK P) mainGlobals (S "hung_in"), nsIn (KK P) mainGlobals (S "put_in"), nsIn (KK P) mainGlobals (S "insert"), nsIn (KK P) mainGlobals (S "delete"), nsIn (KK P) mainGlobals (S "insert_piece"), nsIn (KK P) mainGlobals (S "need_visible"), nsIn (KK P) mainGlobals (S "markers_ahead"), nsIn (KK P) mainGlobals (S "undo_insert"), nsIn (KK P) mainGlobals (S "undo_delete"), nsIn (KK P) mainGlobals (S "undo_row"), nsIn (KK P) mainGlobals (S "above_boundaries"), nsIn (KK P) mainGlobals (S "undo_group"), nsIn (KK P) mainGlobals (S "trimmed_count"), nsIn (KK P) mainGlobals (S "last_was_undo"), nsIn (KK P) mainGlobals (S "drop_points"), nsIn (KK P) mainGlobals (S "elder_rows"), nsIn (KK P) mainGlobals (S "is_in_row"), nsIn (KK P) mainGlobals (S "begin_undo"), nsIn (KK P) mainGlobals (S "end_undo"), nsIn (KK P) mainGlobals (S "undo_more"), nsIn (KK P) mainGlobals (S "undo"), nsIn (KK P) mainGlobals (S "go_on_behind_redo"), nsIn (KK P) mainGlobals (S "undo_redo"), nsIn (KK P) mainGlobals (S "Amalgam"), nsIn (KK P) mainGlobals (S "GapText"), nsIn (KK P) mainGlobals (S "Markers"), nsIn (KK P) mainGlobals (S "Buffer"), nsIn (KK P) mainGlobals (S "Piece"), nsIn (KK P) mainGlobals (S "UndoList"), nsIn (KK P) mainGlobals (S "Recording"), nsIn (KK P) mainGlobals (S "Undoing"), nsIn (KK P) mainGlobals (S "LispSignal"), nsIn (KK P) mainGlobals (S "BOUNDARY"), nsIn (KK P) mainGlobals (S "JOINED"), nsIn (KK P) mainGlobals (S "LONGEST"), nsIn (KK P) mainGlobals (S "IN_REGION"), nsIn (KK P) mainGlobals (S "len"), nsIn (KK P) mainGlobals (S "list"), nsIn (KK P) mainGlobals (S "range"), nsIn (KK P) mainGlobals (S "min"), nsIn (KK P) mainGlobals (S "max"), nsIn (KK P) mainGlobals (S "abs"), nsIn (KK P) mainGlobals (S "sorted")] = [some (some (.ref f_law)), some (some (.ref f__law_deck)), some (some (.ref f__law_draw)), some (some (.ref f__law_typed)), some (some (.ref f_begin_change)), some (some (.ref f_need_writable)), some (some (.ref f_need_room)), some (some (.ref f_reached)), some (some (.ref f_tell_ahead)), some (some (.ref f_tell_behind)), some (some (.ref f_text_out)), some (some (.ref f_text_in)), some (some (.ref f_hung_out)), some (some (.ref f_hung_in)), some (some (.ref f_put_in)), some (some (.ref f_insert)), some (some (.ref f_delete)), some (some (.ref f_insert_piece)), some (some (.ref f_need_visible)), some (some (.ref f_markers_ahead)), some (some (.ref f_undo_insert)), some (some (.ref f_undo_delete)), some (some (.ref f_undo_row)), some (some (.ref f_above_boundaries)), some (some (.ref f_undo_group)), some (some (.ref f_trimmed_count)), some (some (.ref f_last_was_undo)), some (some (.ref f_drop_points)), some (some (.ref f_elder_rows)), some (some (.ref f_is_in_row)), some (some (.ref f_begin_undo)), some (some (.ref f_end_undo)), some (some (.ref f_undo_more)), some (some (.ref f_undo)), some (some (.ref f_go_on_behind_redo)), some (some (.ref f_undo_redo)), some (some (.ref c_Amalgam)), some (some (.ref c_GapText)), some (some (.ref c_Markers)), some (some (.ref c_Buffer)), some (some (.ref c_Piece)), some (some (.ref c_UndoList)), some (some (.ref c_Recording)), some (some (.ref c_Undoing)), some (some (.ref c_LispSignal)), some (some (.ref a_BOUNDARY)), some (some (.int 20 196)), some (some (.int 4194304 674)), some (some (.int (-1) 1179)), some none, some none, some none, some none, some none, some none, some none] := by kernel_rfl
theorem G_law : Glb (S "law") (.ref f_law) := fun P => nth (bigNs P) 0 (by kernel_rfl) (by kernel_rfl)
theorem G__law_deck : Glb (S "_law_deck") (.ref f__law_deck) := fun P => nth (bigNs P) 1 (by kernel_rfl) (by kernel_rfl)
theorem G__law_draw : Glb (S "_law_draw") (.ref f__law_draw) := fun P => nth (bigNs P) 2 (by kernel_rfl) (by kernel_rfl)
theorem G__law_typed : Glb (S "_law_typed") (.ref f__law_typed) := fun P => nth (bigNs P) 3 (by kernel_rfl) (by kernel_rfl)
theorem G_begin_change : Glb (S "begin_change") (.ref f_begin_change) := fun P => nth (bigNs P) 4 (by kernel_rfl) (by kernel_rfl)
theorem G_need_writable : Glb (S "need_writable") (.ref f_need_writable) := fun P => nth (bigNs P) 5 (by kernel_rfl) (by kernel_rfl)
theorem G_need_room : Glb (S "need_room") (.ref f_need_room) := fun P => nth (bigNs P) 6 (by kernel_rfl) (by kernel_rfl)
theorem G_reached : Glb (S "reached") (.ref f_reached) := fun P => nth (bigNs P) 7 (by kernel_rfl) (by kernel_rfl)
theorem G_tell_ahead : Glb (S "tell_ahead") (.ref f_tell_ahead) := fun P => nth (bigNs P) 8 (by kernel_rfl) (by kernel_rfl)
theorem G_tell_behind : Glb (S "tell_behind") (.ref f_tell_behind) := fun P => nth (bigNs P) 9 (by kernel_rfl) (by kernel_rfl)
theorem G_text_out : Glb (S "text_out") (.ref f_text_out) := fun P => nth (bigNs P) 10 (by kernel_rfl) (by kernel_rfl)
theorem G_text_in : Glb (S "text_in") (.ref f_text_in) := fun P => nth (bigNs P) 11 (by kernel_rfl) (by kernel_rfl)
theorem G_hung_out : Glb (S "hung_out") (.ref f_hung_out) := fun P => nth (bigNs P) 12 (by kernel_rfl) (by kernel_rfl)
theorem G_hung_in : Glb (S "hung_in") (.ref f_hung_in) := fun P => nth (bigNs P) 13 (by kernel_rfl) (by kernel_rfl)
theorem G_put_in : Glb (S "put_in") (.ref f_put_in) := fun P => nth (bigNs P) 14 (by kernel_rfl) (by kernel_rfl)
theorem G_insert : Glb (S "insert") (.ref f_insert) := fun P => nth (bigNs P) 15 (by kernel_rfl) (by kernel_rfl)
theorem G_delete : Glb (S "delete") (.ref f_delete) := fun P => nth (bigNs P) 16 (by kernel_rfl) (by kernel_rfl)
theorem G_insert_piece : Glb (S "insert_piece") (.ref f_insert_piece) := fun P => nth (bigNs P) 17 (by kernel_rfl) (by kernel_rfl)
theorem G_need_visible : Glb (S "need_visible") (.ref f_need_visible) := fun P => nth (bigNs P) 18 (by kernel_rfl) (by kernel_rfl)
theorem G_markers_ahead : Glb (S "markers_ahead") (.ref f_markers_ahead) := fun P => nth (bigNs P) 19 (by kernel_rfl) (by kernel_rfl)
theorem G_undo_insert : Glb (S "undo_insert") (.ref f_undo_insert) := fun P => nth (bigNs P) 20 (by kernel_rfl) (by kernel_rfl)
theorem G_undo_delete : Glb (S "undo_delete") (.ref f_undo_delete) := fun P => nth (bigNs P) 21 (by kernel_rfl) (by kernel_rfl)
theorem G_undo_row : Glb (S "undo_row") (.ref f_undo_row) := fun P => nth (bigNs P) 22 (by kernel_rfl) (by kernel_rfl)
theorem G_above_boundaries : Glb (S "above_boundaries") (.ref f_above_boundaries) := fun P => nth (bigNs P) 23 (by kernel_rfl) (by kernel_rfl)
theorem G_undo_group : Glb (S "undo_group") (.ref f_undo_group) := fun P => nth (bigNs P) 24 (by kernel_rfl) (by kernel_rfl)
theorem G_trimmed_count : Glb (S "trimmed_count") (.ref f_trimmed_count) := fun P => nth (bigNs P) 25 (by kernel_rfl) (by kernel_rfl)
theorem G_last_was_undo : Glb (S "last_was_undo") (.ref f_last_was_undo) := fun P => nth (bigNs P) 26 (by kernel_rfl) (by kernel_rfl)
theorem G_drop_points : Glb (S "drop_points") (.ref f_drop_points) := fun P => nth (bigNs P) 27 (by kernel_rfl) (by kernel_rfl)
theorem G_elder_rows : Glb (S "elder_rows") (.ref f_elder_rows) := fun P => nth (bigNs P) 28 (by kernel_rfl) (by kernel_rfl)
theorem G_is_in_row : Glb (S "is_in_row") (.ref f_is_in_row) := fun P => nth (bigNs P) 29 (by kernel_rfl) (by kernel_rfl)
theorem G_begin_undo : Glb (S "begin_undo") (.ref f_begin_undo) := fun P => nth (bigNs P) 30 (by kernel_rfl) (by kernel_rfl)
theorem G_end_undo : Glb (S "end_undo") (.ref f_end_undo) := fun P => nth (bigNs P) 31 (by kernel_rfl) (by kernel_rfl)
theorem G_undo_more : Glb (S "undo_more") (.ref f_undo_more) := fun P => nth (bigNs P) 32 (by kernel_rfl) (by kernel_rfl)
theorem G_undo : Glb (S "undo") (.ref f_undo) := fun P => nth (bigNs P) 33 (by kernel_rfl) (by kernel_rfl)
theorem G_go_on_behind_redo : Glb (S "go_on_behind_redo") (.ref f_go_on_behind_redo) := fun P => nth (bigNs P) 34 (by kernel_rfl) (by kernel_rfl)
theorem G_undo_redo : Glb (S "undo_redo") (.ref f_undo_redo) := fun P => nth (bigNs P) 35 (by kernel_rfl) (by kernel_rfl)
theorem G_Amalgam : Glb (S "Amalgam") (.ref c_Amalgam) := fun P => nth (bigNs P) 36 (by kernel_rfl) (by kernel_rfl)
theorem G_GapText : Glb (S "GapText") (.ref c_GapText) := fun P => nth (bigNs P) 37 (by kernel_rfl) (by kernel_rfl)
theorem G_Markers : Glb (S "Markers") (.ref c_Markers) := fun P => nth (bigNs P) 38 (by kernel_rfl) (by kernel_rfl)
theorem G_Buffer : Glb (S "Buffer") (.ref c_Buffer) := fun P => nth (bigNs P) 39 (by kernel_rfl) (by kernel_rfl)
theorem G_Piece : Glb (S "Piece") (.ref c_Piece) := fun P => nth (bigNs P) 40 (by kernel_rfl) (by kernel_rfl)
theorem G_UndoList : Glb (S "UndoList") (.ref c_UndoList) := fun P => nth (bigNs P) 41 (by kernel_rfl) (by kernel_rfl)
theorem G_Recording : Glb (S "Recording") (.ref c_Recording) := fun P => nth (bigNs P) 42 (by kernel_rfl) (by kernel_rfl)
theorem G_Undoing : Glb (S "Undoing") (.ref c_Undoing) := fun P => nth (bigNs P) 43 (by kernel_rfl) (by kernel_rfl)
theorem G_LispSignal : Glb (S "LispSignal") (.ref c_LispSignal) := fun P => nth (bigNs P) 44 (by kernel_rfl) (by kernel_rfl)
theorem G_BOUNDARY : Glb (S "BOUNDARY") (.ref a_BOUNDARY) := fun P => nth (bigNs P) 45 (by kernel_rfl) (by kernel_rfl)
theorem G_JOINED : Glb (S "JOINED") (.int 20 196) := fun P => nth (bigNs P) 46 (by kernel_rfl) (by kernel_rfl)
theorem G_LONGEST : Glb (S "LONGEST") (.int 4194304 674) := fun P => nth (bigNs P) 47 (by kernel_rfl) (by kernel_rfl)
theorem G_IN_REGION : Glb (S "IN_REGION") (.int (-1) 1179) := fun P => nth (bigNs P) 48 (by kernel_rfl) (by kernel_rfl)
theorem B_len : Blt (S "len") (.builtin "len") := ⟨fun P => nth (bigNs P) 49 (by kernel_rfl) (by kernel_rfl), by kernel_rfl, by decide +kernel⟩
theorem B_list : Blt (S "list") (.type "list") := ⟨fun P => nth (bigNs P) 50 (by kernel_rfl) (by kernel_rfl), by kernel_rfl, by decide +kernel⟩
theorem B_range : Blt (S "range") (.type "range") := ⟨fun P => nth (bigNs P) 51 (by kernel_rfl) (by kernel_rfl), by kernel_rfl, by decide +kernel⟩
theorem B_min : Blt (S "min") (.builtin "min") := ⟨fun P => nth (bigNs P) 52 (by kernel_rfl) (by kernel_rfl), by kernel_rfl, by decide +kernel⟩
theorem B_max : Blt (S "max") (.builtin "max") := ⟨fun P => nth (bigNs P) 53 (by kernel_rfl) (by kernel_rfl), by kernel_rfl, by decide +kernel⟩
theorem B_abs : Blt (S "abs") (.builtin "abs") := ⟨fun P => nth (bigNs P) 54 (by kernel_rfl) (by kernel_rfl), by kernel_rfl, by decide +kernel⟩
theorem B_sorted : Blt (S "sorted") (.builtin "sorted") := ⟨fun P => nth (bigNs P) 55 (by kernel_rfl) (by kernel_rfl), by kernel_rfl, by decide +kernel⟩
end Mine
end
section
open PySem PySem.W PyProof.Rows PySem.Calls
set_option maxRecDepth 100000
set_option maxHeartbeats 400000
set_option Elab.async false
set_option linter.unusedVariables false
namespace Mine
theorem ab1 {us : List Value} {a : AV} (h : AbL us [a]) : ∃ t, us = [a.val t] := by
  cases h with | cons h t => cases t; obtain ⟨t, rfl⟩ := h; exact ⟨t, rfl⟩
theorem ab2 {us : List Value} {a b : AV} (h : AbL us [a, b]) : ∃ t u, us = [a.val t, b.val u] := by
  cases h with | cons h t => cases t with | cons h2 t => cases t; obtain ⟨t, rfl⟩ := h; obtain ⟨u, rfl⟩ := h2; exact ⟨t, u, rfl⟩
theorem fitsBig {n : Nat} (h : n ≤ Big) : n ≤ sizeLine := by rw [sizeLine_eq]; unfold Big at h; lia
section
variable {g : Gx} {A : Around} {E : Value → Shared → Prop} {led led' : Led} {qual : PySem.Str} {sc : Scope} {L f : Addr} {cd : Value} {vs vs' : List (PySem.Str × Option AV)} {cl : List (PySem.Str × Addr)} {env : Env}
theorem St.lst {s : Shared} (S : St g s led) {a : Addr} {xs : List AV} (hm : (a, Cell.list xs) ∈ led) : ∃ us n, s.heap.get? a = some { cls := .type "list", data := .seq us.toArray n } ∧ AbL us xs ∧ xs.length ≤ Big ∧ us.length = xs.length ∧ s.heap.IsList a us.toArray := by
  obtain ⟨o, ho, us, n, rfl, ab, hb⟩ := S.at_ _ hm
  exact ⟨us, n, ho, ab, hb, ab.length, _, ho, rfl, n, rfl⟩
theorem St.tpl {s : Shared} (S : St g s led) {a : Addr} {xs : List AV} (hm : (a, Cell.tup xs) ∈ led) : ∃ us n, s.heap.get? a = some { cls := .type "tuple", data := .seq us.toArray n } ∧ AbL us xs := by
  obtain ⟨o, ho, us, n, rfl, ab⟩ := S.at_ _ hm
  exact ⟨us, n, ho, ab⟩
theorem St.keeps {s : Shared} {h' : Heap} {tk : Nat} (S : St g s led) {p : Addr × Cell} (hm : p ∈ led) (hk : ∀ b o, s.heap.get? b = some o → h'.get? b = some o) : St g { s with heap := h', toks := tk } led :=
  ⟨fun b o e => hk _ _ (S.keep b o e), by
    obtain ⟨o, e, _⟩ := S.at_ _ hm
    exact Nat.le_of_lt (Nat.lt_of_le_of_lt (S.fresh _ hm) (Heap.lt_size (hk _ _ e))), fun p hp => let ⟨o, e, i⟩ := S.at_ p hp; ⟨o, hk _ _ e, i⟩, S.nodup, S.fresh, S.os_, S.gens⟩
theorem look_BOUNDARY (P : Params) : (KK P).lookup a_BOUNDARY = some ⟨.type "tuple", none, .seq #[.str (S "boundary") 828] 0, #[]⟩ := by kernel_rfl
def TupAt (led : Led) (a : Addr) (xs : List AV) : Prop := (a, Cell.tup xs) ∈ led ∨ (a = a_BOUNDARY ∧ xs = [.str (S "boundary")])
theorem St.tup {s : Shared} (T : St g s led) {a : Addr} {xs : List AV} (hm : TupAt led a xs) : ∃ us, AbL us xs ∧ us.length = xs.length ∧ IsTup s.heap a us.toArray ∧ s.heap.IsTuple a us.toArray := by
  rcases hm with hm | ⟨rfl, rfl⟩
  · obtain ⟨us, n, ho, ab⟩ := T.tpl hm
    exact ⟨us, ab, ab.length, ⟨_, ho, rfl, n, rfl⟩, _, ho, rfl, n, rfl⟩
  · have ho := T.K _ _ (look_BOUNDARY g.w.params)
    exact ⟨_, .cons ⟨_, rfl⟩ .nil, rfl, ⟨_, ho, rfl, _, rfl⟩, _, ho, rfl, _, rfl⟩
def PK (g : Gx) (A : Around) (f : Value) (args : List AV) (led : Led) (a : AV) : Prop := ∀ us, AbL us args → ∀ s E, St g s led → ∀ Q : Value → Shared → Prop, (∀ v s', Ab v a → St g s' led → Q v s') → wpAny (model pw g.w) A (call f us) Q E s
theorem PL.out {pos : Pos} {es : List Expr} {as : List AV} (h : PL g A env led pos es as) {s : Shared} (S : St g s led) {Q : List Value → Shared → Prop} (k : ∀ v s', AbL v as → St g s' led → Q v s') : wpAny (model pw g.w) A (spliced (backTo pos (starEach es env))) Q E s :=
  wpS.run (h E (fun a' l' => a' = as ∧ l' = led) ⟨rfl, rfl⟩) S fun v s' b l ab S' e => by obtain ⟨rfl, rfl⟩ := e; exact k v s' ab S'
theorem wE_blt {x : PySem.Str} {id : String} {p pos : Pos} {e : Expr} {es : List Expr} {Φ : AV → Led → Prop} (G : Blt x (.builtin id)) (hm : (L, Cell.frame sc vs) ∈ led)
    (hx : (sc.names.lookup x == some .globalImplicit && !(x == ("__debug__" : PySem.Str))) = true)
    (h : wpL g A E (envX qual sc L f cd cl) pos (e :: es) led fun as l => wpK g A E (.builtin id) as l Φ)
    (he : starEach (e :: es) (envX qual sc L f cd cl) = (false, eval e (envX qual sc L f cd cl)) :: starEach es (envX qual sc L f cd cl) := by rfl)
    (hp : (backTo pos (starEach es (envX qual sc L f cd cl))).any (·.1) = false := by rfl) : wpE g A E (envX qual sc L f cd cl) (.Call (.Name x p) (e :: es) [] pos) led Φ := fun s S => by
  obtain ⟨m, hn, hf, -, hsk, hl⟩ := S.ns hm
  rw [Bool.and_eq_true, beq_iff_eq, Bool.not_eq_true'] at hx
  exact Call_ (blt_name S G hsk hx.1 hx.2 (PyProof.Rows.callWith_builtin1 (h.run S fun us s1 as l ab S1 h1 => h1 us ab s1 S1) he hp))
theorem wE_typ {x : PySem.Str} {id : String} {p pos : Pos} {e : Expr} {es : List Expr} {Φ : AV → Led → Prop} (G : Blt x (.type id)) (hm : (L, Cell.frame sc vs) ∈ led)
    (hx : (sc.names.lookup x == some .globalImplicit && !(x == ("__debug__" : PySem.Str))) = true)
    (h : wpL g A E (envX qual sc L f cd cl) pos (e :: es) led fun as l => wpK g A E (.type id) as l Φ)
    (he : starEach (e :: es) (envX qual sc L f cd cl) = (false, eval e (envX qual sc L f cd cl)) :: starEach es (envX qual sc L f cd cl) := by rfl)
    (hp : (backTo pos (starEach es (envX qual sc L f cd cl))).any (·.1) = false := by rfl) : wpE g A E (envX qual sc L f cd cl) (.Call (.Name x p) (e :: es) [] pos) led Φ := fun s S => by
  obtain ⟨m, hn, hf, -, hsk, hl⟩ := S.ns hm
  rw [Bool.and_eq_true, beq_iff_eq, Bool.not_eq_true'] at hx
  exact Call_ (blt_name S G hsk hx.1 hx.2 (PyProof.Rows.callWith_type1 (h.run S fun us s1 as l ab S1 h1 => h1 us ab s1 S1) he hp))
theorem PK.K {f : Value} {args : List AV} {a : AV} {Φ : AV → Led → Prop} (h : PK g A f args led a) (k : Φ a led) : wpK g A E f args led Φ := fun us ab s S => h us ab s E S _ fun v s' ab' S' => ⟨a, led, ab', S', k⟩
theorem PE_blt {x : PySem.Str} {id : String} {p pos : Pos} {e : Expr} {es : List Expr} {as : List AV} {a : AV} (G : Blt x (.builtin id)) (hm : (L, Cell.frame sc vs) ∈ led)
    (hx : (sc.names.lookup x == some .globalImplicit && !(x == ("__debug__" : PySem.Str))) = true)
    (h : PL g A (envX qual sc L f cd cl) led pos (e :: es) as) (k : PK g A (.builtin id) as led a)
    (he : starEach (e :: es) (envX qual sc L f cd cl) = (false, eval e (envX qual sc L f cd cl)) :: starEach es (envX qual sc L f cd cl) := by rfl)
    (hp : (backTo pos (starEach es (envX qual sc L f cd cl))).any (·.1) = false := by rfl) : PE g A (envX qual sc L f cd cl) led (.Call (.Name x p) (e :: es) [] pos) a :=
  fun E Φ k' => wE_blt G hm hx (h E _ (k.K k')) he hp
theorem PK_len {x : Addr} {xs : List AV} (hm : (x, Cell.list xs) ∈ led) : PK g A (.builtin "len") [.ref x] led (.int (xs.length : Nat)) := fun us ab s E S Q k => by
  obtain ⟨t, rfl⟩ := ab1 ab
  obtain ⟨us, n, ho, ab, hb, hl, hi⟩ := S.lst hm
  refine call_len_list hi ?_ (k _ _ ⟨s.toks + 1, ?_⟩ (S.toks _))
  · rw [List.size_toArray, hl]; unfold Big at hb; lia
  · exact congrArg (fun n : Nat => Value.int (n : Int) _) (by rw [List.size_toArray, hl])
theorem PK_max {a b : Int} {p : Addr × Cell} (hp : p ∈ led) (hh : A.handled = none) : PK g A (.builtin "max") [.int a, .int b] led (.int (max a b)) := fun us ab s E S Q k => by
  obtain ⟨t, u, rfl⟩ := ab2 ab
  refine max_two_ints hh fun h' tk hk => k _ _ ?_ (S.keeps hp hk)
  by_cases hba : b > a
  · exact ⟨u, by rw [if_pos hba]; show Value.int b u = Value.int (max a b) u; congr 1; lia⟩
  · exact ⟨t, by rw [if_neg hba]; show Value.int a t = Value.int (max a b) t; congr 1; lia⟩
theorem PK_min {a b : Int} {p : Addr × Cell} (hp : p ∈ led) (hh : A.handled = none) : PK g A (.builtin "min") [.int a, .int b] led (.int (min a b)) := fun us ab s E S Q k => by
  obtain ⟨t, u, rfl⟩ := ab2 ab
  refine min_two_ints hh fun h' tk hk => k _ _ ?_ (S.keeps hp hk)
  by_cases hba : b < a
  · exact ⟨u, by rw [if_pos hba]; show Value.int b u = Value.int (min a b) u; congr 1; lia⟩
  · exact ⟨t, by rw [if_neg hba]; show Value.int a t = Value.int (min a b) t; congr 1; lia⟩
theorem PK_abs {a : Int} : PK g A (.builtin "abs") [.int a] led (.int (a.natAbs : Nat)) := fun us ab s E S Q k => by
  obtain ⟨t, rfl⟩ := ab1 ab
  refine call_abs_int fun u tk => k _ _ ⟨u, ?_⟩ (S.toks tk)
  show Value.int _ u = Value.int _ u
  congr 1
  split <;> lia
theorem AbL.at {us : List Value} {xs : List AV} (h : AbL us xs) {i : Nat} {a : AV} (e : xs[i]? = some a) : ∃ v, us[i]? = some v ∧ Ab v a := h.get i e
def IdxAt (xs : List AV) (k : Int) (a : AV) : Prop := (0 ≤ k ∧ xs[k.toNat]? = some a) ∨ (k < 0 ∧ -(xs.length : Int) ≤ k ∧ xs[(k + xs.length).toNat]? = some a)
theorem some_lt {α : Type} {l : List α} {i : Nat} {a : α} (h : l[i]? = some a) : i < l.length := by
  rcases Nat.lt_or_ge i l.length with h' | h'
  · exact h'
  · rw [List.getElem?_eq_none h'] at h; cases h
theorem getitem_list {s : Shared} {x : Addr} {xs : List AV} {k : Int} {t : Tok} {a : AV} {Q : Value → Shared → Prop} (S : St g s led) (hm : (x, Cell.list xs) ∈ led) (hi : IdxAt xs k a) (h : ∀ v, Ab v a → Q v s) :
    wpAny (model pw g.w) A (getItem (.ref x) (.int k t)) Q E s := by
  obtain ⟨us, n, ho, ab, hb, hl, hL⟩ := S.lst hm
  unfold Big at hb
  rcases hi with ⟨h0, e⟩ | ⟨h0, h1, e⟩
  · obtain ⟨v, hv, av⟩ := ab.get _ e
    have := some_lt e
    exact wpAny_getItem_list hL h0 (by lia) (by rw [List.getElem?_toArray]; exact hv) (h v av)
  · obtain ⟨v, hv, av⟩ := ab.get _ e
    have := some_lt e
    exact wpAny_getItem_list_neg hL h0 (by rw [List.size_toArray, hl]; exact h1) (by lia) (by rw [List.getElem?_toArray, List.size_toArray, hl]; exact hv) (h v av)
theorem subTail {s : Shared} {value slice : Expr} {o i : Value} {T id : String} {ops : List Value} {Q : Value → Shared → Prop} (hT : s.TypeIs o T)
    (hl : typeLookup (.type T) "__getitem__" = pure (some (.builtin id))) (h : wpAny (model pw g.w) A (getItem o i) Q E s)
    (hs : subscripted slice false o i = operate ops (getItem o i)) : wpAny (model pw g.w) A (subscriptTail value slice o i) Q E s := by
  unfold subscriptTail
  refine wpAny_bind ?_
  rw [getitemInPython_of_ne hT.not_modules]
  refine wpAny_bind (wpAny_specialOf hT hl ?_)
  have fin : wpAny (model pw g.w) A (subscripted slice false o i) (fun r s₃ => wpAny (model pw g.w) A (letTemporaryGo value o r >>= fun _ => pure r) Q E s₃) E s := by
    rw [hs]
    exact wpAny_operating (wpAny_mono h (fun r s₃ h₃ => wpAny_bind (wpAny_letTemporaryGo (wpAny_pure h₃))) fun _ _ x => x)
  first
    | exact wpAny_pure (wpAny_bind fin)
    | exact wpAny_bind (wpAny_pure (wpAny_bind fin))
    | exact wpAny_bind fin
def plainIdx : Expr → Bool
  | .Slice .. => false
  | _ => true
theorem plainIdx_eq {i : Expr} (h : plainIdx i = true) (x y : Value) : subscripted i false x y = operate [x, y] (getItem x y) := by
  cases i <;> first | rfl | cases h
theorem PE_item {o i : Expr} {pos : Pos} {x : Addr} {xs : List AV} {k : Int} {a : AV} (ho : PE g A env led o (.ref x)) (hi : PE g A env led i (.int k)) (hm : (x, Cell.list xs) ∈ led) (hk : IdxAt xs k a) (hp : plainIdx i = true) : PE g A env led (.Subscript o i pos) a :=
  PE.mk' fun s E S Q k' => Subscript_ (ho.out S fun v s1 hv S1 => hi.out S1 fun u s2 hu S2 => by
    obtain ⟨t, rfl⟩ := hv
    obtain ⟨t', rfl⟩ := hu
    obtain ⟨us, n, ho, ab, hb, hl, hL⟩ := S2.lst hm
    exact subTail hL.typeIs slot_list_getitem.lookup (getitem_list S2 hm hk fun v hv => k' _ _ hv S2) (plainIdx_eq hp _ _))
theorem getitem_tup {s : Shared} {x : Addr} {xs : List AV} {k : Nat} {t : Tok} {a : AV} {Q : Value → Shared → Prop} (S : St g s led) (hm : TupAt led x xs) (hi : xs[k]? = some a) (hkb : k < 1000) (h : ∀ v, Ab v a → Q v s) :
    wpAny (model pw g.w) A (getItem (.ref x) (.int (k : Nat) t)) Q E s := by
  obtain ⟨us, ab, hl, hT, -⟩ := S.tup hm
  obtain ⟨v, hv, av⟩ := ab.get _ hi
  have := some_lt hv
  refine getItem_tuple hT (j := k) (by lia) (by lia) ?_ (by rw [List.getElem?_toArray]; exact hv) (h v av)
  unfold seqIndex?
  have h1 : ¬ ((k : Int) < 0) := by lia
  simp only [h1, if_false, List.size_toArray]
  rw [if_pos (by simp only [Bool.and_eq_true, decide_eq_true_eq]; lia), Int.toNat_natCast]
theorem PE_itemT {o i : Expr} {pos : Pos} {x : Addr} {xs : List AV} {k : Nat} {a : AV} (ho : PE g A env led o (.ref x)) (hi : PE g A env led i (.int (k : Nat))) (hm : TupAt led x xs) (hk : xs[k]? = some a) (hkb : k < 1000) (hp : plainIdx i = true) : PE g A env led (.Subscript o i pos) a :=
  PE.mk' fun s E S Q k' => Subscript_ (ho.out S fun v s1 hv S1 => hi.out S1 fun u s2 hu S2 => by
    obtain ⟨t, rfl⟩ := hv
    obtain ⟨t', rfl⟩ := hu
    obtain ⟨us, ab, hl, hT, -⟩ := S2.tup hm
    exact subTail hT.typeIs slot_tuple_getitem.lookup (getitem_tup S2 hm hk hkb fun v hv => k' _ _ hv S2) (plainIdx_eq hp _ _))
end
end Mine
end
section
open PySem PySem.W PyProof.Rows PySem.Calls
set_option maxRecDepth 100000
set_option maxHeartbeats 400000
set_option Elab.async false
set_option linter.unusedVariables false
namespace Mine
section
variable {g : Gx} {A : Around} {E : Value → Shared → Prop} {led led' : Led} {qual : PySem.Str} {sc : Scope} {L f : Addr} {cd : Value} {vs vs' : List (PySem.Str × Option AV)} {cl : List (PySem.Str × Addr)} {env : Env}
theorem St.newL {s : Shared} (S : St g s led) {us : List Value} {xs : List AV} (ab : AbL us xs) (hb : xs.length ≤ Big) : St g { s with heap := s.heap.push { cls := .type "list", data := .seq us.toArray } } ((s.heap.objs.size, .list xs) :: led) :=
  S.new ⟨us, 0, rfl, ab, hb⟩ rfl
theorem wE_list {es : List Expr} {pos : Pos} {Φ : AV → Led → Prop} (h : wpL g A E env pos es led fun as l => as.length ≤ Big ∧ ∀ a, Φ (.ref a) ((a, .list as) :: l)) : wpE g A E env (.List es pos) led Φ := fun s S =>
  wpAny_List (h.run S fun us s1 as l ab S1 k => ⟨by rw [ab.length]; exact fitsBig k.1, .ref s1.heap.objs.size, _, ⟨0, rfl⟩, S1.newL ab k.1, k.2 _⟩)
theorem wE_tuple {es : List Expr} {n : Nat} {pos : Pos} {Φ : AV → Led → Prop} (h : wpL g A E env pos es led fun as l => as.length ≤ Big ∧ ∀ a, Φ (.ref a) ((a, .tup as) :: l)) : wpE g A E env (.Tuple es n pos) led Φ := fun s S =>
  wpAny_Tuple (h.run S fun us s1 as l ab S1 k => ⟨by rw [ab.length]; exact fitsBig k.1, .ref s1.heap.objs.size, _, ⟨0, rfl⟩, S1.new (c := .tup as) ⟨us, 0, rfl, ab⟩ rfl, k.2 _⟩)
theorem wE_dict {pos : Pos} {Φ : AV → Led → Prop} (h : ∀ a, Φ (.ref a) ((a, .imap []) :: led)) : wpE g A E env (.Dict [] [] pos) led Φ := fun s S =>
  wpAny_Dict_empty ⟨.ref s.heap.objs.size, _, ⟨0, rfl⟩, S.new (c := .imap []) ⟨[], ⟨#[], 0, ⟨rfl, rfl, rfl⟩, rfl, fun _ h => by simp at h, .nil, .nil⟩, .nil, Nat.zero_le _⟩ rfl, h _⟩
theorem add_ {s : Shared} {x y : Addr} {xs ys : List AV} {t t' : Tok} (S : St g s led) (hx : (x, Cell.list xs) ∈ led) (hy : (y, Cell.list ys) ∈ led) (hb : xs.length + ys.length ≤ Big) {Q : Value → Shared → Prop}
    (k : ∀ a s', St g s' ((a, .list (xs ++ ys)) :: led) → Q (.ref a) s') : wpAny (model pw g.w) A (binaryOp .Add (AV.val (.ref x) t) (AV.val (.ref y) t')) Q E s := by
  obtain ⟨us, n, ho, ab, _, hl, _⟩ := S.lst hx
  obtain ⟨us', n', ho', ab', _, hl', _⟩ := S.lst hy
  refine PySem.P.add_list ho ho' (k _ _ ?_) (by simp only [List.size_toArray, hl, hl']; exact fitsBig hb)
  exact S.new (c := .list (xs ++ ys)) ⟨us ++ us', 0, by simp, ab.append ab', by rw [List.length_append]; exact hb⟩ rfl
theorem wE_add {l r : Expr} {pos : Pos} {Φ : AV → Led → Prop} (h : wpE g A E env l led fun a l1 => wpE g A E env r l1 fun b l2 => ∃ x y xs ys, a = .ref x ∧ b = .ref y ∧ (x, Cell.list xs) ∈ l2 ∧ (y, Cell.list ys) ∈ l2 ∧ xs.length + ys.length ≤ Big ∧ ∀ z, Φ (.ref z) ((z, .list (xs ++ ys)) :: l2)) :
    wpE g A E env (.BinOp l .Add r pos) led Φ := fun s S =>
  wpAny_BinOp (h.run S fun v s1 a l1 hv S1 h1 => wpS.run h1 S1 fun u s2 b l2 hu S2 z => by
    obtain ⟨x, y, xs, ys, e1, e2, hx, hy, hb, k⟩ := z
    subst e1 e2
    obtain ⟨t, rfl⟩ := hv
    obtain ⟨t', rfl⟩ := hu
    exact add_ S2 hx hy hb fun z s3 S3 => ⟨.ref z, _, ⟨0, rfl⟩, S3, k z⟩)
theorem mul_ {s : Shared} {x : Addr} {i : Int} {n : Int} {t t' : Tok} (S : St g s led) (hx : (x, Cell.list [.int i]) ∈ led) (hn : 0 ≤ n) (hb : n ≤ Big) {Q : Value → Shared → Prop}
    (k : ∀ a s', St g s' ((a, .list (List.replicate n.toNat (.int i))) :: led) → Q (.ref a) s') : wpAny (model pw g.w) A (binaryOp .Mult (AV.val (.ref x) t) (AV.val (.int n) t')) Q E s := by
  obtain ⟨us, c, ho, ab, _, hl, _⟩ := S.lst hx
  obtain ⟨ti, rfl⟩ := ab1 ab
  unfold Big at hb
  have hsz : ([AV.val (.int i) ti].toArray.size) * n.toNat ≤ 2 ^ 24 := by simp; lia
  refine wpAny_binaryOp_repeat_ref (T := "list") (U := "int") (by decide) ⟨_, ho, rfl⟩ (fun s' => typeIs_int s' n t') noFill_list_mul F.fills_int_mul F.slot_int_rmul repeat_list F.slot_int_index.lookup
    (call_meets F.slot_int_rmul (typeIs_int s n t') F.entry_int_rmul (F.args_int_rmul_2 _ _) (lm_int_rmul_list_any n t' x _ c none #[])
      ⟨ho, rfl, ⟨_, ho, rfl⟩, call_meets F.slot_list_mul ⟨_, ho, rfl⟩ F.entry_list_mul (F.args_list_mul_2 _ _)
        (lm_list_mul_any x _ c none #[] n t' (by simp [Builtin.List.listFitsIndex]; lia) (by lia) (by simp [Builtin.List.listTooLong, sizeLine]; lia))
        ⟨ho, k _ _ ?_⟩⟩)
  rw [listMul_foldl_if]
  refine S.new (c := .list _) ⟨(List.replicate n.toNat [AV.val (.int i) ti]).flatten, _, rfl, ?_, by rw [List.length_replicate]; unfold Big; lia⟩ rfl
  generalize n.toNat = m
  induction m with
  | zero => exact .nil
  | succ m ih => rw [List.replicate_succ, List.replicate_succ, List.flatten_cons]; exact .cons ⟨ti, rfl⟩ ih
theorem wE_mul {l r : Expr} {pos : Pos} {Φ : AV → Led → Prop} (h : wpE g A E env l led fun a l1 => wpE g A E env r l1 fun b l2 => ∃ x i n, a = .ref x ∧ b = .int n ∧ (x, Cell.list [.int i]) ∈ l2 ∧ 0 ≤ n ∧ n ≤ Big ∧ ∀ z, Φ (.ref z) ((z, .list (List.replicate n.toNat (.int i))) :: l2)) :
    wpE g A E env (.BinOp l .Mult r pos) led Φ := fun s S =>
  wpAny_BinOp (h.run S fun v s1 a l1 hv S1 h1 => wpS.run h1 S1 fun u s2 b l2 hu S2 z => by
    obtain ⟨x, i, n, e1, e2, hx, hn, hb, k⟩ := z
    subst e1 e2
    obtain ⟨t, rfl⟩ := hv
    obtain ⟨t', rfl⟩ := hu
    exact mul_ S2 hx hn hb fun z s3 S3 => ⟨.ref z, _, ⟨0, rfl⟩, S3, k z⟩)
theorem wK_copy {x : Addr} {xs : List AV} {Φ : AV → Led → Prop} (hx : (x, Cell.list xs) ∈ led) (k : ∀ z, Φ (.ref z) ((z, .list xs) :: led)) : wpK g A E (.type "list") [.ref x] led Φ := fun us ab s S => by
  obtain ⟨t, rfl⟩ := ab1 ab
  obtain ⟨us, n, ho, ab, hb, hl, _⟩ := S.lst hx
  refine call_list_seq x (.inl rfl) ho rfl rfl (fun h' c hk hnew => ⟨.ref s.heap.objs.size, _, ⟨0, rfl⟩, ?_, k _⟩) (by rw [List.size_toArray, hl]; exact fitsBig hb)
  exact S.newAt (S.keeps (tk := s.toks) hx hk) hnew ⟨us, c, rfl, ab, hb⟩
inductive PartE (g : Gx) (A : Around) (env : Env) (led : Led) : Option Expr → Option Nat → Prop
  | none : PartE g A env led none none
  | some {e : Expr} {i : Int} {n : Nat} (h : PE g A env led e (.int i)) (hi : i = (n : Int)) : PartE g A env led (some e) (some n)
def natP (k : Option Nat) : Option Int := match k with
  | none => none
  | some n => some (n : Int)
theorem PartE.out {e : Option Expr} {k : Option Nat} (h : PartE g A env led e k) {s : Shared} (S : St g s led) {Q : Value → Shared → Prop} (q : ∀ v s', IsPart v (natP k) → St g s' led → Q v s') : wpAny (model pw g.w) A (evalPart e env) Q E s := by
  cases h with
  | none => exact evalPart_none_step (q _ _ .none S)
  | some h hi => subst hi; exact evalPart_some_step (h.out S fun v s' hv S' => by obtain ⟨t, rfl⟩ := hv; exact q _ _ (.int _ t) S')
def sliceL {α : Type} (xs : List α) (lo hi : Option Nat) : List α := (xs.take (hi.getD xs.length)).drop (lo.getD 0)
theorem sliceBounds_nat (lo hi : Option Nat) (n : Nat) : sliceBounds (natP lo) (natP hi) none n = (((min (lo.getD 0) n : Nat) : Int), ((min (hi.getD n) n : Nat) : Int), (1 : Int)) := by
  have h : ∀ k : Nat, max 0 (min (if (k : Int) < 0 then (k : Int) + n else k) n) = ((min k n : Nat) : Int) := fun k => by
    by_cases hk : k ≤ n
    · rw [if_neg (Int.not_lt.mpr (Int.natCast_nonneg k)), Nat.min_eq_left hk, Int.min_eq_left (Int.ofNat_le.mpr hk), Int.max_eq_right (Int.natCast_nonneg k)]
    · rw [if_neg (Int.not_lt.mpr (Int.natCast_nonneg k)), Nat.min_eq_right (Nat.le_of_not_le hk), Int.min_eq_right (Int.ofNat_le.mpr (Nat.le_of_not_le hk)), Int.max_eq_right (Int.natCast_nonneg n)]
  cases lo <;> cases hi <;> simp only [sliceBounds, natP, Option.getD, show (1 : Int) > 0 by decide, if_true, h, Nat.zero_min, Nat.min_self, Int.natCast_zero]
theorem slicePick_nat (us : List Value) (lo hi : Option Nat) : slicePick us.toArray (natP lo) (natP hi) none = (sliceL us lo hi).toArray := by
  unfold slicePick
  rw [List.size_toArray, sliceBounds_nat, sliceRange_one, pick_run]
  unfold sliceL
  congr 1
  rcases Nat.le_total (lo.getD 0) us.length with h | h
  · rw [Nat.min_eq_left h]
    rcases Nat.le_total (hi.getD us.length) us.length with h' | h'
    · rw [Nat.min_eq_left h', List.drop_take]
    · rw [Nat.min_eq_right h', List.take_of_length_le h', List.take_of_length_le (by simp)]
  · rw [Nat.min_eq_right h, List.drop_of_length_le (by simp), List.drop_of_length_le (by simp; lia)]
    simp
theorem AbL.slice {us : List Value} {xs : List AV} (h : AbL us xs) (lo hi : Option Nat) : AbL (sliceL us lo hi) (sliceL xs lo hi) := by
  unfold sliceL; rw [h.length]; exact (h.take _).drop _
theorem sliceL_le {α : Type} (xs : List α) (lo hi : Option Nat) : (sliceL xs lo hi).length ≤ xs.length := by
  unfold sliceL; simp only [List.length_drop, List.length_take]; lia
theorem wE_slice {o : Expr} {lo hi : Option Expr} {p pos : Pos} {x : Addr} {xs : List AV} {kl kh : Option Nat} {Φ : AV → Led → Prop} (ho : PE g A env led o (.ref x)) (hl : PartE g A env led lo kl) (hh : PartE g A env led hi kh) (hm : (x, Cell.list xs) ∈ led)
    (k : ∀ z, Φ (.ref z) ((z, .list (sliceL xs kl kh)) :: led)) : wpE g A E env (.Subscript o (.Slice lo hi none p) pos) led Φ := fun s S =>
  Subscript_ (ho.out S fun v s1 hv S1 => wpAny_Slice (hl.out S1 fun vl s2 pl S2 => hh.out S2 fun vh s3 ph S3 => evalPart_none_step (by
    obtain ⟨t, rfl⟩ := hv
    obtain ⟨us, n, ho, ab, hb, hl, hL⟩ := S3.lst hm
    refine subTail (T := "list") (hL.push _).typeIs slot_list_getitem.lookup (wpAny_getItem_list_slice (hL.push _) (Heap.IsSliceOf.new ..) pl ph .none (by simp) ?_ (by rw [List.size_toArray, hl]; exact fitsBig hb)) rfl
    rw [slicePick_nat]
    have S4 := (S3.push { cls := .type "slice", data := .fields #[vl, vh, .none] }).newL (ab.slice kl kh) (Nat.le_trans (sliceL_le ..) hb)
    exact ⟨.ref _, _, ⟨0, rfl⟩, S4, k _⟩)))
theorem mapSeq_list (f : Array Value → Array Value) (us : List Value) (n : Nat) : ∃ n', Obj.mapSeq f { cls := .type "list", data := .seq us.toArray n } = { cls := .type "list", data := .seq (f us.toArray) n' } := ⟨_, rfl⟩
theorem St.putL {s : Shared} {x : Addr} {xs xs' : List AV} {us us' : List Value} {n : Nat} (S : St g s led) (U : LPut x (.list xs) (.list xs') led led') {f : Array Value → Array Value} (ho : s.heap.get? x = some { cls := .type "list", data := .seq us.toArray n })
    (hf : f us.toArray = us'.toArray) (ab : AbL us' xs') (hb : xs'.length ≤ Big) : St g { s with heap := s.heap.update x (Obj.mapSeq f) } led' := by
  have h1 := Heap.SameBut.update (h := s.heap) (a := x) (f := Obj.mapSeq f)
  obtain ⟨n', e⟩ := mapSeq_list f us n
  rw [hf] at e
  exact S.upd (tk := s.toks) U h1.1 (fun b o hb e => by rw [h1.2 b hb]; exact e) (by rw [Heap.get?_update_self _ ho (by rw [e]; rfl), e]) ⟨us', n', rfl, ab, hb⟩
end
end Mine
end
section
open PySem PySem.W PyProof.Rows PySem.Calls
set_option maxRecDepth 100000
set_option maxHeartbeats 400000
set_option Elab.async false
set_option linter.unusedVariables false
namespace Mine
section
variable {g : Gx} {A : Around} {E : Value → Shared → Prop} {led led' : Led} {qual : PySem.Str} {sc : Scope} {L f : Addr} {cd : Value} {vs vs' : List (PySem.Str × Option AV)} {cl : List (PySem.Str × Addr)} {env : Env}
theorem setitem_ {s : Shared} {x : Addr} {xs : List AV} {k : Nat} {i : Int} {t : Tok} {v : Value} {a : AV} (S : St g s led) (U : LPut x (.list xs) (.list (xs.set k a)) led led') (hk : i = (k : Int)) (hl : k < xs.length) (av : Ab v a) {Q : Unit → Shared → Prop}
    (q : ∀ s', St g s' led' → Q () s') : wpAny (model pw g.w) A (setItem (.ref x) (.int i t) v) Q E s := by
  obtain ⟨us, n, ho, ab, hb, hlen, hL⟩ := S.lst U.mem
  have hbb := hb
  unfold Big at hbb
  unfold setItem
  refine wpAny_holding ?_
  refine wpAny_bind (wpAny_sequenceKey hL.typeIs (by decide) ?_)
  refine wpAny_bind (wpAny_callSpecial?_slot (name := Str.ofString "__setitem__") hL.typeIs slot_list_setitem
    (wpAny_call_entry slot_list_setitem hL.typeIs entry_list_setitem ?_ (args_list_setitem _ _ _)))
  show wpAny _ _ (Builtin.List.listSubscript? (.int i t) >>= _) _ _ s
  have hfit := fitsIndex_of (k := i) (by lia) (by lia)
  refine wpAny_bind (wpAny_listSubscript_int hfit ?_)
  clear hfit hbb
  subst hk
  have hk' : k < us.length := by lia
  have hx' : us.toArray[k]? = some us[k] := by rw [List.getElem?_toArray, List.getElem?_eq_getElem hk']
  show wpAny _ _ ((seqItemAt x k >>= fun r => pure (r.map (k, ·))) >>= _) _ _ s
  refine wpAny_bind (wpAny_bind (wpAny_seqItemAt ho rfl (wpAny_pure ?_)))
  rw [hx']
  show wpAny _ _ (setSeqItemAt x k v >>= _) _ _ s
  refine wpAny_bind (wpAny_setSeqItemAt ho rfl ?_)
  have fin := S.putL (us' := us.set k v) U (f := (·.setIfInBounds k v)) ho (by simp) (ab.set k av) (by rw [List.length_set]; exact hb)
  first
    | exact wpAny_bind (wpAny_pure (wpAny_pure ⟨.none, rfl, wpAny_pure (q _ fin)⟩))
    | exact wpAny_pure ⟨.none, rfl, wpAny_pure (q _ fin)⟩
theorem wX_item {o i e : Expr} {p pos : Pos} {rest : List Stmt} {Φ : Out → Led → Prop}
    (h : wpE g A E env e led fun a l => ∃ x xs k l', PE g A env l o (.ref x) ∧ PE g A env l i (.int (k : Nat)) ∧ k < xs.length ∧ LPut x (.list xs) (.list (xs.set k a)) l l' ∧ wpX g A E env rest l' Φ)
    (hs : swapsWith e (some (.Subscript o i p)) pos.line env = pure false := by rfl) : wpX g A E env (.Assign [.Subscript o i p] e pos :: rest) led Φ :=
  wX_next fun s S => wpAny_Assign_Subscript (h.run S fun v s1 a l av S1 z => by
    obtain ⟨x, xs, k, l', ho, hi, hk, U, z⟩ := z
    exact ho.out S1 fun ov s2 hv S2 => hi.out S2 fun iv s3 hi S3 => hv.elim fun t e => hi.elim fun t' e' => by
      subst e e'
      exact setitem_ S3 U rfl hk av fun s4 S4 => ⟨rfl, l', S4, z⟩) hs
theorem setitem_neg {s : Shared} {x : Addr} {xs : List AV} {t : Tok} {v : Value} {a : AV} (S : St g s led) (U : LPut x (.list xs) (.list (xs.set (xs.length - 1) a)) led led') (hl : 0 < xs.length) (av : Ab v a) {Q : Unit → Shared → Prop}
    (q : ∀ s', St g s' led' → Q () s') : wpAny (model pw g.w) A (setItem (.ref x) (.int (-1) t) v) Q E s := by
  obtain ⟨us, n, ho, ab, hb, hlen, hL⟩ := S.lst U.mem
  have hbb := hb
  unfold Big at hbb
  unfold setItem
  refine wpAny_holding ?_
  refine wpAny_bind (wpAny_sequenceKey hL.typeIs (by decide) ?_)
  refine wpAny_bind (wpAny_callSpecial?_slot (name := Str.ofString "__setitem__") hL.typeIs slot_list_setitem
    (wpAny_call_entry slot_list_setitem hL.typeIs entry_list_setitem ?_ (args_list_setitem _ _ _)))
  show wpAny _ _ (Builtin.List.listSubscript? (.int (-1) t) >>= _) _ _ s
  have hfit := fitsIndex_neg (k := -1) (by lia) (by lia)
  have hidx := seqIndex_neg (k := -1) (n := us.toArray.size) (by lia) (by rw [List.size_toArray]; lia)
  refine wpAny_bind (wpAny_listSubscript_int hfit ?_)
  clear hfit hbb
  rw [show (-1 : Int) = Int.negSucc 0 from rfl] at hidx ⊢
  show wpAny _ _ ((Builtin.List.listItems (.ref x) >>= fun xs => pure ((seqIndex? (Int.negSucc 0) xs.size).bind fun i => xs[i]?.map (i, ·))) >>= _) _ _ s
  refine wpAny_bind (wpAny_bind ?_)
  show wpAny _ _ (seqItems? (.ref x) >>= _) _ _ s
  refine wpAny_bind (wpAny_seqItems ho rfl (wpAny_pure (wpAny_pure ?_)))
  rw [hidx]
  have e1 : (Int.negSucc 0 + (us.toArray.size : Int)).toNat = xs.length - 1 := by rw [List.size_toArray, hlen]; lia
  have hk' : xs.length - 1 < us.length := by lia
  have hx' : us.toArray[xs.length - 1]? = some us[xs.length - 1] := by rw [List.getElem?_toArray, List.getElem?_eq_getElem hk']
  simp only [Option.bind_some, e1, hx', Option.map_some]
  show wpAny _ _ (setSeqItemAt x (xs.length - 1) v >>= _) _ _ s
  refine wpAny_bind (wpAny_setSeqItemAt ho rfl ?_)
  have fin := S.putL (us' := us.set (xs.length - 1) v) U (f := (·.setIfInBounds (xs.length - 1) v)) ho (by simp) (ab.set _ av) (by rw [List.length_set]; exact hb)
  first
    | exact wpAny_bind (wpAny_pure (wpAny_pure ⟨.none, rfl, wpAny_pure (q _ fin)⟩))
    | exact wpAny_pure ⟨.none, rfl, wpAny_pure (q _ fin)⟩
theorem wX_itemNeg {o e : Expr} {n : Nat} {c : Constant} {kd : Option PySem.Str} {p1 p2 p pos : Pos} {rest : List Stmt} {Φ : Out → Led → Prop} {i : Expr}
    (h : wpE g A E env e led fun a l => ∃ x xs l', PE g A env l o (.ref x) ∧ PE g A env l i (.int (-1)) ∧ 0 < xs.length ∧ LPut x (.list xs) (.list (xs.set (xs.length - 1) a)) l l' ∧ wpX g A E env rest l' Φ)
    (hs : swapsWith e (some (.Subscript o i p)) pos.line env = pure false := by rfl) : wpX g A E env (.Assign [.Subscript o i p] e pos :: rest) led Φ :=
  wX_next fun s S => wpAny_Assign_Subscript (h.run S fun v s1 a l av S1 z => by
    obtain ⟨x, xs, l', ho, hi, hk, U, z⟩ := z
    exact ho.out S1 fun ov s2 hv S2 => hi.out S2 fun iv s3 hi S3 => hv.elim fun t e => hi.elim fun t' e' => by
      subst e e'
      exact setitem_neg S3 U hk av fun s4 S4 => ⟨rfl, l', S4, z⟩) hs
theorem sub_slice {s : Shared} {sl : Addr} (hTs : s.TypeIs (.ref sl) "slice") {Q : Option Int → Shared → Prop} (k : Q none s) : wpAny (model pw g.w) A (Builtin.List.listSubscript? (.ref sl)) Q E s := by
  unfold Builtin.List.listSubscript?
  refine wpAny_bind (wpAny_specialOf hTs slice_no_index ?_)
  rw [Option.isNone_none, if_pos rfl]
  exact wpAny_pure k
theorem slice_parts {s : Shared} {sl : Addr} {vl vh : Value} {a b : Option Int} (hsl : s.heap.IsSliceOf sl vl vh .none) (pl : IsPart vl a) (ph : IsPart vh b) {Q : Value × Value × Value → Shared → Prop} (k : Q (rawPart a, rawPart b, rawPart none) s) : wpAny (model pw g.w) A (Builtin.List.listSliceParts (.ref sl)) Q E s := by
  obtain ⟨os, hos, hcs, hds⟩ := hsl
  rw [listSliceParts_eq]
  refine wpAny_bind (wpAny_field hos hds (x := .none) rfl (wpAny_bind (wpAny_listPart .none ?_)))
  rw [if_neg (by exact Bool.false_ne_true)]
  refine wpAny_bind (wpAny_field hos hds (x := vl) rfl (wpAny_bind (wpAny_listPart pl ?_)))
  exact wpAny_bind (wpAny_field hos hds (x := vh) rfl (wpAny_bind (wpAny_listPart ph (wpAny_pure k))))
theorem all_items {s : Shared} {y : Addr} {xs : Array Value} {n : Nat} {m : String} (hT : s.TypeIs (.ref y) "list") (ho : s.heap.get? y = some { cls := .type "list", data := .seq xs n }) {Q : Array Value → Shared → Prop} (k : Q xs s) : wpAny (model pw g.w) A (Builtin.List.listAllItems (.ref y) m) Q E s := by
  unfold Builtin.List.listAllItems
  refine wpAny_bind (wpAny_typeOf hT ?_)
  rw [if_pos (by decide)]
  exact wpAny_listItems ho rfl k
theorem setslice_ {s : Shared} {x y sl : Addr} {xs ys : List AV} {vl vh : Value} {i j : Nat} (S : St g s led) (hsl : s.heap.IsSliceOf sl vl vh .none) (pl : IsPart vl (some (i : Int))) (ph : IsPart vh (some (j : Int)))
    (U : LPut x (.list xs) (.list (xs.take i ++ ys ++ xs.drop j)) led led') (hy : (y, Cell.list ys) ∈ led) (hxy : x ≠ y) (hij : i ≤ j) (hj : j ≤ xs.length) (hb' : xs.length + ys.length ≤ Big) {Q : Unit → Shared → Prop}
    (q : ∀ s', St g s' led' → Q () s') : wpAny (model pw g.w) A (setItem (.ref x) (.ref sl) (.ref y)) Q E s := by
  obtain ⟨us, n, ho, ab, hb, hlen, hL⟩ := S.lst U.mem
  obtain ⟨us', n', ho', ab', _, hlen', hL'⟩ := S.lst hy
  obtain ⟨os, hos, hcs, hds⟩ := id hsl
  have hTs : s.TypeIs (.ref sl) "slice" := ⟨os, hos, hcs⟩
  unfold setItem
  refine wpAny_holding ?_
  refine wpAny_bind (wpAny_sequenceKey hL.typeIs (by decide) ?_)
  refine wpAny_bind (wpAny_callSpecial?_slot (name := Str.ofString "__setitem__") hL.typeIs slot_list_setitem
    (wpAny_call_entry slot_list_setitem hL.typeIs entry_list_setitem ?_ (args_list_setitem _ _ _)))
  show wpAny _ _ (Builtin.List.listSubscript? (.ref sl) >>= _) _ _ s
  refine wpAny_bind (sub_slice hTs ?_)
  show wpAny _ _ (typeOf (.ref sl) >>= _) _ _ s
  refine wpAny_bind (wpAny_typeOf hTs ?_)
  rw [if_neg (by decide)]
  refine wpAny_bind (slice_parts hsl pl ph ?_)
  have hne : ¬ Builtin.List.listSameRef (.ref x) (.ref y) = true := fun e => hxy (beq_iff_eq.mp e)
  dsimp only
  rw [if_neg hne]
  refine wpAny_bind (all_items hL'.typeIs ho' ?_)
  refine wpAny_bind (wpAny_listItems ho rfl ?_)
  have hsi := sliceIndices_raw (natP (some i)) (natP (some j)) none us.toArray.size (fun h => nomatch h)
  rw [List.size_toArray] at hsi ⊢
  rw [sliceBounds_nat] at hsi
  refine wpAny_bind (wpAny_of_eq hsi ?_)
  have hi' : min i us.length = i := by lia
  have hj' : min j us.length = j := by lia
  simp only [Option.getD_some, hi', hj', beq_self_eq_true, if_true]
  refine wpAny_bind (wpAny_rule ?_)
  have htl : Builtin.List.listTooLong (us.toArray.size + us'.toArray.size) = false := by
    unfold Builtin.List.listTooLong
    rw [List.size_toArray, List.size_toArray, sizeLine_eq]
    unfold Big at hb'
    simp only [gt_iff_lt, decide_eq_false_iff_not]; lia
  rw [← List.size_toArray, htl]
  simp only [Bool.false_eq_true, if_false]
  have e3 : ((max (i : Int) (j : Int)).toNat) = j := by lia
  have e4 : ((i : Int).toNat) = i := by lia
  rw [e3, e4]
  refine wpAny_bind (m := updateSeq x _) ?_
  refine wpAny_updateSeq ho rfl ?_ (by rw [List.size_toArray, hlen]; exact fitsBig hb) ?_
  · refine wpAny_bind (wpAny_letGo ?_)
    refine wpAny_pure ⟨.none, rfl, wpAny_pure (q _ ?_)⟩
    refine S.putL (us' := us.take i ++ us' ++ us.drop j) U ho ?_ ((((ab.take i).append ab').append (ab.drop j))) ?_
    · simp only [List.extract_toArray, List.append_toArray, List.extract_eq_take_drop, Nat.sub_zero, List.drop_zero, List.size_toArray]
      rw [List.take_of_length_le (l := us.drop j) (by simp)]
    · simp only [List.length_append, List.length_take, List.length_drop]; lia
  · simp; rw [sizeLine_eq]; unfold Big at hb'; lia
inductive SliP (g : Gx) (A : Around) (E : Value → Shared → Prop) (env : Env) (o lo hi : Expr) (rest : List Stmt) (Φ : Out → Led → Prop) (a : AV) (l : Led) : Prop
  | mk (x y : Addr) (xs ys : List AV) (i j : Nat) (l' : Led) (e : a = .ref y) (ho : PE g A env l o (.ref x)) (hl : PE g A env l lo (.int ((i : Nat) : Int))) (hh : PE g A env l hi (.int ((j : Nat) : Int))) (hy : (y, Cell.list ys) ∈ l) (hxy : (l.map (·.1)).Nodup → x ≠ y) (hij : i ≤ j) (hj : j ≤ xs.length)
      (hb : xs.length + ys.length ≤ Big) (U : LPut x (.list xs) (.list (xs.take i ++ ys ++ xs.drop j)) l l') (z : wpX g A E env rest l' Φ) : SliP g A E env o lo hi rest Φ a l
theorem wX_slice {o e lo hi : Expr} {p p' pos : Pos} {rest : List Stmt} {Φ : Out → Led → Prop}
    (h : wpE g A E env e led (SliP g A E env o lo hi rest Φ))
    (hs : swapsWith e (some (.Subscript o (.Slice (some lo) (some hi) none p') p)) pos.line env = pure false := by rfl) : wpX g A E env (.Assign [.Subscript o (.Slice (some lo) (some hi) none p') p] e pos :: rest) led Φ :=
  wX_next fun s S => wpAny_Assign_Subscript (h.run S fun v s1 a l av S1 z => by
    obtain ⟨x, y, xs, ys, i, j, l', ea, ho, hl, hh, hy, hxy, hij, hj, hb, U, z⟩ := z
    exact ho.out S1 fun ov s2 hv S2 => by
      subst ea
      obtain ⟨t, rfl⟩ := hv
      obtain ⟨t', rfl⟩ := av
      exact wpAny_Slice (evalPart_some_step (hl.out S2 fun vl s3 h3 S3 => evalPart_some_step (hh.out S3 fun vh s4 h4 S4 => evalPart_none_step (h3.elim fun t3 e3 => h4.elim fun t4 e4 => by
        subst e3 e4
        exact setslice_ (S4.push _) (Heap.IsSliceOf.new ..) (.int _ _) (.int _ _) U hy (hxy S1.nodup) hij hj hb fun s5 S5 => ⟨rfl, l', S5, z⟩))))) hs
theorem wE_append {o e : Expr} {ap pos : Pos} {x : Addr} {pl : Sem Bool} {Φ : AV → Led → Prop} (ho : PE g A env led o (.ref x)) (hx : ∃ xs, (x, Cell.list xs) ∈ led)
    (h : wpE g A E env e led fun a l => ∃ xs l', LPut x (.list xs) (.list (xs ++ [a])) l l' ∧ xs.length < Big ∧ Φ .none l')
    (hev : eval (.Call (.Attribute o (S "append") ap) [e] [] pos) env = (do
      let ov ← eval o env
      standAt ap.atName
      let (f, first) ← holding [ov] (getMethod ov (S "append") pl)
      callWith pos f first (backTo pos (starEach [e] env)) (backToKw pos (keywordEach [] env))) := by rfl)
    (he : starEach [e] env = (false, eval e env) :: starEach [] env := by rfl) : wpE g A E env (.Call (.Attribute o (S "append") ap) [e] [] pos) led Φ := fun s S =>
  methodCall_KW (ho.out S fun v s1 ab S1 => by
    obtain ⟨t, rfl⟩ := ab
    obtain ⟨xs, hx⟩ := hx
    obtain ⟨us, n, ho, ab, hb, hl, hL⟩ := S1.lst hx
    refine getMethod_list_append ho rfl rfl ?_
    have hL := wL_cons (pos := pos) (Φ := fun as l => ∃ a, as = [a] ∧ ∃ xs l', LPut x (.list xs) (.list (xs ++ [a])) l l' ∧ xs.length < Big ∧ Φ .none l') (wpS.mono h fun a l k => wL_nil ⟨a, rfl, k⟩) he
    refine callWith_method1 (hL.run S1 fun us s3 as l av S3 z => ?_) he
    obtain ⟨a, rfl, xs, l', U, hlt, k⟩ := z
    obtain ⟨t, rfl⟩ := ab1 av
    obtain ⟨us, n, ho, ab, hb, hl, hL⟩ := S3.lst U.mem
    refine PySem.wpAny_list_append_plain ⟨n, ho⟩ (fun h' ⟨n', e'⟩ hs => ⟨.none, l', ⟨0, rfl⟩, ?_, k⟩) (by rw [List.size_toArray, hl]; exact fitsBig hb)
    exact S3.upd (tk := s3.toks) U hs.1 (fun b o hb e => by rw [hs.2 b hb]; exact e) e' ⟨us ++ [a.val t], n', by simp, ab.append (.cons ⟨t, rfl⟩ .nil), by rw [List.length_append]; exact hlt⟩) hev
theorem wE_pop0 {o i : Expr} {ap pos : Pos} {x : Addr} {b : AV} {xs : List AV} {pl : Sem Bool} {Φ : AV → Led → Prop} (ho : PE g A env led o (.ref x)) (hi : PE g A env led i (.int 0)) (U : LPut x (.list (b :: xs)) (.list xs) led led')
    (h : Φ b led')
    (hev : eval (.Call (.Attribute o (S "pop") ap) [i] [] pos) env = (do
      let ov ← eval o env
      standAt ap.atName
      let (f, first) ← holding [ov] (getMethod ov (S "pop") pl)
      callWith pos f first (backTo pos (starEach [i] env)) (backToKw pos (keywordEach [] env))) := by rfl)
    (he : starEach [i] env = (false, eval i env) :: starEach [] env := by rfl) : wpE g A E env (.Call (.Attribute o (S "pop") ap) [i] [] pos) led Φ := fun s S =>
  methodCall_KW (ho.out S fun v s1 ab S1 => by
    obtain ⟨t, rfl⟩ := ab
    obtain ⟨us, n, ho, ab, hb, hl, hL⟩ := S1.lst U.mem
    refine getMethod_list_of F.slot_list_pop F.type_list_pop hL ⟨_, ho, rfl⟩ ?_
    refine callWith_method1 (PL.out (PL_cons hi PL_nil he) S1 fun us s3 av S3 => ?_) he
    obtain ⟨t, rfl⟩ := ab1 av
    obtain ⟨us, n, ho, ab, hb, hl, hL⟩ := S3.lst U.mem
    cases ab with
    | cons hv ab' =>
      rename_i v us'
      refine call_meets F.slot_list_pop ⟨_, ho, rfl⟩ F.entry_list_pop (F.args_list_pop_2 _ _) (MeetsSeq.list_pop_at x _ n 0 _ 0 v (by decide) (by simp [seqIndex?]) (by simp) (by rw [List.size_toArray, hl]; exact fitsBig hb)) ⟨ho, ⟨b, led', hv, ?_, h⟩⟩
      exact S3.putL (us' := us') U ho (by simp [Array.eraseIdxIfInBounds]) ab' (by simp at hb; lia)) hev
end
end Mine
end
section
open PySem PySem.W PyProof.Rows PySem.Calls
set_option maxRecDepth 100000
set_option maxHeartbeats 400000
set_option Elab.async false
set_option linter.unusedVariables false
namespace Mine
section
variable {g : Gx} {A : Around} {E : Value → Shared → Prop} {led led' : Led} {qual : PySem.Str} {sc : Scope} {L f : Addr} {cd : Value} {vs vs' : List (PySem.Str × Option AV)} {cl : List (PySem.Str × Addr)} {env : Env}
def IterOk (g : Gx) (A : Around) (it : Addr) (c : Nat → Cell) (xs : List AV) (keepL : Led → Prop) : Prop :=
  (∀ i a led led' s (Q : Option Value → Shared → Prop) E, xs[i]? = some a → keepL led → LPut it (c i) (c (i + 1)) led led' → St g s led → (∀ v s', Ab v a → St g s' led' → Q (some v) s') → wpAny (model pw g.w) A (pyNext (.ref it)) Q E s) ∧
  (∀ p led s (Q : Option Value → Shared → Prop) E, keepL (p :: led) → p = (it, c xs.length) → St g s (p :: led) → led ≠ [] → (∀ s', St g s' led → Q none s') → wpAny (model pw g.w) A (pyNext (.ref it)) Q E s)
theorem St.drop1 {s : Shared} {p : Addr × Cell} (S : St g s (p :: led)) {h' : Heap} {tk : Nat} (hne : led ≠ []) (hk : ∀ b o, b ≠ p.1 → s.heap.get? b = some o → h'.get? b = some o) : St g { s with heap := h', toks := tk } led := by
  have nd := S.nodup
  rw [List.map_cons, List.nodup_cons] at nd
  have at' : ∀ q ∈ led, ∃ o, h'.get? q.1 = some o ∧ q.2.Is g.w o := fun q hq => by
    obtain ⟨o, e, i⟩ := S.at_ q (List.mem_cons_of_mem _ hq)
    exact ⟨o, hk _ _ (fun e => nd.1 (by rw [← e]; exact List.mem_map_of_mem (f := (·.1)) hq)) e, i⟩
  refine ⟨fun b o e => hk b o (fun e' => ?_) (S.keep b o e), ?_, at', nd.2, fun q hq => S.fresh q (List.mem_cons_of_mem _ hq), S.os_, S.gens⟩
  · have := S.fresh p List.mem_cons_self
    subst e'
    exact absurd (Heap.lt_size e) (Nat.not_lt.mpr this)
  · obtain ⟨q, hq⟩ := List.exists_mem_of_ne_nil _ hne
    obtain ⟨o, e, _⟩ := at' q hq
    exact Nat.le_of_lt (Nat.lt_of_le_of_lt (S.fresh q (List.mem_cons_of_mem _ hq)) (Heap.lt_size e))
theorem for_ {target : Expr} {it : Addr} {c : Nat → Cell} {xs : List AV} {body : List Stmt} {s : Shared} {keepL : Led → Prop} (I : Nat → Led → Prop) (hI : IterOk g A it c xs keepL)
    (hkeep : ∀ i l p, I i l → keepL (p :: l)) (hne : ∀ i l, I i l → l ≠ [])
    (h0 : I 0 led) (S : St g s ((it, c 0) :: led))
    (step : ∀ i a l, xs[i]? = some a → I i l → ∀ v s, Ab v a → St g s ((it, c (i + 1)) :: l) → wpAny (model pw g.w) A (assign target env v) (fun _ s' => wpAny (model pw g.w) A (execs body env) (fun f s'' => (f = .next ∨ f = .cont) ∧ ∃ l', St g s'' ((it, c (i + 1)) :: l') ∧ I (i + 1) l') (fun _ _ => False) s') (fun _ _ => False) s)
    {R : Result → Shared → Prop} (fin : ∀ l s', I xs.length l → St g s' l → R (.ok .next) s')
    (hg : ∀ v, letOwnedTupleGo target (.ref it) v = pure () := by intro _; rfl) :
    codeAny (model pw g.w) A (.forLoop target (.ref it) body [] env) R s := by
  refine codeAny_forLoop (fun n s => ∃ i l, n = xs.length - i ∧ i ≤ xs.length ∧ St g s ((it, c i) :: l) ∧ I i l) (fun n s z => ?_) (xs.length - 0) ⟨0, led, rfl, Nat.zero_le _, S, h0⟩ hg
  obtain ⟨i, l, hn, hi, S, hI'⟩ := z
  rcases Nat.lt_or_ge i xs.length with hlt | hge
  · refine hI.1 i xs[i] _ _ s _ _ (List.getElem?_eq_getElem hlt) (hkeep i l _ hI') .head S fun v s1 av S1 => ?_
    refine wpAny_mono (step i xs[i] l (List.getElem?_eq_getElem hlt) hI' v s1 av S1) (fun _ s2 h2 => wpAny_mono h2 (fun f s3 z => ?_) fun _ _ x => x.elim) fun _ _ x => x.elim
    have hlt' : xs.length - (i + 1) < n := hn ▸ Nat.sub_succ_lt_self _ _ hlt
    obtain ⟨hf, l', S3, hI3⟩ := z
    rcases hf with rfl | rfl
    · exact ⟨xs.length - (i + 1), hlt', i + 1, l', rfl, hlt, S3, hI3⟩
    · exact ⟨xs.length - (i + 1), hlt', i + 1, l', rfl, hlt, S3, hI3⟩
  · have e : i = xs.length := Nat.le_antisymm hi hge
    subst e
    exact hI.2 (it, c xs.length) l s _ _ (hkeep _ l _ hI') rfl S (hne _ l hI') fun s1 S1 => wpAny_execs_nil (fin l s1 hI' S1)
def listIt (l : Addr) (i : Nat) : Cell := .prop fun o => o.cls = .type "list_iterator" ∧ o.data = .fields #[.ref l, .int i 0]
theorem listIt_ok {it l : Addr} {xs : List AV} (hh : A.handled = none) : IterOk g A it (listIt l) xs (fun led => (l, Cell.list xs) ∈ led) := by
  refine ⟨fun i a led led' s Q E hx hm U S k => ?_, fun p led s Q E hm hp S hne k => ?_⟩
  · obtain ⟨us, n, ho, ab, hb, hl, hL⟩ := S.lst hm
    obtain ⟨o, e, hc, hd⟩ := S.at_ _ U.mem
    obtain ⟨v, hv, av⟩ := ab.get i hx
    refine wpAny_pyNext_list_item ⟨o, e, hc, hd⟩ hL (by rw [List.getElem?_toArray]; exact hv) fun h' z hs => k v _ av ?_
    obtain ⟨o', e', hc', hd'⟩ := z
    exact S.upd (tk := s.toks) U hs.1 (fun b o hb e => by rw [hs.2 b hb]; exact e) e' ⟨hc', hd'⟩
  · subst hp
    obtain ⟨us, n, ho, ab, hb, hl, hL⟩ := S.lst hm
    obtain ⟨o, e, hc, hd⟩ := S.at_ _ List.mem_cons_self
    exact wpAny_pyNext_list_end hh ⟨o, e, hc, hd⟩ hL (by rw [List.getElem?_toArray]; exact List.getElem?_eq_none (by lia)) fun h' hs => k _ (S.drop1 (tk := s.toks) hne hs)
def rangeIs (a b c : Int) : Cell := .prop fun o => ∃ t u v, o = { cls := .type "range", dict := none, data := .fields #[.int a t, .int b u, .int c v], slots := #[] }
def rangeIt (a c : Int) (n : Nat) (i : Nat) : Cell := .prop fun o => o = { cls := .type "range_iterator", dict := none, data := .fields #[rawInt (a + i * c), rawInt ((n : Int) - i), rawInt c], slots := #[] }
def rangeL (a c : Int) (n : Nat) : List AV := (List.range n).map fun i : Nat => .int (a + (i : Int) * c)
theorem rangeL_len {a c : Int} {n : Nat} : (rangeL a c n).length = n := by simp [rangeL]
theorem rangeIt_ok {it : Addr} {a c : Int} {n : Nat} (hh : A.handled = none) : IterOk g A it (rangeIt a c n) (rangeL a c n) (fun _ => True) := by
  refine ⟨fun i v led led' s Q E hx hm U S k => ?_, fun p led s Q E hm hp S hne k => ?_⟩
  · obtain ⟨o, e, rfl⟩ := S.at_ _ U.mem
    have hi : i < n := by have := some_lt hx; rwa [rangeL_len] at this
    have hv : v = .int (a + i * c) := by
      unfold rangeL at hx
      rw [List.getElem?_map, List.getElem?_range hi] at hx
      exact (Option.some.inj hx).symm
    subst hv
    refine wpAny_pyNext_range_item e (by lia) fun h' e' hs => k _ _ ⟨s.toks, rfl⟩ ?_
    refine S.upd (tk := s.toks + 1) U hs.1 (fun b o hb e => by rw [hs.2 b hb]; exact e) e' ?_
    show _ = _
    have e1 : a + ((i : Nat) : Int) * c + c = a + ((i + 1 : Nat) : Int) * c := by rw [Int.natCast_add, Int.add_mul]; lia
    have e2 : (n : Int) - i - 1 = (n : Int) - ((i + 1 : Nat) : Int) := by lia
    rw [e1, e2]
  · subst hp
    obtain ⟨o, e, rfl⟩ := S.at_ _ List.mem_cons_self
    rw [rangeL_len] at e
    exact wpAny_pyNext_range_end hh e (by lia) fun h' hs => k _ (S.drop1 (tk := s.toks) hne hs)
inductive ForP (g : Gx) (A : Around) (E : Value → Shared → Prop) (qual : PySem.Str) (sc : Scope) (L f : Addr) (cd : Value) (cl : List (PySem.Str × Addr)) (x : PySem.Str) (body rest : List Stmt) (Φ : Out → Led → Prop) (r : AV) (led1 : Led) : Prop
  | mk (xs : List AV) (vs0 : List (PySem.Str × Option AV)) (led0 : Led) (I : Nat → List (PySem.Str × Option AV) → Led → Prop)
      (hr : (∃ l, r = .ref l ∧ led1 = (L, .frame sc vs0) :: led0 ∧ (∀ i vs l', I i vs l' → (l, Cell.list xs) ∈ l')) ∨
        (∃ q a b c n, r = .ref q ∧ led1 = (q, rangeIs a b c) :: (L, .frame sc vs0) :: led0 ∧ xs = rangeL a c n ∧ Builtin.Range.small a b c = true ∧ Builtin.Range.rangeSize a b c = (n : Int)))
      (h0 : I 0 vs0 led0)
      (step : ∀ i a vs l p, xs[i]? = some a → I i vs l → ∃ vs', VPut x a vs vs' ∧ wpX g A (fun _ _ => False) (envX qual sc L f cd cl) body ((L, .frame sc vs') :: p :: l) fun o l2 => (o = .next ∨ o = .cont) ∧ ∃ vs2 l3, l2 = (L, .frame sc vs2) :: p :: l3 ∧ I (i + 1) vs2 l3)
      (fin : ∀ vs l, I xs.length vs l → wpX g A E (envX qual sc L f cd cl) rest ((L, .frame sc vs) :: l) Φ) : ForP g A E qual sc L f cd cl x body rest Φ r led1
theorem wX_for {x : PySem.Str} {px pos : Pos} {iter : Expr} {body rest : List Stmt} {Φ : Out → Led → Prop} (hh : A.handled = none)
    (h : wpE g A E (envX qual sc L f cd cl) iter led (ForP g A E qual sc L f cd cl x body rest Φ))
    (hs : ∀ y, foldedSetIterable iter (envX qual sc L f cd cl) y = pure y := by intro _; rfl) (hg : ∀ it v, letOwnedTupleGo (.Name x px) (.ref it) v = pure () := by intro _ _; rfl) :
    wpX g A E (envX qual sc L f cd cl) (.For (.Name x px) iter body [] pos :: rest) led Φ := wX_next fun s S => by
  refine wpAny_For (h.run S fun v s1 r led1 av S1 z => ?_) hs
  obtain ⟨xs, vs0, led0, I, hr, h0, step, fin⟩ := z
  have go : ∀ (it : Addr) (c : Nat → Cell) (keepL : Led → Prop) (s2 : Shared), IterOk g A it c xs keepL → (∀ i vs l p q, I i vs l → keepL (p :: q :: l)) → St g s2 ((it, c 0) :: (L, .frame sc vs0) :: led0) →
      codeAny (model pw g.w) A (.forLoop (.Name x px) (.ref it) body [] (envX qual sc L f cd cl)) (fun r s' => match r with | .ok fl => fl = .next ∧ ∃ l, St g s' l ∧ wpX g A E (envX qual sc L f cd cl) rest l Φ | .error e => cameBackBy (model pw g.w) A (envX qual sc L f cd cl) E e s') s2 := by
    intro it c keepL s2 hI hk S2
    refine for_ (fun i l => ∃ vs l', l = (L, .frame sc vs) :: l' ∧ I i vs l') hI (fun i l p z => by obtain ⟨vs, l', rfl, hi⟩ := z; exact hk i vs l' _ _ hi) (fun i l z => by obtain ⟨vs, l', rfl, hi⟩ := z; exact List.cons_ne_nil _ _) ⟨vs0, led0, rfl, h0⟩ S2 (fun i a l hx z v s3 av S3 => ?_) (fun l s' z S' => ?_) (hg it)
    · obtain ⟨vs, l', rfl, hi⟩ := z
      obtain ⟨vs', V, hb⟩ := step i a vs l' (it, c (i + 1)) hx hi
      refine wpAny_assign_Name (store_ (S3.perm (.swap ..)) .head V av fun s4 S4 => ?_)
      refine hb.run S4 fun f s5 o l2 ro S5 z => ?_
      obtain ⟨ho, vs2, l3, rfl, hi2⟩ := z
      exact ⟨ho.imp (fun e => by subst e; exact ro) (fun e => by subst e; exact ro), (L, .frame sc vs2) :: l3, S5.perm (.swap ..), vs2, l3, rfl, hi2⟩
    · obtain ⟨vs, l', rfl, hi⟩ := z
      exact ⟨rfl, _, S', fin vs l' hi⟩
  rcases hr with ⟨l, rfl, rfl, hl⟩ | ⟨q, a, b, c, n, rfl, rfl, rfl, hsm, hsz⟩
  · obtain ⟨t, rfl⟩ := av
    obtain ⟨us, n, ho, ab, hb, hlen, hL⟩ := S1.lst (List.mem_cons_of_mem _ (hl 0 vs0 led0 h0))
    exact wpAny_pyIter_list hL (go _ (listIt l) _ _ (listIt_ok hh) (fun i vs l' p q hi => List.mem_cons_of_mem _ (List.mem_cons_of_mem _ (hl i vs l' hi))) (S1.new (o := { cls := .type "list_iterator", data := .fields #[.ref l, .int 0 0] }) (c := listIt l 0) ⟨rfl, rfl⟩ rfl))
  · obtain ⟨t, rfl⟩ := av
    obtain ⟨o, ho, t1, t2, t3, rfl⟩ := S1.at_ _ List.mem_cons_self
    refine wpAny_pyIter_range ho hsm (go _ (rangeIt a c n) _ _ (rangeIt_ok hh) (fun _ _ _ _ _ _ => trivial) ((S1.new (c := rangeIt a c n 0) ?_ rfl).sub (by exact (List.Sublist.cons _ (List.Sublist.refl _)).cons_cons _)))
    show _ = _
    rw [hsz]
    simp
theorem wK_range1 {n : Int} {Φ : AV → Led → Prop} (h : ∀ r, Φ (.ref r) ((r, rangeIs 0 n 1) :: led)) : wpK g A E (.type "range") [.int n] led Φ := fun us ab s S => by
  obtain ⟨t, rfl⟩ := ab1 ab
  exact call_range_1 ⟨.ref s.heap.objs.size, _, ⟨0, rfl⟩, (S.new (c := rangeIs 0 n 1) ⟨_, _, _, rfl⟩ rfl).toks _, h _⟩
theorem wK_range2 {a n : Int} {Φ : AV → Led → Prop} (h : ∀ r, Φ (.ref r) ((r, rangeIs a n 1) :: led)) : wpK g A E (.type "range") [.int a, .int n] led Φ := fun us ab s S => by
  obtain ⟨t, u, rfl⟩ := ab2 ab
  exact call_range_2 ⟨.ref s.heap.objs.size, _, ⟨0, rfl⟩, (S.new (c := rangeIs a n 1) ⟨_, _, _, rfl⟩ rfl).toks _, h _⟩
theorem ab3 {us : List Value} {a b c : AV} (h : AbL us [a, b, c]) : ∃ t u v, us = [a.val t, b.val u, c.val v] := by
  cases h with | cons h t => obtain ⟨t', u, rfl⟩ := ab2 t; obtain ⟨t, rfl⟩ := h; exact ⟨t, t', u, rfl⟩
theorem wK_range3 {a b c : Int} {Φ : AV → Led → Prop} (hc : c ≠ 0) (hp : Builtin.divisionGoesByPylong (b - a) c = false) (h : ∀ r, Φ (.ref r) ((r, rangeIs a b c) :: led)) : wpK g A E (.type "range") [.int a, .int b, .int c] led Φ := fun us ab s S => by
  obtain ⟨t, u, v, rfl⟩ := ab3 ab
  exact call_range_3 hc ⟨.ref s.heap.objs.size, _, ⟨0, rfl⟩, (S.new (c := rangeIs a b c) ⟨_, _, _, rfl⟩ rfl).toks _, h _⟩ (.inl hp)
theorem AbL.ofAt {us : List Value} : ∀ {xs : List AV}, us.length = xs.length → (∀ (j : Nat) (v : Value) (a : AV), us[j]? = some v → xs[j]? = some a → Ab v a) → AbL us xs := by
  induction us with
  | nil => intro xs e _; cases xs with | nil => exact .nil | cons _ _ => cases e
  | cons u us ih =>
    intro xs e k
    cases xs with
    | nil => cases e
    | cons x xs => exact .cons (k 0 u x rfl rfl) (ih (Nat.succ.inj e) fun j v a h1 h2 => k (j + 1) v a h1 h2)
theorem wK_listRange {r : Addr} {a b c : Int} {n : Nat} {Φ : AV → Led → Prop} (hh : A.handled = none) (hm : (r, rangeIs a b c) ∈ led) (hsm : Builtin.Range.small a b c = true) (hsz : Builtin.Range.rangeSize a b c = (n : Int)) (hn : n ≤ Big)
    (h : ∀ z, Φ (.ref z) ((z, .list (rangeL a c n)) :: led)) : wpK g A E (.type "list") [.ref r] led Φ := fun us ab s S => by
  obtain ⟨t, rfl⟩ := ab1 ab
  obtain ⟨o, ho, t1, t2, t3, rfl⟩ := S.at_ _ hm
  refine call_list_range hh ho hsm hsz (by unfold Big at hn; lia) fun h' tk acc cap hk hnew hit => ⟨.ref s.heap.objs.size, _, ⟨0, rfl⟩, ?_, h _⟩
  refine S.newAt (S.keeps (tk := tk) hm hk) hnew ⟨acc.toList, cap, by rw [Array.toArray_toList], AbL.ofAt (by rw [rangeL_len]; exact hit.1) fun j v a h1 h2 => ?_, by rw [rangeL_len]; exact hn⟩
  obtain ⟨t, rfl⟩ := hit.2 j v (by rw [← Array.getElem?_toList]; exact h1)
  have hj := some_lt h2
  rw [rangeL_len] at hj
  unfold rangeL at h2
  rw [List.getElem?_map, List.getElem?_range hj] at h2
  cases h2
  exact ⟨t, rfl⟩
theorem wX_while {test : Expr} {body rest : List Stmt} {pos : Pos} {Φ : Out → Led → Prop} (I : Nat → List (PySem.Str × Option AV) → Led → Prop) {n : Nat} (h0 : I n vs led)
    (step : ∀ n vs l, I n vs l → wpT g A (fun _ _ => False) (envX qual sc L f cd cl) test ((L, .frame sc vs) :: l) fun b l1 =>
      if b = true then wpX g A (fun _ _ => False) (envX qual sc L f cd cl) body l1 fun o l2 => (o = .next ∨ o = .cont) ∧ ∃ m vs2 l3, m < n ∧ l2 = (L, .frame sc vs2) :: l3 ∧ I m vs2 l3
      else wpX g A E (envX qual sc L f cd cl) rest l1 Φ) : wpX g A E (envX qual sc L f cd cl) (.While test body [] pos :: rest) ((L, .frame sc vs) :: led) Φ := wX_next fun s S => by
  refine wpAny_While (codeAny_whileLoop (fun n s => ∃ vs l, St g s ((L, .frame sc vs) :: l) ∧ I n vs l) (fun n s z => ?_) n ⟨vs, led, S, h0⟩)
  obtain ⟨vs, l, S, hI⟩ := z
  refine wpAny_mono ((step n vs l hI).run S fun b s1 b' l1 e S1 h1 => ?_) (fun _ _ x => x) fun _ _ x => x.elim
  subst e
  cases b with
  | false => exact wpAny_execs_nil ⟨rfl, l1, S1, h1⟩
  | true =>
    refine wpAny_mono (wpS.run h1 S1 fun f s2 o l2 ro S2 z => ?_) (fun _ _ x => x) fun _ _ x => x.elim
    obtain ⟨ho, m, vs2, l3, hm, rfl, hI2⟩ := z
    rcases ho with rfl | rfl
    · rw [show f = .next from ro]; exact ⟨m, hm, vs2, l3, S2, hI2⟩
    · rw [show f = .cont from ro]; exact ⟨m, hm, vs2, l3, S2, hI2⟩
end
end Mine
end
section
open PySem PySem.W PyProof.Rows PySem.Calls PySem.SeqAt
set_option maxRecDepth 100000
set_option maxHeartbeats 400000
set_option Elab.async false
set_option linter.unusedVariables false
namespace Mine
section
variable {g : Gx} {A : Around} {E : Value → Shared → Prop} {led led' : Led} {qual : PySem.Str} {sc : Scope} {L f : Addr} {cd : Value} {vs vs' : List (PySem.Str × Option AV)} {cl : List (PySem.Str × Addr)} {env : Env}
def PCmp (g : Gx) (A : Around) (led : Led) (op : CmpOp) (x y : AV) (c : Bool) : Prop := ∀ v u s E (Q : Value → Shared → Prop), Ab v x → Ab u y → St g s led → (∀ s', St g s' led → Q (.bool c) s') → wpAny (model pw g.w) A (compareOp op v u) Q E s
theorem PT_cmpG {op : CmpOp} {l r : Expr} {pos : Pos} {x y : AV} {c : Bool} (hl : PE g A env led l x) (hr : PE g A env led r y) (b : PCmp g A led op x y c) (hm : behindInMarks op r = false := by rfl) : PT g A env led (.Compare l [op] [r] pos) c :=
  PT.mk' fun s E S Q k => wpAny_isTrue_Compare1 (hl.out S fun v s1 hv S1 => hr.out S1 fun u s2 hu S2 => b v u s2 _ _ hv hu S2 fun s3 S3 => wpAny_truthy_bool (k _ S3)) hm
theorem PE_cmpG {op : CmpOp} {l r : Expr} {pos : Pos} {x y : AV} {c : Bool} (hl : PE g A env led l x) (hr : PE g A env led r y) (b : PCmp g A led op x y c) (hm : behindInMarks op r = false := by rfl) : PE g A env led (.Compare l [op] [r] pos) (.bool c) :=
  PE.mk' fun s E S Q k => wpAny_Compare1 (hl.out S fun v s1 hv S1 => hr.out S1 fun u s2 hu S2 => b v u s2 _ _ hv hu S2 fun s3 S3 => k _ _ ⟨0, rfl⟩ S3) hm
theorem wT_cmp {op : CmpOp} {l r : Expr} {pos : Pos} {Φ : Bool → Led → Prop} (h : wpE g A E env l led fun x l1 => wpE g A E env r l1 fun y l2 => ∃ c, PCmp g A l2 op x y c ∧ Φ c l2) (hm : behindInMarks op r = false := by rfl) : wpT g A E env (.Compare l [op] [r] pos) led Φ := fun s S =>
  wpAny_isTrue_Compare1 (h.run S fun v s1 x l1 hv S1 h1 => h1.run S1 fun u s2 y l2 hu S2 z => z.elim fun c z => z.1 v u s2 _ _ hv hu S2 fun s3 S3 => wpAny_truthy_bool ⟨c, l2, rfl, S3, z.2⟩) hm
theorem wE_cmp {op : CmpOp} {l r : Expr} {pos : Pos} {Φ : AV → Led → Prop} (h : wpE g A E env l led fun x l1 => wpE g A E env r l1 fun y l2 => ∃ c, PCmp g A l2 op x y c ∧ Φ (.bool c) l2) (hm : behindInMarks op r = false := by rfl) : wpE g A E env (.Compare l [op] [r] pos) led Φ := fun s S =>
  wpAny_Compare1 (h.run S fun v s1 x l1 hv S1 h1 => h1.run S1 fun u s2 y l2 hu S2 z => z.elim fun c z => z.1 v u s2 _ _ hv hu S2 fun s3 S3 => ⟨.bool c, l2, ⟨0, rfl⟩, S3, z.2⟩) hm
inductive EqI : AV → AV → Bool → Prop
  | int {x y : Int} : EqI (.int x) (.int y) (x == y)
  | str {x y : PySem.Str} : EqI (.str x) (.str y) (x == y)
theorem EqI.at {x y : AV} {c : Bool} (h : EqI x y c) {v u : Value} (hv : Ab v x) (hu : Ab u y) (A : Around) (s : Shared) : EqAt A s v u c := by
  obtain ⟨t, rfl⟩ := hv
  obtain ⟨t', rfl⟩ := hu
  cases h with
  | int => exact EqAt.int_int _ _ _ _
  | str => exact EqAt.str_str _ _ _ _
inductive EqP : List AV → List AV → List Bool → Prop
  | nilL {ys} : EqP [] ys []
  | nilR {xs} : EqP xs [] []
  | cons {x y c xs ys cs} (h : EqI x y c) (t : EqP xs ys cs) : EqP (x :: xs) (y :: ys) (c :: cs)
theorem EqP.len {xs ys cs} (h : EqP xs ys cs) : cs.length = min xs.length ys.length := by
  induction h with
  | nilL => exact (Nat.zero_min _).symm
  | nilR => exact (Nat.min_zero _).symm
  | cons _ _ ih => rw [List.length_cons, List.length_cons, List.length_cons, ih, Nat.add_min_add_right]
theorem EqP.get {xs ys cs} (h : EqP xs ys cs) : ∀ (j : Nat) {x y}, xs[j]? = some x → ys[j]? = some y → EqI x y (cs.getD j false) := by
  induction h with
  | nilL => intro j x y e; cases e
  | nilR => intro j x y e e'; cases e'
  | cons h _ ih =>
    intro j x y e e'
    cases j with
    | zero => cases e; cases e'; exact h
    | succ j => exact ih j e e'
theorem all_range_get (cs : List Bool) : (List.range cs.length).all (fun j => cs.getD j false) = cs.all id := by
  induction cs with
  | nil => rfl
  | cons c cs ih =>
    rw [List.length_cons, List.range_succ_eq_map, List.all_cons, List.all_map, List.all_cons]
    rw [← ih]; rfl
theorem EqP.at' {xs ys cs} (h : EqP xs ys cs) {us ws : List Value} (ab : AbL us xs) (ab' : AbL ws ys) (A : Around) (s : Shared) : ∀ j (h1 : j < us.toArray.size) (h2 : j < ws.toArray.size), EqAt A s us.toArray[j] ws.toArray[j] (cs.getD j false) := fun j h1 h2 => by
  have h1' : j < us.length := by simpa using h1
  have h2' : j < ws.length := by simpa using h2
  obtain ⟨a, ha, hab⟩ := ab.getV j (List.getElem?_eq_getElem h1')
  obtain ⟨b, hb, hbb⟩ := ab'.getV j (List.getElem?_eq_getElem h2')
  rw [List.getElem_toArray, List.getElem_toArray]
  exact (h.get j ha hb).at hab hbb A s
theorem PCmp_tupEq {x y : Addr} {xs ys : List AV} {cs : List Bool} (hu : A.units < cLine) (hx : TupAt led x xs) (hy : TupAt led y ys) (h : EqP xs ys cs) : PCmp g A led .Eq (.ref x) (.ref y) (cs.all id && xs.length == ys.length) := fun v u s E Q hv hu' S k => by
  obtain ⟨t, rfl⟩ := hv
  obtain ⟨t', rfl⟩ := hu'
  obtain ⟨us, ab, hl, -, hT⟩ := S.tup hx
  obtain ⟨ws, ab', hl', -, hT'⟩ := S.tup hy
  refine eq_tupleAt hT hT' hu (h.at' ab ab' _ _) ?_
  rw [List.size_toArray, List.size_toArray, hl, hl', ← h.len, all_range_get]
  exact k s S
theorem PCmp_tupNe {x y : Addr} {xs ys : List AV} {cs : List Bool} (hu : A.units < cLine) (hx : TupAt led x xs) (hy : TupAt led y ys) (h : EqP xs ys cs) : PCmp g A led .NotEq (.ref x) (.ref y) (!(cs.all id && xs.length == ys.length)) := fun v u s E Q hv hu' S k => by
  obtain ⟨t, rfl⟩ := hv
  obtain ⟨t', rfl⟩ := hu'
  obtain ⟨us, ab, hl, -, hT⟩ := S.tup hx
  obtain ⟨ws, ab', hl', -, hT'⟩ := S.tup hy
  refine PySem.EqBoolInt.of_rcne (RcNeAt.tuples hT hT' hu (h.at' ab ab' _ _)) ?_
  rw [List.size_toArray, List.size_toArray, hl, hl', ← h.len, all_range_get]
  exact k s S
theorem EqP.ints (xs : List Int) : ∀ (ys : List Int), ∃ cs, EqP (xs.map .int) (ys.map .int) cs ∧ (xs.length = ys.length → cs.all id = decide (xs = ys)) := by
  induction xs with
  | nil => intro ys; exact ⟨[], .nilL, fun h => by cases ys with | nil => rfl | cons _ _ => cases h⟩
  | cons x xs ih =>
    intro ys
    cases ys with
    | nil => exact ⟨[], .nilR, fun h => by cases h⟩
    | cons y ys =>
      obtain ⟨cs, h, e⟩ := ih ys
      refine ⟨_, .cons .int h, fun hl => ?_⟩
      rw [List.all_cons, e (Nat.succ.inj hl)]
      by_cases h1 : x = y <;> by_cases h2 : xs = ys <;> simp [h1, h2]
theorem PCmp_lstNe {x y : Addr} {xs ys : List Int} (hu : A.units < cLine) (hx : (x, Cell.list (xs.map .int)) ∈ led) (hy : (y, Cell.list (ys.map .int)) ∈ led) : PCmp g A led .NotEq (.ref x) (.ref y) (decide (xs ≠ ys)) := fun v u s E Q hv hu' S k => by
  obtain ⟨t, rfl⟩ := hv
  obtain ⟨t', rfl⟩ := hu'
  obtain ⟨us, n, ho, ab, hb, hl, hL⟩ := S.lst hx
  obtain ⟨ws, n', ho', ab', hb', hl', hL'⟩ := S.lst hy
  rw [List.length_map] at hl hl'
  by_cases hs : us.toArray.size = ws.toArray.size
  · obtain ⟨cs, h, e⟩ := EqP.ints xs ys
    refine PySem.EqBoolInt.of_rcne (RcNeAt.lists hL hL' hs hu (h.at' ab ab' _ _)) ?_
    simp only [List.size_toArray] at hs
    have hlen : us.toArray.size = cs.length := by rw [List.size_toArray, h.len, List.length_map, List.length_map]; lia
    rw [hlen, all_range_get, e (by lia)]
    have := k s S
    simpa using this
  · refine PySem.EqBoolInt.of_rcne (RcNeAt.lists_lengths hL hL' (by simpa using hs) hu) ?_
    have : xs ≠ ys := fun e => hs (by rw [List.size_toArray, List.size_toArray, hl, hl', e])
    have := k s S
    simpa [*] using this
theorem strs_any {x : PySem.Str} {ws : List Value} {as : List AV} (h : AbL ws as) : ∀ {ys : List PySem.Str}, as = ys.map .str → ws.any (fun v => match v with | .str z _ => z == x | _ => false) = ys.any (· == x) := by
  induction h with
  | nil => intro ys e; cases ys with | nil => rfl | cons _ _ => cases e
  | cons h t ih =>
    intro ys e
    cases ys with
    | nil => cases e
    | cons y ys => cases e; obtain ⟨tk, rfl⟩ := h; rw [List.any_cons, List.any_cons, ih rfl]; rfl
theorem strs_all {ws : List Value} {as : List AV} (h : AbL ws as) : ∀ {ys : List PySem.Str}, as = ys.map .str → ∀ v ∈ ws, ∃ z t, v = .str z t := by
  induction h with
  | nil => intro ys e v hv; cases hv
  | cons h t ih =>
    intro ys e v hv
    cases ys with
    | nil => cases e
    | cons y ys =>
      cases e
      rcases List.mem_cons.mp hv with rfl | hv
      · exact h.elim fun tk e => ⟨y, tk, e⟩
      · exact ih rfl v hv
theorem PCmp_inT {y : Addr} {x : PySem.Str} {ys : List PySem.Str} (hy : (y, Cell.tup (ys.map .str)) ∈ led) : PCmp g A led .In (.str x) (.ref y) (ys.any (· == x)) := fun v u s E Q hv hu' S k => by
  obtain ⟨t, rfl⟩ := hv
  obtain ⟨t', rfl⟩ := hu'
  obtain ⟨ws, ab', hl', -, hT'⟩ := S.tup (.inl hy)
  refine in_tupleAt (fun v => match v with | .str z _ => z == x | _ => false) hT' (fun v hv => ?_) ?_
  · obtain ⟨z, tk, rfl⟩ := strs_all ab' rfl v (List.mem_toArray.mp hv)
    exact EqAt.str_str _ _ _ _
  · rw [List.any_toArray, strs_any ab' rfl]; exact k s S
def ival (es : List (Int × Int)) (k : Int) : Option Int := (es.find? fun e => decide (e.1 = k)).map (·.2)
def istored (es : List (Int × Int)) (k v : Int) : List (Int × Int) := if es.any (fun e => decide (e.1 = k)) then es.map (fun e => if e.1 = k then (e.1, v) else e) else es ++ [(k, v)]
def iwithout (es : List (Int × Int)) (k : Int) : List (Int × Int) := es.filter fun e => decide (e.1 ≠ k)
theorem ival_hit {k v : Int} {es : List (Int × Int)} : ival ((k, v) :: es) k = some v := by simp [ival]
theorem ival_next {k k' v : Int} {es : List (Int × Int)} (h : ¬ k' = k) : ival ((k', v) :: es) k = ival es k := by simp [ival, h]
theorem vat_hit {k : Int} {v : Value} {es : List (Int × Value)} : valueAt ((k, v) :: es) k = some v := by simp [valueAt]
theorem vat_next {k k' : Int} {v : Value} {es : List (Int × Value)} (h : ¬ k' = k) : valueAt ((k', v) :: es) k = valueAt es k := by simp [valueAt, h]
theorem EntI.val {kvs es} (h : EntI kvs es) (k) : (∀ v, ival es k = some v → ∃ t, valueAt kvs k = some (.int v t)) ∧ (ival es k = none → valueAt kvs k = none) := by
  induction h with
  | nil => exact ⟨fun _ h => (nomatch h), fun _ => rfl⟩
  | @cons k' v' t es fs r ih =>
    by_cases e : k' = k
    · subst e
      rw [ival_hit, vat_hit]
      exact ⟨fun v h => ⟨t, by cases h; rfl⟩, fun h => (nomatch h)⟩
    · rw [ival_next e, vat_next e]; exact ih
theorem EntI.any {kvs es} (h : EntI kvs es) (k) : kvs.any (fun e => decide (e.1 = k)) = es.any (fun e => decide (e.1 = k)) := by
  induction h with
  | nil => rfl
  | cons r ih => rw [List.any_cons, List.any_cons, ih]
theorem EntI.append {kvs es kvs' es'} (h : EntI kvs es) (h' : EntI kvs' es') : EntI (kvs ++ kvs') (es ++ es') := by
  induction h with
  | nil => exact h'
  | cons r ih => exact .cons ih
theorem EntI.map {kvs es} (h : EntI kvs es) (k v t) : EntI (kvs.map fun e => if e.1 = k then (e.1, .int v t) else e) (es.map fun e => if e.1 = k then (e.1, v) else e) := by
  induction h with
  | nil => exact .nil
  | @cons k' v' t' es fs r ih =>
    rw [List.map_cons, List.map_cons]
    by_cases e : k' = k
    · rw [if_pos e, if_pos e]; exact .cons ih
    · rw [if_neg e, if_neg e]; exact .cons ih
theorem EntI.stored {kvs es} (h : EntI kvs es) (k v : Int) (t : Tok) : EntI (PySem.stored kvs k (.int v t)) (istored es k v) := by
  unfold PySem.stored istored
  rw [h.any k]
  split
  · exact h.map k v t
  · exact h.append (.cons .nil)
theorem EntI.without {kvs es} (h : EntI kvs es) (k) : EntI (PySem.without kvs k) (iwithout es k) := by
  induction h with
  | nil => exact .nil
  | @cons k' v' t' es fs r ih =>
    unfold PySem.without iwithout at ih ⊢
    by_cases e : k' = k
    · rw [List.filter_cons_of_neg (by simp [e]), List.filter_cons_of_neg (by simp [e])]; exact ih
    · rw [List.filter_cons_of_pos (by simp [e]), List.filter_cons_of_pos (by simp [e])]; exact .cons ih
theorem St.map {s : Shared} (S : St g s led) {a : Addr} {es : List (Int × Int)} (hm : (a, Cell.imap es) ∈ led) : ∃ kvs, s.heap.DictOf (intKind pw g.w) a kvs ∧ EntI kvs es ∧ es.length ≤ Big ∧ kvs.length = es.length ∧ (a == sysModules) = false := by
  obtain ⟨o, ho, kvs, hk, he, hb⟩ := S.at_ _ hm
  refine ⟨kvs, Heap.dictOf_iff.mpr ⟨o, ho, hk⟩, he, hb, ?_, ?_⟩
  · clear hk hb ho hm
    induction he with
    | nil => rfl
    | cons r ih => exact congrArg Nat.succ ih
  · have h1 := S.fresh _ hm
    have h2 := Heap.lt_size (g.X _ _ (look_law g.w.params))
    refine beq_eq_false_iff_ne.mpr fun e => ?_
    have e' : a = sysModules := e
    subst e'
    exact absurd (show (857 : Nat) < (1 : Nat) from Nat.lt_of_lt_of_le h2 h1) (by decide)
theorem isIntKey (k : Int) (t : Tok) : (intKind pw g.w).is k (.int k t) = true := by show Value.isInt k (.int k t) = true; simp [Value.isInt]
theorem PCmp_inM {d : Addr} {es : List (Int × Int)} {k : Int} (hm : (d, Cell.imap es) ∈ led) : PCmp g A led .In (.int k) (.ref d) (ival es k).isSome := fun v u s E Q hv hu' S q => by
  obtain ⟨t, rfl⟩ := hv
  obtain ⟨t', rfl⟩ := hu'
  obtain ⟨kvs, hd, he, hb, hl, hs⟩ := S.map hm
  refine wpAny_in_of (isIntKey k t) hs hd.mapOf ?_
  obtain ⟨h1, h2⟩ := he.val k
  cases e : ival es k with
  | none => rw [h2 e]; have := q _ (S.toks (s.toks + 1)); rw [e] at this; exact this
  | some v => obtain ⟨t2, e2⟩ := h1 v e; rw [e2]; have := q _ (S.toks (s.toks + 1)); rw [e] at this; exact this
theorem PCmp_ninM {d : Addr} {es : List (Int × Int)} {k : Int} (hm : (d, Cell.imap es) ∈ led) : PCmp g A led .NotIn (.int k) (.ref d) (!(ival es k).isSome) := fun v u s E Q hv hu' S q => by
  obtain ⟨t, rfl⟩ := hv
  obtain ⟨t', rfl⟩ := hu'
  obtain ⟨kvs, hd, he, hb, hl, hs⟩ := S.map hm
  refine wpAny_notIn_of (isIntKey k t) hs hd.mapOf ?_
  obtain ⟨h1, h2⟩ := he.val k
  cases e : ival es k with
  | none => rw [h2 e]; have := q _ (S.toks (s.toks + 1)); rw [e] at this; exact this
  | some v => obtain ⟨t2, e2⟩ := h1 v e; rw [e2]; have := q _ (S.toks (s.toks + 1)); rw [e] at this; exact this
end
end Mine
end
section
open PySem PySem.W PyProof.Rows PySem.Calls PySem.SeqAt
set_option maxRecDepth 100000
set_option maxHeartbeats 400000
set_option Elab.async false
set_option linter.unusedVariables false
namespace Mine
section
variable {g : Gx} {A : Around} {E : Value → Shared → Prop} {led led' : Led} {qual : PySem.Str} {sc : Scope} {L f : Addr} {cd : Value} {vs vs' : List (PySem.Str × Option AV)} {cl : List (PySem.Str × Addr)} {env : Env}
inductive VPuts : List PySem.Str → List AV → List (PySem.Str × Option AV) → List (PySem.Str × Option AV) → Prop
  | nil {ws} : VPuts [] [] ws ws
  | cons {x a xs as ws ws1 ws2} (h : VPut x a ws ws1) (t : VPuts xs as ws1 ws2) : VPuts (x :: xs) (a :: as) ws ws2
def Setter (env : Env) (t : Value → Sem Unit) (x : PySem.Str) : Prop := ∀ (M : Model) A E s v (Q : Unit → Shared → Prop), wpAny M A (storeName env x v) Q E s → wpAny M A (t v) Q E s
inductive Setters (env : Env) : List (Value → Sem Unit) → List PySem.Str → Prop
  | nil : Setters env [] []
  | cons {t x ts xs} (h : Setter env t x) (r : Setters env ts xs) : Setters env (t :: ts) (x :: xs)
theorem setterN {x : PySem.Str} {p : Pos} : Setter env (assign (.Name x p) env) x := fun _ _ _ _ _ _ h => assign_Name h
theorem setterB {x : PySem.Str} : Setter env (bindName env x) x := fun _ _ _ _ _ _ h => wpAny_bindName h
theorem inOrder_ {ts : List (Value → Sem Unit)} {xs : List PySem.Str} (h : Setters (envX qual sc L f cd cl) ts xs) : ∀ {us : List Value} {as : List AV} {vs vs' : List (PySem.Str × Option AV)} {s : Shared} {Q : Unit → Shared → Prop}, AbL us as → VPuts xs as vs vs' → St g s ((L, .frame sc vs) :: led) →
    (∀ s', St g s' ((L, .frame sc vs') :: led) → Q () s') → wpAny (model pw g.w) A (assignInOrder ts us) Q E s := by
  induction h with
  | nil => intro us as vs vs' s Q ab V S k; cases V; exact wpAny_pure (k s S)
  | cons h r ih =>
    intro us as vs vs' s Q ab V S k
    cases V with
    | cons hv V =>
      cases ab with
      | cons av ab => exact wpAny_bind (wpAny_holding (h _ _ _ _ _ _ (store_ S .head hv av fun s1 S1 => ih ab V S1 k)))
inductive TupP (g : Gx) (A : Around) (E : Value → Shared → Prop) (qual : PySem.Str) (sc : Scope) (L f : Addr) (cd : Value) (cl : List (PySem.Str × Addr)) (rest : List Stmt) (Φ : Out → Led → Prop) (n : Nat) (P : List AV → List (PySem.Str × Option AV) → List (PySem.Str × Option AV) → Prop) (a : AV) (l : Led) : Prop
  | mk (x : Addr) (as : List AV) (vs vs' : List (PySem.Str × Option AV)) (l' : Led) (e : a = .ref x) (pm : l.Perm ((L, .frame sc vs) :: (x, .tup as) :: l')) (hl : as.length = n) (V : P as vs vs') (k : wpX g A E (envX qual sc L f cd cl) rest ((L, .frame sc vs') :: (x, .tup as) :: l') Φ) : TupP g A E qual sc L f cd cl rest Φ n P a l
theorem wX_tuple {elts : List Expr} {n : Nat} {tp pos : Pos} {e : Expr} {rest : List Stmt} {xs : List PySem.Str} {Φ : Out → Led → Prop} (hh : A.handled = none)
    (h : wpE g A E (envX qual sc L f cd cl) e led (TupP g A E qual sc L f cd cl rest Φ elts.length (VPuts xs)))
    (hx : Setters (envX qual sc L f cd cl) ((assignEach elts (envX qual sc L f cd cl)).map (·.2)) xs)
    (hn : (assignEach elts (envX qual sc L f cd cl)).length = elts.length := by rfl) (hst : (assignEach elts (envX qual sc L f cd cl)).findIdx? (·.1) = none := by rfl)
    (hs : swapsWithSole [.Tuple elts n tp] e pos.line (envX qual sc L f cd cl) = pure false := by rfl)
    (hw : swappedStores [.Tuple elts n tp] e (envX qual sc L f cd cl) = pure none := by rfl) : wpX g A E (envX qual sc L f cd cl) (.Assign [.Tuple elts n tp] e pos :: rest) led Φ :=
  wX_next fun s S => Assign_Tuple (h.run S fun v s1 a l av S1 z => by
    obtain ⟨x, as, vs, vs', l', ea, pm, hl, V, k⟩ := z
    subst ea
    obtain ⟨t, rfl⟩ := av
    have S2 := S1.perm pm
    obtain ⟨us, ab, hlen, -, hT⟩ := S2.tup (.inl (List.mem_cons_of_mem _ List.mem_cons_self))
    refine wpAny_assign_Tuple hh hT (by rw [hn, List.size_toArray, hlen, hl]) hst fun h' he => ?_
    have S3 : St g { s1 with heap := h' } ((L, .frame sc vs) :: (x, .tup as) :: l') := S2.keeps (tk := s1.toks) List.mem_cons_self fun b o e => he b o (Nat.ne_of_lt (Heap.lt_size e)) e
    exact inOrder_ hx ab V S3 fun s4 S4 => ⟨rfl, _, S4, k⟩) hs hw
theorem AbL.reverse {us : List Value} {as : List AV} (h : AbL us as) : AbL us.reverse as.reverse := by
  induction h with
  | nil => exact .nil
  | cons h _ ih => rw [List.reverse_cons, List.reverse_cons]; exact ih.append (.cons h .nil)
theorem setters_rev (xs : List PySem.Str) : Setters env (xs.map fun n => bindName env n) xs := by
  induction xs with
  | nil => exact .nil
  | cons _ _ ih => exact .cons setterB ih
theorem wX_tupleS {elts : List Expr} {n : Nat} {tp pos : Pos} {e : Expr} {rest : List Stmt} {xs : List PySem.Str} {Φ : Out → Led → Prop} (hh : A.handled = none)
    (h : wpE g A E (envX qual sc L f cd cl) e led (TupP g A E qual sc L f cd cl rest Φ xs.length fun as => VPuts xs.reverse as.reverse))
    (hw : swappedStores [.Tuple elts n tp] e (envX qual sc L f cd cl) = pure (some xs))
    (hs : swapsWithSole [.Tuple elts n tp] e pos.line (envX qual sc L f cd cl) = pure false := by rfl) : wpX g A E (envX qual sc L f cd cl) (.Assign [.Tuple elts n tp] e pos :: rest) led Φ :=
  wX_next fun s S => Assign_Tuple_swapped (h.run S fun v s1 a l av S1 z => by
    obtain ⟨x, as, vs, vs', l', ea, pm, hl, V, k⟩ := z
    subst ea
    obtain ⟨t, rfl⟩ := av
    have S2 := S1.perm pm
    obtain ⟨us, ab, hlen, -, hT⟩ := S2.tup (.inl (List.mem_cons_of_mem _ List.mem_cons_self))
    have hsz : xs.length = us.toArray.size := by rw [List.size_toArray, hlen, hl]
    rw [hsz]
    refine wpAny_unpackItems_tuple hh hT fun h' he => ?_
    have S3 : St g { s1 with heap := h' } ((L, .frame sc vs) :: (x, .tup as) :: l') := S2.keeps (tk := s1.toks) List.mem_cons_self fun b o e => he b o (Nat.ne_of_lt (Heap.lt_size e)) e
    rw [List.toList_toArray]
    exact inOrder_ (setters_rev xs.reverse) ab.reverse V S3 fun s4 S4 => ⟨rfl, _, S4, k⟩) hs hw
theorem St.putM {s : Shared} {d : Addr} {es es' : List (Int × Int)} {h' : Heap} {tk : Nat} (S : St g s led) (U : LPut d (.imap es) (.imap es') led led') {kvs : List (Int × Value)} (hd : h'.DictOf (intKind pw g.w) d kvs) (he : EntI kvs es') (hb : es'.length ≤ Big)
    (hs : Heap.SameBut d s.heap h') : St g { s with heap := h', toks := tk } led' := by
  obtain ⟨o, ho, hi⟩ := Heap.dictOf_iff.mp hd
  exact S.upd (tk := tk) U hs.1 (fun b o hb e => by rw [hs.2 b hb]; exact e) ho ⟨kvs, hi, he, hb⟩
theorem istored_big {es : List (Int × Int)} {k v : Int} (hb : es.length < Big) : (istored es k v).length ≤ Big := by
  unfold istored
  split
  · rw [List.length_map]; exact Nat.le_of_lt hb
  · rw [List.length_append]; exact hb
theorem wX_mapset {o i e : Expr} {p pos : Pos} {rest : List Stmt} {Φ : Out → Led → Prop}
    (h : wpE g A E env e led fun a l => ∃ d es k v l', a = .int v ∧ PE g A env l o (.ref d) ∧ PE g A env l i (.int k) ∧ es.length < Big ∧ LPut d (.imap es) (.imap (istored es k v)) l l' ∧ wpX g A E env rest l' Φ)
    (hs : swapsWith e (some (.Subscript o i p)) pos.line env = pure false := by rfl) : wpX g A E env (.Assign [.Subscript o i p] e pos :: rest) led Φ :=
  wX_next fun s S => wpAny_Assign_Subscript (h.run S fun v s1 a l av S1 z => by
    obtain ⟨d, es, k, v, l', rfl, ho, hi, hb, U, z⟩ := z
    exact ho.out S1 fun ov s2 hv S2 => hi.out S2 fun iv s3 hi S3 => hv.elim fun t e => hi.elim fun t' e' => av.elim fun t2 e2 => by
      subst e e' e2
      obtain ⟨kvs, hd, he, hb', hl, hs⟩ := S3.map U.mem
      exact wpAny_setItem_pairs (isIntKey k t') hd (fun h' hd' hs' => ⟨rfl, l', S3.putM U hd' (he.stored k v t2) (istored_big hb) hs', z⟩) (by rw [hl]; exact fitsBig hb')) hs
theorem wE_get2 {o i e : Expr} {ap pos : Pos} {d : Addr} {es : List (Int × Int)} {k : Int} {pl : Sem Bool} {Φ : AV → Led → Prop} (ho : PE g A env led o (.ref d)) (hm : (d, Cell.imap es) ∈ led) (hi : PL g A env led pos [i, e] [.int k, .none])
    (h : Φ (match ival es k with | some v => .int v | none => .none) led)
    (hev : eval (.Call (.Attribute o (S "get") ap) [i, e] [] pos) env = (do
      let ov ← eval o env
      standAt ap.atName
      let (f, first) ← holding [ov] (getMethod ov (S "get") pl)
      callWith pos f first (backTo pos (starEach [i, e] env)) (backToKw pos (keywordEach [] env))) := by rfl)
    (he : starEach [i, e] env = (false, eval i env) :: starEach [e] env := by rfl)
    (hp : (backTo pos (starEach [e] env)).any (·.1) = false := by rfl) : wpE g A E env (.Call (.Attribute o (S "get") ap) [i, e] [] pos) led Φ := fun s S =>
  methodCall_KW (ho.out S fun v s1 ab S1 => by
    obtain ⟨t, rfl⟩ := ab
    obtain ⟨kvs, hd, hen, hb, hl, hs⟩ := S1.map hm
    refine PySem.getMethod_builtin hd.typeIs F.plainAttrs_dict F.slot_dict_get F.type_dict_get hd.mapOf.noDict ?_
    refine callWith_method1 (hi.out S1 fun us s3 av S3 => ?_) he hp
    obtain ⟨t, u, rfl⟩ := ab2 av
    obtain ⟨kvs, hd, hen, hb, hl, hs⟩ := S3.map hm
    refine call_meetsIn F.slot_dict_get hd.typeIs F.entry_dict_get (F.args_dict_get_3 _ _ _) (meets_dict_get_default (intKind pw g.w) d (isIntKey k t) hs _) ⟨_, hd.mapOf, ?_⟩
    obtain ⟨h1, h2⟩ := hen.val k
    cases e : ival es k with
    | none => rw [h2 e]; rw [e] at h; exact ⟨.none, led, ⟨0, rfl⟩, S3.toks _, h⟩
    | some v => obtain ⟨t2, e2⟩ := h1 v e; rw [e2]; rw [e] at h; exact ⟨.int v, led, ⟨t2, rfl⟩, S3.toks _, h⟩) hev
theorem wE_mpop {o i : Expr} {ap pos : Pos} {d : Addr} {es : List (Int × Int)} {k v : Int} {pl : Sem Bool} {Φ : AV → Led → Prop} (ho : PE g A env led o (.ref d)) (U : LPut d (.imap es) (.imap (iwithout es k)) led led') (hi : PE g A env led i (.int k)) (hv : ival es k = some v)
    (h : Φ (.int v) led')
    (hev : eval (.Call (.Attribute o (S "pop") ap) [i] [] pos) env = (do
      let ov ← eval o env
      standAt ap.atName
      let (f, first) ← holding [ov] (getMethod ov (S "pop") pl)
      callWith pos f first (backTo pos (starEach [i] env)) (backToKw pos (keywordEach [] env))) := by rfl)
    (he : starEach [i] env = (false, eval i env) :: starEach [] env := by rfl) : wpE g A E env (.Call (.Attribute o (S "pop") ap) [i] [] pos) led Φ := fun s S =>
  methodCall_KW (ho.out S fun v' s1 ab S1 => by
    obtain ⟨t, rfl⟩ := ab
    obtain ⟨kvs, hd, hen, hb, hl, hs⟩ := S1.map U.mem
    refine PySem.getMethod_builtin hd.typeIs F.plainAttrs_dict F.slot_dict_pop F.type_dict_pop hd.mapOf.noDict ?_
    refine callWith_method1 (PL.out (PL_cons hi PL_nil he) S1 fun us s3 av S3 => ?_) he
    obtain ⟨t, rfl⟩ := ab1 av
    obtain ⟨kvs, hd, hen, hb, hl, hs⟩ := S3.map U.mem
    obtain ⟨t2, e2⟩ := (hen.val k).1 v hv
    refine call_meetsIn F.slot_dict_pop hd.typeIs F.entry_dict_pop (F.args_dict_pop_2 _ _) (meets_dict_pop_there (intKind pw g.w) d (isIntKey k t) [] (.inl rfl) rfl) ⟨kvs, _, hd, by rw [hl]; exact fitsBig hb, e2, fun h' hd' hs' => ⟨.int v, led', ⟨t2, rfl⟩, S3.putM U hd' (hen.without k) ?_ hs', h⟩⟩
    exact Nat.le_trans (List.length_filter_le _ _) hb) hev
end
end Mine
end
section
open PySem PySem.W PyProof.Rows PySem.Calls
set_option maxRecDepth 100000
set_option maxHeartbeats 400000
set_option Elab.async false
set_option linter.unusedVariables false
namespace Mine
structure Gp where
  (T dT CL : Addr) (xs : List AV) (gs ge : Int)
structure Bf where
  (B dB M dM MD LL : Addr) (pt zv tk ct sv : Int)
structure Un where
  (R dR U dU RL : Addr) (rows : List AV) (pb nt : AV)
structure Am where
  (Ao dA : Addr) (so : PySem.Str) (mn : Int)
structure Ug where
  (V dV EQ : Addr) (pn il : AV) (eq : List (Int × Int))
structure Dk where
  (D D0 D1 : Addr) (big cells : List AV) (n : Int)
structure Mach where
  (g : Gp) (b : Bf) (u : Option Un) (a : Am) (v : Ug) (d : Dk)
noncomputable def udOf : Option Un → AV
  | none => .none
  | some u => .ref u.R
noncomputable def fl_g (x : Gp) : Flds := [(S "room", .int 8), (S "cells", .ref x.CL), (S "gap_start", .int x.gs), (S "gap_end", .int x.ge)]
noncomputable def fl_b (T : Addr) (ud : AV) (x : Bf) : Flds := [(S "number", .int 1), (S "name", .str (S "a")), (S "text", .ref T), (S "markers", .ref x.M), (S "point", .int x.pt), (S "begv", .int 1), (S "zv", .int x.zv), (S "mark", .none), (S "is_live", .bool true), (S "is_read_only", .bool false), (S "ticks", .int x.tk), (S "codes_ticks", .int x.ct), (S "saved_ticks", .int x.sv), (S "listeners", .ref x.LL), (S "undo", ud), (S "props", .none), (S "overlays", .none), (S "locals", .none), (S "syntax", .none), (S "file", .none)]
noncomputable def fl_k (x : Bf) : Flds := [(S "rows", .ref x.MD)]
noncomputable def fl_r (x : Un) : Flds := [(S "list", .ref x.U)]
noncomputable def fl_u (x : Un) : Flds := [(S "rows", .ref x.RL), (S "dropped", .int 0), (S "is_on", .bool true), (S "point_before", x.pb), (S "noted_tick", x.nt)]
noncomputable def fl_a (x : Am) : Flds := [(S "sort", .str x.so), (S "many", .int x.mn)]
noncomputable def fl_v (x : Ug) : Flds := [(S "pending", x.pn), (S "idle", x.il), (S "chosen", .none), (S "equal", .ref x.EQ)]
noncomputable def led_g (x : Gp) : Led := [(x.T, .inst c_GapText x.dT), (x.dT, .dict c_GapText (fl_g x)), (x.CL, .list x.xs)]
noncomputable def led_b (T : Addr) (ud : AV) (x : Bf) : Led := [(x.B, .inst c_Buffer x.dB), (x.dB, .dict c_Buffer (fl_b T ud x)), (x.M, .inst c_Markers x.dM), (x.dM, .dict c_Markers (fl_k x)), (x.MD, .imap []), (x.LL, .list [])]
noncomputable def led_u : Option Un → Led
  | none => []
  | some x => [(x.R, .inst c_Recording x.dR), (x.dR, .dict c_Recording (fl_r x)), (x.U, .inst c_UndoList x.dU), (x.dU, .dict c_UndoList (fl_u x)), (x.RL, .list x.rows)]
noncomputable def led_a (x : Am) : Led := [(x.Ao, .inst c_Amalgam x.dA), (x.dA, .dict c_Amalgam (fl_a x))]
noncomputable def led_v (x : Ug) : Led := [(x.V, .inst c_Undoing x.dV), (x.dV, .dict c_Undoing (fl_v x)), (x.EQ, .imap x.eq)]
noncomputable def led_d (x : Dk) : Led := [(x.D, .list [.ref x.D0, .ref x.D1, .int x.n]), (x.D0, .list x.big), (x.D1, .list x.cells)]
noncomputable def W (m : Mach) : Led := led_g m.g ++ (led_b m.g.T (udOf m.u) m.b ++ (led_u m.u ++ (led_a m.a ++ (led_v m.v ++ led_d m.d))))
noncomputable def Z (pre : Led) (m : Mach) (own : Led) : Led := pre ++ (W m ++ own)
theorem LPut.appR {a : Addr} {c c' : Cell} {l l' : Led} (h : LPut a c c' l l') (r : Led) : LPut a c c' (l ++ r) (l' ++ r) := by
  induction h with
  | head => exact .head
  | tail _ ih => exact .tail ih
theorem LPut.appL {a : Addr} {c c' : Cell} {l l' : Led} (h : LPut a c c' l l') : ∀ (r : Led), LPut a c c' (r ++ l) (r ++ l')
  | [] => h
  | _ :: r => .tail (h.appL r)
noncomputable def SetsTo (led led' : Led) (k : PySem.Str) (o a : AV) : Prop := ∃ x C dx fs fs', o = .ref x ∧ (x, Cell.inst C dx) ∈ led ∧ LPut dx (.dict C fs) (.dict C fs') led led' ∧ FPut k a fs fs'
theorem Z_fr {p : Addr × Cell} {pre : Led} {m : Mach} {own : Led} : p ∈ Z (p :: pre) m own := List.mem_cons_self
theorem Z_frput {a : Addr} {c c' : Cell} {pre : Led} {m : Mach} {own : Led} : LPut a c c' (Z ((a, c) :: pre) m own) (Z ((a, c') :: pre) m own) := .head
theorem Z_own {p : Addr × Cell} {pre : Led} {m : Mach} {own : Led} (h : p ∈ own) : p ∈ Z pre m own := List.mem_append_right _ (List.mem_append_right _ h)
theorem Z_pre {p : Addr × Cell} {pre : Led} {m : Mach} {own : Led} (h : p ∈ pre) : p ∈ Z pre m own := List.mem_append_left _ h
theorem Z_ownput {a : Addr} {c c' : Cell} {pre : Led} {m : Mach} {own own' : Led} (h : LPut a c c' own own') : LPut a c c' (Z pre m own) (Z pre m own') := (h.appL _).appL _
theorem Z_new {p : Addr × Cell} {pre : Led} {m : Mach} {own : Led} : (p :: Z pre m own).Perm (Z pre m (p :: own)) := by
  unfold Z
  rw [← List.append_assoc, ← List.append_assoc]
  exact (List.perm_middle (l₁ := pre ++ W m)).symm
theorem Z_drop {p : Addr × Cell} {pre : Led} {m : Mach} {own : Led} : (Z pre m own).Sublist (Z (p :: pre) m own) := List.sublist_cons_self ..
section
variable {pre own : Led} {g g' : Gp} {b b' : Bf} {u : Option Un} {x x' : Un} {a a' : Am} {v v' : Ug} {d d' : Dk}
theorem W_g {p : Addr × Cell} (h : p ∈ led_g g) : p ∈ Z pre ⟨g, b, u, a, v, d⟩ own := List.mem_append_right _ (List.mem_append_left _ (List.mem_append_left _ h))
theorem W_b {p : Addr × Cell} (h : p ∈ led_b g.T (udOf u) b) : p ∈ Z pre ⟨g, b, u, a, v, d⟩ own := List.mem_append_right _ (List.mem_append_left _ (List.mem_append_right _ (List.mem_append_left _ h)))
theorem W_u {p : Addr × Cell} (h : p ∈ led_u u) : p ∈ Z pre ⟨g, b, u, a, v, d⟩ own := List.mem_append_right _ (List.mem_append_left _ (List.mem_append_right _ (List.mem_append_right _ (List.mem_append_left _ h))))
theorem W_a {p : Addr × Cell} (h : p ∈ led_a a) : p ∈ Z pre ⟨g, b, u, a, v, d⟩ own := List.mem_append_right _ (List.mem_append_left _ (List.mem_append_right _ (List.mem_append_right _ (List.mem_append_right _ (List.mem_append_left _ h)))))
theorem W_v {p : Addr × Cell} (h : p ∈ led_v v) : p ∈ Z pre ⟨g, b, u, a, v, d⟩ own := List.mem_append_right _ (List.mem_append_left _ (List.mem_append_right _ (List.mem_append_right _ (List.mem_append_right _ (List.mem_append_right _ (List.mem_append_left _ h))))))
theorem W_d {p : Addr × Cell} (h : p ∈ led_d d) : p ∈ Z pre ⟨g, b, u, a, v, d⟩ own := List.mem_append_right _ (List.mem_append_left _ (List.mem_append_right _ (List.mem_append_right _ (List.mem_append_right _ (List.mem_append_right _ (List.mem_append_right _ h))))))
theorem P_g {q : Addr} {c c' : Cell} (e : g'.T = g.T) (h : LPut q c c' (led_g g) (led_g g')) : LPut q c c' (Z pre ⟨g, b, u, a, v, d⟩ own) (Z pre ⟨g', b, u, a, v, d⟩ own) := by
  unfold Z W; dsimp only; rw [e]; exact LPut.appL (LPut.appR (LPut.appR h _) _) _
theorem P_b {q : Addr} {c c' : Cell} (h : LPut q c c' (led_b g.T (udOf u) b) (led_b g.T (udOf u) b')) : LPut q c c' (Z pre ⟨g, b, u, a, v, d⟩ own) (Z pre ⟨g, b', u, a, v, d⟩ own) :=
  LPut.appL (LPut.appR (LPut.appL (LPut.appR h _) _) _) _
theorem P_u {q : Addr} {c c' : Cell} (e : x'.R = x.R) (h : LPut q c c' (led_u (some x)) (led_u (some x'))) : LPut q c c' (Z pre ⟨g, b, some x, a, v, d⟩ own) (Z pre ⟨g, b, some x', a, v, d⟩ own) := by
  unfold Z W udOf; dsimp only; rw [e]; exact LPut.appL (LPut.appR (LPut.appL (LPut.appL (LPut.appR h _) _) _) _) _
theorem P_a {q : Addr} {c c' : Cell} (h : LPut q c c' (led_a a) (led_a a')) : LPut q c c' (Z pre ⟨g, b, u, a, v, d⟩ own) (Z pre ⟨g, b, u, a', v, d⟩ own) :=
  LPut.appL (LPut.appR (LPut.appL (LPut.appL (LPut.appL (LPut.appR h _) _) _) _) _) _
theorem P_v {q : Addr} {c c' : Cell} (h : LPut q c c' (led_v v) (led_v v')) : LPut q c c' (Z pre ⟨g, b, u, a, v, d⟩ own) (Z pre ⟨g, b, u, a, v', d⟩ own) :=
  LPut.appL (LPut.appR (LPut.appL (LPut.appL (LPut.appL (LPut.appL (LPut.appR h _) _) _) _) _) _) _
theorem P_d {q : Addr} {c c' : Cell} (h : LPut q c c' (led_d d) (led_d d')) : LPut q c c' (Z pre ⟨g, b, u, a, v, d⟩ own) (Z pre ⟨g, b, u, a, v, d'⟩ own) :=
  LPut.appL (LPut.appR (LPut.appL (LPut.appL (LPut.appL (LPut.appL (LPut.appL h _) _) _) _) _) _) _
end
section
variable {pre own : Led} {T dT CL B dB M dM MD LL R dR U dU RL Ao dA V dV EQ D D0 D1 : Addr} {xs rows big cells : List AV} {gs ge pt zv tk ct sv mn n : Int} {pb nt pn il : AV} {so : PySem.Str} {eq : List (Int × Int)} {gg : Gp} {bb : Bf} {uu : Option Un} {aa : Am} {vv : Ug} {dd : Dk}
theorem zi_g : (T, Cell.inst c_GapText dT) ∈ Z pre ⟨⟨T, dT, CL, xs, gs, ge⟩, bb, uu, aa, vv, dd⟩ own := W_g (.head _)
theorem zd_g : (dT, Cell.dict c_GapText (fl_g ⟨T, dT, CL, xs, gs, ge⟩)) ∈ Z pre ⟨⟨T, dT, CL, xs, gs, ge⟩, bb, uu, aa, vv, dd⟩ own := W_g (.tail _ (.head _))
theorem at_g_room : Atr (Z pre ⟨⟨T, dT, CL, xs, gs, ge⟩, bb, uu, aa, vv, dd⟩ own) (S "room") (.ref T) (.int 8) := Atr.mk' zi_g zd_g (.head _)
theorem at_g_cells : Atr (Z pre ⟨⟨T, dT, CL, xs, gs, ge⟩, bb, uu, aa, vv, dd⟩ own) (S "cells") (.ref T) (.ref CL) := Atr.mk' zi_g zd_g (.tail _ (.head _))
theorem at_g_gap_start : Atr (Z pre ⟨⟨T, dT, CL, xs, gs, ge⟩, bb, uu, aa, vv, dd⟩ own) (S "gap_start") (.ref T) (.int gs) := Atr.mk' zi_g zd_g (.tail _ (.tail _ (.head _)))
theorem at_g_gap_end : Atr (Z pre ⟨⟨T, dT, CL, xs, gs, ge⟩, bb, uu, aa, vv, dd⟩ own) (S "gap_end") (.ref T) (.int ge) := Atr.mk' zi_g zd_g (.tail _ (.tail _ (.tail _ (.head _))))
theorem st_g_gap_start {gs' : Int} : LPut dT (.dict c_GapText (fl_g ⟨T, dT, CL, xs, gs, ge⟩)) (.dict c_GapText (fl_g ⟨T, dT, CL, xs, gs', ge⟩)) (Z pre ⟨⟨T, dT, CL, xs, gs, ge⟩, bb, uu, aa, vv, dd⟩ own) (Z pre ⟨⟨T, dT, CL, xs, gs', ge⟩, bb, uu, aa, vv, dd⟩ own) := P_g rfl (.tail (.head))
theorem fp_g_gap_start {gs' : Int} : FPut (S "gap_start") (.int gs') (fl_g ⟨T, dT, CL, xs, gs, ge⟩) (fl_g ⟨T, dT, CL, xs, gs', ge⟩) := .tail (.tail (.head))
theorem set_g_gap_start {gs' : Int} : SetsTo (Z pre ⟨⟨T, dT, CL, xs, gs, ge⟩, bb, uu, aa, vv, dd⟩ own) (Z pre ⟨⟨T, dT, CL, xs, gs', ge⟩, bb, uu, aa, vv, dd⟩ own) (S "gap_start") (.ref T) (.int gs') := ⟨_, _, _, _, _, rfl, zi_g, st_g_gap_start, fp_g_gap_start⟩
theorem st_g_gap_end {ge' : Int} : LPut dT (.dict c_GapText (fl_g ⟨T, dT, CL, xs, gs, ge⟩)) (.dict c_GapText (fl_g ⟨T, dT, CL, xs, gs, ge'⟩)) (Z pre ⟨⟨T, dT, CL, xs, gs, ge⟩, bb, uu, aa, vv, dd⟩ own) (Z pre ⟨⟨T, dT, CL, xs, gs, ge'⟩, bb, uu, aa, vv, dd⟩ own) := P_g rfl (.tail (.head))
theorem fp_g_gap_end {ge' : Int} : FPut (S "gap_end") (.int ge') (fl_g ⟨T, dT, CL, xs, gs, ge⟩) (fl_g ⟨T, dT, CL, xs, gs, ge'⟩) := .tail (.tail (.tail (.head)))
theorem set_g_gap_end {ge' : Int} : SetsTo (Z pre ⟨⟨T, dT, CL, xs, gs, ge⟩, bb, uu, aa, vv, dd⟩ own) (Z pre ⟨⟨T, dT, CL, xs, gs, ge'⟩, bb, uu, aa, vv, dd⟩ own) (S "gap_end") (.ref T) (.int ge') := ⟨_, _, _, _, _, rfl, zi_g, st_g_gap_end, fp_g_gap_end⟩
theorem zi_b : (B, Cell.inst c_Buffer dB) ∈ Z pre ⟨gg, ⟨B, dB, M, dM, MD, LL, pt, zv, tk, ct, sv⟩, uu, aa, vv, dd⟩ own := W_b (.head _)
theorem zd_b : (dB, Cell.dict c_Buffer (fl_b gg.T (udOf uu) ⟨B, dB, M, dM, MD, LL, pt, zv, tk, ct, sv⟩)) ∈ Z pre ⟨gg, ⟨B, dB, M, dM, MD, LL, pt, zv, tk, ct, sv⟩, uu, aa, vv, dd⟩ own := W_b (.tail _ (.head _))
theorem at_b_text : Atr (Z pre ⟨gg, ⟨B, dB, M, dM, MD, LL, pt, zv, tk, ct, sv⟩, uu, aa, vv, dd⟩ own) (S "text") (.ref B) (.ref gg.T) := Atr.mk' zi_b zd_b (.tail _ (.tail _ (.head _)))
theorem at_b_markers : Atr (Z pre ⟨gg, ⟨B, dB, M, dM, MD, LL, pt, zv, tk, ct, sv⟩, uu, aa, vv, dd⟩ own) (S "markers") (.ref B) (.ref M) := Atr.mk' zi_b zd_b (.tail _ (.tail _ (.tail _ (.head _))))
theorem at_b_point : Atr (Z pre ⟨gg, ⟨B, dB, M, dM, MD, LL, pt, zv, tk, ct, sv⟩, uu, aa, vv, dd⟩ own) (S "point") (.ref B) (.int pt) := Atr.mk' zi_b zd_b (.tail _ (.tail _ (.tail _ (.tail _ (.head _)))))
theorem at_b_begv : Atr (Z pre ⟨gg, ⟨B, dB, M, dM, MD, LL, pt, zv, tk, ct, sv⟩, uu, aa, vv, dd⟩ own) (S "begv") (.ref B) (.int 1) := Atr.mk' zi_b zd_b (.tail _ (.tail _ (.tail _ (.tail _ (.tail _ (.head _))))))
theorem at_b_zv : Atr (Z pre ⟨gg, ⟨B, dB, M, dM, MD, LL, pt, zv, tk, ct, sv⟩, uu, aa, vv, dd⟩ own) (S "zv") (.ref B) (.int zv) := Atr.mk' zi_b zd_b (.tail _ (.tail _ (.tail _ (.tail _ (.tail _ (.tail _ (.head _)))))))
theorem at_b_is_read_only : Atr (Z pre ⟨gg, ⟨B, dB, M, dM, MD, LL, pt, zv, tk, ct, sv⟩, uu, aa, vv, dd⟩ own) (S "is_read_only") (.ref B) (.bool false) := Atr.mk' zi_b zd_b (.tail _ (.tail _ (.tail _ (.tail _ (.tail _ (.tail _ (.tail _ (.tail _ (.tail _ (.head _))))))))))
theorem at_b_ticks : Atr (Z pre ⟨gg, ⟨B, dB, M, dM, MD, LL, pt, zv, tk, ct, sv⟩, uu, aa, vv, dd⟩ own) (S "ticks") (.ref B) (.int tk) := Atr.mk' zi_b zd_b (.tail _ (.tail _ (.tail _ (.tail _ (.tail _ (.tail _ (.tail _ (.tail _ (.tail _ (.tail _ (.head _)))))))))))
theorem at_b_saved_ticks : Atr (Z pre ⟨gg, ⟨B, dB, M, dM, MD, LL, pt, zv, tk, ct, sv⟩, uu, aa, vv, dd⟩ own) (S "saved_ticks") (.ref B) (.int sv) := Atr.mk' zi_b zd_b (.tail _ (.tail _ (.tail _ (.tail _ (.tail _ (.tail _ (.tail _ (.tail _ (.tail _ (.tail _ (.tail _ (.tail _ (.head _)))))))))))))
theorem at_b_listeners : Atr (Z pre ⟨gg, ⟨B, dB, M, dM, MD, LL, pt, zv, tk, ct, sv⟩, uu, aa, vv, dd⟩ own) (S "listeners") (.ref B) (.ref LL) := Atr.mk' zi_b zd_b (.tail _ (.tail _ (.tail _ (.tail _ (.tail _ (.tail _ (.tail _ (.tail _ (.tail _ (.tail _ (.tail _ (.tail _ (.tail _ (.head _))))))))))))))
theorem at_b_undo : Atr (Z pre ⟨gg, ⟨B, dB, M, dM, MD, LL, pt, zv, tk, ct, sv⟩, uu, aa, vv, dd⟩ own) (S "undo") (.ref B) ((udOf uu)) := Atr.mk' zi_b zd_b (.tail _ (.tail _ (.tail _ (.tail _ (.tail _ (.tail _ (.tail _ (.tail _ (.tail _ (.tail _ (.tail _ (.tail _ (.tail _ (.tail _ (.head _)))))))))))))))
theorem at_b_props : Atr (Z pre ⟨gg, ⟨B, dB, M, dM, MD, LL, pt, zv, tk, ct, sv⟩, uu, aa, vv, dd⟩ own) (S "props") (.ref B) (.none) := Atr.mk' zi_b zd_b (.tail _ (.tail _ (.tail _ (.tail _ (.tail _ (.tail _ (.tail _ (.tail _ (.tail _ (.tail _ (.tail _ (.tail _ (.tail _ (.tail _ (.tail _ (.head _))))))))))))))))
theorem at_b_overlays : Atr (Z pre ⟨gg, ⟨B, dB, M, dM, MD, LL, pt, zv, tk, ct, sv⟩, uu, aa, vv, dd⟩ own) (S "overlays") (.ref B) (.none) := Atr.mk' zi_b zd_b (.tail _ (.tail _ (.tail _ (.tail _ (.tail _ (.tail _ (.tail _ (.tail _ (.tail _ (.tail _ (.tail _ (.tail _ (.tail _ (.tail _ (.tail _ (.tail _ (.head _)))))))))))))))))
theorem st_b_point {pt' : Int} : LPut dB (.dict c_Buffer (fl_b gg.T (udOf uu) ⟨B, dB, M, dM, MD, LL, pt, zv, tk, ct, sv⟩)) (.dict c_Buffer (fl_b gg.T (udOf uu) ⟨B, dB, M, dM, MD, LL, pt', zv, tk, ct, sv⟩)) (Z pre ⟨gg, ⟨B, dB, M, dM, MD, LL, pt, zv, tk, ct, sv⟩, uu, aa, vv, dd⟩ own) (Z pre ⟨gg, ⟨B, dB, M, dM, MD, LL, pt', zv, tk, ct, sv⟩, uu, aa, vv, dd⟩ own) := P_b (.tail (.head))
theorem fp_b_point {pt' : Int} : FPut (S "point") (.int pt') (fl_b gg.T (udOf uu) ⟨B, dB, M, dM, MD, LL, pt, zv, tk, ct, sv⟩) (fl_b gg.T (udOf uu) ⟨B, dB, M, dM, MD, LL, pt', zv, tk, ct, sv⟩) := .tail (.tail (.tail (.tail (.head))))
theorem set_b_point {pt' : Int} : SetsTo (Z pre ⟨gg, ⟨B, dB, M, dM, MD, LL, pt, zv, tk, ct, sv⟩, uu, aa, vv, dd⟩ own) (Z pre ⟨gg, ⟨B, dB, M, dM, MD, LL, pt', zv, tk, ct, sv⟩, uu, aa, vv, dd⟩ own) (S "point") (.ref B) (.int pt') := ⟨_, _, _, _, _, rfl, zi_b, st_b_point, fp_b_point⟩
theorem st_b_zv {zv' : Int} : LPut dB (.dict c_Buffer (fl_b gg.T (udOf uu) ⟨B, dB, M, dM, MD, LL, pt, zv, tk, ct, sv⟩)) (.dict c_Buffer (fl_b gg.T (udOf uu) ⟨B, dB, M, dM, MD, LL, pt, zv', tk, ct, sv⟩)) (Z pre ⟨gg, ⟨B, dB, M, dM, MD, LL, pt, zv, tk, ct, sv⟩, uu, aa, vv, dd⟩ own) (Z pre ⟨gg, ⟨B, dB, M, dM, MD, LL, pt, zv', tk, ct, sv⟩, uu, aa, vv, dd⟩ own) := P_b (.tail (.head))
theorem fp_b_zv {zv' : Int} : FPut (S "zv") (.int zv') (fl_b gg.T (udOf uu) ⟨B, dB, M, dM, MD, LL, pt, zv, tk, ct, sv⟩) (fl_b gg.T (udOf uu) ⟨B, dB, M, dM, MD, LL, pt, zv', tk, ct, sv⟩) := .tail (.tail (.tail (.tail (.tail (.tail (.head))))))
theorem set_b_zv {zv' : Int} : SetsTo (Z pre ⟨gg, ⟨B, dB, M, dM, MD, LL, pt, zv, tk, ct, sv⟩, uu, aa, vv, dd⟩ own) (Z pre ⟨gg, ⟨B, dB, M, dM, MD, LL, pt, zv', tk, ct, sv⟩, uu, aa, vv, dd⟩ own) (S "zv") (.ref B) (.int zv') := ⟨_, _, _, _, _, rfl, zi_b, st_b_zv, fp_b_zv⟩
theorem st_b_ticks {tk' : Int} : LPut dB (.dict c_Buffer (fl_b gg.T (udOf uu) ⟨B, dB, M, dM, MD, LL, pt, zv, tk, ct, sv⟩)) (.dict c_Buffer (fl_b gg.T (udOf uu) ⟨B, dB, M, dM, MD, LL, pt, zv, tk', ct, sv⟩)) (Z pre ⟨gg, ⟨B, dB, M, dM, MD, LL, pt, zv, tk, ct, sv⟩, uu, aa, vv, dd⟩ own) (Z pre ⟨gg, ⟨B, dB, M, dM, MD, LL, pt, zv, tk', ct, sv⟩, uu, aa, vv, dd⟩ own) := P_b (.tail (.head))
theorem fp_b_ticks {tk' : Int} : FPut (S "ticks") (.int tk') (fl_b gg.T (udOf uu) ⟨B, dB, M, dM, MD, LL, pt, zv, tk, ct, sv⟩) (fl_b gg.T (udOf uu) ⟨B, dB, M, dM, MD, LL, pt, zv, tk', ct, sv⟩) := .tail (.tail (.tail (.tail (.tail (.tail (.tail (.tail (.tail (.tail (.head))))))))))
theorem set_b_ticks {tk' : Int} : SetsTo (Z pre ⟨gg, ⟨B, dB, M, dM, MD, LL, pt, zv, tk, ct, sv⟩, uu, aa, vv, dd⟩ own) (Z pre ⟨gg, ⟨B, dB, M, dM, MD, LL, pt, zv, tk', ct, sv⟩, uu, aa, vv, dd⟩ own) (S "ticks") (.ref B) (.int tk') := ⟨_, _, _, _, _, rfl, zi_b, st_b_ticks, fp_b_ticks⟩
theorem st_b_codes_ticks {ct' : Int} : LPut dB (.dict c_Buffer (fl_b gg.T (udOf uu) ⟨B, dB, M, dM, MD, LL, pt, zv, tk, ct, sv⟩)) (.dict c_Buffer (fl_b gg.T (udOf uu) ⟨B, dB, M, dM, MD, LL, pt, zv, tk, ct', sv⟩)) (Z pre ⟨gg, ⟨B, dB, M, dM, MD, LL, pt, zv, tk, ct, sv⟩, uu, aa, vv, dd⟩ own) (Z pre ⟨gg, ⟨B, dB, M, dM, MD, LL, pt, zv, tk, ct', sv⟩, uu, aa, vv, dd⟩ own) := P_b (.tail (.head))
theorem fp_b_codes_ticks {ct' : Int} : FPut (S "codes_ticks") (.int ct') (fl_b gg.T (udOf uu) ⟨B, dB, M, dM, MD, LL, pt, zv, tk, ct, sv⟩) (fl_b gg.T (udOf uu) ⟨B, dB, M, dM, MD, LL, pt, zv, tk, ct', sv⟩) := .tail (.tail (.tail (.tail (.tail (.tail (.tail (.tail (.tail (.tail (.tail (.head)))))))))))
theorem set_b_codes_ticks {ct' : Int} : SetsTo (Z pre ⟨gg, ⟨B, dB, M, dM, MD, LL, pt, zv, tk, ct, sv⟩, uu, aa, vv, dd⟩ own) (Z pre ⟨gg, ⟨B, dB, M, dM, MD, LL, pt, zv, tk, ct', sv⟩, uu, aa, vv, dd⟩ own) (S "codes_ticks") (.ref B) (.int ct') := ⟨_, _, _, _, _, rfl, zi_b, st_b_codes_ticks, fp_b_codes_ticks⟩
theorem st_b_saved_ticks {sv' : Int} : LPut dB (.dict c_Buffer (fl_b gg.T (udOf uu) ⟨B, dB, M, dM, MD, LL, pt, zv, tk, ct, sv⟩)) (.dict c_Buffer (fl_b gg.T (udOf uu) ⟨B, dB, M, dM, MD, LL, pt, zv, tk, ct, sv'⟩)) (Z pre ⟨gg, ⟨B, dB, M, dM, MD, LL, pt, zv, tk, ct, sv⟩, uu, aa, vv, dd⟩ own) (Z pre ⟨gg, ⟨B, dB, M, dM, MD, LL, pt, zv, tk, ct, sv'⟩, uu, aa, vv, dd⟩ own) := P_b (.tail (.head))
theorem fp_b_saved_ticks {sv' : Int} : FPut (S "saved_ticks") (.int sv') (fl_b gg.T (udOf uu) ⟨B, dB, M, dM, MD, LL, pt, zv, tk, ct, sv⟩) (fl_b gg.T (udOf uu) ⟨B, dB, M, dM, MD, LL, pt, zv, tk, ct, sv'⟩) := .tail (.tail (.tail (.tail (.tail (.tail (.tail (.tail (.tail (.tail (.tail (.tail (.head))))))))))))
theorem set_b_saved_ticks {sv' : Int} : SetsTo (Z pre ⟨gg, ⟨B, dB, M, dM, MD, LL, pt, zv, tk, ct, sv⟩, uu, aa, vv, dd⟩ own) (Z pre ⟨gg, ⟨B, dB, M, dM, MD, LL, pt, zv, tk, ct, sv'⟩, uu, aa, vv, dd⟩ own) (S "saved_ticks") (.ref B) (.int sv') := ⟨_, _, _, _, _, rfl, zi_b, st_b_saved_ticks, fp_b_saved_ticks⟩
theorem zi_k : (M, Cell.inst c_Markers dM) ∈ Z pre ⟨gg, ⟨B, dB, M, dM, MD, LL, pt, zv, tk, ct, sv⟩, uu, aa, vv, dd⟩ own := W_b (.tail _ (.tail _ (.head _)))
theorem zd_k : (dM, Cell.dict c_Markers (fl_k ⟨B, dB, M, dM, MD, LL, pt, zv, tk, ct, sv⟩)) ∈ Z pre ⟨gg, ⟨B, dB, M, dM, MD, LL, pt, zv, tk, ct, sv⟩, uu, aa, vv, dd⟩ own := W_b (.tail _ (.tail _ (.tail _ (.head _))))
theorem at_k_rows : Atr (Z pre ⟨gg, ⟨B, dB, M, dM, MD, LL, pt, zv, tk, ct, sv⟩, uu, aa, vv, dd⟩ own) (S "rows") (.ref M) (.ref MD) := Atr.mk' zi_k zd_k (.head _)
theorem zi_r : (R, Cell.inst c_Recording dR) ∈ Z pre ⟨gg, bb, some ⟨R, dR, U, dU, RL, rows, pb, nt⟩, aa, vv, dd⟩ own := W_u (.head _)
theorem zd_r : (dR, Cell.dict c_Recording (fl_r ⟨R, dR, U, dU, RL, rows, pb, nt⟩)) ∈ Z pre ⟨gg, bb, some ⟨R, dR, U, dU, RL, rows, pb, nt⟩, aa, vv, dd⟩ own := W_u (.tail _ (.head _))
theorem at_r_list : Atr (Z pre ⟨gg, bb, some ⟨R, dR, U, dU, RL, rows, pb, nt⟩, aa, vv, dd⟩ own) (S "list") (.ref R) (.ref U) := Atr.mk' zi_r zd_r (.head _)
theorem zi_u : (U, Cell.inst c_UndoList dU) ∈ Z pre ⟨gg, bb, some ⟨R, dR, U, dU, RL, rows, pb, nt⟩, aa, vv, dd⟩ own := W_u (.tail _ (.tail _ (.head _)))
theorem zd_u : (dU, Cell.dict c_UndoList (fl_u ⟨R, dR, U, dU, RL, rows, pb, nt⟩)) ∈ Z pre ⟨gg, bb, some ⟨R, dR, U, dU, RL, rows, pb, nt⟩, aa, vv, dd⟩ own := W_u (.tail _ (.tail _ (.tail _ (.head _))))
theorem at_u_rows : Atr (Z pre ⟨gg, bb, some ⟨R, dR, U, dU, RL, rows, pb, nt⟩, aa, vv, dd⟩ own) (S "rows") (.ref U) (.ref RL) := Atr.mk' zi_u zd_u (.head _)
theorem at_u_dropped : Atr (Z pre ⟨gg, bb, some ⟨R, dR, U, dU, RL, rows, pb, nt⟩, aa, vv, dd⟩ own) (S "dropped") (.ref U) (.int 0) := Atr.mk' zi_u zd_u (.tail _ (.head _))
theorem at_u_is_on : Atr (Z pre ⟨gg, bb, some ⟨R, dR, U, dU, RL, rows, pb, nt⟩, aa, vv, dd⟩ own) (S "is_on") (.ref U) (.bool true) := Atr.mk' zi_u zd_u (.tail _ (.tail _ (.head _)))
theorem at_u_point_before : Atr (Z pre ⟨gg, bb, some ⟨R, dR, U, dU, RL, rows, pb, nt⟩, aa, vv, dd⟩ own) (S "point_before") (.ref U) (pb) := Atr.mk' zi_u zd_u (.tail _ (.tail _ (.tail _ (.head _))))
theorem at_u_noted_tick : Atr (Z pre ⟨gg, bb, some ⟨R, dR, U, dU, RL, rows, pb, nt⟩, aa, vv, dd⟩ own) (S "noted_tick") (.ref U) (nt) := Atr.mk' zi_u zd_u (.tail _ (.tail _ (.tail _ (.tail _ (.head _)))))
theorem st_u_point_before {pb' : AV} : LPut dU (.dict c_UndoList (fl_u ⟨R, dR, U, dU, RL, rows, pb, nt⟩)) (.dict c_UndoList (fl_u ⟨R, dR, U, dU, RL, rows, pb', nt⟩)) (Z pre ⟨gg, bb, some ⟨R, dR, U, dU, RL, rows, pb, nt⟩, aa, vv, dd⟩ own) (Z pre ⟨gg, bb, some ⟨R, dR, U, dU, RL, rows, pb', nt⟩, aa, vv, dd⟩ own) := P_u rfl (.tail (.tail (.tail (.head))))
theorem fp_u_point_before {pb' : AV} : FPut (S "point_before") (pb') (fl_u ⟨R, dR, U, dU, RL, rows, pb, nt⟩) (fl_u ⟨R, dR, U, dU, RL, rows, pb', nt⟩) := .tail (.tail (.tail (.head)))
theorem set_u_point_before {pb' : AV} : SetsTo (Z pre ⟨gg, bb, some ⟨R, dR, U, dU, RL, rows, pb, nt⟩, aa, vv, dd⟩ own) (Z pre ⟨gg, bb, some ⟨R, dR, U, dU, RL, rows, pb', nt⟩, aa, vv, dd⟩ own) (S "point_before") (.ref U) (pb') := ⟨_, _, _, _, _, rfl, zi_u, st_u_point_before, fp_u_point_before⟩
theorem st_u_noted_tick {nt' : AV} : LPut dU (.dict c_UndoList (fl_u ⟨R, dR, U, dU, RL, rows, pb, nt⟩)) (.dict c_UndoList (fl_u ⟨R, dR, U, dU, RL, rows, pb, nt'⟩)) (Z pre ⟨gg, bb, some ⟨R, dR, U, dU, RL, rows, pb, nt⟩, aa, vv, dd⟩ own) (Z pre ⟨gg, bb, some ⟨R, dR, U, dU, RL, rows, pb, nt'⟩, aa, vv, dd⟩ own) := P_u rfl (.tail (.tail (.tail (.head))))
theorem fp_u_noted_tick {nt' : AV} : FPut (S "noted_tick") (nt') (fl_u ⟨R, dR, U, dU, RL, rows, pb, nt⟩) (fl_u ⟨R, dR, U, dU, RL, rows, pb, nt'⟩) := .tail (.tail (.tail (.tail (.head))))
theorem set_u_noted_tick {nt' : AV} : SetsTo (Z pre ⟨gg, bb, some ⟨R, dR, U, dU, RL, rows, pb, nt⟩, aa, vv, dd⟩ own) (Z pre ⟨gg, bb, some ⟨R, dR, U, dU, RL, rows, pb, nt'⟩, aa, vv, dd⟩ own) (S "noted_tick") (.ref U) (nt') := ⟨_, _, _, _, _, rfl, zi_u, st_u_noted_tick, fp_u_noted_tick⟩
theorem zi_a : (Ao, Cell.inst c_Amalgam dA) ∈ Z pre ⟨gg, bb, uu, ⟨Ao, dA, so, mn⟩, vv, dd⟩ own := W_a (.head _)
theorem zd_a : (dA, Cell.dict c_Amalgam (fl_a ⟨Ao, dA, so, mn⟩)) ∈ Z pre ⟨gg, bb, uu, ⟨Ao, dA, so, mn⟩, vv, dd⟩ own := W_a (.tail _ (.head _))
theorem at_a_sort : Atr (Z pre ⟨gg, bb, uu, ⟨Ao, dA, so, mn⟩, vv, dd⟩ own) (S "sort") (.ref Ao) (.str so) := Atr.mk' zi_a zd_a (.head _)
theorem at_a_many : Atr (Z pre ⟨gg, bb, uu, ⟨Ao, dA, so, mn⟩, vv, dd⟩ own) (S "many") (.ref Ao) (.int mn) := Atr.mk' zi_a zd_a (.tail _ (.head _))
theorem st_a_sort {so' : PySem.Str} : LPut dA (.dict c_Amalgam (fl_a ⟨Ao, dA, so, mn⟩)) (.dict c_Amalgam (fl_a ⟨Ao, dA, so', mn⟩)) (Z pre ⟨gg, bb, uu, ⟨Ao, dA, so, mn⟩, vv, dd⟩ own) (Z pre ⟨gg, bb, uu, ⟨Ao, dA, so', mn⟩, vv, dd⟩ own) := P_a (.tail (.head))
theorem fp_a_sort {so' : PySem.Str} : FPut (S "sort") (.str so') (fl_a ⟨Ao, dA, so, mn⟩) (fl_a ⟨Ao, dA, so', mn⟩) := .head
theorem set_a_sort {so' : PySem.Str} : SetsTo (Z pre ⟨gg, bb, uu, ⟨Ao, dA, so, mn⟩, vv, dd⟩ own) (Z pre ⟨gg, bb, uu, ⟨Ao, dA, so', mn⟩, vv, dd⟩ own) (S "sort") (.ref Ao) (.str so') := ⟨_, _, _, _, _, rfl, zi_a, st_a_sort, fp_a_sort⟩
theorem st_a_many {mn' : Int} : LPut dA (.dict c_Amalgam (fl_a ⟨Ao, dA, so, mn⟩)) (.dict c_Amalgam (fl_a ⟨Ao, dA, so, mn'⟩)) (Z pre ⟨gg, bb, uu, ⟨Ao, dA, so, mn⟩, vv, dd⟩ own) (Z pre ⟨gg, bb, uu, ⟨Ao, dA, so, mn'⟩, vv, dd⟩ own) := P_a (.tail (.head))
theorem fp_a_many {mn' : Int} : FPut (S "many") (.int mn') (fl_a ⟨Ao, dA, so, mn⟩) (fl_a ⟨Ao, dA, so, mn'⟩) := .tail (.head)
theorem set_a_many {mn' : Int} : SetsTo (Z pre ⟨gg, bb, uu, ⟨Ao, dA, so, mn⟩, vv, dd⟩ own) (Z pre ⟨gg, bb, uu, ⟨Ao, dA, so, mn'⟩, vv, dd⟩ own) (S "many") (.ref Ao) (.int mn') := ⟨_, _, _, _, _, rfl, zi_a, st_a_many, fp_a_many⟩
theorem zi_v : (V, Cell.inst c_Undoing dV) ∈ Z pre ⟨gg, bb, uu, aa, ⟨V, dV, EQ, pn, il, eq⟩, dd⟩ own := W_v (.head _)
theorem zd_v : (dV, Cell.dict c_Undoing (fl_v ⟨V, dV, EQ, pn, il, eq⟩)) ∈ Z pre ⟨gg, bb, uu, aa, ⟨V, dV, EQ, pn, il, eq⟩, dd⟩ own := W_v (.tail _ (.head _))
theorem at_v_pending : Atr (Z pre ⟨gg, bb, uu, aa, ⟨V, dV, EQ, pn, il, eq⟩, dd⟩ own) (S "pending") (.ref V) (pn) := Atr.mk' zi_v zd_v (.head _)
theorem at_v_idle : Atr (Z pre ⟨gg, bb, uu, aa, ⟨V, dV, EQ, pn, il, eq⟩, dd⟩ own) (S "idle") (.ref V) (il) := Atr.mk' zi_v zd_v (.tail _ (.head _))
theorem at_v_chosen : Atr (Z pre ⟨gg, bb, uu, aa, ⟨V, dV, EQ, pn, il, eq⟩, dd⟩ own) (S "chosen") (.ref V) (.none) := Atr.mk' zi_v zd_v (.tail _ (.tail _ (.head _)))
theorem at_v_equal : Atr (Z pre ⟨gg, bb, uu, aa, ⟨V, dV, EQ, pn, il, eq⟩, dd⟩ own) (S "equal") (.ref V) (.ref EQ) := Atr.mk' zi_v zd_v (.tail _ (.tail _ (.tail _ (.head _))))
theorem st_v_pending {pn' : AV} : LPut dV (.dict c_Undoing (fl_v ⟨V, dV, EQ, pn, il, eq⟩)) (.dict c_Undoing (fl_v ⟨V, dV, EQ, pn', il, eq⟩)) (Z pre ⟨gg, bb, uu, aa, ⟨V, dV, EQ, pn, il, eq⟩, dd⟩ own) (Z pre ⟨gg, bb, uu, aa, ⟨V, dV, EQ, pn', il, eq⟩, dd⟩ own) := P_v (.tail (.head))
theorem fp_v_pending {pn' : AV} : FPut (S "pending") (pn') (fl_v ⟨V, dV, EQ, pn, il, eq⟩) (fl_v ⟨V, dV, EQ, pn', il, eq⟩) := .head
theorem set_v_pending {pn' : AV} : SetsTo (Z pre ⟨gg, bb, uu, aa, ⟨V, dV, EQ, pn, il, eq⟩, dd⟩ own) (Z pre ⟨gg, bb, uu, aa, ⟨V, dV, EQ, pn', il, eq⟩, dd⟩ own) (S "pending") (.ref V) (pn') := ⟨_, _, _, _, _, rfl, zi_v, st_v_pending, fp_v_pending⟩
theorem st_v_idle {il' : AV} : LPut dV (.dict c_Undoing (fl_v ⟨V, dV, EQ, pn, il, eq⟩)) (.dict c_Undoing (fl_v ⟨V, dV, EQ, pn, il', eq⟩)) (Z pre ⟨gg, bb, uu, aa, ⟨V, dV, EQ, pn, il, eq⟩, dd⟩ own) (Z pre ⟨gg, bb, uu, aa, ⟨V, dV, EQ, pn, il', eq⟩, dd⟩ own) := P_v (.tail (.head))
theorem fp_v_idle {il' : AV} : FPut (S "idle") (il') (fl_v ⟨V, dV, EQ, pn, il, eq⟩) (fl_v ⟨V, dV, EQ, pn, il', eq⟩) := .tail (.head)
theorem set_v_idle {il' : AV} : SetsTo (Z pre ⟨gg, bb, uu, aa, ⟨V, dV, EQ, pn, il, eq⟩, dd⟩ own) (Z pre ⟨gg, bb, uu, aa, ⟨V, dV, EQ, pn, il', eq⟩, dd⟩ own) (S "idle") (.ref V) (il') := ⟨_, _, _, _, _, rfl, zi_v, st_v_idle, fp_v_idle⟩
theorem zl_g : (CL, Cell.list xs) ∈ Z pre ⟨⟨T, dT, CL, xs, gs, ge⟩, bb, uu, aa, vv, dd⟩ own := W_g (.tail _ (.tail _ (.head _)))
theorem pl_g {xs' : List AV} : LPut CL (.list xs) (.list xs') (Z pre ⟨⟨T, dT, CL, xs, gs, ge⟩, bb, uu, aa, vv, dd⟩ own) (Z pre ⟨⟨T, dT, CL, xs', gs, ge⟩, bb, uu, aa, vv, dd⟩ own) := P_g rfl (.tail (.tail (.head)))
theorem zl_b : (LL, Cell.list []) ∈ Z pre ⟨gg, ⟨B, dB, M, dM, MD, LL, pt, zv, tk, ct, sv⟩, uu, aa, vv, dd⟩ own := W_b (.tail _ (.tail _ (.tail _ (.tail _ (.tail _ (.head _))))))
theorem zm_b : (MD, Cell.imap []) ∈ Z pre ⟨gg, ⟨B, dB, M, dM, MD, LL, pt, zv, tk, ct, sv⟩, uu, aa, vv, dd⟩ own := W_b (.tail _ (.tail _ (.tail _ (.tail _ (.head _)))))
theorem zl_u : (RL, Cell.list rows) ∈ Z pre ⟨gg, bb, some ⟨R, dR, U, dU, RL, rows, pb, nt⟩, aa, vv, dd⟩ own := W_u (.tail _ (.tail _ (.tail _ (.tail _ (.head _)))))
theorem pl_u {rows' : List AV} : LPut RL (.list rows) (.list rows') (Z pre ⟨gg, bb, some ⟨R, dR, U, dU, RL, rows, pb, nt⟩, aa, vv, dd⟩ own) (Z pre ⟨gg, bb, some ⟨R, dR, U, dU, RL, rows', pb, nt⟩, aa, vv, dd⟩ own) := P_u rfl (.tail (.tail (.tail (.tail (.head)))))
theorem zm_v : (EQ, Cell.imap eq) ∈ Z pre ⟨gg, bb, uu, aa, ⟨V, dV, EQ, pn, il, eq⟩, dd⟩ own := W_v (.tail _ (.tail _ (.head _)))
theorem pm_v {eq' : List (Int × Int)} : LPut EQ (.imap eq) (.imap eq') (Z pre ⟨gg, bb, uu, aa, ⟨V, dV, EQ, pn, il, eq⟩, dd⟩ own) (Z pre ⟨gg, bb, uu, aa, ⟨V, dV, EQ, pn, il, eq'⟩, dd⟩ own) := P_v (.tail (.tail (.head)))
theorem zl_d : (D, Cell.list [.ref D0, .ref D1, .int n]) ∈ Z pre ⟨gg, bb, uu, aa, vv, ⟨D, D0, D1, big, cells, n⟩⟩ own := W_d (.head _)
theorem zl_d0 : (D0, Cell.list big) ∈ Z pre ⟨gg, bb, uu, aa, vv, ⟨D, D0, D1, big, cells, n⟩⟩ own := W_d (.tail _ (.head _))
theorem zl_d1 : (D1, Cell.list cells) ∈ Z pre ⟨gg, bb, uu, aa, vv, ⟨D, D0, D1, big, cells, n⟩⟩ own := W_d (.tail _ (.tail _ (.head _)))
theorem pl_d {n' : Int} : LPut D (.list [.ref D0, .ref D1, .int n]) (.list [.ref D0, .ref D1, .int n']) (Z pre ⟨gg, bb, uu, aa, vv, ⟨D, D0, D1, big, cells, n⟩⟩ own) (Z pre ⟨gg, bb, uu, aa, vv, ⟨D, D0, D1, big, cells, n'⟩⟩ own) := P_d (.head)
theorem pl_d0 {big' : List AV} : LPut D0 (.list big) (.list big') (Z pre ⟨gg, bb, uu, aa, vv, ⟨D, D0, D1, big, cells, n⟩⟩ own) (Z pre ⟨gg, bb, uu, aa, vv, ⟨D, D0, D1, big', cells, n⟩⟩ own) := P_d (.tail (.head))
end
end Mine
end
section
open PySem PySem.W PyProof.Rows PySem.Calls
set_option maxRecDepth 100000
set_option maxHeartbeats 400000
set_option Elab.async false
set_option linter.unusedVariables false
namespace Mine
section
variable {g : Gx} {A : Around} {E : Value → Shared → Prop}
theorem N__law_draw {pre own : Led} {m : Mach} {a0 a1 : AV} {n : Nat} {Φ : AV → Led → Prop} (R : Rm (n + 1) A) (h : ∀ A' L, Rm n A' → wpX g A' (fun _ _ => False) (envX (S "_law_draw") (sScope (stAt 74)) L f__law_draw (.ref 844) []) (sBody (stAt 74)) (Z ((L, .frame (sScope (stAt 74)) [(S "deck", some a0), (S "many", some a1), (S "rest", none), (S "mixed", none)]) :: pre) m own) (Ret Φ)) : wpC g A E (.ref f__law_draw) [a0, a1] (Z pre m own) Φ := enter F__law_draw R rfl h
theorem N__law_typed {pre own : Led} {m : Mach} {a0 a1 a2 a3 a4 : AV} {n : Nat} {Φ : AV → Led → Prop} (R : Rm (n + 1) A) (h : ∀ A' L, Rm n A' → wpX g A' (fun _ _ => False) (envX (S "_law_typed") (sScope (stAt 75)) L f__law_typed (.ref 851) []) (sBody (stAt 75)) (Z ((L, .frame (sScope (stAt 75)) [(S "deck", some a0), (S "buffer", some a1), (S "amalgam", some a2), (S "sort", some a3), (S "fresh", some a4), (S "size", none)]) :: pre) m own) (Ret Φ)) : wpC g A E (.ref f__law_typed) [a0, a1, a2, a3, a4] (Z pre m own) Φ := enter F__law_typed R rfl h
theorem N_begin_change {pre own : Led} {m : Mach} {a0 a1 a2 : AV} {n : Nat} {Φ : AV → Led → Prop} (R : Rm (n + 1) A) (h : ∀ A' L, Rm n A' → wpX g A' (fun _ _ => False) (envX (S "begin_change") (sScope (stAt 4)) L f_begin_change (.ref 48) []) (sBody (stAt 4)) (Z ((L, .frame (sScope (stAt 4)) [(S "amalgam", some a0), (S "undo", some a1), (S "sort", some a2)]) :: pre) m own) (Ret Φ)) : wpC g A E (.ref f_begin_change) [a0, a1, a2] (Z pre m own) Φ := enter F_begin_change R rfl h
theorem N_GapText_size {pre own : Led} {m : Mach} {a0 : AV} {n : Nat} {Φ : AV → Led → Prop} (R : Rm (n + 1) A) (h : ∀ A' L, Rm n A' → wpX g A' (fun _ _ => False) (envX (S "GapText.size") (sScope (mAt 6 1)) L f_GapText_size (.ref 69) []) (sBody (mAt 6 1)) (Z ((L, .frame (sScope (mAt 6 1)) [(S "self", some a0)]) :: pre) m own) (Ret Φ)) : wpC g A E (.ref f_GapText_size) [a0] (Z pre m own) Φ := enter F_GapText_size R rfl h
theorem N_GapText_codes {pre own : Led} {m : Mach} {a0 a1 a2 : AV} {n : Nat} {Φ : AV → Led → Prop} (R : Rm (n + 1) A) (h : ∀ A' L, Rm n A' → wpX g A' (fun _ _ => False) (envX (S "GapText.codes") (sScope (mAt 6 3)) L f_GapText_codes (.ref 83) []) (sBody (mAt 6 3)) (Z ((L, .frame (sScope (mAt 6 3)) [(S "self", some a0), (S "start", some a1), (S "end", some a2), (S "shift", none)]) :: pre) m own) (Ret Φ)) : wpC g A E (.ref f_GapText_codes) [a0, a1, a2] (Z pre m own) Φ := enter F_GapText_codes R rfl h
theorem N_GapText_move_gap {pre own : Led} {m : Mach} {a0 a1 : AV} {n : Nat} {Φ : AV → Led → Prop} (R : Rm (n + 1) A) (h : ∀ A' L, Rm n A' → wpX g A' (fun _ _ => False) (envX (S "GapText.move_gap") (sScope (mAt 6 4)) L f_GapText_move_gap (.ref 90) []) (sBody (mAt 6 4)) (Z ((L, .frame (sScope (mAt 6 4)) [(S "self", some a0), (S "at", some a1), (S "moved", none)]) :: pre) m own) (Ret Φ)) : wpC g A E (.ref f_GapText_move_gap) [a0, a1] (Z pre m own) Φ := enter F_GapText_move_gap R rfl h
theorem N_GapText_widen_gap {pre own : Led} {m : Mach} {a0 a1 : AV} {n : Nat} {Φ : AV → Led → Prop} (R : Rm (n + 1) A) (h : ∀ A' L, Rm n A' → wpX g A' (fun _ _ => False) (envX (S "GapText.widen_gap") (sScope (mAt 6 5)) L f_GapText_widen_gap (.ref 97) []) (sBody (mAt 6 5)) (Z ((L, .frame (sScope (mAt 6 5)) [(S "self", some a0), (S "wanted", some a1), (S "lack", none)]) :: pre) m own) (Ret Φ)) : wpC g A E (.ref f_GapText_widen_gap) [a0, a1] (Z pre m own) Φ := enter F_GapText_widen_gap R rfl h
theorem N_GapText_insert {pre own : Led} {m : Mach} {a0 a1 a2 : AV} {n : Nat} {Φ : AV → Led → Prop} (R : Rm (n + 1) A) (h : ∀ A' L, Rm n A' → wpX g A' (fun _ _ => False) (envX (S "GapText.insert") (sScope (mAt 6 6)) L f_GapText_insert (.ref 104) []) (sBody (mAt 6 6)) (Z ((L, .frame (sScope (mAt 6 6)) [(S "self", some a0), (S "at", some a1), (S "codes", some a2)]) :: pre) m own) (Ret Φ)) : wpC g A E (.ref f_GapText_insert) [a0, a1, a2] (Z pre m own) Φ := enter F_GapText_insert R rfl h
theorem N_GapText_delete {pre own : Led} {m : Mach} {a0 a1 a2 : AV} {n : Nat} {Φ : AV → Led → Prop} (R : Rm (n + 1) A) (h : ∀ A' L, Rm n A' → wpX g A' (fun _ _ => False) (envX (S "GapText.delete") (sScope (mAt 6 7)) L f_GapText_delete (.ref 111) []) (sBody (mAt 6 7)) (Z ((L, .frame (sScope (mAt 6 7)) [(S "self", some a0), (S "start", some a1), (S "end", some a2), (S "gone", none)]) :: pre) m own) (Ret Φ)) : wpC g A E (.ref f_GapText_delete) [a0, a1, a2] (Z pre m own) Φ := enter F_GapText_delete R rfl h
theorem N_Markers_numbers {pre own : Led} {m : Mach} {a0 : AV} {n : Nat} {Φ : AV → Led → Prop} (R : Rm (n + 1) A) (h : ∀ A' L, Rm n A' → wpX g A' (fun _ _ => False) (envX (S "Markers.numbers") (sScope (mAt 8 1)) L f_Markers_numbers (.ref 160) []) (sBody (mAt 8 1)) (Z ((L, .frame (sScope (mAt 8 1)) [(S "self", some a0)]) :: pre) m own) (Ret Φ)) : wpC g A E (.ref f_Markers_numbers) [a0] (Z pre m own) Φ := enter F_Markers_numbers R rfl h
theorem N_Markers_within {pre own : Led} {m : Mach} {a0 a1 a2 : AV} {n : Nat} {Φ : AV → Led → Prop} (R : Rm (n + 1) A) (h : ∀ A' L, Rm n A' → wpX g A' (fun _ _ => False) (envX (S "Markers.within") (sScope (mAt 8 4)) L f_Markers_within (.ref 181) []) (sBody (mAt 8 4)) (Z ((L, .frame (sScope (mAt 8 4)) [(S "self", some a0), (S "start", some a1), (S "end", some a2), (S "found", none), (S "number", none)]) :: pre) m own) (Ret Φ)) : wpC g A E (.ref f_Markers_within) [a0, a1, a2] (Z pre m own) Φ := enter F_Markers_within R rfl h
theorem N_Markers_inserted {pre own : Led} {m : Mach} {a0 a1 a2 a3 : AV} {n : Nat} {Φ : AV → Led → Prop} (R : Rm (n + 1) A) (h : ∀ A' L, Rm n A' → wpX g A' (fun _ _ => False) (envX (S "Markers.inserted") (sScope (mAt 8 5)) L f_Markers_inserted (.ref 188) []) (sBody (mAt 8 5)) (Z ((L, .frame (sScope (mAt 8 5)) [(S "self", some a0), (S "start", some a1), (S "end", some a2), (S "is_before", some a3), (S "number", none), (S "marker", none)]) :: pre) m own) (Ret Φ)) : wpC g A E (.ref f_Markers_inserted) [a0, a1, a2, a3] (Z pre m own) Φ := enter F_Markers_inserted R rfl h
theorem N_Markers_deleted {pre own : Led} {m : Mach} {a0 a1 a2 : AV} {n : Nat} {Φ : AV → Led → Prop} (R : Rm (n + 1) A) (h : ∀ A' L, Rm n A' → wpX g A' (fun _ _ => False) (envX (S "Markers.deleted") (sScope (mAt 8 6)) L f_Markers_deleted (.ref 195) []) (sBody (mAt 8 6)) (Z ((L, .frame (sScope (mAt 8 6)) [(S "self", some a0), (S "start", some a1), (S "end", some a2), (S "number", none), (S "marker", none)]) :: pre) m own) (Ret Φ)) : wpC g A E (.ref f_Markers_deleted) [a0, a1, a2] (Z pre m own) Φ := enter F_Markers_deleted R rfl h
theorem N_Buffer_size {pre own : Led} {m : Mach} {a0 : AV} {n : Nat} {Φ : AV → Led → Prop} (R : Rm (n + 1) A) (h : ∀ A' L, Rm n A' → wpX g A' (fun _ _ => False) (envX (S "Buffer.size") (sScope (mAt 12 5)) L f_Buffer_size (.ref 294) []) (sBody (mAt 12 5)) (Z ((L, .frame (sScope (mAt 12 5)) [(S "self", some a0)]) :: pre) m own) (Ret Φ)) : wpC g A E (.ref f_Buffer_size) [a0] (Z pre m own) Φ := enter F_Buffer_size R rfl h
theorem N_Buffer_codes {pre own : Led} {m : Mach} {a0 a1 a2 : AV} {n : Nat} {Φ : AV → Led → Prop} (R : Rm (n + 1) A) (h : ∀ A' L, Rm n A' → wpX g A' (fun _ _ => False) (envX (S "Buffer.codes") (sScope (mAt 12 7)) L f_Buffer_codes (.ref 308) []) (sBody (mAt 12 7)) (Z ((L, .frame (sScope (mAt 12 7)) [(S "self", some a0), (S "start", some a1), (S "end", some a2)]) :: pre) m own) (Ret Φ)) : wpC g A E (.ref f_Buffer_codes) [a0, a1, a2] (Z pre m own) Φ := enter F_Buffer_codes R rfl h
theorem N_Buffer_goto {pre own : Led} {m : Mach} {a0 a1 : AV} {n : Nat} {Φ : AV → Led → Prop} (R : Rm (n + 1) A) (h : ∀ A' L, Rm n A' → wpX g A' (fun _ _ => False) (envX (S "Buffer.goto") (sScope (mAt 12 8)) L f_Buffer_goto (.ref 315) []) (sBody (mAt 12 8)) (Z ((L, .frame (sScope (mAt 12 8)) [(S "self", some a0), (S "place", some a1)]) :: pre) m own) (Ret Φ)) : wpC g A E (.ref f_Buffer_goto) [a0, a1] (Z pre m own) Φ := enter F_Buffer_goto R rfl h
theorem N_Buffer_is_modified {pre own : Led} {m : Mach} {a0 : AV} {n : Nat} {Φ : AV → Led → Prop} (R : Rm (n + 1) A) (h : ∀ A' L, Rm n A' → wpX g A' (fun _ _ => False) (envX (S "Buffer.is_modified") (sScope (mAt 12 10)) L f_Buffer_is_modified (.ref 329) []) (sBody (mAt 12 10)) (Z ((L, .frame (sScope (mAt 12 10)) [(S "self", some a0)]) :: pre) m own) (Ret Φ)) : wpC g A E (.ref f_Buffer_is_modified) [a0] (Z pre m own) Φ := enter F_Buffer_is_modified R rfl h
theorem N_Buffer_set_modified {pre own : Led} {m : Mach} {a0 a1 : AV} {n : Nat} {Φ : AV → Led → Prop} (R : Rm (n + 1) A) (h : ∀ A' L, Rm n A' → wpX g A' (fun _ _ => False) (envX (S "Buffer.set_modified") (sScope (mAt 12 11)) L f_Buffer_set_modified (.ref 336) []) (sBody (mAt 12 11)) (Z ((L, .frame (sScope (mAt 12 11)) [(S "self", some a0), (S "is_so", some a1)]) :: pre) m own) (Ret Φ)) : wpC g A E (.ref f_Buffer_set_modified) [a0, a1] (Z pre m own) Φ := enter F_Buffer_set_modified R rfl h
theorem N_Buffer_touch {pre own : Led} {m : Mach} {a0 a1 : AV} {n : Nat} {Φ : AV → Led → Prop} (R : Rm (n + 1) A) (h : ∀ A' L, Rm n A' → wpX g A' (fun _ _ => False) (envX (S "Buffer.touch") (sScope (mAt 12 12)) L f_Buffer_touch (.ref 343) []) (sBody (mAt 12 12)) (Z ((L, .frame (sScope (mAt 12 12)) [(S "self", some a0), (S "are_codes", some a1)]) :: pre) m own) (Ret Φ)) : wpC g A E (.ref f_Buffer_touch) [a0, a1] (Z pre m own) Φ := enter F_Buffer_touch R rfl h
theorem N_need_writable {pre own : Led} {m : Mach} {a0 : AV} {n : Nat} {Φ : AV → Led → Prop} (R : Rm (n + 1) A) (h : ∀ A' L, Rm n A' → wpX g A' (fun _ _ => False) (envX (S "need_writable") (sScope (stAt 17)) L f_need_writable (.ref 375) []) (sBody (stAt 17)) (Z ((L, .frame (sScope (stAt 17)) [(S "buffer", some a0)]) :: pre) m own) (Ret Φ)) : wpC g A E (.ref f_need_writable) [a0] (Z pre m own) Φ := enter F_need_writable R rfl h
theorem N_need_room {pre own : Led} {m : Mach} {a0 a1 : AV} {n : Nat} {Φ : AV → Led → Prop} (R : Rm (n + 1) A) (h : ∀ A' L, Rm n A' → wpX g A' (fun _ _ => False) (envX (S "need_room") (sScope (stAt 18)) L f_need_room (.ref 382) []) (sBody (stAt 18)) (Z ((L, .frame (sScope (stAt 18)) [(S "buffer", some a0), (S "growth", some a1)]) :: pre) m own) (Ret Φ)) : wpC g A E (.ref f_need_room) [a0, a1] (Z pre m own) Φ := enter F_need_room R rfl h
theorem N_reached {pre own : Led} {m : Mach} {a0 a1 a2 : AV} {n : Nat} {Φ : AV → Led → Prop} (R : Rm (n + 1) A) (h : ∀ A' L, Rm n A' → wpX g A' (fun _ _ => False) (envX (S "reached") (sScope (stAt 19)) L f_reached (.ref 389) []) (sBody (stAt 19)) (Z ((L, .frame (sScope (stAt 19)) [(S "buffer", some a0), (S "start", some a1), (S "end", some a2), (S "low", none), (S "high", none)]) :: pre) m own) (Ret Φ)) : wpC g A E (.ref f_reached) [a0, a1, a2] (Z pre m own) Φ := enter F_reached R rfl h
theorem N_tell_ahead {pre own : Led} {m : Mach} {a0 a1 a2 : AV} {n : Nat} {Φ : AV → Led → Prop} (R : Rm (n + 1) A) (h : ∀ A' L, Rm n A' → wpX g A' (fun _ _ => False) (envX (S "tell_ahead") (sScope (stAt 20)) L f_tell_ahead (.ref 396) []) (sBody (stAt 20)) (Z ((L, .frame (sScope (stAt 20)) [(S "buffer", some a0), (S "start", some a1), (S "end", some a2), (S "listener", none)]) :: pre) m own) (Ret Φ)) : wpC g A E (.ref f_tell_ahead) [a0, a1, a2] (Z pre m own) Φ := enter F_tell_ahead R rfl h
theorem N_tell_behind {pre own : Led} {m : Mach} {a0 a1 a2 a3 : AV} {n : Nat} {Φ : AV → Led → Prop} (R : Rm (n + 1) A) (h : ∀ A' L, Rm n A' → wpX g A' (fun _ _ => False) (envX (S "tell_behind") (sScope (stAt 21)) L f_tell_behind (.ref 403) []) (sBody (stAt 21)) (Z ((L, .frame (sScope (stAt 21)) [(S "buffer", some a0), (S "start", some a1), (S "end", some a2), (S "old_length", some a3), (S "listener", none)]) :: pre) m own) (Ret Φ)) : wpC g A E (.ref f_tell_behind) [a0, a1, a2, a3] (Z pre m own) Φ := enter F_tell_behind R rfl h
theorem N_text_out {pre own : Led} {m : Mach} {a0 a1 a2 : AV} {n : Nat} {Φ : AV → Led → Prop} (R : Rm (n + 1) A) (h : ∀ A' L, Rm n A' → wpX g A' (fun _ _ => False) (envX (S "text_out") (sScope (stAt 22)) L f_text_out (.ref 410) []) (sBody (stAt 22)) (Z ((L, .frame (sScope (stAt 22)) [(S "buffer", some a0), (S "start", some a1), (S "end", some a2), (S "gone", none)]) :: pre) m own) (Ret Φ)) : wpC g A E (.ref f_text_out) [a0, a1, a2] (Z pre m own) Φ := enter F_text_out R rfl h
theorem N_text_in {pre own : Led} {m : Mach} {a0 a1 a2 : AV} {n : Nat} {Φ : AV → Led → Prop} (R : Rm (n + 1) A) (h : ∀ A' L, Rm n A' → wpX g A' (fun _ _ => False) (envX (S "text_in") (sScope (stAt 23)) L f_text_in (.ref 417) []) (sBody (stAt 23)) (Z ((L, .frame (sScope (stAt 23)) [(S "buffer", some a0), (S "place", some a1), (S "codes", some a2)]) :: pre) m own) (Ret Φ)) : wpC g A E (.ref f_text_in) [a0, a1, a2] (Z pre m own) Φ := enter F_text_in R rfl h
theorem N_hung_out {pre own : Led} {m : Mach} {a0 a1 a2 : AV} {n : Nat} {Φ : AV → Led → Prop} (R : Rm (n + 1) A) (h : ∀ A' L, Rm n A' → wpX g A' (fun _ _ => False) (envX (S "hung_out") (sScope (stAt 24)) L f_hung_out (.ref 424) []) (sBody (stAt 24)) (Z ((L, .frame (sScope (stAt 24)) [(S "buffer", some a0), (S "start", some a1), (S "end", some a2)]) :: pre) m own) (Ret Φ)) : wpC g A E (.ref f_hung_out) [a0, a1, a2] (Z pre m own) Φ := enter F_hung_out R rfl h
theorem N_hung_in {pre own : Led} {m : Mach} {a0 a1 a2 a3 : AV} {n : Nat} {Φ : AV → Led → Prop} (R : Rm (n + 1) A) (h : ∀ A' L, Rm n A' → wpX g A' (fun _ _ => False) (envX (S "hung_in") (sScope (stAt 25)) L f_hung_in (.ref 431) []) (sBody (stAt 25)) (Z ((L, .frame (sScope (stAt 25)) [(S "buffer", some a0), (S "place", some a1), (S "many", some a2), (S "before_markers", some a3)]) :: pre) m own) (Ret Φ)) : wpC g A E (.ref f_hung_in) [a0, a1, a2, a3] (Z pre m own) Φ := enter F_hung_in R rfl h
theorem N_put_in {pre own : Led} {m : Mach} {a0 a1 a2 a3 a4 : AV} {n : Nat} {Φ : AV → Led → Prop} (R : Rm (n + 1) A) (h : ∀ A' L, Rm n A' → wpX g A' (fun _ _ => False) (envX (S "put_in") (sScope (stAt 26)) L f_put_in (.ref 438) []) (sBody (stAt 26)) (Z ((L, .frame (sScope (stAt 26)) [(S "buffer", some a0), (S "place", some a1), (S "codes", some a2), (S "before_markers", some a3), (S "is_point_behind", some a4)]) :: pre) m own) (Ret Φ)) : wpC g A E (.ref f_put_in) [a0, a1, a2, a3, a4] (Z pre m own) Φ := enter F_put_in R rfl h
theorem N_insert {pre own : Led} {m : Mach} {a0 a1 : AV} {n : Nat} {Φ : AV → Led → Prop} (R : Rm (n + 1) A) (h : ∀ A' L, Rm n A' → wpX g A' (fun _ _ => False) (envX (S "insert") (sScope (stAt 27)) L f_insert (.ref 446) []) (sBody (stAt 27)) (Z ((L, .frame (sScope (stAt 27)) [(S "buffer", some a0), (S "codes", some a1), (S "before_markers", some (.bool false))]) :: pre) m own) (Ret Φ)) : wpC g A E (.ref f_insert) [a0, a1] (Z pre m own) Φ := enter F_insert R rfl h
theorem N_delete {pre own : Led} {m : Mach} {a0 a1 a2 : AV} {n : Nat} {Φ : AV → Led → Prop} (R : Rm (n + 1) A) (h : ∀ A' L, Rm n A' → wpX g A' (fun _ _ => False) (envX (S "delete") (sScope (stAt 28)) L f_delete (.ref 453) []) (sBody (stAt 28)) (Z ((L, .frame (sScope (stAt 28)) [(S "buffer", some a0), (S "start", some a1), (S "end", some a2), (S "low", none), (S "high", none), (S "gone", none)]) :: pre) m own) (Ret Φ)) : wpC g A E (.ref f_delete) [a0, a1, a2] (Z pre m own) Φ := enter F_delete R rfl h
theorem N_Piece_init {pre own : Led} {m : Mach} {a0 a1 a2 : AV} {n : Nat} {Φ : AV → Led → Prop} (R : Rm (n + 1) A) (h : ∀ A' L, Rm n A' → wpX g A' (fun _ _ => False) (envX (S "Piece.__init__") (sScope (mAt 30 0)) L f_Piece_init (.ref 467) []) (sBody (mAt 30 0)) (Z ((L, .frame (sScope (mAt 30 0)) [(S "self", some a0), (S "codes", some a1), (S "runs", some a2)]) :: pre) m own) (Ret Φ)) : wpC g A E (.ref f_Piece_init) [a0, a1, a2] (Z pre m own) Φ := enter F_Piece_init R rfl h
theorem N_UndoList_count {pre own : Led} {m : Mach} {a0 : AV} {n : Nat} {Φ : AV → Led → Prop} (R : Rm (n + 1) A) (h : ∀ A' L, Rm n A' → wpX g A' (fun _ _ => False) (envX (S "UndoList.count") (sScope (mAt 33 1)) L f_UndoList_count (.ref 496) []) (sBody (mAt 33 1)) (Z ((L, .frame (sScope (mAt 33 1)) [(S "self", some a0)]) :: pre) m own) (Ret Φ)) : wpC g A E (.ref f_UndoList_count) [a0] (Z pre m own) Φ := enter F_UndoList_count R rfl h
theorem N_UndoList_is_at_boundary {pre own : Led} {m : Mach} {a0 : AV} {n : Nat} {Φ : AV → Led → Prop} (R : Rm (n + 1) A) (h : ∀ A' L, Rm n A' → wpX g A' (fun _ _ => False) (envX (S "UndoList.is_at_boundary") (sScope (mAt 33 2)) L f_UndoList_is_at_boundary (.ref 503) []) (sBody (mAt 33 2)) (Z ((L, .frame (sScope (mAt 33 2)) [(S "self", some a0)]) :: pre) m own) (Ret Φ)) : wpC g A E (.ref f_UndoList_is_at_boundary) [a0] (Z pre m own) Φ := enter F_UndoList_is_at_boundary R rfl h
theorem N_UndoList_boundary {pre own : Led} {m : Mach} {a0 : AV} {n : Nat} {Φ : AV → Led → Prop} (R : Rm (n + 1) A) (h : ∀ A' L, Rm n A' → wpX g A' (fun _ _ => False) (envX (S "UndoList.boundary") (sScope (mAt 33 3)) L f_UndoList_boundary (.ref 510) []) (sBody (mAt 33 3)) (Z ((L, .frame (sScope (mAt 33 3)) [(S "self", some a0)]) :: pre) m own) (Ret Φ)) : wpC g A E (.ref f_UndoList_boundary) [a0] (Z pre m own) Φ := enter F_UndoList_boundary R rfl h
theorem N_UndoList_begin_command {pre own : Led} {m : Mach} {a0 a1 : AV} {n : Nat} {Φ : AV → Led → Prop} (R : Rm (n + 1) A) (h : ∀ A' L, Rm n A' → wpX g A' (fun _ _ => False) (envX (S "UndoList.begin_command") (sScope (mAt 33 4)) L f_UndoList_begin_command (.ref 517) []) (sBody (mAt 33 4)) (Z ((L, .frame (sScope (mAt 33 4)) [(S "self", some a0), (S "point", some a1)]) :: pre) m own) (Ret Φ)) : wpC g A E (.ref f_UndoList_begin_command) [a0, a1] (Z pre m own) Φ := enter F_UndoList_begin_command R rfl h
theorem N_UndoList_note_state {pre own : Led} {m : Mach} {a0 a1 a2 : AV} {n : Nat} {Φ : AV → Led → Prop} (R : Rm (n + 1) A) (h : ∀ A' L, Rm n A' → wpX g A' (fun _ _ => False) (envX (S "UndoList.note_state") (sScope (mAt 33 5)) L f_UndoList_note_state (.ref 524) []) (sBody (mAt 33 5)) (Z ((L, .frame (sScope (mAt 33 5)) [(S "self", some a0), (S "is_modified", some a1), (S "tick", some a2)]) :: pre) m own) (Ret Φ)) : wpC g A E (.ref f_UndoList_note_state) [a0, a1, a2] (Z pre m own) Φ := enter F_UndoList_note_state R rfl h
theorem N_UndoList_note_begin {pre own : Led} {m : Mach} {a0 a1 a2 a3 : AV} {n : Nat} {Φ : AV → Led → Prop} (R : Rm (n + 1) A) (h : ∀ A' L, Rm n A' → wpX g A' (fun _ _ => False) (envX (S "UndoList.note_begin") (sScope (mAt 33 6)) L f_UndoList_note_begin (.ref 531) []) (sBody (mAt 33 6)) (Z ((L, .frame (sScope (mAt 33 6)) [(S "self", some a0), (S "start", some a1), (S "is_modified", some a2), (S "tick", some a3), (S "is_first", none)]) :: pre) m own) (Ret Φ)) : wpC g A E (.ref f_UndoList_note_begin) [a0, a1, a2, a3] (Z pre m own) Φ := enter F_UndoList_note_begin R rfl h
theorem N_UndoList_note_insert {pre own : Led} {m : Mach} {a0 a1 a2 a3 a4 a5 : AV} {n : Nat} {Φ : AV → Led → Prop} (R : Rm (n + 1) A) (h : ∀ A' L, Rm n A' → wpX g A' (fun _ _ => False) (envX (S "UndoList.note_insert") (sScope (mAt 33 7)) L f_UndoList_note_insert (.ref 538) []) (sBody (mAt 33 7)) (Z ((L, .frame (sScope (mAt 33 7)) [(S "self", some a0), (S "start", some a1), (S "many", some a2), (S "point", some a3), (S "is_modified", some a4), (S "tick", some a5), (S "last", none)]) :: pre) m own) (Ret Φ)) : wpC g A E (.ref f_UndoList_note_insert) [a0, a1, a2, a3, a4, a5] (Z pre m own) Φ := enter F_UndoList_note_insert R rfl h
theorem N_UndoList_note_delete {pre own : Led} {m : Mach} {a0 a1 a2 a3 a4 a5 a6 : AV} {n : Nat} {Φ : AV → Led → Prop} (R : Rm (n + 1) A) (h : ∀ A' L, Rm n A' → wpX g A' (fun _ _ => False) (envX (S "UndoList.note_delete") (sScope (mAt 33 8)) L f_UndoList_note_delete (.ref 545) []) (sBody (mAt 33 8)) (Z ((L, .frame (sScope (mAt 33 8)) [(S "self", some a0), (S "start", some a1), (S "piece", some a2), (S "point", some a3), (S "markers", some a4), (S "is_modified", some a5), (S "tick", some a6), (S "marker", none), (S "distance", none)]) :: pre) m own) (Ret Φ)) : wpC g A E (.ref f_UndoList_note_delete) [a0, a1, a2, a3, a4, a5, a6] (Z pre m own) Φ := enter F_UndoList_note_delete R rfl h
theorem N_Recording_text_comes {pre own : Led} {m : Mach} {a0 a1 a2 a3 : AV} {n : Nat} {Φ : AV → Led → Prop} (R : Rm (n + 1) A) (h : ∀ A' L, Rm n A' → wpX g A' (fun _ _ => False) (envX (S "Recording.text_comes") (sScope (mAt 36 1)) L f_Recording_text_comes (.ref 599) []) (sBody (mAt 36 1)) (Z ((L, .frame (sScope (mAt 36 1)) [(S "self", some a0), (S "buffer", some a1), (S "start", some a2), (S "many", some a3)]) :: pre) m own) (Ret Φ)) : wpC g A E (.ref f_Recording_text_comes) [a0, a1, a2, a3] (Z pre m own) Φ := enter F_Recording_text_comes R rfl h
theorem N_need_visible {pre own : Led} {m : Mach} {a0 a1 a2 : AV} {n : Nat} {Φ : AV → Led → Prop} (R : Rm (n + 1) A) (h : ∀ A' L, Rm n A' → wpX g A' (fun _ _ => False) (envX (S "need_visible") (sScope (stAt 49)) L f_need_visible (.ref 680) []) (sBody (stAt 49)) (Z ((L, .frame (sScope (stAt 49)) [(S "buffer", some a0), (S "start", some a1), (S "end", some a2)]) :: pre) m own) (Ret Φ)) : wpC g A E (.ref f_need_visible) [a0, a1, a2] (Z pre m own) Φ := enter F_need_visible R rfl h
theorem N_markers_ahead {pre own : Led} {m : Mach} {a0 a1 : AV} {n : Nat} {Φ : AV → Led → Prop} (R : Rm (n + 1) A) (h : ∀ A' L, Rm n A' → wpX g A' (fun _ _ => False) (envX (S "markers_ahead") (sScope (stAt 50)) L f_markers_ahead (.ref 687) []) (sBody (stAt 50)) (Z ((L, .frame (sScope (stAt 50)) [(S "rows", some a0), (S "at", some a1), (S "found", none)]) :: pre) m own) (Ret Φ)) : wpC g A E (.ref f_markers_ahead) [a0, a1] (Z pre m own) Φ := enter F_markers_ahead R rfl h
theorem N_undo_insert {pre own : Led} {m : Mach} {a0 a1 : AV} {n : Nat} {Φ : AV → Led → Prop} (R : Rm (n + 1) A) (h : ∀ A' L, Rm n A' → wpX g A' (fun _ _ => False) (envX (S "undo_insert") (sScope (stAt 51)) L f_undo_insert (.ref 694) []) (sBody (stAt 51)) (Z ((L, .frame (sScope (stAt 51)) [(S "buffer", some a0), (S "row", some a1)]) :: pre) m own) (Ret Φ)) : wpC g A E (.ref f_undo_insert) [a0, a1] (Z pre m own) Φ := enter F_undo_insert R rfl h
theorem N_undo_delete {pre own : Led} {m : Mach} {a0 a1 a2 : AV} {n : Nat} {Φ : AV → Led → Prop} (R : Rm (n + 1) A) (h : ∀ A' L, Rm n A' → wpX g A' (fun _ _ => False) (envX (S "undo_delete") (sScope (stAt 52)) L f_undo_delete (.ref 701) []) (sBody (stAt 52)) (Z ((L, .frame (sScope (stAt 52)) [(S "buffer", some a0), (S "row", some a1), (S "marker_rows", some a2), (S "valid", none), (S "word", none), (S "marker", none), (S "distance", none)]) :: pre) m own) (Ret Φ)) : wpC g A E (.ref f_undo_delete) [a0, a1, a2] (Z pre m own) Φ := enter F_undo_delete R rfl h
theorem N_undo_row {pre own : Led} {m : Mach} {a0 a1 a2 : AV} {n : Nat} {Φ : AV → Led → Prop} (R : Rm (n + 1) A) (h : ∀ A' L, Rm n A' → wpX g A' (fun _ _ => False) (envX (S "undo_row") (sScope (stAt 53)) L f_undo_row (.ref 708) []) (sBody (stAt 53)) (Z ((L, .frame (sScope (stAt 53)) [(S "buffer", some a0), (S "rows", some a1), (S "at", some a2), (S "row", none), (S "marker_rows", none)]) :: pre) m own) (Ret Φ)) : wpC g A E (.ref f_undo_row) [a0, a1, a2] (Z pre m own) Φ := enter F_undo_row R rfl h
theorem N_above_boundaries {pre own : Led} {m : Mach} {a0 a1 : AV} {n : Nat} {Φ : AV → Led → Prop} (R : Rm (n + 1) A) (h : ∀ A' L, Rm n A' → wpX g A' (fun _ _ => False) (envX (S "above_boundaries") (sScope (stAt 54)) L f_above_boundaries (.ref 715) []) (sBody (stAt 54)) (Z ((L, .frame (sScope (stAt 54)) [(S "rows", some a0), (S "at", some a1)]) :: pre) m own) (Ret Φ)) : wpC g A E (.ref f_above_boundaries) [a0, a1] (Z pre m own) Φ := enter F_above_boundaries R rfl h
theorem N_undo_group {pre own : Led} {m : Mach} {a0 a1 a2 : AV} {n : Nat} {Φ : AV → Led → Prop} (R : Rm (n + 1) A) (h : ∀ A' L, Rm n A' → wpX g A' (fun _ _ => False) (envX (S "undo_group") (sScope (stAt 55)) L f_undo_group (.ref 722) []) (sBody (stAt 55)) (Z ((L, .frame (sScope (stAt 55)) [(S "buffer", some a0), (S "rows", some a1), (S "at", some a2)]) :: pre) m own) (Ret Φ)) : wpC g A E (.ref f_undo_group) [a0, a1, a2] (Z pre m own) Φ := enter F_undo_group R rfl h
theorem N_trimmed_count {pre own : Led} {m : Mach} {a0 : AV} {n : Nat} {Φ : AV → Led → Prop} (R : Rm (n + 1) A) (h : ∀ A' L, Rm n A' → wpX g A' (fun _ _ => False) (envX (S "trimmed_count") (sScope (stAt 59)) L f_trimmed_count (.ref 750) []) (sBody (stAt 59)) (Z ((L, .frame (sScope (stAt 59)) [(S "history", some a0)]) :: pre) m own) (Ret Φ)) : wpC g A E (.ref f_trimmed_count) [a0] (Z pre m own) Φ := enter F_trimmed_count R rfl h
theorem N_last_was_undo {pre own : Led} {m : Mach} {a0 a1 : AV} {n : Nat} {Φ : AV → Led → Prop} (R : Rm (n + 1) A) (h : ∀ A' L, Rm n A' → wpX g A' (fun _ _ => False) (envX (S "last_was_undo") (sScope (stAt 60)) L f_last_was_undo (.ref 757) []) (sBody (stAt 60)) (Z ((L, .frame (sScope (stAt 60)) [(S "undoing", some a0), (S "history", some a1)]) :: pre) m own) (Ret Φ)) : wpC g A E (.ref f_last_was_undo) [a0, a1] (Z pre m own) Φ := enter F_last_was_undo R rfl h
theorem N_drop_points {pre own : Led} {m : Mach} {a0 a1 : AV} {n : Nat} {Φ : AV → Led → Prop} (R : Rm (n + 1) A) (h : ∀ A' L, Rm n A' → wpX g A' (fun _ _ => False) (envX (S "drop_points") (sScope (stAt 61)) L f_drop_points (.ref 762) []) (sBody (stAt 61)) (Z ((L, .frame (sScope (stAt 61)) [(S "history", some a0), (S "first", some a1), (S "at", none)]) :: pre) m own) (Ret Φ)) : wpC g A E (.ref f_drop_points) [a0, a1] (Z pre m own) Φ := enter F_drop_points R rfl h
theorem N_elder_rows {pre own : Led} {m : Mach} {a0 a1 : AV} {n : Nat} {Φ : AV → Led → Prop} (R : Rm (n + 1) A) (h : ∀ A' L, Rm n A' → wpX g A' (fun _ _ => False) (envX (S "elder_rows") (sScope (stAt 62)) L f_elder_rows (.ref 769) []) (sBody (stAt 62)) (Z ((L, .frame (sScope (stAt 62)) [(S "history", some a0), (S "count", some a1), (S "rows", none)]) :: pre) m own) (Ret Φ)) : wpC g A E (.ref f_elder_rows) [a0, a1] (Z pre m own) Φ := enter F_elder_rows R rfl h
theorem N_is_in_row {pre own : Led} {m : Mach} {a0 a1 a2 : AV} {n : Nat} {Φ : AV → Led → Prop} (R : Rm (n + 1) A) (h : ∀ A' L, Rm n A' → wpX g A' (fun _ _ => False) (envX (S "is_in_row") (sScope (stAt 64)) L f_is_in_row (.ref 783) []) (sBody (stAt 64)) (Z ((L, .frame (sScope (stAt 64)) [(S "undoing", some a0), (S "history", some a1), (S "is_chained", some a2)]) :: pre) m own) (Ret Φ)) : wpC g A E (.ref f_is_in_row) [a0, a1, a2] (Z pre m own) Φ := enter F_is_in_row R rfl h
theorem N_begin_undo {pre own : Led} {m : Mach} {a0 a1 a2 : AV} {n : Nat} {Φ : AV → Led → Prop} (R : Rm (n + 1) A) (h : ∀ A' L, Rm n A' → wpX g A' (fun _ _ => False) (envX (S "begin_undo") (sScope (stAt 65)) L f_begin_undo (.ref 790) []) (sBody (stAt 65)) (Z ((L, .frame (sScope (stAt 65)) [(S "undoing", some a0), (S "history", some a1), (S "is_chained", some a2)]) :: pre) m own) (Ret Φ)) : wpC g A E (.ref f_begin_undo) [a0, a1, a2] (Z pre m own) Φ := enter F_begin_undo R rfl h
theorem N_end_undo {pre own : Led} {m : Mach} {a0 a1 a2 a3 : AV} {n : Nat} {Φ : AV → Led → Prop} (R : Rm (n + 1) A) (h : ∀ A' L, Rm n A' → wpX g A' (fun _ _ => False) (envX (S "end_undo") (sScope (stAt 66)) L f_end_undo (.ref 797) []) (sBody (stAt 66)) (Z ((L, .frame (sScope (stAt 66)) [(S "undoing", some a0), (S "history", some a1), (S "first", some a2), (S "back_to", some a3), (S "behind", none)]) :: pre) m own) (Ret Φ)) : wpC g A E (.ref f_end_undo) [a0, a1, a2, a3] (Z pre m own) Φ := enter F_end_undo R rfl h
theorem N_undo_more {pre own : Led} {m : Mach} {a0 a1 a2 a3 a4 : AV} {n : Nat} {Φ : AV → Led → Prop} (R : Rm (n + 1) A) (h : ∀ A' L, Rm n A' → wpX g A' (fun _ _ => False) (envX (S "undo_more") (sScope (stAt 67)) L f_undo_more (.ref 804) []) (sBody (stAt 67)) (Z ((L, .frame (sScope (stAt 67)) [(S "undoing", some a0), (S "buffer", some a1), (S "history", some a2), (S "count", some a3), (S "passes_undos", some a4), (S "word", none), (S "start", none), (S "rows", none), (S "first", none), (S "at", none), (S "turn", none)]) :: pre) m own) (Ret Φ)) : wpC g A E (.ref f_undo_more) [a0, a1, a2, a3, a4] (Z pre m own) Φ := enter F_undo_more R rfl h
theorem N_undo {pre own : Led} {m : Mach} {a0 a1 a2 a3 : AV} {n : Nat} {Φ : AV → Led → Prop} (R : Rm (n + 1) A) (h : ∀ A' L, Rm n A' → wpX g A' (fun _ _ => False) (envX (S "undo") (sScope (stAt 68)) L f_undo (.ref 811) []) (sBody (stAt 68)) (Z ((L, .frame (sScope (stAt 68)) [(S "undoing", some a0), (S "buffer", some a1), (S "count", some a2), (S "is_chained", some a3)]) :: pre) m own) (Ret Φ)) : wpC g A E (.ref f_undo) [a0, a1, a2, a3] (Z pre m own) Φ := enter F_undo R rfl h
theorem N_go_on_behind_redo {pre own : Led} {m : Mach} {a0 a1 : AV} {n : Nat} {Φ : AV → Led → Prop} (R : Rm (n + 1) A) (h : ∀ A' L, Rm n A' → wpX g A' (fun _ _ => False) (envX (S "go_on_behind_redo") (sScope (stAt 69)) L f_go_on_behind_redo (.ref 818) []) (sBody (stAt 69)) (Z ((L, .frame (sScope (stAt 69)) [(S "undoing", some a0), (S "history", some a1)]) :: pre) m own) (Ret Φ)) : wpC g A E (.ref f_go_on_behind_redo) [a0, a1] (Z pre m own) Φ := enter F_go_on_behind_redo R rfl h
theorem N_undo_redo {pre own : Led} {m : Mach} {a0 a1 a2 : AV} {n : Nat} {Φ : AV → Led → Prop} (R : Rm (n + 1) A) (h : ∀ A' L, Rm n A' → wpX g A' (fun _ _ => False) (envX (S "undo_redo") (sScope (stAt 70)) L f_undo_redo (.ref 825) []) (sBody (stAt 70)) (Z ((L, .frame (sScope (stAt 70)) [(S "undoing", some a0), (S "buffer", some a1), (S "count", some a2), (S "own", none), (S "turn", none), (S "behind", none), (S "rows", none), (S "noted", none), (S "at", none)]) :: pre) m own) (Ret Φ)) : wpC g A E (.ref f_undo_redo) [a0, a1, a2] (Z pre m own) Φ := enter F_undo_redo R rfl h
end
end Mine
end
section
open PySem PySem.W PyProof.Rows PySem.Calls
set_option maxRecDepth 100000
set_option maxHeartbeats 400000
set_option Elab.async false
set_option linter.unusedVariables false
namespace Mine
theorem ad3 (a b c : Nat) : a + b + c = a + (c + b) := by rw [Nat.add_assoc, Nat.add_comm b]
theorem sl2 {α : Type} (p q s : List α) (i j : Nat) (h : p.length ≤ i) (hij : i ≤ j) : ((p ++ (q ++ s)).take (j + q.length)).drop (i + q.length) = ((p ++ s).take j).drop i := by
  obtain ⟨i, rfl⟩ := Nat.exists_eq_add_of_le h
  obtain ⟨j, rfl⟩ := Nat.exists_eq_add_of_le (Nat.le_trans h hij)
  rw [ad3, ad3, List.take_length_add_append, List.take_length_add_append, List.take_length_add_append, List.drop_length_add_append, List.drop_length_add_append, List.drop_length_add_append]
theorem sl3 {α : Type} (p q s : List α) (i j : Nat) (h : i ≤ p.length) (hj : p.length ≤ j) : ((p ++ (q ++ s)).take p.length).drop i ++ ((p ++ (q ++ s)).take (j + q.length)).drop (p.length + q.length) = ((p ++ s).take j).drop i := by
  obtain ⟨j, rfl⟩ := Nat.exists_eq_add_of_le hj
  rw [ad3, List.take_length_add_append, List.take_length_add_append, List.take_length_add_append, List.drop_length_add_append, List.take_left' rfl, List.drop_left' rfl, List.drop_append_of_le_length h]
section
variable {g : Gx} {A : Around} {E : Value → Shared → Prop} {led led' : Led} {qual : PySem.Str} {sc : Scope} {L f : Addr} {cd : Value} {vs vs' : List (PySem.Str × Option AV)} {cl : List (PySem.Str × Addr)} {env : Env} {pre own : Led} {m : Mach}
theorem tE_attrN {x : PySem.Str} {p pos : Pos} {k : PySem.Str} {o a : AV} (hx : (x, some o) ∈ vs) (ht : Atr (Z ((L, .frame sc vs) :: pre) m own) k o a) : PE g A (envX qual sc L f cd cl) (Z ((L, .frame sc vs) :: pre) m own) (.Attribute (.Name x p) k pos) a := PE_attrN (PE_name Z_fr hx) ht
theorem tT_cmp {op : CmpOp} {l r : Expr} {pos : Pos} {x y : AV} {c : Bool} (hl : PE g A env led l x) (hr : PE g A env led r y) (b : CmpIs op x y c) (hm : behindInMarks op r = false) : PT g A env led (.Compare l [op] [r] pos) c := PT_cmp hl hr b hm
theorem tE_cmp {op : CmpOp} {l r : Expr} {pos : Pos} {x y : AV} {c : Bool} (hl : PE g A env led l x) (hr : PE g A env led r y) (b : CmpIs op x y c) (hm : behindInMarks op r = false) : PE g A env led (.Compare l [op] [r] pos) (.bool c) := PE_cmp hl hr b hm
theorem tT_name {x : PySem.Str} {p : Pos} {a : AV} {c : Bool} (hx : (x, some a) ∈ vs) (b : TruIs a c) : PT g A (envX qual sc L f cd cl) (Z ((L, .frame sc vs) :: pre) m own) (.Name x p) c := PT_name (PE_name Z_fr hx) b
theorem tT_cmpG {op : CmpOp} {l r : Expr} {pos : Pos} {x y : AV} {c : Bool} (hl : PE g A env led l x) (hr : PE g A env led r y) (b : PCmp g A led op x y c) (hm : behindInMarks op r = false) : PT g A env led (.Compare l [op] [r] pos) c := PT_cmpG hl hr b hm
theorem tE_cmpG {op : CmpOp} {l r : Expr} {pos : Pos} {x y : AV} {c : Bool} (hl : PE g A env led l x) (hr : PE g A env led r y) (b : PCmp g A led op x y c) (hm : behindInMarks op r = false) : PE g A env led (.Compare l [op] [r] pos) (.bool c) := PE_cmpG hl hr b hm
theorem tE_glb {x : PySem.Str} {pos : Pos} {a : AV} {t : Tok} (G : Glb x (a.val t)) (hx : (sc.names.lookup x == some .globalImplicit && !(x == ("__debug__" : PySem.Str))) = true) : PE g A (envX qual sc L f cd cl) (Z ((L, .frame sc vs) :: pre) m own) (.Name x pos) a := PE_glb (.inr ⟨t, G⟩) Z_fr hx
theorem tE_glbI {x : PySem.Str} {pos : Pos} {i : Int} {t : Tok} (G : Glb x (.int i t)) (hx : (sc.names.lookup x == some .globalImplicit && !(x == ("__debug__" : PySem.Str))) = true) : PE g A (envX qual sc L f cd cl) (Z ((L, .frame sc vs) :: pre) m own) (.Name x pos) (.int i) := tE_glb (a := .int i) (t := t) G hx
theorem tE_glbR {x : PySem.Str} {pos : Pos} {i : Addr} (G : Glb x (.ref i)) (hx : (sc.names.lookup x == some .globalImplicit && !(x == ("__debug__" : PySem.Str))) = true) : PE g A (envX qual sc L f cd cl) (Z ((L, .frame sc vs) :: pre) m own) (.Name x pos) (.ref i) := tE_glb (a := .ref i) (t := 0) G hx
theorem tL_cons {pos : Pos} {e : Expr} {es : List Expr} {a : AV} {as : List AV} (h : PE g A env led e a) (t : PL g A env led pos es as) (he : starEach (e :: es) env = (false, eval e env) :: starEach es env) : PL g A env led pos (e :: es) (a :: as) := PL_cons h t he
theorem tE_blt {x : PySem.Str} {id : String} {p pos : Pos} {e : Expr} {es : List Expr} {as : List AV} {a : AV} (G : Blt x (.builtin id))
    (hx : (sc.names.lookup x == some .globalImplicit && !(x == ("__debug__" : PySem.Str))) = true)
    (h : PL g A (envX qual sc L f cd cl) (Z ((L, .frame sc vs) :: pre) m own) pos (e :: es) as) (k : PK g A (.builtin id) as (Z ((L, .frame sc vs) :: pre) m own) a)
    (he : starEach (e :: es) (envX qual sc L f cd cl) = (false, eval e (envX qual sc L f cd cl)) :: starEach es (envX qual sc L f cd cl))
    (hp : (backTo pos (starEach es (envX qual sc L f cd cl))).any (·.1) = false) : PE g A (envX qual sc L f cd cl) (Z ((L, .frame sc vs) :: pre) m own) (.Call (.Name x p) (e :: es) [] pos) a := PE_blt G Z_fr hx h k he hp
theorem tX_name {x : PySem.Str} {p pos : Pos} {e : Expr} {a : AV} {rest : List Stmt} {Φ : Out → Led → Prop} (he : PE g A (envX qual sc L f cd cl) (Z ((L, .frame sc vs) :: pre) m own) e a) (V : VPut x a vs vs')
    (hs : swapsWith e (some (.Name x p)) pos.line (envX qual sc L f cd cl) = pure false)
    (h : wpX g A E (envX qual sc L f cd cl) rest (Z ((L, .frame sc vs') :: pre) m own) Φ) : wpX g A E (envX qual sc L f cd cl) (.Assign [.Name x p] e pos :: rest) (Z ((L, .frame sc vs) :: pre) m own) Φ := wX_nameP he Z_frput V h hs
theorem tX_attr {o e : Expr} {k : PySem.Str} {p pos : Pos} {a b : AV} {m' : Mach} {rest : List Stmt} {Φ : Out → Led → Prop} (he : PE g A env (Z ((L, .frame sc vs) :: pre) m own) e a) (ho : PE g A env (Z ((L, .frame sc vs) :: pre) m own) o b)
    (hS : SetsTo (Z ((L, .frame sc vs) :: pre) m own) (Z ((L, .frame sc vs) :: pre) m' own) k b a)
    (hs : swapsWith e (some (.Attribute o k p)) pos.line env = pure false)
    (h : wpX g A E env rest (Z ((L, .frame sc vs) :: pre) m' own) Φ) : wpX g A E env (.Assign [.Attribute o k p] e pos :: rest) (Z ((L, .frame sc vs) :: pre) m own) Φ := by
  obtain ⟨x, C, dx, fs, fs', rfl, hx, U, V⟩ := hS
  exact wX_attrP he ho Z_fr hx U V h hs
theorem wpS.permR {α β : Type} {R : α → β → Prop} {t : Sem α} {Φ : β → Led → Prop} (h : wpS g A E R t led fun b l => ∃ l', l.Perm l' ∧ Φ b l') : wpS g A E R t led Φ :=
  fun s S => h.run S fun v s' b l r S' z => z.elim fun l' z => ⟨b, l', r, S'.perm z.1, z.2⟩
theorem tE_slice {o : Expr} {lo hi : Option Expr} {p pos : Pos} {x : Addr} {xs : List AV} (kl kh : Option Nat) {Φ : AV → Led → Prop} (ho : PE g A env (Z pre m own) o (.ref x)) (hl : PartE g A env (Z pre m own) lo kl) (hh : PartE g A env (Z pre m own) hi kh) (hm : (x, Cell.list xs) ∈ Z pre m own)
    (k : ∀ z, Φ (.ref z) (Z pre m ((z, .list (sliceL xs kl kh)) :: own))) : wpE g A E env (.Subscript o (.Slice lo hi none p) pos) (Z pre m own) Φ :=
  wpS.permR (wE_slice ho hl hh hm (fun z => ⟨_, Z_new, k z⟩))
inductive AddP (Φ : AV → Led → Prop) (a b : AV) (l : Led) : Prop
  | mk (x y : Addr) (xs ys : List AV) (pre : Led) (m : Mach) (own : Led) (e1 : a = .ref x) (e2 : b = .ref y) (e3 : l = Z pre m own) (hx : (x, Cell.list xs) ∈ l) (hy : (y, Cell.list ys) ∈ l) (hb : xs.length + ys.length ≤ Big) (k : ∀ z, Φ (.ref z) (Z pre m ((z, .list (xs ++ ys)) :: own))) : AddP Φ a b l
theorem tE_add {l r : Expr} {pos : Pos} {Φ : AV → Led → Prop} (h : wpE g A E env l led fun a l1 => wpE g A E env r l1 (AddP Φ a)) :
    wpE g A E env (.BinOp l .Add r pos) led Φ :=
  wpS.permR (wE_add (wpS.mono h fun a l1 h1 => wpS.mono h1 fun b l2 z => by
    obtain ⟨x, y, xs, ys, pre, m, own, e1, e2, e3, hx, hy, hb, k⟩ := z
    exact ⟨x, y, xs, ys, e1, e2, hx, hy, hb, fun z => ⟨_, by rw [e3]; exact Z_new, k z⟩⟩))
theorem RetZ {Φ : AV → Led → Prop} {a : AV} {p : Addr × Cell} (h : Φ a (Z pre m own)) : Ret Φ (.ret a) (Z (p :: pre) m own) := ⟨a, _, rfl, Z_drop, h⟩
theorem RetN {Φ : AV → Led → Prop} {p : Addr × Cell} (h : Φ .none (Z pre m own)) : Ret Φ .next (Z (p :: pre) m own) := ⟨.none, _, rfl, Z_drop, h⟩
theorem Z_ne_own {x y : Addr} {c c' : Cell} (nd : ((Z pre m own).map (·.1)).Nodup) (hx : (x, c) ∈ W m) (hy : (y, c') ∈ own) : x ≠ y := by
  unfold Z at nd
  rw [List.map_append, List.map_append] at nd
  have h1 := (List.nodup_append.mp nd).2.1
  have h2 := (List.nodup_append.mp h1).2.2
  exact h2 x (List.mem_map_of_mem (f := (·.1)) hx) y (List.mem_map_of_mem (f := (·.1)) hy)
theorem tX_cells {o e lo hi : Expr} {p' p pos : Pos} {rest : List Stmt} {T dT CL y : Addr} {xs ys : List AV} {gs ge vi vj : Int} {i j : Nat} {bb : Bf} {uu : Option Un} {aa : Am} {vv : Ug} {dd : Dk} {Φ : Out → Led → Prop}
    (he : PE g A env (Z ((L, .frame sc vs) :: pre) ⟨⟨T, dT, CL, xs, gs, ge⟩, bb, uu, aa, vv, dd⟩ own) e (.ref y)) (ho : PE g A env (Z ((L, .frame sc vs) :: pre) ⟨⟨T, dT, CL, xs, gs, ge⟩, bb, uu, aa, vv, dd⟩ own) o (.ref CL))
    (hl : PE g A env (Z ((L, .frame sc vs) :: pre) ⟨⟨T, dT, CL, xs, gs, ge⟩, bb, uu, aa, vv, dd⟩ own) lo (.int vi)) (hh : PE g A env (Z ((L, .frame sc vs) :: pre) ⟨⟨T, dT, CL, xs, gs, ge⟩, bb, uu, aa, vv, dd⟩ own) hi (.int vj))
    (hs : swapsWith e (some (.Subscript o (.Slice (some lo) (some hi) none p') p)) pos.line env = pure false)
    (hy : (y, Cell.list ys) ∈ own) (hi' : vi = (i : Int)) (hj' : vj = (j : Int)) (hij : i ≤ j) (hj : j ≤ xs.length) (hb : xs.length + ys.length ≤ Big)
    (h : wpX g A E env rest (Z ((L, .frame sc vs) :: pre) ⟨⟨T, dT, CL, xs.take i ++ ys ++ xs.drop j, gs, ge⟩, bb, uu, aa, vv, dd⟩ own) Φ) :
    wpX g A E env (.Assign [.Subscript o (.Slice (some lo) (some hi) none p') p] e pos :: rest) (Z ((L, .frame sc vs) :: pre) ⟨⟨T, dT, CL, xs, gs, ge⟩, bb, uu, aa, vv, dd⟩ own) Φ := by
  subst hi' hj'
  exact wX_slice (he.use ⟨CL, y, xs, ys, i, j, _, rfl, ho, hl, hh, Z_own hy, fun nd => Z_ne_own nd (List.mem_append_left _ (.tail _ (.tail _ (.head _)))) hy, hij, hj, hb, pl_g, h⟩) hs
theorem RetZs {Φ : AV → Led → Prop} {a : AV} {p : Addr × Cell} {own' : Led} (h : Φ a (Z pre m own)) (hs : own.Sublist own') : Ret Φ (.ret a) (Z (p :: pre) m own') := ⟨a, _, rfl, .cons _ ((List.Sublist.refl _).append ((List.Sublist.refl _).append hs)), h⟩
theorem RetNs {Φ : AV → Led → Prop} {p : Addr × Cell} {own' : Led} (h : Φ .none (Z pre m own)) (hs : own.Sublist own') : Ret Φ .next (Z (p :: pre) m own') := ⟨.none, _, rfl, .cons _ ((List.Sublist.refl _).append ((List.Sublist.refl _).append hs)), h⟩
inductive NmE (g : Gx) (A : Around) (E : Value → Shared → Prop) (qual : PySem.Str) (sc : Scope) (L f : Addr) (cd : Value) (cl : List (PySem.Str × Addr)) (x : PySem.Str) (rest : List Stmt) (Φ : Out → Led → Prop) (a : AV) (l : Led) : Prop
  | mk (vs0 vs' : List (PySem.Str × Option AV)) (pre' : Led) (m' : Mach) (own' : Led) (e : l = Z ((L, .frame sc vs0) :: pre') m' own') (V : VPut x a vs0 vs') (k : wpX g A E (envX qual sc L f cd cl) rest (Z ((L, .frame sc vs') :: pre') m' own') Φ) : NmE g A E qual sc L f cd cl x rest Φ a l
theorem tX_nameE {x : PySem.Str} {p pos : Pos} {e : Expr} {rest : List Stmt} {Φ : Out → Led → Prop}
    (h : wpE g A E (envX qual sc L f cd cl) e (Z ((L, .frame sc vs) :: pre) m own) (NmE g A E qual sc L f cd cl x rest Φ))
    (hs : swapsWith e (some (.Name x p)) pos.line (envX qual sc L f cd cl) = pure false := by rfl) : wpX g A E (envX qual sc L f cd cl) (.Assign [.Name x p] e pos :: rest) (Z ((L, .frame sc vs) :: pre) m own) Φ :=
  wX_name (wpS.mono h fun a l z => by obtain ⟨vs0, vs', pre', m', own', rfl, V, k⟩ := z; exact ⟨vs0, vs', _, Z_frput, V, k⟩) hs
theorem tX_nil {rest : List Stmt} {Φ : Out → Led → Prop} (h : wpX g A E env rest led Φ) : wpX g A E env [] led (Sq g A E env rest Φ) := wX_nil h
theorem tX_if {t : Expr} {b o rest : List Stmt} {pos : Pos} {c : Bool} {Φ : Out → Led → Prop} (ht : PT g A env led t c) (h1 : c = true → wpX g A E env b led (Sq g A E env rest Φ)) (h2 : c = false → wpX g A E env o led (Sq g A E env rest Φ)) : wpX g A E env (.If t b o pos :: rest) led Φ := wX_ifP ht h1 h2
end
end Mine
end
section
open PySem PySem.W PyProof.Rows PySem.Calls
set_option maxRecDepth 100000
set_option maxHeartbeats 400000
set_option Elab.async false
set_option linter.unusedVariables false
namespace Mine
section
variable {g : Gx} {A : Around} {E : Value → Shared → Prop} {led led' : Led} {qual : PySem.Str} {sc : Scope} {L f : Addr} {cd : Value} {vs vs' : List (PySem.Str × Option AV)} {cl : List (PySem.Str × Addr)} {env : Env} {pre own : Led} {m : Mach}
noncomputable def Meth (led : Led) (k : PySem.Str) (o : AV) (fn : Addr) : Prop := ∃ x C dx fs, o = .ref x ∧ MthOk C k fn ∧ (x, Cell.inst C dx) ∈ led ∧ (dx, Cell.dict C fs) ∈ led
noncomputable def PC (g : Gx) (A : Around) (fn : Addr) (args : List AV) (led : Led) (a : AV) : Prop := ∀ E Φ, Φ a led → wpC g A E (.ref fn) args led Φ
theorem PL.use' {pos : Pos} {es : List Expr} {as : List AV} {Φ : List AV → Led → Prop} (h : PL g A env led pos es as) (k : Φ as led) : wpL g A E env pos es led Φ := h E Φ k
theorem tE_meth {o : Expr} {k : PySem.Str} {ap pos : Pos} {b : AV} {fn : Addr} {e : Expr} {es : List Expr} {as : List AV} {pl : Sem Bool} {Φ : AV → Led → Prop} (ho : PE g A env led o b) (M : Meth led k b fn) (hl : PL g A env led pos (e :: es) as)
    (he : starEach (e :: es) env = (false, eval e env) :: starEach es env)
    (hp : (backTo pos (starEach es env)).any (·.1) = false)
    (hev : eval (.Call (.Attribute o k ap) (e :: es) [] pos) env = (do
      let ov ← eval o env
      standAt ap.atName
      let (f, first) ← holding [ov] (getMethod ov k pl)
      callWith pos f first (backTo pos (starEach (e :: es) env)) (backToKw pos (keywordEach [] env))))
    (h : wpC g A E (.ref fn) (b :: as) led Φ) : wpE g A E env (.Call (.Attribute o k ap) (e :: es) [] pos) led Φ := by
  obtain ⟨x, C, dx, fs, rfl, M, hx, hd⟩ := M
  exact wE_meth ho M hx hd (hl.use' h) hev he hp
theorem tE_meth0 {o : Expr} {k : PySem.Str} {ap pos : Pos} {b : AV} {fn : Addr} {pl : Sem Bool} {Φ : AV → Led → Prop} (ho : PE g A env led o b) (M : Meth led k b fn)
    (hev : eval (.Call (.Attribute o k ap) [] [] pos) env = (do
      let ov ← eval o env
      standAt ap.atName
      let (f, first) ← holding [ov] (getMethod ov k pl)
      callWith pos f first (backTo pos (starEach [] env)) (backToKw pos (keywordEach [] env))))
    (h : wpC g A E (.ref fn) [b] led Φ) : wpE g A E env (.Call (.Attribute o k ap) [] [] pos) led Φ := by
  obtain ⟨x, C, dx, fs, rfl, M, hx, hd⟩ := M
  exact wE_meth0 ho M hx hd h hev
theorem tP_meth0 {o : Expr} {k : PySem.Str} {ap pos : Pos} {b a : AV} {fn : Addr} {pl : Sem Bool} (ho : PE g A env led o b) (M : Meth led k b fn) (h : PC g A fn [b] led a)
    (hev : eval (.Call (.Attribute o k ap) [] [] pos) env = (do
      let ov ← eval o env
      standAt ap.atName
      let (f, first) ← holding [ov] (getMethod ov k pl)
      callWith pos f first (backTo pos (starEach [] env)) (backToKw pos (keywordEach [] env)))) : PE g A env led (.Call (.Attribute o k ap) [] [] pos) a := fun E Φ k' => tE_meth0 ho M hev (h E Φ k')
theorem tE_call {x : PySem.Str} {p pos : Pos} {fn : Addr} {e : Expr} {es : List Expr} {as : List AV} {Φ : AV → Led → Prop} (G : Glb x (.ref fn)) (hk : ∀ P, keepIn (KK P) (.ref fn) = true)
    (hx : (sc.names.lookup x == some .globalImplicit && !(x == ("__debug__" : PySem.Str))) = true) (hl : PL g A (envX qual sc L f cd cl) (Z ((L, .frame sc vs) :: pre) m own) pos (e :: es) as)
    (he : starEach (e :: es) (envX qual sc L f cd cl) = (false, eval e (envX qual sc L f cd cl)) :: starEach es (envX qual sc L f cd cl))
    (hp : (backTo pos (starEach es (envX qual sc L f cd cl))).any (·.1) = false)
    (h : wpC g A E (.ref fn) as (Z ((L, .frame sc vs) :: pre) m own) Φ) : wpE g A E (envX qual sc L f cd cl) (.Call (.Name x p) (e :: es) [] pos) (Z ((L, .frame sc vs) :: pre) m own) Φ :=
  wE_call G hk Z_fr hx (hl.use' (wpK_C h)) he hp
theorem tP_call {x : PySem.Str} {p pos : Pos} {fn : Addr} {e : Expr} {es : List Expr} {as : List AV} {a : AV} (G : Glb x (.ref fn)) (hk : ∀ P, keepIn (KK P) (.ref fn) = true)
    (hx : (sc.names.lookup x == some .globalImplicit && !(x == ("__debug__" : PySem.Str))) = true) (hl : PL g A (envX qual sc L f cd cl) (Z ((L, .frame sc vs) :: pre) m own) pos (e :: es) as)
    (h : PC g A fn as (Z ((L, .frame sc vs) :: pre) m own) a)
    (he : starEach (e :: es) (envX qual sc L f cd cl) = (false, eval e (envX qual sc L f cd cl)) :: starEach es (envX qual sc L f cd cl))
    (hp : (backTo pos (starEach es (envX qual sc L f cd cl))).any (·.1) = false) : PE g A (envX qual sc L f cd cl) (Z ((L, .frame sc vs) :: pre) m own) (.Call (.Name x p) (e :: es) [] pos) a := fun E Φ k => tE_call G hk hx hl he hp (h E Φ k)
theorem tX_expr {e : Expr} {pos : Pos} {rest : List Stmt} {Φ : Out → Led → Prop} (hi : interactive env = false) (hs : swapsWith e none pos.line env = pure false) (h : wpE g A E env e led fun _ l => wpX g A E env rest l Φ) : wpX g A E env (.Expr e pos :: rest) led Φ := wX_expr h hi hs
theorem tX_ifJ {t : Expr} {b o rest : List Stmt} {pos : Pos} {c : Bool} {Φ : Out → Led → Prop} (J : Led → Prop) (ht : PT g A env led t c)
    (h1 : c = true → wpX g A E env b led fun o l => o = .next ∧ J l) (h2 : c = false → wpX g A E env o led fun o l => o = .next ∧ J l) (h3 : ∀ l, J l → wpX g A E env rest l Φ) : wpX g A E env (.If t b o pos :: rest) led Φ :=
  wX_ifP ht (fun e => wpS.mono (h1 e) fun o l ⟨e, j⟩ => by subst e; exact h3 l j) (fun e => wpS.mono (h2 e) fun o l ⟨e, j⟩ => by subst e; exact h3 l j)
theorem tE_list {es : List Expr} {pos : Pos} {as : List AV} {Φ : AV → Led → Prop} (h : PL g A env (Z pre m own) pos es as) (hb : as.length ≤ Big) (k : ∀ z, Φ (.ref z) (Z pre m ((z, .list as) :: own))) : wpE g A E env (.List es pos) (Z pre m own) Φ :=
  wpS.permR (wE_list (h.use' ⟨hb, fun z => ⟨_, Z_new, k z⟩⟩))
theorem tE_tuple {es : List Expr} {n : Nat} {pos : Pos} {as : List AV} {Φ : AV → Led → Prop} (h : PL g A env (Z pre m own) pos es as) (hb : as.length ≤ Big) (k : ∀ z, Φ (.ref z) (Z pre m ((z, .tup as) :: own))) : wpE g A E env (.Tuple es n pos) (Z pre m own) Φ :=
  wpS.permR (wE_tuple (h.use' ⟨hb, fun z => ⟨_, Z_new, k z⟩⟩))
theorem tE_mul {es : List Expr} {lp pos : Pos} {r : Expr} {i n : Int} {Φ : AV → Led → Prop} (h : PL g A env (Z pre m own) lp es [.int i]) (hr : ∀ own', PE g A env (Z pre m own') r (.int n)) (h0 : 0 ≤ n) (hb : n ≤ Big)
    (k : ∀ y z, Φ (.ref z) (Z pre m ((z, .list (List.replicate n.toNat (.int i))) :: (y, .list [.int i]) :: own))) : wpE g A E env (.BinOp (.List es lp) .Mult r pos) (Z pre m own) Φ :=
  wpS.permR (wE_mul (tE_list h (by unfold Big; simp) fun y => (hr _).use ⟨y, i, n, rfl, rfl, Z_own (.head _), h0, hb, fun z => ⟨_, Z_new, k y z⟩⟩))
theorem tX_cellsM {o lo hi r : Expr} {es : List Expr} {p' p lp bp pos : Pos} {rest : List Stmt} {T dT CL : Addr} {xs : List AV} {gs ge vi vj n w : Int} {i j : Nat} {bb : Bf} {uu : Option Un} {aa : Am} {vv : Ug} {dd : Dk} {Φ : Out → Led → Prop}
    (h : PL g A env (Z ((L, .frame sc vs) :: pre) ⟨⟨T, dT, CL, xs, gs, ge⟩, bb, uu, aa, vv, dd⟩ own) lp es [.int w]) (hr : ∀ own', PE g A env (Z ((L, .frame sc vs) :: pre) ⟨⟨T, dT, CL, xs, gs, ge⟩, bb, uu, aa, vv, dd⟩ own') r (.int n))
    (ho : ∀ own', PE g A env (Z ((L, .frame sc vs) :: pre) ⟨⟨T, dT, CL, xs, gs, ge⟩, bb, uu, aa, vv, dd⟩ own') o (.ref CL))
    (hl : ∀ own', PE g A env (Z ((L, .frame sc vs) :: pre) ⟨⟨T, dT, CL, xs, gs, ge⟩, bb, uu, aa, vv, dd⟩ own') lo (.int vi)) (hh : ∀ own', PE g A env (Z ((L, .frame sc vs) :: pre) ⟨⟨T, dT, CL, xs, gs, ge⟩, bb, uu, aa, vv, dd⟩ own') hi (.int vj))
    (hs : swapsWith (.BinOp (.List es lp) .Mult r bp) (some (.Subscript o (.Slice (some lo) (some hi) none p') p)) pos.line env = pure false)
    (h0 : 0 ≤ n) (hi' : vi = (i : Int)) (hj' : vj = (j : Int)) (hij : i ≤ j) (hj : j ≤ xs.length) (hb : xs.length + n.toNat ≤ Big)
    (k : ∀ y z, wpX g A E env rest (Z ((L, .frame sc vs) :: pre) ⟨⟨T, dT, CL, xs.take i ++ List.replicate n.toNat (.int w) ++ xs.drop j, gs, ge⟩, bb, uu, aa, vv, dd⟩ ((z, .list (List.replicate n.toNat (.int w))) :: (y, .list [.int w]) :: own)) Φ) :
    wpX g A E env (.Assign [.Subscript o (.Slice (some lo) (some hi) none p') p] (.BinOp (.List es lp) .Mult r bp) pos :: rest) (Z ((L, .frame sc vs) :: pre) ⟨⟨T, dT, CL, xs, gs, ge⟩, bb, uu, aa, vv, dd⟩ own) Φ := by
  subst hi' hj'
  exact wX_slice (tE_mul h hr h0 (Int.toNat_le.mp (Nat.le_trans (Nat.le_add_left _ _) hb)) fun y z => ⟨CL, z, xs, _, i, j, _, rfl, ho _, hl _, hh _, Z_own (.head _), fun nd => Z_ne_own nd (List.mem_append_left _ (.tail _ (.tail _ (.head _)))) (.head _), hij, hj, by rw [List.length_replicate]; exact hb, pl_g, k y z⟩) hs
end
section
variable {pre own : Led} {T dT CL B dB M dM MD LL R dR U dU RL Ao dA V dV EQ D D0 D1 : Addr} {xs rows big cells : List AV} {gs ge pt zv tk ct sv mn n : Int} {pb nt pn il : AV} {so : PySem.Str} {eq : List (Int × Int)} {gg : Gp} {bb : Bf} {uu : Option Un} {aa : Am} {vv : Ug} {dd : Dk}
theorem mt_g_size : Meth (Z pre ⟨⟨T, dT, CL, xs, gs, ge⟩, bb, uu, aa, vv, dd⟩ own) (S "size") (.ref T) f_GapText_size := ⟨_, _, _, _, rfl, M_GapText_size, zi_g, zd_g⟩
theorem mt_g_codes : Meth (Z pre ⟨⟨T, dT, CL, xs, gs, ge⟩, bb, uu, aa, vv, dd⟩ own) (S "codes") (.ref T) f_GapText_codes := ⟨_, _, _, _, rfl, M_GapText_codes, zi_g, zd_g⟩
theorem mt_g_move_gap : Meth (Z pre ⟨⟨T, dT, CL, xs, gs, ge⟩, bb, uu, aa, vv, dd⟩ own) (S "move_gap") (.ref T) f_GapText_move_gap := ⟨_, _, _, _, rfl, M_GapText_move_gap, zi_g, zd_g⟩
theorem mt_g_widen_gap : Meth (Z pre ⟨⟨T, dT, CL, xs, gs, ge⟩, bb, uu, aa, vv, dd⟩ own) (S "widen_gap") (.ref T) f_GapText_widen_gap := ⟨_, _, _, _, rfl, M_GapText_widen_gap, zi_g, zd_g⟩
theorem mt_g_insert : Meth (Z pre ⟨⟨T, dT, CL, xs, gs, ge⟩, bb, uu, aa, vv, dd⟩ own) (S "insert") (.ref T) f_GapText_insert := ⟨_, _, _, _, rfl, M_GapText_insert, zi_g, zd_g⟩
theorem mt_g_delete : Meth (Z pre ⟨⟨T, dT, CL, xs, gs, ge⟩, bb, uu, aa, vv, dd⟩ own) (S "delete") (.ref T) f_GapText_delete := ⟨_, _, _, _, rfl, M_GapText_delete, zi_g, zd_g⟩
theorem mt_k_numbers : Meth (Z pre ⟨gg, ⟨B, dB, M, dM, MD, LL, pt, zv, tk, ct, sv⟩, uu, aa, vv, dd⟩ own) (S "numbers") (.ref M) f_Markers_numbers := ⟨_, _, _, _, rfl, M_Markers_numbers, zi_k, zd_k⟩
theorem mt_k_within : Meth (Z pre ⟨gg, ⟨B, dB, M, dM, MD, LL, pt, zv, tk, ct, sv⟩, uu, aa, vv, dd⟩ own) (S "within") (.ref M) f_Markers_within := ⟨_, _, _, _, rfl, M_Markers_within, zi_k, zd_k⟩
theorem mt_k_inserted : Meth (Z pre ⟨gg, ⟨B, dB, M, dM, MD, LL, pt, zv, tk, ct, sv⟩, uu, aa, vv, dd⟩ own) (S "inserted") (.ref M) f_Markers_inserted := ⟨_, _, _, _, rfl, M_Markers_inserted, zi_k, zd_k⟩
theorem mt_k_deleted : Meth (Z pre ⟨gg, ⟨B, dB, M, dM, MD, LL, pt, zv, tk, ct, sv⟩, uu, aa, vv, dd⟩ own) (S "deleted") (.ref M) f_Markers_deleted := ⟨_, _, _, _, rfl, M_Markers_deleted, zi_k, zd_k⟩
theorem mt_b_size : Meth (Z pre ⟨gg, ⟨B, dB, M, dM, MD, LL, pt, zv, tk, ct, sv⟩, uu, aa, vv, dd⟩ own) (S "size") (.ref B) f_Buffer_size := ⟨_, _, _, _, rfl, M_Buffer_size, zi_b, zd_b⟩
theorem mt_b_codes : Meth (Z pre ⟨gg, ⟨B, dB, M, dM, MD, LL, pt, zv, tk, ct, sv⟩, uu, aa, vv, dd⟩ own) (S "codes") (.ref B) f_Buffer_codes := ⟨_, _, _, _, rfl, M_Buffer_codes, zi_b, zd_b⟩
theorem mt_b_goto : Meth (Z pre ⟨gg, ⟨B, dB, M, dM, MD, LL, pt, zv, tk, ct, sv⟩, uu, aa, vv, dd⟩ own) (S "goto") (.ref B) f_Buffer_goto := ⟨_, _, _, _, rfl, M_Buffer_goto, zi_b, zd_b⟩
theorem mt_b_is_modified : Meth (Z pre ⟨gg, ⟨B, dB, M, dM, MD, LL, pt, zv, tk, ct, sv⟩, uu, aa, vv, dd⟩ own) (S "is_modified") (.ref B) f_Buffer_is_modified := ⟨_, _, _, _, rfl, M_Buffer_is_modified, zi_b, zd_b⟩
theorem mt_b_set_modified : Meth (Z pre ⟨gg, ⟨B, dB, M, dM, MD, LL, pt, zv, tk, ct, sv⟩, uu, aa, vv, dd⟩ own) (S "set_modified") (.ref B) f_Buffer_set_modified := ⟨_, _, _, _, rfl, M_Buffer_set_modified, zi_b, zd_b⟩
theorem mt_b_touch : Meth (Z pre ⟨gg, ⟨B, dB, M, dM, MD, LL, pt, zv, tk, ct, sv⟩, uu, aa, vv, dd⟩ own) (S "touch") (.ref B) f_Buffer_touch := ⟨_, _, _, _, rfl, M_Buffer_touch, zi_b, zd_b⟩
theorem mt_u_count : Meth (Z pre ⟨gg, bb, some ⟨R, dR, U, dU, RL, rows, pb, nt⟩, aa, vv, dd⟩ own) (S "count") (.ref U) f_UndoList_count := ⟨_, _, _, _, rfl, M_UndoList_count, zi_u, zd_u⟩
theorem mt_u_is_at_boundary : Meth (Z pre ⟨gg, bb, some ⟨R, dR, U, dU, RL, rows, pb, nt⟩, aa, vv, dd⟩ own) (S "is_at_boundary") (.ref U) f_UndoList_is_at_boundary := ⟨_, _, _, _, rfl, M_UndoList_is_at_boundary, zi_u, zd_u⟩
theorem mt_u_boundary : Meth (Z pre ⟨gg, bb, some ⟨R, dR, U, dU, RL, rows, pb, nt⟩, aa, vv, dd⟩ own) (S "boundary") (.ref U) f_UndoList_boundary := ⟨_, _, _, _, rfl, M_UndoList_boundary, zi_u, zd_u⟩
theorem mt_u_begin_command : Meth (Z pre ⟨gg, bb, some ⟨R, dR, U, dU, RL, rows, pb, nt⟩, aa, vv, dd⟩ own) (S "begin_command") (.ref U) f_UndoList_begin_command := ⟨_, _, _, _, rfl, M_UndoList_begin_command, zi_u, zd_u⟩
theorem mt_u_note_state : Meth (Z pre ⟨gg, bb, some ⟨R, dR, U, dU, RL, rows, pb, nt⟩, aa, vv, dd⟩ own) (S "note_state") (.ref U) f_UndoList_note_state := ⟨_, _, _, _, rfl, M_UndoList_note_state, zi_u, zd_u⟩
theorem mt_u_note_begin : Meth (Z pre ⟨gg, bb, some ⟨R, dR, U, dU, RL, rows, pb, nt⟩, aa, vv, dd⟩ own) (S "note_begin") (.ref U) f_UndoList_note_begin := ⟨_, _, _, _, rfl, M_UndoList_note_begin, zi_u, zd_u⟩
theorem mt_u_note_insert : Meth (Z pre ⟨gg, bb, some ⟨R, dR, U, dU, RL, rows, pb, nt⟩, aa, vv, dd⟩ own) (S "note_insert") (.ref U) f_UndoList_note_insert := ⟨_, _, _, _, rfl, M_UndoList_note_insert, zi_u, zd_u⟩
theorem mt_u_note_delete : Meth (Z pre ⟨gg, bb, some ⟨R, dR, U, dU, RL, rows, pb, nt⟩, aa, vv, dd⟩ own) (S "note_delete") (.ref U) f_UndoList_note_delete := ⟨_, _, _, _, rfl, M_UndoList_note_delete, zi_u, zd_u⟩
theorem mt_u_renew_unmodified : Meth (Z pre ⟨gg, bb, some ⟨R, dR, U, dU, RL, rows, pb, nt⟩, aa, vv, dd⟩ own) (S "renew_unmodified") (.ref U) f_UndoList_renew_unmodified := ⟨_, _, _, _, rfl, M_UndoList_renew_unmodified, zi_u, zd_u⟩
theorem mt_r_text_comes : Meth (Z pre ⟨gg, bb, some ⟨R, dR, U, dU, RL, rows, pb, nt⟩, aa, vv, dd⟩ own) (S "text_comes") (.ref R) f_Recording_text_comes := ⟨_, _, _, _, rfl, M_Recording_text_comes, zi_r, zd_r⟩
theorem mt_r_text_goes : Meth (Z pre ⟨gg, bb, some ⟨R, dR, U, dU, RL, rows, pb, nt⟩, aa, vv, dd⟩ own) (S "text_goes") (.ref R) f_Recording_text_goes := ⟨_, _, _, _, rfl, M_Recording_text_goes, zi_r, zd_r⟩
end
end Mine
end
open PySem PySem.W PyProof.Rows PySem.Calls
set_option hygiene false
set_option maxRecDepth 100000
set_option maxHeartbeats 400000
set_option Elab.async false
set_option linter.unusedVariables false
namespace Mine
local macro_rules | `(tactic| k_places) => `(tactic| with_reducible (first | exact List.mem_cons_self | (refine List.mem_cons_of_mem _ ?_; k_places)))
local macro_rules | `(tactic| k_clsL) => `(tactic| with_reducible (first
  | exact at_g_gap_start | exact at_g_gap_end | exact at_g_cells | exact at_g_room
  | exact at_b_point | exact at_b_zv | exact at_b_begv | exact at_b_text | exact at_b_undo | exact at_b_ticks | exact at_b_saved_ticks | exact at_b_codes_ticks | exact at_b_markers | exact at_b_listeners | exact at_b_is_read_only | exact at_b_props | exact at_b_overlays | exact at_b_name
  | exact at_k_rows | exact at_r_list
  | exact at_u_rows | exact at_u_dropped | exact at_u_is_on | exact at_u_point_before | exact at_u_noted_tick
  | exact at_a_sort | exact at_a_many | exact at_v_pending | exact at_v_idle | exact at_v_chosen | exact at_v_equal))
local macro_rules | `(tactic| k_upd) => `(tactic| with_reducible (first | exact BinIs.add | exact BinIs.sub | exact CmpIs.lt | exact CmpIs.le | exact CmpIs.gt | exact CmpIs.ge | exact CmpIs.eq | exact CmpIs.ne | exact CmpIs.seq | exact CmpIs.sne | exact CmpIs.isNone | exact CmpIs.isNot | exact TruIs.bool | exact TruIs.int | exact TruIs.none))
local macro_rules | `(tactic| k_offL) => `(tactic| with_reducible (first | exact zl_g | exact zl_u | exact zl_b | exact zl_d0 | exact zl_d1 | exact zl_d | assumption | (apply Z_own; assumption) | (apply Z_own; k_places)))
local macro_rules | `(tactic| k_intsEnd) => `(tactic| with_reducible (first | exact mt_g_size | exact mt_g_codes | exact mt_g_move_gap | exact mt_g_widen_gap | exact mt_g_insert | exact mt_g_delete | exact mt_k_numbers | exact mt_k_within | exact mt_k_inserted | exact mt_k_deleted | exact mt_b_size | exact mt_b_codes | exact mt_b_goto | exact mt_b_is_modified | exact mt_b_set_modified | exact mt_b_touch | exact mt_u_count | exact mt_u_is_at_boundary | exact mt_u_boundary | exact mt_u_begin_command | exact mt_u_note_state | exact mt_u_note_begin | exact mt_u_note_insert | exact mt_u_note_delete | exact mt_u_renew_unmodified | exact mt_r_text_comes | exact mt_r_text_goes))
local macro_rules | `(tactic| l_intsW) => `(tactic| with_reducible (first | exact G__law_deck | exact G__law_draw | exact G__law_typed | exact G_begin_change | exact G_need_writable | exact G_need_room | exact G_reached | exact G_tell_ahead | exact G_tell_behind | exact G_text_out | exact G_text_in | exact G_hung_out | exact G_hung_in | exact G_put_in | exact G_insert | exact G_delete | exact G_insert_piece | exact G_need_visible | exact G_markers_ahead | exact G_undo_insert | exact G_undo_delete | exact G_undo_row | exact G_above_boundaries | exact G_undo_group | exact G_trimmed_count | exact G_last_was_undo | exact G_drop_points | exact G_elder_rows | exact G_is_in_row | exact G_begin_undo | exact G_end_undo | exact G_undo_more | exact G_undo | exact G_go_on_behind_redo | exact G_undo_redo | exact keep__law_deck | exact keep__law_draw | exact keep__law_typed | exact keep_begin_change | exact keep_need_writable | exact keep_need_room | exact keep_reached | exact keep_tell_ahead | exact keep_tell_behind | exact keep_text_out | exact keep_text_in | exact keep_hung_out | exact keep_hung_in | exact keep_put_in | exact keep_insert | exact keep_delete | exact keep_insert_piece | exact keep_need_visible | exact keep_markers_ahead | exact keep_undo_insert | exact keep_undo_delete | exact keep_undo_row | exact keep_above_boundaries | exact keep_undo_group | exact keep_trimmed_count | exact keep_last_was_undo | exact keep_drop_points | exact keep_elder_rows | exact keep_is_in_row | exact keep_begin_undo | exact keep_end_undo | exact keep_undo_more | exact keep_undo | exact keep_go_on_behind_redo | exact keep_undo_redo))
local macro_rules | `(tactic| k_ownIn) => `(tactic| with_reducible (first | (apply PK_len; k_offL) | (apply PK_max Z_fr; exact Rm.handled (by assumption)) | (apply PK_min Z_fr; exact Rm.handled (by assumption)) | exact PK_abs))
local macro_rules | `(tactic| k_subL) => `(tactic| first
  | with_reducible exact PE_int | with_reducible exact PE_str | with_reducible exact PE_bool | with_reducible exact PE_none
  | ((with_reducible apply PE_name Z_fr); k_places)
  | ((with_reducible apply tE_attrN); · k_places
     k_clsL)
  | ((with_reducible apply PE_attrA); · k_subL
     k_clsL)
  | ((with_reducible apply PE_bin); · k_subL
     · k_subL
     k_upd)
  | ((with_reducible apply tT_cmp); · k_subL
     · k_subL
     · k_upd
     kernel_rfl)
  | ((with_reducible apply tE_cmp); · k_subL
     · k_subL
     · k_upd
     kernel_rfl)
  | ((with_reducible apply tT_name); · k_places
     k_upd)
  | ((with_reducible apply PT_attr); · k_subL
     k_upd)
  | ((with_reducible apply PT_not); k_subL)
  | with_reducible exact PT_andN
  | with_reducible exact PT_orN
  | ((with_reducible apply PT_and); · k_subL
     intro _; k_subL)
  | ((with_reducible apply PT_or); · k_subL
     intro _; k_subL)
  | ((with_reducible apply tP_meth0); · k_subL
     · k_intsEnd
     · k_ownIn
     rfl)
  | ((with_reducible apply tP_call); · l_intsW
     · l_intsW
     · kernel_rfl
     · k_subL
     · k_ownIn
     · kernel_rfl
     kernel_rfl)
  | ((with_reducible apply tP_meth); · k_subL
     · k_intsEnd
     · k_subL
     · k_ownIn
     · kernel_rfl
     · kernel_rfl
     rfl)
  | ((with_reducible apply tE_glbI); · (with_reducible first | exact G_JOINED | exact G_LONGEST | exact G_IN_REGION)
     kernel_rfl)
  | ((with_reducible apply tE_glbR); · with_reducible exact G_BOUNDARY
     kernel_rfl)
  | with_reducible exact PL_nil
  | ((with_reducible apply tL_cons); · k_subL
     · k_subL
     kernel_rfl)
  | ((with_reducible apply tE_blt); · (with_reducible first | exact B_len | exact B_min | exact B_max | exact B_abs)
     · kernel_rfl
     · k_subL
     · k_ownIn
     · kernel_rfl
     kernel_rfl))
local macro_rules | `(tactic| k_updF) => `(tactic| with_reducible (first | exact VPut.head | (apply VPut.tail; k_updF)))
local macro_rules | `(tactic| k_allIn) => `(tactic| with_reducible (first
  | exact set_g_gap_start | exact set_g_gap_end | exact set_b_point | exact set_b_zv | exact set_b_ticks | exact set_b_codes_ticks | exact set_b_saved_ticks
  | exact set_u_point_before | exact set_u_noted_tick | exact set_a_sort | exact set_a_many | exact set_v_pending | exact set_v_idle))
local macro_rules | `(tactic| k_memK) => `(tactic| first
  | with_reducible apply tX_nil
  | ((with_reducible apply tX_name); · k_subL
     · k_updF
     · kernel_rfl)
  | ((with_reducible apply tX_attr); · k_subL
     · k_subL
     · k_allIn
     · kernel_rfl)
  | ((with_reducible apply tX_if); · k_subL)
  | ((with_reducible apply tX_expr); · kernel_rfl
     · kernel_rfl)
  | ((with_reducible apply tE_meth); · k_subL
     · k_intsEnd
     · k_subL
     · kernel_rfl
     · kernel_rfl
     · rfl)
  | ((with_reducible apply tE_meth0); · k_subL
     · k_intsEnd
     · rfl)
  | ((with_reducible apply tE_call); · l_intsW
     · l_intsW
     · kernel_rfl
     · k_subL
     · kernel_rfl
     · kernel_rfl))
section
variable {g : Gx} {A : Around} {E : Value → Shared → Prop} {pre own : Led} {T dT CL B dB M dM MD LL R dR U dU RL Ao dA V dV EQ D D0 D1 : Addr} {xs rows big cells : List AV} {gs ge pt zv tk ct sv mn n : Int} {pb nt pn il : AV} {so : PySem.Str} {eq : List (Int × Int)} {gg : Gp} {bb : Bf} {uu : Option Un} {aa : Am} {vv : Ug} {dd : Dk}
theorem Ret.mk' {Φ : AV → Led → Prop} {a : AV} {p : Addr × Cell} {l : Led} (h : Φ a l) : Ret Φ (.ret a) (p :: l) := ⟨a, l, rfl, List.sublist_cons_self .., h⟩
theorem size_ {Φ : AV → Led → Prop} (Rr : Rm 1 A) (h : Φ (.int ((xs.length : Nat) - ge + gs)) (Z pre ⟨⟨T, dT, CL, xs, gs, ge⟩, bb, uu, aa, vv, dd⟩ own)) :
    wpC g A E (.ref f_GapText_size) [.ref T] (Z pre ⟨⟨T, dT, CL, xs, gs, ge⟩, bb, uu, aa, vv, dd⟩ own) Φ := by
  refine N_GapText_size Rr fun A' L R' => ?_
  refine wX_ret ?_
  apply PE.use (by k_subL)
  exact Ret.mk' h
theorem codes_ {p q s : List AV} {i j : Nat} {Φ : AV → Led → Prop} (Rr : Rm 1 A) (hb : (p ++ (q ++ s)).length ≤ 100000) (hij : i ≤ j) (hj : j ≤ p.length + s.length)
    (h : ∀ z, Φ (.ref z) (Z pre ⟨⟨T, dT, CL, p ++ (q ++ s), (p.length : Nat), ((p.length + q.length : Nat) : Int)⟩, bb, uu, aa, vv, dd⟩ ((z, .list (((p ++ s).take j).drop i)) :: own))) :
    wpC g A E (.ref f_GapText_codes) [.ref T, .int (i : Nat), .int (j : Nat)] (Z pre ⟨⟨T, dT, CL, p ++ (q ++ s), (p.length : Nat), ((p.length + q.length : Nat) : Int)⟩, bb, uu, aa, vv, dd⟩ own) Φ := by
  refine N_GapText_codes Rr fun A' L R' => ?_
  conv => arg 5; whnf
  k_memK
  k_memK
  · intro h1
    have h1 : j ≤ p.length := by simpa using h1
    refine wX_ret (tE_slice (some i) (some j) (by k_subL) (.some (by k_subL) rfl) (.some (by k_subL) rfl) zl_g fun z => RetZ ?_)
    have e : sliceL (p ++ (q ++ s)) (some i) (some j) = ((p ++ s).take j).drop i := by
      simp only [sliceL, Option.getD_some, List.take_append_of_le_length h1]
    rw [e]; exact h z
  · intro h1
    have h1 : p.length < j := by simpa using h1
    k_memK
    k_memK
    · intro h2
      have h2 : p.length ≤ i := by simpa using h2
      refine wX_ret (tE_slice (some (i + q.length)) (some (j + q.length)) (by k_subL) (.some (by k_subL) (by lia)) (.some (by k_subL) (by lia)) zl_g fun z => RetZ ?_)
      have e : sliceL (p ++ (q ++ s)) (some (i + q.length)) (some (j + q.length)) = ((p ++ s).take j).drop i := by
        exact sl2 p q s i j h2 hij
      rw [e]; exact h z
    · intro h2
      have h2 : i < p.length := by simpa using h2
      k_memK
      refine wX_ret (tE_add ?_)
      refine tE_slice (some i) (some p.length) (by k_subL) (.some (by k_subL) rfl) (.some (by k_subL) rfl) zl_g fun z1 => ?_
      refine tE_slice (some (p.length + q.length)) (some (j + q.length)) (by k_subL) (.some (by k_subL) rfl) (.some (by k_subL) (by lia)) zl_g fun z2 => ?_
      refine ⟨z1, z2, _, _, _, _, _, rfl, rfl, rfl, Z_own (.tail _ (.head _)), Z_own (.head _), ?_, fun z => ?_⟩
      · have := sliceL_le (p ++ (q ++ s)) (some i) (some p.length)
        have := sliceL_le (p ++ (q ++ s)) (some (p.length + q.length)) (some (j + q.length))
        simp only [List.length_append] at *
        unfold Big at *
        lia
      · refine RetZs ?_ (.cons_cons _ (.cons _ (.cons _ (.refl _))))
        rw [show sliceL (p ++ (q ++ s)) (some i) (some p.length) ++ sliceL (p ++ (q ++ s)) (some (p.length + q.length)) (some (j + q.length)) = ((p ++ s).take j).drop i from sl3 p q s i j (Nat.le_of_lt h2) (Nat.le_of_lt h1)]
        exact h z
end
section
variable {g : Gx} {A : Around} {E : Value → Shared → Prop} {pre own : Led} {T dT CL B dB M dM MD LL R dR U dU RL Ao dA V dV EQ D D0 D1 : Addr} {xs rows big cells : List AV} {gs ge pt zv tk ct sv mn n : Int} {pb nt pn il : AV} {so : PySem.Str} {eq : List (Int × Int)} {gg : Gp} {bb : Bf} {uu : Option Un} {aa : Am} {vv : Ug} {dd : Dk}
theorem tk1 {α : Type} (p r : List α) : (p ++ r).take p.length = p := List.take_left' rfl
theorem dr1 {α : Type} (p r : List α) : (p ++ r).drop p.length = r := List.drop_left' rfl
theorem mv1 {α : Type} (p q s : List α) (i : Nat) (h : i ≤ p.length) :
    (p ++ (q ++ s)).take (i + q.length) ++ p.drop i ++ (p ++ (q ++ s)).drop (p.length + q.length) = p.take i ++ ((((p ++ q).take (i + q.length)).drop i) ++ (p.drop i ++ s)) := by
  have e1 : (p ++ (q ++ s)).drop (p.length + q.length) = s := by rw [← List.append_assoc]; exact List.drop_left' (by simp)
  have e2 : (p ++ (q ++ s)).take (i + q.length) = (p ++ q).take (i + q.length) := by
    rw [← List.append_assoc]; exact List.take_append_of_le_length (by simp; lia)
  have e3 : (p ++ q).take (i + q.length) = p.take i ++ ((p ++ q).take (i + q.length)).drop i := by
    conv => lhs; rw [← List.take_append_drop i ((p ++ q).take (i + q.length))]
    rw [List.take_take, Nat.min_eq_left (by lia), List.take_append_of_le_length h]
  rw [e1, e2]
  conv => lhs; rw [e3]
  simp only [List.append_assoc]
theorem mv1q {α : Type} (p q : List α) (i : Nat) (h : i ≤ p.length) : (((p ++ q).take (i + q.length)).drop i).length = q.length := by
  simp only [List.length_drop, List.length_take, List.length_append]; lia
theorem mv2 {α : Type} (p q s : List α) (k : Nat) (h : k ≤ s.length) :
    (p ++ (q ++ s)).take p.length ++ s.take k ++ (p ++ (q ++ s)).drop (p.length + k) = (p ++ s.take k) ++ (((q ++ s).drop k).take q.length ++ s.drop k) := by
  have e1 : (p ++ (q ++ s)).drop (p.length + k) = (q ++ s).drop k := by rw [List.drop_append, List.drop_of_length_le (by lia), List.nil_append]; congr 1; lia
  have e2 : (q ++ s).drop k = ((q ++ s).drop k).take q.length ++ s.drop k := by
    conv => lhs; rw [← List.take_append_drop q.length ((q ++ s).drop k)]
    rw [List.drop_drop, Nat.add_comm k, ← List.drop_drop, List.drop_left' rfl]
  rw [tk1, e1]
  conv => lhs; rw [e2]
theorem mv2q {α : Type} (q s : List α) (k : Nat) (h : k ≤ s.length) : (((q ++ s).drop k).take q.length).length = q.length := by
  simp only [List.length_drop, List.length_take, List.length_append]; lia
theorem move_gap_ {p q s : List AV} {i : Nat} {Φ : AV → Led → Prop} (Rr : Rm 1 A) (hb : (p ++ (q ++ s)).length ≤ 100000) (hi : i ≤ p.length + s.length)
    (h : ∀ p' q' s', p' ++ s' = p ++ s → p'.length = i → q'.length = q.length → Φ .none (Z pre ⟨⟨T, dT, CL, p' ++ (q' ++ s'), (p'.length : Nat), ((p'.length + q'.length : Nat) : Int)⟩, bb, uu, aa, vv, dd⟩ own)) :
    wpC g A E (.ref f_GapText_move_gap) [.ref T, .int (i : Nat)] (Z pre ⟨⟨T, dT, CL, p ++ (q ++ s), (p.length : Nat), ((p.length + q.length : Nat) : Int)⟩, bb, uu, aa, vv, dd⟩ own) Φ := by
  refine N_GapText_move_gap Rr fun A' L R' => ?_
  conv => arg 5; whnf
  k_memK
  · intro h1
    have h1 : i < p.length := by simpa using h1
    refine tX_nameE (tE_slice (some i) (some p.length) (by k_subL) (.some (by k_subL) rfl) (.some (by k_subL) rfl) zl_g fun z => ⟨_, _, _, _, _, rfl, by k_updF, ?_⟩) (by kernel_rfl)
    have em : sliceL (p ++ (q ++ s)) (some i) (some p.length) = p.drop i := by simp only [sliceL, Option.getD_some, tk1]
    rw [em]
    have hlm : (p.drop i).length = p.length - i := List.length_drop
    refine tX_cells (i := i + q.length) (j := p.length + q.length) (ys := p.drop i) (by k_subL) (by k_subL) (by k_subL) (by k_subL) (by kernel_rfl) (.head _) (by rw [hlm]; lia) rfl (by lia) (by simp only [List.length_append]; lia) (by unfold Big; simp only [List.length_append, hlm] at *; lia) ?_
    k_memK
    k_memK
    k_memK
    rw [mv1 p q s i (Nat.le_of_lt h1)]
    have e1 : (p.take i).length = i := by rw [List.length_take]; lia
    have := h (p.take i) (((p ++ q).take (i + q.length)).drop i) (p.drop i ++ s) (by rw [← List.append_assoc, List.take_append_drop]) e1 (mv1q p q i (Nat.le_of_lt h1))
    rw [mv1q p q i (Nat.le_of_lt h1), e1] at this
    refine wX_nil (RetNs ?_ (.cons _ (.refl _)))
    have e2 : ((p.length + q.length : Nat) : Int) - ((p.drop i).length : Nat) = ((i + q.length : Nat) : Int) := by rw [hlm]; lia
    rw [e2]; exact this
  · intro h1
    have h1 : p.length ≤ i := by simpa using h1
    obtain ⟨k, rfl⟩ : ∃ k, i = p.length + k := ⟨i - p.length, by lia⟩
    have hk : k ≤ s.length := by lia
    refine tX_nameE (tE_slice (some (p.length + q.length)) (some (p.length + q.length + k)) (by k_subL) (.some (by k_subL) rfl) (.some (by k_subL) (by lia)) zl_g fun z => ⟨_, _, _, _, _, rfl, by k_updF, ?_⟩) (by kernel_rfl)
    have em : sliceL (p ++ (q ++ s)) (some (p.length + q.length)) (some (p.length + q.length + k)) = s.take k := by
      simp only [sliceL, Option.getD_some]
      rw [← List.append_assoc, List.take_append, List.drop_append, List.length_append]
      rw [List.take_of_length_le (by simp), List.drop_of_length_le (by simp), List.nil_append]
      simp
    rw [em]
    have hlm : (s.take k).length = k := by rw [List.length_take]; lia
    refine tX_cells (i := p.length) (j := p.length + k) (ys := s.take k) (by k_subL) (by k_subL) (by k_subL) (by k_subL) (by kernel_rfl) (.head _) rfl (by rw [hlm]; lia) (by lia) (by simp only [List.length_append]; lia) (by unfold Big; simp only [List.length_append, hlm] at *; lia) ?_
    k_memK
    k_memK
    k_memK
    rw [mv2 p q s k hk]
    have e1 : (p ++ s.take k).length = p.length + k := by rw [List.length_append, hlm]
    have := h (p ++ s.take k) (((q ++ s).drop k).take q.length) (s.drop k) (by rw [List.append_assoc, List.take_append_drop]) e1 (mv2q q s k hk)
    rw [mv2q q s k hk, e1] at this
    refine wX_nil (RetNs ?_ (.cons _ (.refl _)))
    have e2 : ((p.length + q.length : Nat) : Int) + ((s.take k).length : Nat) = ((p.length + k + q.length : Nat) : Int) := by rw [hlm]; lia
    rw [e2]; exact this
end
section
variable {g : Gx} {A : Around} {E : Value → Shared → Prop} {pre own : Led} {T dT CL B dB M dM MD LL R dR U dU RL Ao dA V dV EQ D D0 D1 : Addr} {xs rows big cells : List AV} {gs ge pt zv tk ct sv mn n : Int} {pb nt pn il : AV} {so : PySem.Str} {eq : List (Int × Int)} {gg : Gp} {bb : Bf} {uu : Option Un} {aa : Am} {vv : Ug} {dd : Dk}
theorem widen_gap_ {p q s : List AV} {k : Nat} {Φ : AV → Led → Prop} (Rr : Rm 1 A) (hb : (p ++ (q ++ s)).length ≤ 100000) (hk : k ≤ 1000)
    (h : ∀ q', k ≤ q'.length → q'.length ≤ max q.length (k + 8) → Φ .none (Z pre ⟨⟨T, dT, CL, p ++ (q' ++ s), (p.length : Nat), ((p.length + q'.length : Nat) : Int)⟩, bb, uu, aa, vv, dd⟩ own)) :
    wpC g A E (.ref f_GapText_widen_gap) [.ref T, .int (k : Nat)] (Z pre ⟨⟨T, dT, CL, p ++ (q ++ s), (p.length : Nat), ((p.length + q.length : Nat) : Int)⟩, bb, uu, aa, vv, dd⟩ own) Φ := by
  refine N_GapText_widen_gap Rr fun A' L R' => ?_
  conv => arg 5; whnf
  k_memK
  k_memK
  · intro h1
    have h1 : q.length < k := by have := of_decide_eq_true h1; lia
    refine tX_cellsM (n := (k : Int) - (((p.length + q.length : Nat) : Int) - (p.length : Nat)) + 8) (i := p.length + q.length) (j := p.length + q.length) (by k_subL) (fun own' => by k_subL) (fun own' => by k_subL) (fun own' => by k_subL) (fun own' => by k_subL) (by kernel_rfl) (by lia) rfl rfl (Nat.le_refl _) (by simp only [List.length_append]; lia) ?_ fun y z => ?_
    · simp only [List.length_append] at *
      unfold Big; lia
    k_memK
    k_memK
    refine wX_nil (RetNs ?_ (.cons _ (.cons _ (.refl _))))
    have e1 : (p ++ (q ++ s)).take (p.length + q.length) = p ++ q := by rw [← List.append_assoc]; exact List.take_left' (by simp)
    have e2 : (p ++ (q ++ s)).drop (p.length + q.length) = s := by rw [← List.append_assoc]; exact List.drop_left' (by simp)
    generalize hr : List.replicate ((k : Int) - (((p.length + q.length : Nat) : Int) - (p.length : Nat)) + 8).toNat (AV.int 0) = r
    have hrl : r.length = k - q.length + 8 := by rw [← hr, List.length_replicate]; lia
    have := h (q ++ r) (by rw [List.length_append]; lia) (by rw [List.length_append]; lia)
    rw [e1, e2]
    have e3 : p ++ q ++ r ++ s = p ++ (q ++ r ++ s) := by simp only [List.append_assoc]
    have e4 : ((p.length + q.length : Nat) : Int) + ((k : Int) - (((p.length + q.length : Nat) : Int) - (p.length : Nat))) + 8 = ((p.length + (q ++ r).length : Nat) : Int) := by rw [List.length_append]; lia
    rw [e3, e4]; exact this
  · intro h1
    have h1 : k ≤ q.length := by have := of_decide_eq_false h1; lia
    k_memK
    refine wX_nil (RetN (h q h1 (by lia)))
end
section
variable {g : Gx} {A : Around} {E : Value → Shared → Prop} {pre own : Led} {T dT CL B dB M dM MD LL R dR U dU RL Ao dA V dV EQ D D0 D1 : Addr} {xs rows big cells : List AV} {gs ge pt zv tk ct sv mn n : Int} {pb nt pn il : AV} {so : PySem.Str} {eq : List (Int × Int)} {gg : Gp} {bb : Bf} {uu : Option Un} {aa : Am} {vv : Ug} {dd : Dk}
theorem insert_ {p q s cs : List AV} {c : Addr} {i : Nat} {Φ : AV → Led → Prop} (Rr : Rm 2 A) (hb : (p ++ (q ++ s)).length ≤ 50000) (hc : (c, Cell.list cs) ∈ own) (hcl : cs.length ≤ 1000) (hi : i ≤ p.length + s.length)
    (h : ∀ p' q' s', p' ++ s' = (p ++ s).take i ++ (cs ++ (p ++ s).drop i) → (p' ++ (q' ++ s')).length ≤ max (p ++ (q ++ s)).length (p.length + s.length + cs.length + 8) → Φ .none (Z pre ⟨⟨T, dT, CL, p' ++ (q' ++ s'), (p'.length : Nat), ((p'.length + q'.length : Nat) : Int)⟩, bb, uu, aa, vv, dd⟩ own)) :
    wpC g A E (.ref f_GapText_insert) [.ref T, .int (i : Nat), .ref c] (Z pre ⟨⟨T, dT, CL, p ++ (q ++ s), (p.length : Nat), ((p.length + q.length : Nat) : Int)⟩, bb, uu, aa, vv, dd⟩ own) Φ := by
  refine N_GapText_insert Rr fun A' L R' => ?_
  conv => arg 5; whnf
  k_memK
  k_memK
  refine widen_gap_ R' (by lia) hcl fun q1 h1 h2 => ?_
  k_memK
  k_memK
  refine move_gap_ R' (by simp only [List.length_append] at *; lia) hi fun p2 q2 s2 e1 e2 e3 => ?_
  subst e2
  have hp2 : p2 = (p ++ s).take p2.length := by rw [← e1]; exact (tk1 p2 s2).symm
  have hs2 : s2 = (p ++ s).drop p2.length := by rw [← e1]; exact (dr1 p2 s2).symm
  have hl := congrArg List.length e1
  refine tX_cells (i := p2.length) (j := p2.length + cs.length) (ys := cs) (by k_subL) (by k_subL) (by k_subL) (by k_subL) (by kernel_rfl) hc rfl (by lia) (by lia) (by simp only [List.length_append]; lia) (by unfold Big; simp only [List.length_append] at *; lia) ?_
  k_memK
  refine wX_nil (RetN ?_)
  have ec : cs.length ≤ q2.length := by lia
  have e4 : (p2 ++ (q2 ++ s2)).take p2.length ++ cs ++ (p2 ++ (q2 ++ s2)).drop (p2.length + cs.length) = (p2 ++ cs) ++ (q2.drop cs.length ++ s2) := by
    rw [tk1, List.drop_append, List.drop_of_length_le (by lia), List.nil_append, show p2.length + cs.length - p2.length = cs.length by lia, List.drop_append_of_le_length ec]
  rw [e4]
  have := h (p2 ++ cs) (q2.drop cs.length) s2 (by rw [List.append_assoc, ← hp2, ← hs2]) (by simp only [List.length_append, List.length_drop] at *; lia)
  have e5 : (((p2 ++ cs).length : Nat) : Int) = (p2.length : Nat) + (cs.length : Nat) := by rw [List.length_append]; lia
  have e6 : (((p2 ++ cs).length + (q2.drop cs.length).length : Nat) : Int) = ((p2.length + q2.length : Nat) : Int) := by rw [List.length_append, List.length_drop]; lia
  rw [e5, e6] at this
  exact this
theorem delete_ {p q s : List AV} {i j : Nat} {Φ : AV → Led → Prop} (Rr : Rm 2 A) (hb : (p ++ (q ++ s)).length ≤ 50000) (hij : i ≤ j) (hj : j ≤ p.length + s.length)
    (h : ∀ z p' q' s', p' ++ s' = (p ++ s).take i ++ (p ++ s).drop j → (p' ++ (q' ++ s')).length = (p ++ (q ++ s)).length → Φ (.ref z) (Z pre ⟨⟨T, dT, CL, p' ++ (q' ++ s'), (p'.length : Nat), ((p'.length + q'.length : Nat) : Int)⟩, bb, uu, aa, vv, dd⟩ ((z, .list (((p ++ s).take j).drop i)) :: own))) :
    wpC g A E (.ref f_GapText_delete) [.ref T, .int (i : Nat), .int (j : Nat)] (Z pre ⟨⟨T, dT, CL, p ++ (q ++ s), (p.length : Nat), ((p.length + q.length : Nat) : Int)⟩, bb, uu, aa, vv, dd⟩ own) Φ := by
  refine N_GapText_delete Rr fun A' L R' => ?_
  conv => arg 5; whnf
  refine tX_nameE ?_ (by kernel_rfl)
  k_memK
  refine codes_ R' (by lia) hij hj fun z => ?_
  refine ⟨_, _, _, _, _, rfl, by k_updF, ?_⟩
  have hlen : (p ++ (q ++ s)).length = p.length + q.length + s.length := by simp only [List.length_append]; lia
  refine tX_ifJ (fun l => ∃ p2 q2 s2 : List AV, p2 ++ s2 = p ++ s ∧ q2.length = q.length ∧ p2.length ≤ j ∧ l = Z ((L, .frame (sScope (mAt 6 7)) [(S "self", some (.ref T)), (S "start", some (.int (i : Nat))), (S "end", some (.int (j : Nat))), (S "gone", some (.ref z))]) :: pre) ⟨⟨T, dT, CL, p2 ++ (q2 ++ s2), (p2.length : Nat), ((p2.length + q2.length : Nat) : Int)⟩, bb, uu, aa, vv, dd⟩ ((z, .list (((p ++ s).take j).drop i)) :: own)) (by k_subL) (fun h1 => ?_) (fun h1 => ?_) ?_
  · have h1 : j < p.length := by simpa using h1
    k_memK
    k_memK
    refine move_gap_ R' (by lia) (by lia) fun p2 q2 s2 e1 e2 e3 => ?_
    exact wX_nil ⟨rfl, p2, q2, s2, e1, e3, by lia, rfl⟩
  · have h1 : p.length ≤ j := by simpa using h1
    exact wX_nil ⟨rfl, p, q, s, rfl, rfl, h1, rfl⟩
  rintro l ⟨p1, q1, s1, e1, e2, e3, rfl⟩
  have hl1 := congrArg List.length e1
  simp only [List.length_append] at hl1
  refine tX_ifJ (fun l => ∃ p2 q2 s2 : List AV, p2 ++ s2 = p ++ s ∧ q2.length = q.length ∧ p2.length ≤ j ∧ i ≤ p2.length ∧ l = Z ((L, .frame (sScope (mAt 6 7)) [(S "self", some (.ref T)), (S "start", some (.int (i : Nat))), (S "end", some (.int (j : Nat))), (S "gone", some (.ref z))]) :: pre) ⟨⟨T, dT, CL, p2 ++ (q2 ++ s2), (p2.length : Nat), ((p2.length + q2.length : Nat) : Int)⟩, bb, uu, aa, vv, dd⟩ ((z, .list (((p ++ s).take j).drop i)) :: own)) (by k_subL) (fun h1 => ?_) (fun h1 => ?_) ?_
  · have h1 : p1.length < i := by simpa using h1
    k_memK
    k_memK
    refine move_gap_ R' (by simp only [List.length_append] at *; lia) (by lia) fun p2 q2 s2 e4 e5 e6 => ?_
    exact wX_nil ⟨rfl, p2, q2, s2, e4.trans e1, e6.trans e2, by lia, by lia, rfl⟩
  · have h1 : i ≤ p1.length := by simpa using h1
    exact wX_nil ⟨rfl, p1, q1, s1, e1, e2, e3, h1, rfl⟩
  rintro l ⟨p2, q2, s2, e4, e5, e6, e7, rfl⟩
  have hl2 := congrArg List.length e4
  simp only [List.length_append] at hl2
  k_memK
  k_memK
  refine wX_ret (PE.use (by k_subL) (RetZ ?_))
  have hp2 : p2.take i = (p ++ s).take i := by rw [← e4]; exact (List.take_append_of_le_length e7).symm
  have hs2 : s2.drop (j - p2.length) = (p ++ s).drop j := by rw [← e4, List.drop_append, List.drop_of_length_le e6, List.nil_append]
  have e8 : p2 ++ (q2 ++ s2) = p2.take i ++ ((p2.drop i ++ (q2 ++ s2.take (j - p2.length))) ++ s2.drop (j - p2.length)) := by
    simp only [List.append_assoc, List.take_append_drop]
    rw [← List.append_assoc (p2.take i), List.take_append_drop]
  have h9 := h z (p2.take i) (p2.drop i ++ (q2 ++ s2.take (j - p2.length))) (s2.drop (j - p2.length)) (by rw [hp2, hs2]) (by rw [← e8]; simp only [List.length_append]; lia)
  have e10 : (p2.take i).length = i := by rw [List.length_take]; lia
  have e11 : ((i + (p2.drop i ++ (q2 ++ s2.take (j - p2.length))).length : Nat) : Int) = ((p2.length + q2.length : Nat) : Int) + (j : Nat) - (p2.length : Nat) := by
    simp only [List.length_append, List.length_drop, List.length_take]; lia
  rw [← e8, e10, e11] at h9
  exact h9
end
section
variable {g : Gx} {A : Around} {E : Value → Shared → Prop} {pre own : Led} {T dT CL B dB M dM MD LL R dR U dU RL Ao dA V dV EQ D D0 D1 : Addr} {xs rows big cells : List AV} {gs ge pt zv tk ct sv mn n : Int} {pb nt pn il : AV} {so : PySem.Str} {eq : List (Int × Int)} {gg : Gp} {bb : Bf} {uu : Option Un} {aa : Am} {vv : Ug} {dd : Dk}
theorem pc_size {p q s : List AV} (Rr : Rm 1 A) : PC g A f_GapText_size [.ref T] (Z pre ⟨⟨T, dT, CL, p ++ (q ++ s), (p.length : Nat), ((p.length + q.length : Nat) : Int)⟩, bb, uu, aa, vv, dd⟩ own) (.int ((p ++ s).length : Nat)) := fun E Φ h => by
  refine size_ Rr ?_
  have e : (((p ++ (q ++ s)).length : Nat) : Int) - ((p.length + q.length : Nat) : Int) + (p.length : Nat) = ((p ++ s).length : Nat) := by simp only [List.length_append]; lia
  rw [e]; exact h
theorem pc_bsize {p q s : List AV} (Rr : Rm 2 A) : PC g A f_Buffer_size [.ref B] (Z pre ⟨⟨T, dT, CL, p ++ (q ++ s), (p.length : Nat), ((p.length + q.length : Nat) : Int)⟩, ⟨B, dB, M, dM, MD, LL, pt, zv, tk, ct, sv⟩, uu, aa, vv, dd⟩ own) (.int ((p ++ s).length : Nat)) := fun E Φ h => by
  refine N_Buffer_size Rr fun A' L R' => ?_
  conv => arg 5; whnf
  refine wX_ret ?_
  k_memK
  exact pc_size R' _ _ (RetZ h)
theorem bcodes_ {p q s : List AV} {i j : Nat} {Φ : AV → Led → Prop} (Rr : Rm 2 A) (hb : (p ++ (q ++ s)).length ≤ 100000) (h1 : 1 ≤ i) (hij : i ≤ j) (hj : j ≤ p.length + s.length + 1)
    (h : ∀ z, Φ (.ref z) (Z pre ⟨⟨T, dT, CL, p ++ (q ++ s), (p.length : Nat), ((p.length + q.length : Nat) : Int)⟩, ⟨B, dB, M, dM, MD, LL, pt, zv, tk, ct, sv⟩, uu, aa, vv, dd⟩ ((z, .list (((p ++ s).take (j - 1)).drop (i - 1))) :: own))) :
    wpC g A E (.ref f_Buffer_codes) [.ref B, .int (i : Nat), .int (j : Nat)] (Z pre ⟨⟨T, dT, CL, p ++ (q ++ s), (p.length : Nat), ((p.length + q.length : Nat) : Int)⟩, ⟨B, dB, M, dM, MD, LL, pt, zv, tk, ct, sv⟩, uu, aa, vv, dd⟩ own) Φ := by
  refine N_Buffer_codes Rr fun A' L R' => ?_
  conv => arg 5; whnf
  refine wX_ret ?_
  k_memK
  have e1 : ((i : Nat) : Int) - 1 = ((i - 1 : Nat) : Int) := by lia
  have e2 : ((j : Nat) : Int) - 1 = ((j - 1 : Nat) : Int) := by lia
  rw [e1, e2]
  exact codes_ R' hb (by lia) (by lia) fun z => RetZ (h z)
theorem pc_is_modified (Rr : Rm 1 A) : PC g A f_Buffer_is_modified [.ref B] (Z pre ⟨gg, ⟨B, dB, M, dM, MD, LL, pt, zv, tk, ct, sv⟩, uu, aa, vv, dd⟩ own) (.bool (decide (sv < tk))) := fun E Φ h => by
  refine N_Buffer_is_modified Rr fun A' L R' => ?_
  conv => arg 5; whnf
  exact wX_ret (PE.use (by k_subL) (RetZ h))
theorem touch_ {Φ : AV → Led → Prop} (Rr : Rm 1 A) (h : Φ .none (Z pre ⟨gg, ⟨B, dB, M, dM, MD, LL, pt, zv, tk + 1, tk + 1, sv⟩, uu, aa, vv, dd⟩ own)) :
    wpC g A E (.ref f_Buffer_touch) [.ref B, .bool true] (Z pre ⟨gg, ⟨B, dB, M, dM, MD, LL, pt, zv, tk, ct, sv⟩, uu, aa, vv, dd⟩ own) Φ := by
  refine N_Buffer_touch Rr fun A' L R' => ?_
  conv => arg 5; whnf
  k_memK
  refine wX_ifP (c := true) (PT_name (PE_name Z_fr (by k_places)) .bool) (fun _ => ?_) (fun h => nomatch h)
  k_memK
  k_memK
  exact wX_nil (RetN h)
end
section
variable {g : Gx} {A : Around} {E : Value → Shared → Prop} {pre own : Led} {T dT CL B dB M dM MD LL R dR U dU RL Ao dA V dV EQ D D0 D1 : Addr} {xs rows big cells : List AV} {gs ge pt zv tk ct sv mn n : Int} {pb nt pn il : AV} {so : PySem.Str} {eq : List (Int × Int)} {gg : Gp} {bb : Bf} {uu : Option Un} {aa : Am} {vv : Ug} {dd : Dk}
theorem goto_ {i : Int} {Φ : AV → Led → Prop} (Rr : Rm 1 A) (h : Φ (.int (min (max i 1) zv)) (Z pre ⟨gg, ⟨B, dB, M, dM, MD, LL, min (max i 1) zv, zv, tk, ct, sv⟩, uu, aa, vv, dd⟩ own)) :
    wpC g A E (.ref f_Buffer_goto) [.ref B, .int i] (Z pre ⟨gg, ⟨B, dB, M, dM, MD, LL, pt, zv, tk, ct, sv⟩, uu, aa, vv, dd⟩ own) Φ := by
  refine N_Buffer_goto Rr fun A' L R' => ?_
  conv => arg 5; whnf
  k_memK
  exact wX_ret (PE.use (by k_subL) (RetZ h))
theorem set_modified_ {Φ : AV → Led → Prop} (Rr : Rm 1 A) (h : Φ .none (Z pre ⟨gg, ⟨B, dB, M, dM, MD, LL, pt, zv, tk, ct, tk⟩, uu, aa, vv, dd⟩ own)) :
    wpC g A E (.ref f_Buffer_set_modified) [.ref B, .bool false] (Z pre ⟨gg, ⟨B, dB, M, dM, MD, LL, pt, zv, tk, ct, sv⟩, uu, aa, vv, dd⟩ own) Φ := by
  refine N_Buffer_set_modified Rr fun A' L R' => ?_
  conv => arg 5; whnf
  k_memK
  · intro _
    k_memK
    k_memK
    exact wX_nil (RetN h)
  · intro h; cases h
theorem need_writable_ (Rr : Rm 1 A) : PC g A f_need_writable [.ref B] (Z pre ⟨gg, ⟨B, dB, M, dM, MD, LL, pt, zv, tk, ct, sv⟩, uu, aa, vv, dd⟩ own) .none := fun E Φ h => by
  refine N_need_writable Rr fun A' L R' => ?_
  conv => arg 5; whnf
  k_memK
  · intro h; cases h
  · intro _
    k_memK
    exact wX_nil (RetN h)
theorem need_visible_ {i j : Int} (Rr : Rm 1 A) (h1 : 1 ≤ i) (h2 : j ≤ zv) : PC g A f_need_visible [.ref B, .int i, .int j] (Z pre ⟨gg, ⟨B, dB, M, dM, MD, LL, pt, zv, tk, ct, sv⟩, uu, aa, vv, dd⟩ own) .none := fun E Φ h => by
  refine N_need_visible Rr fun A' L R' => ?_
  conv => arg 5; whnf
  k_memK
  · intro hc
    simp only [Bool.or_false, Bool.or_eq_true, decide_eq_true_eq] at hc
    lia
  · intro _
    k_memK
    exact wX_nil (RetN h)
theorem begin_command_ {v : Int} {Φ : AV → Led → Prop} (Rr : Rm 1 A) (h : Φ .none (Z pre ⟨gg, bb, some ⟨R, dR, U, dU, RL, rows, .int v, nt⟩, aa, vv, dd⟩ own)) :
    wpC g A E (.ref f_UndoList_begin_command) [.ref U, .int v] (Z pre ⟨gg, bb, some ⟨R, dR, U, dU, RL, rows, pb, nt⟩, aa, vv, dd⟩ own) Φ := by
  refine N_UndoList_begin_command Rr fun A' L R' => ?_
  conv => arg 5; whnf
  k_memK
  exact wX_nil (RetN h)
end
section
variable {g : Gx} {A : Around} {E : Value → Shared → Prop} {pre own : Led} {T dT CL B dB M dM MD LL R dR U dU RL Ao dA V dV EQ D D0 D1 : Addr} {xs rows big cells : List AV} {gs ge pt zv tk ct sv mn n : Int} {pb nt pn il : AV} {so : PySem.Str} {eq : List (Int × Int)} {gg : Gp} {bb : Bf} {uu : Option Un} {aa : Am} {vv : Ug} {dd : Dk}
local macro_rules | `(tactic| k_ownIn) => `(tactic| first
  | ((with_reducible apply pc_bsize); exact Rm.less (by assumption) (by decide))
  | ((with_reducible apply pc_is_modified); exact Rm.less (by assumption) (by decide))
  | ((with_reducible apply pc_size); exact Rm.less (by assumption) (by decide))
  | ((with_reducible apply need_writable_); exact Rm.less (by assumption) (by decide)))
theorem need_room_ {p q s : List AV} {k : Nat} (Rr : Rm 3 A) (hb : (p ++ s).length + k ≤ 100000) : PC g A f_need_room [.ref B, .int (k : Nat)] (Z pre ⟨⟨T, dT, CL, p ++ (q ++ s), (p.length : Nat), ((p.length + q.length : Nat) : Int)⟩, ⟨B, dB, M, dM, MD, LL, pt, zv, tk, ct, sv⟩, uu, aa, vv, dd⟩ own) .none := fun E Φ h => by
  refine N_need_room Rr fun A' L R' => ?_
  conv => arg 5; whnf
  k_memK
  · intro hc
    have := of_decide_eq_true hc
    omega
  · intro _
    k_memK
    exact wX_nil (RetN h)
end
section
variable {g : Gx} {A : Around} {E : Value → Shared → Prop} {pre own : Led} {T dT CL B dB M dM MD LL R dR U dU RL Ao dA V dV EQ D D0 D1 : Addr} {xs rows big cells : List AV} {gs ge pt zv tk ct sv mn n : Int} {pb nt pn il : AV} {so : PySem.Str} {eq : List (Int × Int)} {gg : Gp} {bb : Bf} {uu : Option Un} {aa : Am} {vv : Ug} {dd : Dk}
end
section
variable {g : Gx} {A : Around} {E : Value → Shared → Prop} {led led' : Led} {qual : PySem.Str} {sc : Scope} {L f : Addr} {cd : Value} {vs vs' : List (PySem.Str × Option AV)} {cl : List (PySem.Str × Addr)} {env : Env} {pre own : Led} {m : Mach}
theorem St.grown {s : Shared} {h' : Heap} {tk : Nat} {D : Addr} {o : Obj} {c : Cell} (S : St g s led) (hk : ∀ b o, s.heap.get? b = some o → h'.get? b = some o) (hD : s.heap.objs.size ≤ D) (ho : h'.get? D = some o) (hi : c.Is g.w o) : St g { s with heap := h', toks := tk } ((D, c) :: led) := by
  refine ⟨fun b o e => hk _ _ (S.keep b o e), ?_, fun p hp => ?_, ?_, fun p hp => ?_, S.os_, S.gens⟩
  · exact Nat.le_trans S.size (Nat.le_trans hD (Nat.le_of_lt (Heap.lt_size ho)))
  · rcases List.mem_cons.mp hp with rfl | hp
    · exact ⟨o, ho, hi⟩
    · obtain ⟨o, e, i⟩ := S.at_ p hp; exact ⟨o, hk _ _ e, i⟩
  · rw [List.map_cons, List.nodup_cons]
    refine ⟨fun hm => ?_, S.nodup⟩
    obtain ⟨p, hp, e⟩ := List.mem_map.mp hm
    have := S.lt p hp
    rw [e] at this; exact absurd hD (Nat.not_le.mpr this)
  · rcases List.mem_cons.mp hp with rfl | hp
    · exact Nat.le_trans S.size hD
    · exact S.fresh p hp
theorem collect_nil {s : Shared} {d : Addr} {knd : KeyKind pw g.w Int} {Q : List Value → Shared → Prop} (hh : A.handled = none) (lo : (d == sysModules) = false) (hd : s.heap.DictOf knd d [])
    (h : ∀ h' tk, (∀ b o, s.heap.get? b = some o → h'.get? b = some o) → s.heap.objs.size ≤ h'.objs.size → Q [] { s with heap := h', toks := tk }) : wpAny (model pw g.w) A (collect (.ref d)) Q E s := by
  obtain ⟨ep, hm⟩ := hd.dictAt
  have hdlt := hm.lt_size
  unfold collect
  refine wpAny_bind (wpAny_runValue (codeAny_mono (R := fun r s' => r = .ok (.ret (.ref s.heap.objs.size)) ∧ ∃ h' tk c', s' = { s with heap := h', toks := tk } ∧ (∀ b o, s.heap.get? b = some o → h'.get? b = some o) ∧
    h'.get? s.heap.objs.size = some { cls := .type "list", dict := none, data := .seq #[] c', slots := #[] }) (codeAny_builtin F.entry_proto_collect ?_) ?_))
  · rw [Around.under_plainId F.plain_proto_collect _]
    show wpAny _ A.in1 (newList [] >>= fun l => again (.builtin "list.__iadd__" ⟨[l, .ref d], []⟩)) _ _ s
    refine wpAny_bind (wpAny_newObj_type ?_)
    refine wpAny_pure ⟨plainId_quiet F.plain_list_iadd _, codeAny_builtin F.entry_list_iadd ?_⟩
    rw [Around.under_plainId F.plain_list_iadd _]
    show wpAny _ A.in1 (Builtin.List.listExtendWith (.ref s.heap.objs.size) (.ref d) (.ref s.heap.objs.size)) _ _ _
    refine kdl_extend (A := A) (s := { s with heap := s.heap.push { cls := .type "list", data := .seq ([] : List Value).toArray } }) (R := fun r s' => r = .ok (.ret (.ref s.heap.objs.size)) ∧ ∃ h' tk c', s' = { s with heap := h', toks := tk } ∧ (∀ b o, s.heap.get? b = some o → h'.get? b = some o) ∧
      h'.get? s.heap.objs.size = some { cls := .type "list", dict := none, data := .seq #[] c', slots := #[] }) (kdl_dict (kvs := []) lo) hh (hm.push _) s.heap.objs.size (Nat.ne_of_gt hdlt) (Nat.ne_of_gt hdlt) _ 0 (Heap.get?_push_size _ rfl) (fun h' tk acc' c' hk hS' hacc => ?_) (Nat.zero_le _)
    have e : acc' = #[] := Array.eq_empty_of_size_eq_zero hacc.1
    subst e
    exact ⟨rfl, h', tk, c', rfl, fun b o e => hk b o (Nat.ne_of_lt (Heap.lt_size e)) (Heap.get?_push_of_some _ e), hS'⟩
  · rintro r s' ⟨rfl, h', tk, c', rfl, hk, hS'⟩
    show wpAny _ A (load s.heap.objs.size >>= _) _ _ _
    refine wpAny_bind (wpAny_load hS' ?_)
    exact wpAny_pure (h h' tk hk (Nat.le_of_lt (Heap.lt_size hS')))
theorem wK_sorted0 {d : Addr} {Φ : AV → Led → Prop} (hh : A.handled = none) (hm : (d, Cell.imap []) ∈ led) (k : ∀ z, Φ (.ref z) ((z, .list []) :: led)) : wpK g A E (.builtin "sorted") [.ref d] led Φ := fun us ab s S => by
  obtain ⟨t, rfl⟩ := ab1 ab
  obtain ⟨kvs, hD, he, -, -, hlo⟩ := S.map hm
  cases he
  refine Calls.call_function_entry kind_sorted plain_sorted entry_sorted (args_sorted1 _) ?_
  unfold Builtin.«sorted»
  refine wpAny_bind (m := checkCount "sorted" 1 1 _) (wpAny_pure ?_)
  refine wpAny_bind (collect_nil hh hlo hD fun h' tk hk hsz => ?_)
  refine wpAny_bind (wpAny_newList ?_)
  have hoL : (h'.push (seqObj "list" #[] 0)).get? h'.objs.size = some (seqObj "list" #[] 0) := Heap.get?_push_size _ rfl
  show wpAny _ _ _ _ _ { s with heap := h'.push (seqObj "list" #[] 0), toks := tk }
  refine wpAny_bind (wpAny_holding (wpAny_call_entry slot_list_sort ⟨_, hoL, rfl⟩ entry_list_sort (list_sort_tree (vs := []) (ns := []) hoL .nil (by decide) fun out ns' a1 a2 a3 => ⟨_, rfl, ?_⟩) (args_list_sort _)))
  have e0 : ns' = [] := a2.eq_nil
  subst e0
  have e1 : out = #[] := by
    cases out with | mk l => cases a1; rfl
  subst e1
  obtain ⟨e2, ho2⟩ := sortedHeap_at (h := h'.push (seqObj "list" #[] 0)) (vs := []) (out := #[]) hoL
  refine wpAny_pure ⟨_, rfl, .ref h'.objs.size, _, ⟨0, rfl⟩, S.grown (tk := tk) (c := .list []) (fun b o e => ?_) hsz ho2 ⟨[], _, rfl, .nil, Nat.zero_le _⟩, k _⟩
  have e3 := Heap.lt_size (hk b o e)
  rw [sortedHeap_old (Nat.ne_of_lt e3) (by rw [Heap.size_push]; exact Nat.lt_succ_of_lt e3)]
  exact Heap.get?_push_of_some _ (hk b o e)
end
section
variable {g : Gx} {A : Around} {E : Value → Shared → Prop} {pre own : Led} {T dT CL B dB M dM MD LL R dR U dU RL Ao dA V dV EQ D D0 D1 : Addr} {xs rows big cells : List AV} {gs ge pt zv tk ct sv mn n : Int} {pb nt pn il : AV} {so : PySem.Str} {eq : List (Int × Int)} {gg : Gp} {bb : Bf} {uu : Option Un} {aa : Am} {vv : Ug} {dd : Dk}
end
section
variable {g : Gx} {A : Around} {E : Value → Shared → Prop} {led led' : Led} {qual : PySem.Str} {sc : Scope} {L f : Addr} {cd : Value} {vs vs' : List (PySem.Str × Option AV)} {cl : List (PySem.Str × Addr)} {env : Env} {pre own : Led} {m : Mach}
theorem wX_for0 {target : Expr} {pos : Pos} {iter : Expr} {body rest : List Stmt} {Φ : Out → Led → Prop} (hh : A.handled = none)
    (hs : ∀ y, foldedSetIterable iter env y = pure y)
    (h : wpE g A E env iter led fun r l1 => ∃ l, r = .ref l ∧ (l, Cell.list []) ∈ l1 ∧ wpX g A E env rest l1 Φ) :
    wpX g A E env (.For target iter body [] pos :: rest) led Φ := wX_next fun s S => by
  refine wpAny_For (h.run S fun v s1 r led1 av S1 z => ?_) hs
  obtain ⟨l, rfl, hl, k⟩ := z
  obtain ⟨t, rfl⟩ := av
  obtain ⟨us, n, ho, ab, hb, hlen, hL⟩ := S1.lst hl
  have S2 := S1.new (o := { cls := .type "list_iterator", data := .fields #[.ref l, .int 0 0] }) (c := listIt l 0) ⟨rfl, rfl⟩ rfl
  refine wpAny_pyIter_list hL ?_
  refine codeAny_forLoop_any (fun n s' => n = 0 ∧ St g s' ((s1.heap.objs.size, listIt l 0) :: led1)) ?_ 0 ⟨rfl, S2⟩
  intro n s' z
  obtain ⟨rfl, S'⟩ := z
  refine (listIt_ok (it := s1.heap.objs.size) (l := l) (xs := []) hh).2 _ led1 s' _ _ (List.mem_cons_of_mem _ hl) rfl S' (List.ne_nil_of_mem hl) fun s3 S3 => ?_
  exact wpAny_execs_nil ⟨rfl, led1, S3, k⟩
end
section
variable {g : Gx} {A : Around} {E : Value → Shared → Prop} {pre own : Led} {T dT CL B dB M dM MD LL R dR U dU RL Ao dA V dV EQ D D0 D1 : Addr} {xs rows big cells : List AV} {gs ge pt zv tk ct sv mn n : Int} {pb nt pn il : AV} {so : PySem.Str} {eq : List (Int × Int)} {gg : Gp} {bb : Bf} {uu : Option Un} {aa : Am} {vv : Ug} {dd : Dk}
end
section
variable {g : Gx} {A : Around} {E : Value → Shared → Prop} {led led' : Led} {qual : PySem.Str} {sc : Scope} {L f : Addr} {cd : Value} {vs vs' : List (PySem.Str × Option AV)} {cl : List (PySem.Str × Addr)} {env : Env} {pre own : Led} {m : Mach}
structure EnvIs (env : Env) (L : Addr) (sc : Scope) : Prop where
  loc : env.locals = L
  scp : env.scope = sc
theorem PE_nameG {x : PySem.Str} {pos : Pos} {a : AV} (hE : EnvIs env L sc) (hm : (L, Cell.frame sc vs) ∈ led) (hx : (x, some a) ∈ vs) : PE g A env led (.Name x pos) a := fun E Φ h s S => by
  obtain ⟨rfl, rfl⟩ := hE
  obtain ⟨m, hn, hf, -, hk, hl⟩ := S.ns hm
  obtain ⟨v, hv, ab⟩ := hf _ hx _ rfl
  exact wpAny_Name (wpAny_loadName_local hk (hl _ hx).1 hn hv ⟨a, led, ab, S, h⟩) (hl _ hx).2
theorem storeG {x : PySem.Str} {a : AV} {v : Value} {s : Shared} {Q : Unit → Shared → Prop} (hE : EnvIs env L sc) (S : St g s led) (U : LPut L (.frame sc vs) (.frame sc vs') led led') (V : VPut x a vs vs') (ab : Ab v a) (h : ∀ s', St g s' led' → Q () s') :
    wpAny (model pw g.w) A (storeName env x v) Q E s := by
  obtain ⟨rfl, rfl⟩ := hE
  obtain ⟨m, hn, hf, nd, hk, hl⟩ := S.ns U.mem
  obtain ⟨b, hb⟩ := V.mem
  refine wpAny_storeName_local (hl _ hb).1 hn (fun h' hn' hs => h _ ?_) (by rw [hk]; rfl)
  obtain ⟨o', es, ep, ho, hd, hsk, hfd⟩ := hn'
  refine S.upd (tk := s.toks + 1) U hs.1 (fun b o hb e => by rw [hs.2 b hb]; exact e) ho ⟨_, es, ep, hd, hsk, hfd, ?_, by rw [V.fst]; exact nd, hk, V.any (P := fun y => env.scope.names.lookup y = some .local ∧ (y == ("__debug__" : PySem.Str)) = false) hl⟩
  intro p hp a' e'
  rcases V.of nd p hp with rfl | ⟨hm, hne⟩
  · cases e'
    exact ⟨v, by simp, ab⟩
  · obtain ⟨u, hu, hb'⟩ := hf p hm a' e'
    exact ⟨u, by simp only [hne, if_false]; exact hu, hb'⟩
theorem inOrderG {ts : List (Value → Sem Unit)} {xs : List PySem.Str} (hE : EnvIs env L sc) (h : Setters env ts xs) : ∀ {us : List Value} {as : List AV} {vs vs' : List (PySem.Str × Option AV)} {s : Shared} {Q : Unit → Shared → Prop}, AbL us as → VPuts xs as vs vs' → St g s ((L, .frame sc vs) :: led) →
    (∀ s', St g s' ((L, .frame sc vs') :: led) → Q () s') → wpAny (model pw g.w) A (assignInOrder ts us) Q E s := by
  induction h with
  | nil => intro us as vs vs' s Q ab V S k; cases V; exact wpAny_pure (k s S)
  | cons h r ih =>
    intro us as vs vs' s Q ab V S k
    cases V with
    | cons hv V =>
      cases ab with
      | cons av ab => exact wpAny_bind (wpAny_holding (h _ _ _ _ _ _ (storeG hE S .head hv av fun s1 S1 => ih ab V S1 k)))
theorem codeAny_compLoop_any {elt target iter : Expr} {ifs : List Expr} {scope : Scope} {pos : Pos} {it acc : Value} {R : Result → Shared → Prop} (I : Nat → Shared → Prop)
    (turn : ∀ n s, I n s → wpAny (model pw g.w) A (pyNext it) (fun r s₁ => match r with
      | none => R (.ok .next) s₁
      | some v => wpAny (model pw g.w) A (letOwnedTupleGo target it v) (fun _ s₁' => wpAny (model pw g.w) A (assign target env v) (fun _ s₂ =>
          wpAny (model pw g.w) A (forIn ifs true fun c r => if r = true then do let ok ← isTrue c env (eval c env); pure (ForInStep.yield ok) else pure (ForInStep.yield r)) (fun ok s₃ =>
            if ok = true then wpAny (model pw g.w) A (eval elt env) (fun x s₄ =>
              wpAny (model pw g.w) A (call (.builtin "list.append") [acc, x]) (fun _ s₅ => ∃ m, m < n ∧ I m s₅) (fun _ _ => False) s₄) (fun _ _ => False) s₃
            else ∃ m, m < n ∧ I m s₃) (fun _ _ => False) s₂) (fun _ _ => False) s₁') (fun _ _ => False) s₁) (fun _ _ => False) s)
    (n : Nat) {s : Shared} (h : I n s) : codeAny (model pw g.w) A (.compLoop (.ListComp elt [⟨target, iter, ifs, 0⟩] scope pos) 0 it acc env) R s := by
  refine codeAny_loop rfl I (fun n s hI => ?_) n h
  show wpAny _ A ((compTurn (.ListComp elt [⟨target, iter, ifs, 0⟩] scope pos) 0 it acc env).onRaise (fun x => do noteFrame x env; theTreesLotGoes x)) _ _ s
  refine wpAny_noted ?_
  rw [compTurn_list]
  refine wpAny_bind (wpAny_standAt (wpAny_bind (wpAny_mono (turn n s hI) (fun r s₁ h₁ => ?_) fun _ _ h' => h'.elim)))
  cases r with
  | none => exact wpAny_pure h₁
  | some v =>
    refine wpAny_bind (wpAny_mono h₁ (fun _ s₁' h₁' => ?_) fun _ _ h' => h'.elim)
    refine wpAny_bind (wpAny_mono h₁' (fun _ s₂ h₂ => wpAny_bind (wpAny_mono h₂ (fun ok s₃ h₃ => ?_) fun _ _ h' => h'.elim)) fun _ _ h' => h'.elim)
    cases ok with
    | false => exact wpAny_pure ⟨rfl, h₃⟩
    | true => exact wpAny_bind (wpAny_bind (wpAny_mono h₃ (fun x s₄ h₄ => wpAny_bind (wpAny_mono h₄ (fun _ s₅ h₅ => wpAny_pure (wpAny_pure ⟨rfl, h₅⟩)) fun _ _ h' => h'.elim)) fun _ _ h' => h'.elim))
noncomputable def wpI (g : Gx) (A : Around) (env : Env) (ifs : List Expr) (led : Led) (Φ : Bool → Led → Prop) : Prop :=
  wpS g A (fun _ _ => False) Eq (forIn ifs true fun c r => if r = true then do let ok ← isTrue c env (eval c env); pure (ForInStep.yield ok) else pure (ForInStep.yield r)) led Φ
theorem wpI_nil {Φ : Bool → Led → Prop} (h : Φ true led) : wpI g A env [] led Φ := fun s S => wpAny_tests_nil ⟨true, led, rfl, S, h⟩
theorem wpI_one {c : Expr} {Φ : Bool → Led → Prop} (h : wpT g A (fun _ _ => False) env c led Φ) : wpI g A env [c] led Φ := fun s S => wpAny_tests_one (h s S)
noncomputable def Takes (g : Gx) (A : Around) (target : Expr) (it : Addr) (cenv : Env) (C : Addr) (csc : Scope) (a : AV) (vs : List (PySem.Str × Option AV)) (led : Led) : Prop :=
  ∀ vs0, vs0.map (·.1) = vs.map (·.1) → ∀ v s (Q : Shared → Prop), Ab v a → St g s ((C, .frame csc vs0) :: led) → (∀ s', St g s' ((C, .frame csc vs) :: led) → Q s') →
    wpAny (model pw g.w) A (letOwnedTupleGo target (.ref it) v) (fun _ s1 => wpAny (model pw g.w) A (assign target cenv v) (fun _ s' => Q s') (fun _ _ => False) s1) (fun _ _ => False) s
theorem takes_name {x : PySem.Str} {px : Pos} {it C : Addr} {cenv : Env} {csc : Scope} {a : AV} (hE : EnvIs cenv C csc) : Takes g A (.Name x px) it cenv C csc a [(x, some a)] led := fun vs0 e v s Q av S k => by
  refine wpAny_of_eq (a := ()) rfl (wpAny_assign_Name (storeG (vs := vs0) (vs' := [(x, some a)]) hE S .head ?_ av k))
  cases vs0 with
  | nil => cases e
  | cons q r =>
    obtain ⟨rfl, e2⟩ := List.cons.inj e
    cases List.map_eq_nil_iff.mp e2
    exact .head
structure CompOk (scope : Scope) (env : Env) (cl' : List (PySem.Str × Addr)) (ns : List PySem.Str) : Prop where
  clos : closureFor scope env = pure cl'
  kind : scope.kind = .function
  cell : ∀ y ∈ scope.names, y.2 ≠ .cell
  names : ∀ x ∈ scope.names, x.2 = .local → scope.names.lookup x.1 = some .local
  loc : ∀ x ∈ ns, scope.names.lookup x = some .local ∧ (x == ("__debug__" : PySem.Str)) = false
  nd : ns.Nodup
structure CompI (g : Gx) (A : Around) (target elt : Expr) (ifs : List Expr) (scope : Scope) (cl' : List (PySem.Str × Addr)) (env : Env) (ns : List PySem.Str) (l : Addr) (xs : List AV) (led : Led) (I : Nat → List AV → Led → Prop) : Prop where
  src : ∀ i ys l', I i ys l' → (l, Cell.list xs) ∈ l'
  init : I 0 [] led
  turn : ∀ C it D i a ys l', xs[i]? = some a → I i ys l' → ∃ vs, vs.map (·.1) = ns ∧ Takes g A target it (compEnvC scope cl' C env) C (relabel scope env) a vs ((it, listIt l (i + 1)) :: (D, .list ys) :: l') ∧
    wpI g A (compEnvC scope cl' C env) ifs ((C, .frame (relabel scope env) vs) :: (it, listIt l (i + 1)) :: (D, .list ys) :: l') fun b l2 =>
      if b = true then wpE g A (fun _ _ => False) (compEnvC scope cl' C env) elt l2 fun y l3 => ∃ vs2 l4, l3.Perm ((C, .frame (relabel scope env) vs2) :: (it, listIt l (i + 1)) :: (D, .list ys) :: l4) ∧ vs2.map (·.1) = ns ∧ I (i + 1) (ys ++ [y]) l4
      else ∃ vs2 l4, l2.Perm ((C, .frame (relabel scope env) vs2) :: (it, listIt l (i + 1)) :: (D, .list ys) :: l4) ∧ vs2.map (·.1) = ns ∧ I (i + 1) ys l4
theorem comp_core {elt target iter : Expr} {ifs : List Expr} {scope : Scope} {pos : Pos} {cl' : List (PySem.Str × Addr)} {ns : List PySem.Str} {l it : Addr} {xs : List AV} {I : Nat → List AV → Led → Prop} {s : Shared} {RR : Value → Addr → Result → Shared → Prop}
    (hh : A.handled = none) (O : CompOk scope env cl' ns) (H : CompI g A target elt ifs scope cl' env ns l xs led I) (hb : xs.length ≤ Big) (hyb : ∀ i ys l', I i ys l' → ys.length ≤ i) (S : St g s ((it, listIt l 0) :: led))
    (fin : ∀ C D vs ys l' s', St g s' ((C, .frame (relabel scope env) vs) :: (D, .list ys) :: l') → I xs.length ys l' → RR (.ref D) C (.ok .next) s') :
    wpAny (model pw g.w) A (newList []) (fun acc s₃ => wpAny (model pw g.w) A (newFunctionEnv scope env.globals cl' [] env.qual none .none (some env)) (fun cenv s₄ =>
      codeAny (model pw g.w) A (.compStart (.ListComp elt [⟨target, iter, ifs, 0⟩] scope pos) 0 (.ref it) acc { cenv with scope := relabel scope env }) (RR acc cenv.locals) s₄) E s₃) E s := by
  refine wpAny_newObj_type (wpAny_newFunctionEnv O.cell (by intro y hy; simp at hy) (fun h₁ hns₁ hsb₁ => ?_) O.kind)
  dsimp only at hns₁ hsb₁ ⊢
  have S1 := S.newL (us := []) (xs := []) .nil (Nat.zero_le _)
  generalize hH2 : s.heap.push { cls := .type "list", dict := none, data := .seq ([] : List Value).toArray } = H2 at hns₁ hsb₁ S1 ⊢
  generalize hD : s.heap.objs.size = D at S1 ⊢
  have old : ∀ b o, H2.get? b = some o → h₁.get? b = some o := fun b o e => hsb₁.extBut b o (Nat.ne_of_lt (Heap.lt_size e)) (Heap.get?_push_of_some _ e)
  obtain ⟨oC, esC, epC, hoC, hdC, hskC, hfC⟩ := id hns₁
  have hrl : ∀ x ∈ ns, (relabel scope env).names.lookup x = some .local := fun x hx => lookup_relabel_local (O.loc x hx).1
  have frI : ∀ vs : List (PySem.Str × Option AV), (∀ p ∈ vs, p.2 = none) → vs.map (·.1) = ns → (Cell.frame (relabel scope env) vs).Is g.w oC := by
    intro vs hv hn
    refine ⟨_, esC, epC, hdC, hskC, hfC, ?_, by rw [hn]; exact O.nd, O.kind, ?_⟩
    · intro p hp a e
      rw [hv p hp] at e; cases e
    · intro p hp
      have : p.1 ∈ ns := by rw [← hn]; exact List.mem_map_of_mem (f := (·.1)) hp
      exact ⟨hrl _ this, (O.loc _ this).2⟩
  have S2 : ∀ tk, St g { s with heap := h₁, toks := tk } ((H2.objs.size, .frame (relabel scope env) (ns.map fun x => (x, none))) :: (D, .list []) :: (it, listIt l 0) :: led) := fun tk =>
    S1.grown (tk := tk) old (Nat.le_refl _) hoC (frI _ (fun p hp => by obtain ⟨x, _, rfl⟩ := List.mem_map.mp hp; rfl) (by simp [Function.comp_def]))
  have loop : ∀ tk, codeAny (model pw g.w) A (.compLoop (.ListComp elt [⟨target, iter, ifs, 0⟩] scope pos) 0 (.ref it) (.ref D) (compEnvC scope cl' H2.objs.size env)) (RR (.ref D) H2.objs.size) { s with heap := h₁, toks := tk } := by
    intro tk
    refine codeAny_compLoop_any (fun n s' => ∃ i ys l' vs, n = xs.length - i ∧ i ≤ xs.length ∧ vs.map (·.1) = ns ∧ St g s' ((H2.objs.size, .frame (relabel scope env) vs) :: (it, listIt l i) :: (D, .list ys) :: l') ∧ I i ys l') ?_ xs.length
      ⟨0, [], led, ns.map fun x => (x, none), by lia, Nat.zero_le _, by simp [Function.comp_def], (S2 tk).perm ((List.Perm.swap ..).cons _), H.init⟩
    intro n s' z
    obtain ⟨i, ys, l', vs, rfl, hi, hvn, S', hI⟩ := z
    rcases Nat.lt_or_ge i xs.length with hlt | hge
    · refine (listIt_ok (it := it) (l := l) (xs := xs) hh).1 i xs[i] _ _ s' _ _ (List.getElem?_eq_getElem hlt) (List.mem_cons_of_mem _ (List.mem_cons_of_mem _ (List.mem_cons_of_mem _ (H.src _ _ _ hI)))) (.tail .head) S' fun v s1 av S1' => ?_
      obtain ⟨vs1, hn1, T, W⟩ := H.turn H2.objs.size it D i xs[i] ys l' (List.getElem?_eq_getElem hlt) hI
      refine T vs (by rw [hvn, hn1]) v s1 _ av S1' fun s2 S2' => ?_
      refine wpS.run W S2' fun b s3 b' l2 e S3 k => ?_
      subst e
      cases b with
      | false =>
        obtain ⟨vs2, l4, p, hn2, hI'⟩ := k
        exact ⟨xs.length - (i + 1), by lia, i + 1, ys, l4, vs2, rfl, hlt, hn2, S3.perm p, hI'⟩
      | true =>
        refine wpS.run k S3 fun y s4 ya l3 aby S4 z => ?_
        obtain ⟨vs2, l4, p, hn2, hI'⟩ := z
        have S5 := S4.perm p
        obtain ⟨us, n, ho, ab, hb', hl, hL⟩ := S5.lst (List.mem_cons_of_mem _ (List.mem_cons_of_mem _ List.mem_cons_self))
        refine PySem.wpAny_list_append_plain ⟨n, ho⟩ (fun h' z hs => ?_) (by rw [List.size_toArray, hl]; exact fitsBig hb')
        obtain ⟨n', e'⟩ := z
        refine ⟨xs.length - (i + 1), by lia, i + 1, ys ++ [ya], l4, vs2, rfl, hlt, hn2, ?_, hI'⟩
        obtain ⟨t, rfl⟩ := aby
        exact S5.upd (tk := s4.toks) (.tail (.tail .head)) hs.1 (fun b o hb e => by rw [hs.2 b hb]; exact e) e' ⟨us ++ [ya.val t], n', by simp, ab.append (.cons ⟨t, rfl⟩ .nil), by have := hyb _ _ _ hI'; lia⟩
    · have e : i = xs.length := by lia
      subst e
      refine (listIt_ok (it := it) (l := l) (xs := xs) hh).2 (it, listIt l xs.length) ((H2.objs.size, .frame (relabel scope env) vs) :: (D, .list ys) :: l') s' _ _ (List.mem_cons_of_mem _ (List.mem_cons_of_mem _ (List.mem_cons_of_mem _ (H.src _ _ _ hI)))) rfl (S'.perm (.swap ..)) (by simp) fun s3 S3 => ?_
      exact fin _ _ vs ys l' s3 S3 hI
  refine codeAny_compStart_list (loop _) ?_
  obtain ⟨o, e, hc, hd⟩ := (S2 s.toks).at_ (it, listIt l 0) (List.mem_cons_of_mem _ (List.mem_cons_of_mem _ List.mem_cons_self))
  exact wpAny_pyIter_listiter ⟨o, e, hc, hd⟩ (loop _)
theorem wE_comp {elt target iter : Expr} {ifs : List Expr} {scope : Scope} {pos : Pos} {cl' : List (PySem.Str × Addr)} {ns : List PySem.Str} {Φ : AV → Led → Prop} (hh : A.handled = none) (O : CompOk scope env cl' ns)
    (hs : ∀ x, foldedSetIterable iter env x = pure x)
    (h : wpE g A E env iter led fun r l1 => ∃ l xs I, r = .ref l ∧ CompI g A target elt ifs scope cl' env ns l xs l1 I ∧ (∀ i ys l', I i ys l' → ys.length ≤ i) ∧ ∀ D ys l', I xs.length ys l' → Φ (.ref D) ((D, .list ys) :: l')) :
    wpE g A E env (.ListComp elt [⟨target, iter, ifs, 0⟩] scope pos) led Φ := fun s S => by
  rw [eval_ListComp]
  refine wpAny_comprehension_free (use := none) rfl hs O.clos O.kind O.names (h.run S fun v s1 r l1 av S1 z => ?_)
  obtain ⟨l, xs, I, rfl, H, hyb, k⟩ := z
  obtain ⟨t, rfl⟩ := av
  obtain ⟨us, n, ho, ab, hb, hlen, hL⟩ := S1.lst (H.src _ _ _ H.init)
  have S2 := S1.new (o := { cls := .type "list_iterator", data := .fields #[.ref l, .int 0 0] }) (c := listIt l 0) ⟨rfl, rfl⟩ rfl
  refine wpAny_pyIter_list hL (comp_core hh O H hb hyb S2 fun C D vs ys l' s' S' hI => ?_)
  obtain ⟨m, hn, -⟩ := S'.ns List.mem_cons_self
  refine ⟨m, hn, fun h' hs' => ?_⟩
  exact ⟨.ref D, _, ⟨0, rfl⟩, S'.drop1 (tk := s'.toks) (by simp) fun b o hb e => by rw [hs'.2 b hb]; exact e, k D ys l' hI⟩
theorem wX_comp {y : PySem.Str} {py spos : Pos} {elt target iter : Expr} {ifs : List Expr} {scope : Scope} {pos : Pos} {cl' : List (PySem.Str × Addr)} {ns : List PySem.Str} {rest : List Stmt} {Φ : Out → Led → Prop} (hh : A.handled = none) (O : CompOk scope (envX qual sc L f cd cl) cl' ns)
    (hs : ∀ x, foldedSetIterable iter (envX qual sc L f cd cl) x = pure x)
    (hsw : swapsWith (.ListComp elt [⟨target, iter, ifs, 0⟩] scope pos) (some (.Name y py)) spos.line (envX qual sc L f cd cl) = pure true)
    (h : wpE g A E (envX qual sc L f cd cl) iter led fun r l1 => ∃ l xs I, r = .ref l ∧ CompI g A target elt ifs scope cl' (envX qual sc L f cd cl) ns l xs l1 I ∧ (∀ i ys l', I i ys l' → ys.length ≤ i) ∧ ∀ D ys l', I xs.length ys l' → ∃ vs vs' l2, LPut L (.frame sc vs) (.frame sc vs') l' l2 ∧ VPut y (.ref D) vs vs' ∧ wpX g A E (envX qual sc L f cd cl) rest ((D, .list ys) :: l2) Φ) :
    wpX g A E (envX qual sc L f cd cl) (.Assign [.Name y py] (.ListComp elt [⟨target, iter, ifs, 0⟩] scope pos) spos :: rest) led Φ := wX_next fun s S => by
  rw [exec_Assign_Name_used _ _ _ _ hsw]
  refine wpAny_bind (wpAny_standAt (wpAny_bind ?_))
  show wpAny _ A (do let _ ← comprehension (.ListComp elt [⟨target, iter, ifs, 0⟩] scope pos) scope (envX qual sc L f cd cl) _ (newList []) false (eval iter (envX qual sc L f cd cl)) (some (assign (.Name y py) (envX qual sc L f cd cl)))) _ _ s
  refine wpAny_bind (wpAny_mono (wpAny_comprehension_free (use := some (assign (.Name y py) (envX qual sc L f cd cl))) (Q := fun _ s' => ∃ l, St g s' l ∧ wpX g A E (envX qual sc L f cd cl) rest l Φ) rfl hs O.clos O.kind O.names
    (h.run S fun v s1 r l1 av S1 z => ?_)) (fun _ s' hq => wpAny_pure (wpAny_pure ⟨rfl, hq⟩)) fun _ _ e => e)
  obtain ⟨l, xs, I, rfl, H, hyb, k⟩ := z
  obtain ⟨t, rfl⟩ := av
  obtain ⟨us, n, ho, ab, hb, hlen, hL⟩ := S1.lst (H.src _ _ _ H.init)
  have S2 := S1.new (o := { cls := .type "list_iterator", data := .fields #[.ref l, .int 0 0] }) (c := listIt l 0) ⟨rfl, rfl⟩ rfl
  refine wpAny_pyIter_list hL (comp_core hh O H hb hyb S2 fun C D vs ys l' s' S' hI => ?_)
  obtain ⟨vs1, vs2, l2, U, V, k2⟩ := k D ys l' hI
  show wpAny _ A (assign (.Name y py) (envX qual sc L f cd cl) (.ref D)) _ _ _
  refine wpAny_assign_Name (store_ S' (U.tail.tail) V ⟨0, rfl⟩ fun s3 S3 => ?_)
  obtain ⟨m, hn, -⟩ := S3.ns List.mem_cons_self
  refine ⟨m, hn, fun h' hs' => ⟨_, S3.drop1 (tk := s3.toks) (by simp) fun b o hb e => by rw [hs'.2 b hb]; exact e, k2⟩⟩
end
section
variable {g : Gx} {A : Around} {E : Value → Shared → Prop} {pre own : Led} {T dT CL B dB M dM MD LL R dR U dU RL Ao dA V dV EQ D D0 D1 : Addr} {xs rows big cells : List AV} {gs ge pt zv tk ct sv mn n : Int} {pb nt pn il : AV} {so : PySem.Str} {eq : List (Int × Int)} {gg : Gp} {bb : Bf} {uu : Option Un} {aa : Am} {vv : Ug} {dd : Dk}
end
section
variable {g : Gx} {A : Around} {E : Value → Shared → Prop} {led led' : Led} {qual : PySem.Str} {sc : Scope} {L f : Addr} {cd : Value} {vs vs' : List (PySem.Str × Option AV)} {cl : List (PySem.Str × Addr)} {env : Env} {pre own : Led} {m : Mach}
noncomputable def CellHas (a : Option AV) (o : Option Value) : Prop := match a, o with
  | none, o => o = none
  | some a, o => ∃ v, o = some v ∧ Ab v a
noncomputable def cellC (a : Option AV) : Cell := .prop fun o => ∃ v, o.data = .cell v ∧ CellHas a v
theorem PE_cell {x : PySem.Str} {pos : Pos} {c : Addr} {a : AV} (hk : env.scope.kind = .function) (hx : (env.kindOf x = some .cell ∨ env.kindOf x = some .free) ∧ (x == ("__debug__" : PySem.Str)) = false ∧ (x == ("__classdict__" : PySem.Str)) = false)
    (hc : env.cells.lookup x = some c) (hm : (c, cellC (some a)) ∈ led) : PE g A env led (.Name x pos) a := fun E Φ h s S => by
  obtain ⟨o, ho, w, hd, v, rfl, ab⟩ := S.at_ _ hm
  rcases hx.1 with h1 | h1
  · exact wpAny_Name (wpAny_loadName_cell hk h1 hc ⟨o, ho, hd⟩ ⟨a, led, ab, S, h⟩) hx.2.1
  · exact wpAny_Name (wpAny_loadName_free hk h1 hc ⟨o, ho, hd⟩ ⟨a, led, ab, S, h⟩ hx.2.2) hx.2.1
theorem store_cell {x : PySem.Str} {c : Addr} {a : AV} {b : Option AV} {v : Value} {s : Shared} {Q : Unit → Shared → Prop} (hk : env.scope.kind = .function) (hx : env.kindOf x = some .cell) (hc : env.cells.lookup x = some c)
    (S : St g s led) (U : LPut c (cellC b) (cellC (some a)) led led') (ab : Ab v a) (h : ∀ s', St g s' led' → Q () s') : wpAny (model pw g.w) A (storeName env x v) Q E s := by
  obtain ⟨o, ho, w, hd, hw⟩ := S.at_ _ U.mem
  refine wpAny_storeName_cell hk hx hc ⟨o, ho, hd⟩ fun h' z hs => h _ ?_
  obtain ⟨o', ho', hd'⟩ := z
  exact S.upd (tk := s.toks) U hs.1 (fun b o hb e => by rw [hs.2 b hb]; exact e) ho' ⟨_, hd', v, rfl, ab⟩
theorem wX_cell {x : PySem.Str} {p pos : Pos} {e : Expr} {c : Addr} {rest : List Stmt} {Φ : Out → Led → Prop} (hk : env.scope.kind = .function) (hx : env.kindOf x = some .cell) (hc : env.cells.lookup x = some c)
    (hs : swapsWith e (some (.Name x p)) pos.line env = pure false)
    (h : wpE g A E env e led fun a l => ∃ b l', LPut c (cellC b) (cellC (some a)) l l' ∧ wpX g A E env rest l' Φ) : wpX g A E env (.Assign [.Name x p] e pos :: rest) led Φ :=
  wX_next fun s S => wpAny_Assign_Name (h.run S fun v s1 a l ab S1 z => by
    obtain ⟨b, l', U, k⟩ := z
    exact store_cell hk hx hc S1 U ab fun s2 S2 => ⟨rfl, l', S2, k⟩) hs
structure FnC (fn : Addr) (st : Stmt) (qual : PySem.Str) (cd : Addr) (dV pm : Value) (ps : List PySem.Str) (as : List AV) (vs : List (PySem.Str × Option AV)) (cs : Addr → List (PySem.Str × Addr)) (cv : PySem.Str → Option AV) : Prop where
  look : ∀ P, (KK P).lookup fn = some ⟨.type "function", none, .func (fnS st qual dV pm (.ref cd)), #[]⟩
  code : ∀ P, codeIn (KK P) (.ref cd) qual = true
  bind : ∀ us : List Value, us.length = ps.length → bindArgs (fnS st qual dV pm (.ref cd)) ⟨us, []⟩ = pure (ps.zip us)
  len : as.length = ps.length
  kind : (sScope st).kind = .function
  coro : (sScope st).isCoroutine = false
  gen : (sScope st).isGenerator = false
  cells : ∀ L, cellsFrom (L + 1) (sScope st).names [] = cs L
  kinds : ∀ L, ∀ x ∈ ps, (sScope st).names.lookup x = some .local ∨ ((sScope st).names.lookup x = some .cell ∧ ((cs L).lookup x).isSome = true)
  fr : ∀ us, AbL us as → FrameIs vs (bindL (fun n => (sScope st).names.lookup n) (ps.zip us) fun _ => none)
  nd : (vs.map (·.1)).Nodup
  loc : ∀ p ∈ vs, (sScope st).names.lookup p.1 = some .local ∧ (p.1 == ("__debug__" : PySem.Str)) = false
  cl : ∀ L us, AbL us as → ∀ p ∈ cs L, (cs L).lookup p.1 = some p.2 ∧ CellHas (cv p.1) (bindC (fun n => (sScope st).names.lookup n) (ps.zip us) (fun _ => none) p.1)
theorem enterCE {fn : Addr} {st : Stmt} {dV pm : Value} {cda : Addr} {ps : List PySem.Str} {as : List AV} {cs : Addr → List (PySem.Str × Addr)} {cv : PySem.Str → Option AV} {n : Nat} {Φ : AV → Led → Prop} (F : FnC fn st qual cda dV pm ps as vs cs cv) (R : Rm (n + 1) A)
    (h : ∀ L, wpX g (A.deeper (envX qual (sScope st) L fn (.ref cda) (cs L))) (fun e s' => wpAny (model pw g.w) (A.deeper (envX qual (sScope st) L fn (.ref cda) (cs L))) (leaving (envX qual (sScope st) L fn (.ref cda) (cs L)) e) (fun _ s'' => E e s'') (fun e' s'' => E e' s'') s')
      (envX qual (sScope st) L fn (.ref cda) (cs L)) (sBody st) ((L, .frame (sScope st) vs) :: ((cs L).map (fun p => (p.2, cellC (cv p.1))) ++ led)) (Ret Φ)) : wpC g A E (.ref fn) as led Φ := fun us ab s S => by
  have K := S.K
  have hlen : us.length = ps.length := by rw [ab.length]; exact F.len
  have heq : ∀ L, callEnvC (fnS st qual dV pm (.ref cda)) L fn = envX qual (sScope st) L fn (.ref cda) (cs L) := fun L => by rw [← F.cells L]; rfl
  refine codeAny_call_cells (fd := fnS st qual dV pm (.ref cda)) (body := sBody st) (binds := ps.zip us) (by have := R.room; lia) (K _ _ (F.look _)) rfl (g.T.nolimit.keeps S.keep) (codeRec_of K (F.code _)) rfl (F.bind us hlen) rfl ?_ (fun s₁ X => ?_) F.coro F.gen F.kind
  · intro x hx
    have := F.kinds s.heap.objs.size x.1 (List.of_mem_zip hx).1
    rw [← F.cells] at this
    exact this
  · obtain ⟨h₁, tk, rfl, hk₁⟩ := X.done
    rw [heq] at X ⊢
    have hns : h₁.Ns s.heap.objs.size _ := X.toInCall.ns
    have hL : s.heap.objs.size < h₁.objs.size := hns.lt
    obtain ⟨o, es, ep, ho, hd, hsk, hfd⟩ := hns
    have hcell := X.cell
    have hap := X.apart
    have hab := X.above
    refine wpAny_mono (h s.heap.objs.size _ ?_) (fun fl s' z => ?_) (fun e s' z => z)
    · have Skeep : St g { s with heap := h₁, toks := tk } led := by
        refine ⟨fun b o e => hk₁ b o (S.keep b o e), ?_, fun p hp => let ⟨o', e, i⟩ := S.at_ p hp; ⟨o', hk₁ _ _ e, i⟩, S.nodup, S.fresh, S.os_, S.gens⟩
        exact Nat.le_trans S.size (Nat.le_of_lt hL)
      refine ⟨Skeep.keep, Skeep.size, fun p hp => ?_, ?_, fun p hp => ?_, S.os_, S.gens⟩
      · rcases List.mem_cons.mp hp with rfl | hp
        · exact ⟨o, ho, _, es, ep, hd, hsk, hfd, F.fr us ab, F.nd, F.kind, F.loc⟩
        · rcases List.mem_append.mp hp with hp | hp
          · obtain ⟨q, hq, rfl⟩ := List.mem_map.mp hp
            obtain ⟨h1, h2⟩ := F.cl s.heap.objs.size us ab q hq
            obtain ⟨o', ho', hd'⟩ := hcell q.1 q.2 h1
            exact ⟨o', ho', _, hd', h2⟩
          · exact Skeep.at_ p hp
      · rw [List.map_cons, List.map_append, List.nodup_cons]
        have hge : ∀ p ∈ led, p.1 < s.heap.objs.size := S.lt
        have hcl : ∀ q ∈ cs s.heap.objs.size, s.heap.objs.size < q.2 := fun q hq => hab q.1 q.2 hq
        refine ⟨fun hm => ?_, ?_⟩
        · rcases List.mem_append.mp hm with hm | hm
          · obtain ⟨p, hp, e⟩ := List.mem_map.mp hm
            obtain ⟨q, hq, rfl⟩ := List.mem_map.mp hp
            have := hcl q hq
            rw [show q.2 = s.heap.objs.size from e] at this
            exact absurd this (Nat.lt_irrefl _)
          · obtain ⟨p, hp, e⟩ := List.mem_map.mp hm
            have := hge p hp
            rw [e] at this
            exact absurd this (Nat.lt_irrefl _)
        · rw [List.nodup_append]
          refine ⟨?_, S.nodup, fun a ha b hb e => ?_⟩
          · rw [List.map_map]
            show ((cs s.heap.objs.size).map (·.2)).Nodup
            rw [List.Nodup, List.pairwise_map]
            exact hap
          · obtain ⟨p, hp, rfl⟩ := List.mem_map.mp ha
            obtain ⟨q, hq, rfl⟩ := List.mem_map.mp hp
            obtain ⟨r, hr, rfl⟩ := List.mem_map.mp hb
            have h1 := hcl q hq
            have h2 := hge r hr
            rw [show q.2 = r.1 from e] at h1
            exact absurd (Nat.lt_trans h1 h2) (Nat.lt_irrefl _)
      · rcases List.mem_cons.mp hp with rfl | hp
        · exact S.size
        · rcases List.mem_append.mp hp with hp | hp
          · obtain ⟨q, hq, rfl⟩ := List.mem_map.mp hp
            exact Nat.le_trans S.size (Nat.le_of_lt (hab q.1 q.2 hq))
          · exact S.fresh p hp
    · obtain ⟨out, l, r, S', a, l2, ra, sub, k⟩ := z
      cases out with
      | next => exact ⟨a, l2, by rw [show a = .none from ra]; rw [show fl = .next from r]; exact ⟨0, rfl⟩, S'.sub sub, k⟩
      | brk => exact ra.elim
      | cont => exact ra.elim
      | ret b => obtain ⟨v, rfl, ab'⟩ := r; exact ⟨a, l2, by rw [← show b = a from ra]; exact ab', S'.sub sub, k⟩
theorem enterC {fn : Addr} {st : Stmt} {dV pm : Value} {cda : Addr} {ps : List PySem.Str} {as : List AV} {cs : Addr → List (PySem.Str × Addr)} {cv : PySem.Str → Option AV} {n : Nat} {Φ : AV → Led → Prop} (F : FnC fn st qual cda dV pm ps as vs cs cv) (R : Rm (n + 1) A)
    (h : ∀ A' L, Rm n A' → wpX g A' (fun _ _ => False) (envX qual (sScope st) L fn (.ref cda) (cs L)) (sBody st) ((L, .frame (sScope st) vs) :: ((cs L).map (fun p => (p.2, cellC (cv p.1))) ++ led)) (Ret Φ)) : wpC g A E (.ref fn) as led Φ :=
  enterCE F R fun L => wpS_E (h _ L (R.deeper _)) fun _ _ x => x.elim
end
section
variable {g : Gx} {A : Around} {E : Value → Shared → Prop} {pre own : Led} {T dT CL B dB M dM MD LL R dR U dU RL Ao dA V dV EQ D D0 D1 : Addr} {xs rows big cells : List AV} {gs ge pt zv tk ct sv mn n : Int} {pb nt pn il : AV} {so : PySem.Str} {eq : List (Int × Int)} {gg : Gp} {bb : Bf} {uu : Option Un} {aa : Am} {vv : Ug} {dd : Dk}
end
section
theorem abl2 {us : List Value} {a b : AV} (h : AbL us [a, b]) : ∃ u v, us = [u, v] ∧ Ab u a ∧ Ab v b := by
  cases h with | cons h t => cases t with | cons h2 t => cases t; exact ⟨_, _, rfl, h, h2⟩
theorem abl3 {us : List Value} {a b c : AV} (h : AbL us [a, b, c]) : ∃ u v w, us = [u, v, w] ∧ Ab u a ∧ Ab v b ∧ Ab w c := by
  cases h with | cons h t => obtain ⟨v, w, rfl, h2, h3⟩ := abl2 t; exact ⟨_, _, _, rfl, h, h2, h3⟩
theorem abl4 {us : List Value} {a b c d : AV} (h : AbL us [a, b, c, d]) : ∃ u v w x, us = [u, v, w, x] ∧ Ab u a ∧ Ab v b ∧ Ab w c ∧ Ab x d := by
  cases h with | cons h t => obtain ⟨v, w, x, rfl, h2, h3, h4⟩ := abl3 t; exact ⟨_, _, _, _, rfl, h, h2, h3, h4⟩
theorem all0 {α : Type} {P : α → Prop} : ∀ x ∈ ([] : List α), P x := fun _ h => nomatch h
theorem allS {α : Type} {P : α → Prop} {y : α} {l : List α} (h : P y) (t : ∀ x ∈ l, P x) : ∀ x ∈ y :: l, P x := fun x hx => by
  rcases List.mem_cons.mp hx with rfl | hx
  · exact h
  · exact t x hx
theorem frN {x : PySem.Str} {m : PySem.Str → Option Value} : ∀ a, ((x, none) : PySem.Str × Option AV).2 = some a → ∃ v, m ((x, none) : PySem.Str × Option AV).1 = some v ∧ Ab v a := fun a e => nomatch e
theorem frS {x : PySem.Str} {b : AV} {m : PySem.Str → Option Value} {v : Value} (h : m x = some v) (ab : Ab v b) : ∀ a, ((x, some b) : PySem.Str × Option AV).2 = some a → ∃ v, m ((x, some b) : PySem.Str × Option AV).1 = some v ∧ Ab v a := fun a e => by
  cases e; exact ⟨v, h, ab⟩
noncomputable def cv1 (x : PySem.Str) (a : Option AV) (y : PySem.Str) : Option AV := if y = x then a else none
theorem cv1_self {x : PySem.Str} {a : Option AV} : cv1 x a x = a := if_pos rfl
theorem FC_text_goes (a b c d : AV) : FnC f_Recording_text_goes (mAt 36 2) (S "Recording.text_goes") 604 .none (.str (S "emacs.recording") 975) [S "self", S "buffer", S "start", S "end"] [a, b, c, d]
    [(S "self", some a), (S "buffer", some b), (S "end", some d), (S "rows", none), (S "runs", none), (S "markers", none), (S "marker", none), (S "piece", none)] (fun L => [(S "start", L + 1)]) (cv1 (S "start") (some c)) where
  look := look_Recording_text_goes
  code := code_Recording_text_goes
  bind := fun us h => by obtain ⟨u, v, w, x, rfl⟩ := lv4 h; kernel_rfl
  len := rfl
  kind := by kernel_rfl
  coro := by kernel_rfl
  gen := by kernel_rfl
  cells := fun L => by kernel_rfl
  kinds := fun L => allS (.inl (by kernel_rfl)) (allS (.inl (by kernel_rfl)) (allS (.inr ⟨by kernel_rfl, by kernel_rfl⟩) (allS (.inl (by kernel_rfl)) all0)))
  fr := fun us h => by
    obtain ⟨u, v, w, x, rfl, h1, h2, h3, h4⟩ := abl4 h
    exact allS (frS (v := u) (by kernel_rfl) h1) (allS (frS (v := v) (by kernel_rfl) h2) (allS (frS (v := x) (by kernel_rfl) h4) (allS frN (allS frN (allS frN (allS frN (allS frN all0)))))))
  nd := by show ([S "self", S "buffer", S "end", S "rows", S "runs", S "markers", S "marker", S "piece"] : List PySem.Str).Nodup; decide +kernel
  loc := allS ⟨by kernel_rfl, by kernel_rfl⟩ (allS ⟨by kernel_rfl, by kernel_rfl⟩ (allS ⟨by kernel_rfl, by kernel_rfl⟩ (allS ⟨by kernel_rfl, by kernel_rfl⟩ (allS ⟨by kernel_rfl, by kernel_rfl⟩ (allS ⟨by kernel_rfl, by kernel_rfl⟩ (allS ⟨by kernel_rfl, by kernel_rfl⟩ (allS ⟨by kernel_rfl, by kernel_rfl⟩ all0)))))))
  cl := fun L us h => by
    obtain ⟨u, v, w, x, rfl, h1, h2, h3, h4⟩ := abl4 h
    refine allS ⟨by kernel_rfl, ?_⟩ all0
    dsimp only
    rw [cv1_self]
    exact ⟨w, by kernel_rfl, h3⟩
theorem FC_renew (a b c : AV) : FnC f_UndoList_renew_unmodified (mAt 33 10) (S "UndoList.renew_unmodified") 557 .none (.str (S "emacs.undolist") 826) [S "self", S "elder", S "fresh"] [a, b, c]
    [(S "self", some a), (S "elder", some b)] (fun L => [(S "own", L + 1 + 1), (S "fresh", L + 1)]) (cv1 (S "fresh") (some c)) where
  look := look_UndoList_renew_unmodified
  code := code_UndoList_renew_unmodified
  bind := fun us h => by obtain ⟨u, v, w, rfl⟩ := lv3 h; kernel_rfl
  len := rfl
  kind := by kernel_rfl
  coro := by kernel_rfl
  gen := by kernel_rfl
  cells := fun L => by kernel_rfl
  kinds := fun L => allS (.inl (by kernel_rfl)) (allS (.inl (by kernel_rfl)) (allS (.inr ⟨by kernel_rfl, by kernel_rfl⟩) all0))
  fr := fun us h => by
    obtain ⟨u, v, w, rfl, h1, h2, h3⟩ := abl3 h
    exact allS (frS (v := u) (by kernel_rfl) h1) (allS (frS (v := v) (by kernel_rfl) h2) all0)
  nd := by show ([S "self", S "elder"] : List PySem.Str).Nodup; decide +kernel
  loc := allS ⟨by kernel_rfl, by kernel_rfl⟩ (allS ⟨by kernel_rfl, by kernel_rfl⟩ all0)
  cl := fun L us h => by
    obtain ⟨u, v, w, rfl, h1, h2, h3⟩ := abl3 h
    refine allS ⟨by kernel_rfl, ?_⟩ (allS ⟨by kernel_rfl, ?_⟩ all0)
    · dsimp only
      rw [show cv1 (S "fresh") (some c) (S "own") = none from by kernel_rfl]
      show bindC _ _ _ _ = none
      kernel_rfl
    · dsimp only
      rw [cv1_self]
      exact ⟨w, by kernel_rfl, h3⟩
theorem FC_insert_piece (a b : AV) : FnC f_insert_piece (stAt 45) (S "insert_piece") 661 .none (.str (S "emacs.piecing") 1077) [S "buffer", S "piece"] [a, b]
    [(S "buffer", some a), (S "piece", some b), (S "rows", none)] (fun L => [(S "start", L + 1)]) (fun _ => none) where
  look := look_insert_piece
  code := code_insert_piece
  bind := fun us h => by obtain ⟨u, v, rfl⟩ := lv2 h; kernel_rfl
  len := rfl
  kind := by kernel_rfl
  coro := by kernel_rfl
  gen := by kernel_rfl
  cells := fun L => by kernel_rfl
  kinds := fun L => allS (.inl (by kernel_rfl)) (allS (.inl (by kernel_rfl)) all0)
  fr := fun us h => by
    obtain ⟨u, v, rfl, h1, h2⟩ := abl2 h
    exact allS (frS (v := u) (by kernel_rfl) h1) (allS (frS (v := v) (by kernel_rfl) h2) (allS frN all0))
  nd := by show ([S "buffer", S "piece", S "rows"] : List PySem.Str).Nodup; decide +kernel
  loc := allS ⟨by kernel_rfl, by kernel_rfl⟩ (allS ⟨by kernel_rfl, by kernel_rfl⟩ (allS ⟨by kernel_rfl, by kernel_rfl⟩ all0))
  cl := fun L us h => by
    obtain ⟨u, v, rfl, h1, h2⟩ := abl2 h
    refine allS ⟨by kernel_rfl, ?_⟩ all0
    show bindC _ _ _ _ = none
    kernel_rfl
end
section
variable {g : Gx} {A : Around} {E : Value → Shared → Prop} {pre own : Led} {T dT CL B dB M dM MD LL R dR U dU RL Ao dA V dV EQ D D0 D1 : Addr} {xs rows big cells : List AV} {gs ge pt zv tk ct sv mn n : Int} {pb nt pn il : AV} {so : PySem.Str} {eq : List (Int × Int)} {gg : Gp} {bb : Bf} {uu : Option Un} {aa : Am} {vv : Ug} {dd : Dk}
inductive Row where
  | bd
  | um (t : Int)
  | pt (p : Int)
  | ins (a b : Int)
  | del (s : Int) (cs : List Int) (f : Bool)
noncomputable def Row.isNote : Row → Bool
  | .um _ => true
  | .pt _ => true
  | _ => false
noncomputable def Row.isBd : Row → Bool
  | .bd => true
  | _ => false
inductive RowIn (own : Led) : AV → Row → Prop
  | bd : RowIn own (.ref a_BOUNDARY) .bd
  | um {x t} (h : (x, Cell.tup [.str (S "unmodified"), .int t]) ∈ own) : RowIn own (.ref x) (.um t)
  | pt {x p} (h : (x, Cell.tup [.str (S "point"), .int p]) ∈ own) : RowIn own (.ref x) (.pt p)
  | ins {x i j} (h : (x, Cell.tup [.str (S "insert"), .int i, .int j]) ∈ own) : RowIn own (.ref x) (.ins i j)
  | del {x P dP c r s f} {cs : List Int} (h : (x, Cell.tup [.str (S "delete"), .int s, .ref P, .bool f]) ∈ own) (hP : (P, Cell.inst c_Piece dP) ∈ own) (hd : (dP, Cell.dict c_Piece [(S "codes", .ref c), (S "runs", .ref r)]) ∈ own) (hc : (c, Cell.list (cs.map .int)) ∈ own)
      (hr : (r, Cell.list []) ∈ own) (hn : cs ≠ []) : RowIn own (.ref x) (.del s cs f)
inductive RowsIn (own : Led) : List AV → List Row → Prop
  | nil : RowsIn own [] []
  | cons {a r as rs} (h : RowIn own a r) (t : RowsIn own as rs) : RowsIn own (a :: as) (r :: rs)
section
variable {own own' : Led} {as bs : List AV} {R R' : List Row} {a : AV} {r : Row}
theorem RowIn.more (h : RowIn own a r) (k : ∀ p ∈ own, p ∈ own') : RowIn own' a r := by
  cases h with
  | bd => exact .bd
  | um h => exact .um (k _ h)
  | pt h => exact .pt (k _ h)
  | ins h => exact .ins (k _ h)
  | del h hP hd hc hr hn => exact .del (k _ h) (k _ hP) (k _ hd) (k _ hc) (k _ hr) hn
theorem RowsIn.more (k : ∀ p ∈ own, p ∈ own') {as R} (h : RowsIn own as R) : RowsIn own' as R := by
  induction h with
  | nil => exact .nil
  | cons h _ ih => exact .cons (h.more k) ih
theorem RowsIn.length {as R} (h : RowsIn own as R) : as.length = R.length := by
  induction h with
  | nil => rfl
  | cons _ _ ih => exact congrArg Nat.succ ih
theorem RowsIn.append {as R bs R'} (h : RowsIn own as R) (k : RowsIn own bs R') : RowsIn own (as ++ bs) (R ++ R') := by
  induction h with
  | nil => exact k
  | cons h _ ih => exact .cons h ih
theorem RowsIn.snoc (h : RowsIn own as R) (k : RowIn own a r) : RowsIn own (as ++ [a]) (R ++ [r]) := h.append (.cons k .nil)
theorem RowsIn.take {as R} (h : RowsIn own as R) : ∀ n, RowsIn own (as.take n) (R.take n) := by
  induction h with
  | nil => intro n; cases n <;> exact .nil
  | cons h _ ih => intro n; cases n with
    | zero => exact .nil
    | succ n => exact .cons h (ih n)
theorem RowsIn.drop {as R} (h : RowsIn own as R) : ∀ n, RowsIn own (as.drop n) (R.drop n) := by
  induction h with
  | nil => intro n; cases n <;> exact .nil
  | cons h t ih => intro n; cases n with
    | zero => exact .cons h t
    | succ n => exact ih n
theorem RowsIn.get {as R} (h : RowsIn own as R) : ∀ (i : Nat) {r}, R[i]? = some r → ∃ a, as[i]? = some a ∧ RowIn own a r := by
  induction h with
  | nil => intro i r e; cases e
  | cons h _ ih =>
    intro i r e
    cases i with
    | zero => cases e; exact ⟨_, rfl, h⟩
    | succ i => exact ih i e
noncomputable def Row.wd : Row → PySem.Str
  | .bd => S "boundary"
  | .um _ => S "unmodified"
  | .pt _ => S "point"
  | .ins _ _ => S "insert"
  | .del _ _ _ => S "delete"
theorem RowIn.tup (h : RowIn own a r) : ∃ x rest, a = .ref x ∧ ∀ pre m, TupAt (Z pre m own) x (.str r.wd :: rest) ∧ (r ≠ .bd → rest ≠ []) ∧ (r = .bd → rest = []) := by
  cases h with
  | bd => exact ⟨_, [], rfl, fun pre m => ⟨.inr ⟨rfl, rfl⟩, fun h => absurd rfl h, fun _ => rfl⟩⟩
  | um h => exact ⟨_, _, rfl, fun pre m => ⟨.inl (Z_own h), fun _ e => (by cases e), fun e => (by cases e)⟩⟩
  | pt h => exact ⟨_, _, rfl, fun pre m => ⟨.inl (Z_own h), fun _ e => (by cases e), fun e => (by cases e)⟩⟩
  | ins h => exact ⟨_, _, rfl, fun pre m => ⟨.inl (Z_own h), fun _ e => (by cases e), fun e => (by cases e)⟩⟩
  | del h => exact ⟨_, _, rfl, fun pre m => ⟨.inl (Z_own h), fun _ e => (by cases e), fun e => (by cases e)⟩⟩
end
theorem wd_bd (r : Row) : (r.wd == S "boundary") = r.isBd := by cases r <;> kernel_rfl
theorem EqP.strs {x y : PySem.Str} {xs : List AV} : EqP (.str x :: xs) [.str y] [x == y] := .cons .str .nilR
theorem cmp_bd {g : Gx} {A : Around} {pre own : Led} {m : Mach} {a : AV} {r : Row} (hu : A.units < cLine) (h : RowIn own a r) : PCmp g A (Z pre m own) .Eq a (.ref a_BOUNDARY) r.isBd := by
  obtain ⟨x, rest, rfl, k⟩ := h.tup
  obtain ⟨k1, k2, k3⟩ := k pre m
  have := PCmp_tupEq (g := g) (A := A) hu k1 (.inr ⟨rfl, rfl⟩) EqP.strs
  rw [← wd_bd]
  cases r <;> first | (rw [k3 rfl] at this; exact this) | exact this
theorem cmp_nbd {g : Gx} {A : Around} {pre own : Led} {m : Mach} {a : AV} {r : Row} (hu : A.units < cLine) (h : RowIn own a r) : PCmp g A (Z pre m own) .NotEq a (.ref a_BOUNDARY) (!r.isBd) := by
  obtain ⟨x, rest, rfl, k⟩ := h.tup
  obtain ⟨k1, k2, k3⟩ := k pre m
  have := PCmp_tupNe (g := g) (A := A) hu k1 (.inr ⟨rfl, rfl⟩) EqP.strs
  rw [← wd_bd]
  cases r <;> first | (rw [k3 rfl] at this; exact this) | exact this
end
section
variable {g : Gx} {A : Around} {E : Value → Shared → Prop} {pre own : Led} {T dT CL B dB M dM MD LL R dR U dU RL Ao dA V dV EQ D D0 D1 : Addr} {xs rows big cells : List AV} {gs ge pt zv tk ct sv mn n : Int} {pb nt pn il : AV} {so : PySem.Str} {eq : List (Int × Int)} {gg : Gp} {bb : Bf} {uu : Option Un} {aa : Am} {vv : Ug} {dd : Dk}
noncomputable def atB (Ro : List Row) : Bool := match Ro.getLast? with
  | none => true
  | some r => r.isBd
noncomputable def bdry (Ro : List Row) : List Row := if atB Ro then Ro else Ro ++ [.bd]
theorem RowsIn.last {own : Led} {as : List AV} {Ro : List Row} (h : RowsIn own as Ro) (hne : Ro ≠ []) : ∃ a r, Ro.getLast? = some r ∧ as[as.length - 1]? = some a ∧ RowIn own a r := by
  have hl := h.length
  have hp : 0 < Ro.length := List.length_pos_iff.mpr hne
  obtain ⟨r, hr⟩ : ∃ r, Ro[Ro.length - 1]? = some r := ⟨_, List.getElem?_eq_getElem (by omega)⟩
  obtain ⟨a, ha, hi⟩ := h.get _ hr
  exact ⟨a, r, by rw [List.getLast?_eq_getElem?]; exact hr, by rw [hl]; exact ha, hi⟩
theorem idx_last {as : List AV} {a : AV} (h : as[as.length - 1]? = some a) : IdxAt as (-1) a := by
  have := some_lt h
  refine .inr ⟨by decide, by lia, ?_⟩
  rw [show ((-1 : Int) + (as.length : Nat)).toNat = as.length - 1 by lia]; exact h
theorem pc_is_at_boundary {Ro : List Row} (Rr : Rm 1 A) (hR : RowsIn own rows Ro) : PC g A f_UndoList_is_at_boundary [.ref U] (Z pre ⟨gg, bb, some ⟨R, dR, U, dU, RL, rows, pb, nt⟩, aa, vv, dd⟩ own) (.bool (atB Ro)) := fun E Φ h => by
  refine N_UndoList_is_at_boundary Rr fun A' L R' => ?_
  conv => arg 5; whnf
  have hl := hR.length
  refine wX_ret ?_
  by_cases hne : Ro = []
  · subst hne
    refine PE.use (PE_or (b := true) (c := true) ?_ (fun e => nomatch e)) (RetZ h)
    have e : ((rows.length : Nat) : Int) == 0 := by rw [hl]; rfl
    rw [show true = (((rows.length : Nat) : Int) == 0) by rw [e]]
    k_subL
  · obtain ⟨a, r, h1, h2, h3⟩ := hR.last hne
    have hp : 0 < Ro.length := List.length_pos_iff.mpr hne
    have e : (((rows.length : Nat) : Int) == 0) = false := by rw [hl]; simp; omega
    have e2 : atB Ro = (false || r.isBd) := by unfold atB; rw [h1]; rfl
    rw [e2] at h
    refine PE.use (PE_or (b := false) (c := r.isBd) ?_ (fun _ => ?_)) (RetZ h)
    · rw [← e]; k_subL
    · refine PE_or1 (tE_cmpG (x := a) ?_ (by k_subL) (cmp_bd (by have := R'.units; omega) h3) (by kernel_rfl))
      exact PE_item (by k_subL) (PE_neg PE_int) zl_u (idx_last h2) rfl
end
local macro_rules | `(tactic| k_ownIn) => `(tactic| first
  | ((with_reducible apply pc_bsize); exact Rm.less (by assumption) (by decide))
  | ((with_reducible apply pc_is_modified); exact Rm.less (by assumption) (by decide))
  | ((with_reducible apply pc_size); exact Rm.less (by assumption) (by decide))
  | ((with_reducible apply need_writable_); exact Rm.less (by assumption) (by decide))
  | ((with_reducible apply pc_is_at_boundary); · exact Rm.less (by assumption) (by decide)
     assumption))
local macro_rules | `(tactic| k_subL) => `(tactic| first
  | ((with_reducible apply PT_call); · k_subL
     k_upd))
local macro_rules | `(tactic| k_clsL) => `(tactic| first
  | ((with_reducible apply Atr.mk'); · (with_reducible apply Z_own); assumption
     · (with_reducible apply Z_own); assumption
     k_places))
section
variable {g : Gx} {A : Around} {E : Value → Shared → Prop} {pre own : Led} {T dT CL B dB M dM MD LL R dR U dU RL Ao dA V dV EQ D D0 D1 : Addr} {xs rows big cells : List AV} {gs ge pt zv tk ct sv mn n : Int} {pb nt pn il : AV} {so : PySem.Str} {eq : List (Int × Int)} {gg : Gp} {bb : Bf} {uu : Option Un} {aa : Am} {vv : Ug} {dd : Dk}
theorem tE_appU {o e : Expr} {env : Env} {ap pos : Pos} {pl : Sem Bool} {Φ : AV → Led → Prop} (ho : PE g A env (Z pre ⟨gg, bb, some ⟨R, dR, U, dU, RL, rows, pb, nt⟩, aa, vv, dd⟩ own) o (.ref RL))
    (he : starEach [e] env = (false, eval e env) :: starEach [] env)
    (hev : eval (.Call (.Attribute o (S "append") ap) [e] [] pos) env = (do
      let ov ← eval o env
      standAt ap.atName
      let (f, first) ← holding [ov] (getMethod ov (S "append") pl)
      callWith pos f first (backTo pos (starEach [e] env)) (backToKw pos (keywordEach [] env))))
    (hb : rows.length < Big)
    (h : wpE g A E env e (Z pre ⟨gg, bb, some ⟨R, dR, U, dU, RL, rows, pb, nt⟩, aa, vv, dd⟩ own) fun a l => ∃ own', l = Z pre ⟨gg, bb, some ⟨R, dR, U, dU, RL, rows, pb, nt⟩, aa, vv, dd⟩ own' ∧ Φ .none (Z pre ⟨gg, bb, some ⟨R, dR, U, dU, RL, rows ++ [a], pb, nt⟩, aa, vv, dd⟩ own')) :
    wpE g A E env (.Call (.Attribute o (S "append") ap) [e] [] pos) (Z pre ⟨gg, bb, some ⟨R, dR, U, dU, RL, rows, pb, nt⟩, aa, vv, dd⟩ own) Φ :=
  wE_append ho ⟨_, zl_u⟩ (wpS.mono h fun a l z => by obtain ⟨own', e, k⟩ := z; exact ⟨rows, _, by rw [e]; exact pl_u, hb, k⟩) hev he
theorem boundary_ {Ro : List Row} {Φ : AV → Led → Prop} (Rr : Rm 2 A) (hR : RowsIn own rows Ro) (hb : Ro.length ≤ 100000)
    (h : ∀ rows', RowsIn own rows' (bdry Ro) → Φ .none (Z pre ⟨gg, bb, some ⟨R, dR, U, dU, RL, rows', pb, nt⟩, aa, vv, dd⟩ own)) :
    wpC g A E (.ref f_UndoList_boundary) [.ref U] (Z pre ⟨gg, bb, some ⟨R, dR, U, dU, RL, rows, pb, nt⟩, aa, vv, dd⟩ own) Φ := by
  refine N_UndoList_boundary Rr fun A' L R' => ?_
  conv => arg 5; whnf
  have hl := hR.length
  k_memK
  · intro h1
    have h1 : atB Ro = false := by simpa using h1
    k_memK
    refine tE_appU (by k_subL) (by kernel_rfl) rfl (by unfold Big; lia) (PE.use (by k_subL) ⟨own, rfl, ?_⟩)
    k_memK
    refine wX_nil (RetN (h _ ?_))
    unfold bdry; rw [h1]
    exact hR.snoc .bd
  · intro h1
    have h1 : atB Ro = true := by simpa using h1
    k_memK
    refine wX_nil (RetN (h _ ?_))
    unfold bdry; rw [h1]; exact hR
inductive NI : AV → Prop
  | none : NI .none
  | int {i : Int} : NI (.int i)
noncomputable def Noted (k : Nat) (Ro Ro' : List Row) : Prop := ∃ ns : List Row, Ro' = Ro ++ ns ∧ (∀ r ∈ ns, r.isNote = true) ∧ ns.length ≤ k
theorem Noted.refl {k : Nat} {Ro : List Row} : Noted k Ro Ro := ⟨[], by simp, fun _ h => (nomatch h), Nat.zero_le _⟩
theorem Noted.snoc {k : Nat} {Ro Ro' : List Row} {r : Row} (h : Noted k Ro Ro') (hr : r.isNote = true) : Noted (k + 1) Ro (Ro' ++ [r]) := by
  obtain ⟨ns, rfl, h1, h2⟩ := h
  refine ⟨ns ++ [r], by simp, fun x hx => ?_, by simp; omega⟩
  rcases List.mem_append.mp hx with hx | hx
  · exact h1 x hx
  · rw [List.mem_singleton.mp hx]; exact hr
theorem Noted.mono {k k' : Nat} {Ro Ro' : List Row} (h : Noted k Ro Ro') (hk : k ≤ k') : Noted k' Ro Ro' := by
  obtain ⟨ns, e, h1, h2⟩ := h; exact ⟨ns, e, h1, by lia⟩
theorem Noted.le {k : Nat} {Ro Ro' : List Row} (h : Noted k Ro Ro') : Ro'.length ≤ Ro.length + k := by
  obtain ⟨ns, rfl, h1, h2⟩ := h; simp; omega
theorem ne_ni {nt : AV} (h : NI nt) (t : Int) : ∃ b, CmpIs .NotEq (.int t) nt b := by
  cases h with
  | none => exact ⟨_, .nie⟩
  | int => exact ⟨_, .ne⟩
theorem note_state_ {Ro : List Row} {bm : Bool} {t : Int} {Φ : AV → Led → Prop} (Rr : Rm 1 A) (hR : RowsIn own rows Ro) (hb : Ro.length ≤ 100000) (hn : NI nt)
    (h : ∀ rows' Ro' nt' own', (∀ p ∈ own, p ∈ own') → NI nt' → Noted 1 Ro Ro' → RowsIn own' rows' Ro' → Φ .none (Z pre ⟨gg, bb, some ⟨R, dR, U, dU, RL, rows', pb, nt'⟩, aa, vv, dd⟩ own')) :
    wpC g A E (.ref f_UndoList_note_state) [.ref U, .bool bm, .int t] (Z pre ⟨gg, bb, some ⟨R, dR, U, dU, RL, rows, pb, nt⟩, aa, vv, dd⟩ own) Φ := by
  refine N_UndoList_note_state Rr fun A' L R' => ?_
  conv => arg 5; whnf
  have hl := hR.length
  obtain ⟨b, hb2⟩ := ne_ni hn t
  refine tX_if (c := !bm && (b && true)) (PT_and (by k_subL) fun _ => PT_and (tT_cmp (by k_subL) (by k_subL) hb2 (by kernel_rfl)) fun _ => PT_andN) (fun _ => ?_) (fun _ => ?_)
  · k_memK
    refine tE_appU (by k_subL) (by kernel_rfl) rfl (by unfold Big; lia) (tE_tuple (by k_subL) (by unfold Big; simp) fun z => ⟨_, rfl, ?_⟩)
    k_memK
    k_memK
    have hR' := hR.more (own' := (z, Cell.tup [.str (S "unmodified"), .int t]) :: own) fun p hp => .tail _ hp
    exact wX_nil (RetN (h _ _ _ _ (fun p hp => .tail _ hp) .int (Noted.refl.snoc (r := .um t) rfl) (hR'.snoc (.um (.head _)))))
  · k_memK
    exact wX_nil (RetN (h _ _ _ _ (fun p hp => hp) hn (Noted.refl.mono (Nat.zero_le _)) hR))
end
section
variable {g : Gx} {A : Around} {E : Value → Shared → Prop} {pre own : Led} {T dT CL B dB M dM MD LL R dR U dU RL Ao dA V dV EQ D D0 D1 : Addr} {xs rows big cells : List AV} {gs ge pt zv tk ct sv mn n : Int} {pb nt pn il : AV} {so : PySem.Str} {eq : List (Int × Int)} {gg : Gp} {bb : Bf} {uu : Option Un} {aa : Am} {vv : Ug} {dd : Dk}
theorem ne_pb {pb : AV} (h : NI pb) (t : Int) : pb.isNone = false → ∃ b i, pb = .int i ∧ CmpIs .NotEq pb (.int t) b := fun e => by
  cases h with
  | none => cases e
  | int => exact ⟨_, _, rfl, .ne⟩
theorem note_begin_ {Ro : List Row} {bm : Bool} {t st : Int} {Φ : AV → Led → Prop} (Rr : Rm 2 A) (hR : RowsIn own rows Ro) (hb : Ro.length ≤ 90000) (hn : NI nt) (hp : NI pb)
    (h : ∀ rows' Ro' nt' own', (∀ p ∈ own, p ∈ own') → NI nt' → Noted 2 Ro Ro' → RowsIn own' rows' Ro' → Φ .none (Z pre ⟨gg, bb, some ⟨R, dR, U, dU, RL, rows', pb, nt'⟩, aa, vv, dd⟩ own')) :
    wpC g A E (.ref f_UndoList_note_begin) [.ref U, .int st, .bool bm, .int t] (Z pre ⟨gg, bb, some ⟨R, dR, U, dU, RL, rows, pb, nt⟩, aa, vv, dd⟩ own) Φ := by
  refine N_UndoList_note_begin Rr fun A' L R' => ?_
  conv => arg 5; whnf
  k_memK
  k_memK
  k_memK
  refine note_state_ R' hR (by lia) hn fun rows1 Ro1 nt1 own1 hm1 hn1 hN1 hR1 => ?_
  have hl1 := hN1.le
  have hrl := hR1.length
  have hend : ∀ {o1 : Led} {l1 : List AV} {X : List Row}, (∀ p ∈ own, p ∈ o1) → Noted 2 Ro X → RowsIn o1 l1 X → Ret Φ .next (Z ((L, .frame (sScope (mAt 33 6)) [(S "self", some (.ref U)), (S "start", some (.int st)), (S "is_modified", some (.bool bm)), (S "tick", some (.int t)), (S "is_first", some (.bool (atB Ro)))]) :: pre) ⟨gg, bb, some ⟨R, dR, U, dU, RL, l1, pb, nt1⟩, aa, vv, dd⟩ o1) := fun hm hN hX => RetN (h _ _ _ _ hm hn1 hN hX)
  cases hpb : pb.isNone with
  | true =>
    refine tX_if (c := atB Ro && (false && false)) (PT_and (by k_subL) fun _ => PT_and ?_ fun e => nomatch e) (fun e => ?_) (fun _ => ?_)
    · have : CmpIs .IsNot pb .none false := by have := CmpIs.isNot (a := pb); rw [hpb] at this; exact this
      exact tT_cmp (by k_subL) (by k_subL) this (by kernel_rfl)
    · simp at e
    · k_memK
      exact wX_nil (hend hm1 (hN1.mono (by lia)) hR1)
  | false =>
    obtain ⟨b, i, rfl, hc⟩ := ne_pb hp st hpb
    refine tX_if (c := atB Ro && (!(AV.int i).isNone && (b && true))) (PT_and (by k_subL) fun _ => PT_and (by k_subL) fun _ => PT_and (tT_cmp (by k_subL) (by k_subL) hc (by kernel_rfl)) fun _ => PT_andN) (fun _ => ?_) (fun _ => ?_)
    · k_memK
      refine tE_appU (by k_subL) (by kernel_rfl) rfl (by unfold Big; lia) (tE_tuple (by k_subL) (by unfold Big; simp) fun z => ⟨_, rfl, ?_⟩)
      k_memK
      have hR' := hR1.more (own' := (z, Cell.tup [.str (S "point"), .int i]) :: own1) fun p hp => .tail _ hp
      exact wX_nil (hend (fun p hp => .tail _ (hm1 p hp)) (hN1.snoc (r := .pt i) rfl) (hR'.snoc (.pt (.head _))))
    · k_memK
      exact wX_nil (hend hm1 (hN1.mono (by lia)) hR1)
end
section
variable {g : Gx} {A : Around} {E : Value → Shared → Prop} {pre own : Led} {T dT CL B dB M dM MD LL R dR U dU RL Ao dA V dV EQ D D0 D1 : Addr} {xs rows big cells : List AV} {gs ge pt zv tk ct sv mn n : Int} {pb nt pn il : AV} {so : PySem.Str} {eq : List (Int × Int)} {gg : Gp} {bb : Bf} {uu : Option Un} {aa : Am} {vv : Ug} {dd : Dk}
theorem tE_itemT {o i : Expr} {pos : Pos} {env : Env} {led : Led} {x : Addr} {xs : List AV} (k : Nat) {a : AV} (hm : TupAt led x xs) (hk : xs[k]? = some a) (hkb : k < 1000) (hp : plainIdx i = true) (ho : PE g A env led o (.ref x)) (hi : PE g A env led i (.int (k : Nat))) : PE g A env led (.Subscript o i pos) a := PE_itemT ho hi hm hk hkb hp
theorem tX_itemNeg {env : Env} {led : Led} {o e i : Expr} {p pos : Pos} {rest : List Stmt} {Φ : Out → Led → Prop}
    (hs : swapsWith e (some (.Subscript o i p)) pos.line env = pure false)
    (h : wpE g A E env e led fun a l => ∃ x xs l', PE g A env l o (.ref x) ∧ PE g A env l i (.int (-1)) ∧ 0 < xs.length ∧ LPut x (.list xs) (.list (xs.set (xs.length - 1) a)) l l' ∧ wpX g A E env rest l' Φ) : wpX g A E env (.Assign [.Subscript o i p] e pos :: rest) led Φ :=
  wX_itemNeg (Constant := Nat) (n := 0) (c := 0) (kd := none) (p1 := pos) (p2 := pos) h hs
noncomputable def InsRec (Ro Ro' : List Row) (st many : Int) : Prop := (∃ Ro1, Noted 2 Ro Ro1 ∧ Ro' = Ro1 ++ [.ins st (st + many)]) ∨ (∃ R0 a, Ro = R0 ++ [.ins a st] ∧ Ro' = R0 ++ [.ins a (st + many)])
theorem InsRec.le {Ro Ro' : List Row} {st many : Int} (h : InsRec Ro Ro' st many) : Ro'.length ≤ Ro.length + 3 := by
  rcases h with ⟨Ro1, h, rfl⟩ | ⟨R0, a, rfl, rfl⟩
  · have := h.le; simp; omega
  · simp
theorem Noted.lastIns {k : Nat} {Ro Ro' R0 : List Row} {i j : Int} (h : Noted k Ro Ro') (e : Ro' = R0 ++ [.ins i j]) : Ro' = Ro := by
  obtain ⟨ns, rfl, h1, -⟩ := h
  rcases List.eq_nil_or_concat ns with rfl | ⟨n0, b, rfl⟩
  · simp
  · rw [List.concat_eq_append, ← List.append_assoc] at e
    have hb := (List.append_inj' e rfl).2
    simp at hb
    have := h1 b (by simp)
    rw [hb] at this; cases this
theorem RowsIn.dropLast' {own : Led} {as : List AV} {R0 : List Row} {r : Row} (h : RowsIn own as (R0 ++ [r])) : ∃ as0 a, as = as0 ++ [a] ∧ RowsIn own as0 R0 ∧ RowIn own a r := by
  induction R0 generalizing as with
  | nil => cases h with | cons h t => cases t; exact ⟨[], _, rfl, .nil, h⟩
  | cons x R0 ih =>
    cases h with
    | cons h t =>
      obtain ⟨as0, a, rfl, h1, h2⟩ := ih t
      exact ⟨_ :: as0, a, rfl, .cons h h1, h2⟩
theorem RowsIn.setLast {own : Led} {as : List AV} {R0 : List Row} {r r' : Row} {a' : AV} (h : RowsIn own as (R0 ++ [r])) (k : RowIn own a' r') : RowsIn own (as.set (as.length - 1) a') (R0 ++ [r']) := by
  obtain ⟨as0, a, rfl, h1, h2⟩ := h.dropLast'
  have e : (as0 ++ [a]).set ((as0 ++ [a]).length - 1) a' = as0 ++ [a'] := by
    rw [List.set_append]; simp
  rw [e]; exact h1.snoc k
theorem note_insert_ {Ro : List Row} {bm : Bool} {t st many pt' : Int} {Φ : AV → Led → Prop} (Rr : Rm 3 A) (hR : RowsIn own rows Ro) (hb : Ro.length ≤ 80000) (hn : NI nt) (hp : NI pb) (hm0 : many ≠ 0)
    (h : ∀ rows' Ro' nt' own', (∀ p ∈ own, p ∈ own') → NI nt' → InsRec Ro Ro' st many → RowsIn own' rows' Ro' → Φ .none (Z pre ⟨gg, bb, some ⟨R, dR, U, dU, RL, rows', pb, nt'⟩, aa, vv, dd⟩ own')) :
    wpC g A E (.ref f_UndoList_note_insert) [.ref U, .int st, .int many, .int pt', .bool bm, .int t] (Z pre ⟨gg, bb, some ⟨R, dR, U, dU, RL, rows, pb, nt⟩, aa, vv, dd⟩ own) Φ := by
  refine N_UndoList_note_insert Rr fun A' L R' => ?_
  conv => arg 5; whnf
  k_memK
  · intro e
    simp [hm0] at e
  intro _
  k_memK
  k_memK
  k_memK
  refine note_begin_ R' hR (by lia) hn hp fun rows1 Ro1 nt1 own1 hm1 hn1 hN1 hR1 => ?_
  have hl1 := hN1.le
  have hrl := hR1.length
  have hu : A'.units < cLine := by have := R'.units; lia
  obtain ⟨a, r, hir, hcase⟩ : ∃ a r, RowIn own1 a r ∧ ((Ro1 = [] ∧ r = .bd ∧ a = .ref a_BOUNDARY) ∨ (Ro1 ≠ [] ∧ Ro1.getLast? = some r ∧ rows1[rows1.length - 1]? = some a)) := by
    by_cases hne : Ro1 = []
    · exact ⟨_, _, .bd, .inl ⟨hne, rfl, rfl⟩⟩
    · obtain ⟨a, r, h1, h2, h3⟩ := hR1.last hne
      exact ⟨a, r, h3, .inr ⟨hne, h1, h2⟩⟩
  apply tX_name (a := a)
  · have hdec : a = if decide (((rows1.length : Nat) : Int) > 0) = true then a else .ref a_BOUNDARY := by
      rcases hcase with ⟨h1, h2, h3⟩ | ⟨h1, h2, h3⟩
      · rw [h3]; split <;> rfl
      · have : 0 < Ro1.length := List.length_pos_iff.mpr h1
        rw [if_pos (by simp; lia)]
    rw [hdec]
    refine PE_if (by k_subL) (fun e => ?_) (fun _ => by k_subL)
    have e : (0 : Int) < (rows1.length : Nat) := of_decide_eq_true e
    rcases hcase with ⟨h1, h2, h3⟩ | ⟨h1, h2, h3⟩
    · rw [hrl, h1] at e; simp at e
    · exact PE_item (by k_subL) (PE_neg PE_int) zl_u (idx_last h3) rfl
  · k_updF
  · kernel_rfl
  obtain ⟨x, rest, rfl, htup⟩ := hir.tup
  have wdp : ∀ {pre'' : Led} {m'' : Mach}, TupAt (Z pre'' m'' own1) x (.str r.wd :: rest) := fun {p m} => (htup p m).1
  cases hwd : r.wd == S "insert" with
  | false =>
    apply tX_if (c := (r.wd == S "insert") && false)
    · refine PT_and ?_ fun e => by rw [hwd] at e; cases e
      apply tT_cmp
      · exact tE_itemT 0 wdp rfl (by decide) rfl (by k_subL) PE_int
      · k_subL
      · exact .seq
      · kernel_rfl
    · intro e; rw [hwd] at e; cases e
    intro _
    k_memK
    refine tE_appU (by k_subL) (by kernel_rfl) rfl (by unfold Big; lia) (tE_tuple (by k_subL) (by unfold Big; simp) fun z => ⟨_, rfl, ?_⟩)
    k_memK
    have hR' := hR1.more (own' := (z, Cell.tup [.str (S "insert"), .int st, .int (st + many)]) :: own1) fun p hp => .tail _ hp
    exact wX_nil (RetN (h _ _ _ _ (fun p hp => .tail _ (hm1 p hp)) hn1 (.inl ⟨_, hN1, rfl⟩) (hR'.snoc (.ins (.head _)))))
  | true =>
    cases hir with
    | bd => exact absurd hwd (by rw [show ((Row.bd).wd == S "insert") = false from by kernel_rfl]; decide)
    | um => exact absurd hwd (by rw [show ((Row.um _).wd == S "insert") = false from by kernel_rfl]; decide)
    | pt => exact absurd hwd (by rw [show ((Row.pt _).wd == S "insert") = false from by kernel_rfl]; decide)
    | del => exact absurd hwd (by rw [show ((Row.del _ _ _).wd == S "insert") = false from by kernel_rfl]; decide)
    | @ins x i j hI =>
    rcases hcase with ⟨h1, h2, h3⟩ | ⟨hne, hlast, hat⟩
    · cases h2
    obtain ⟨R0, hR0⟩ : ∃ R0, Ro1 = R0 ++ [.ins i j] := by
      rcases List.eq_nil_or_concat Ro1 with e | ⟨n0, b, e⟩
      · exact absurd e hne
      · rw [e] at hlast; simp at hlast; exact ⟨n0, by rw [e, hlast]; simp⟩
    have hsame := hN1.lastIns hR0
    have tp : ∀ {pre'' : Led} {m'' : Mach}, TupAt (Z pre'' m'' own1) x [.str (S "insert"), .int i, .int j] := fun {p m} => .inl (Z_own hI)
    apply tX_if (c := (S "insert" == S "insert") && ((j == st) && true))
    · refine PT_and ?_ fun _ => PT_and ?_ fun _ => PT_andN
      · apply tT_cmp
        · exact tE_itemT 0 tp rfl (by decide) rfl (by k_subL) PE_int
        · k_subL
        · exact .seq
        · kernel_rfl
      · apply tT_cmp
        · exact tE_itemT 2 tp rfl (by decide) rfl (by k_subL) PE_int
        · k_subL
        · exact .eq
        · kernel_rfl
    · intro e
      have ej : j = st := by simpa using e
      subst ej
      refine tX_itemNeg (by kernel_rfl) ?_
      refine tE_tuple (tL_cons (by k_subL) (tL_cons (tE_itemT 1 tp rfl (by decide) rfl (by k_subL) PE_int) (tL_cons (by k_subL) PL_nil (by kernel_rfl)) (by kernel_rfl)) (by kernel_rfl)) (by unfold Big; simp) fun z => ?_
      refine ⟨RL, rows1, _, by k_subL, PE_neg PE_int, by rw [hrl, hR0]; simp, pl_u, ?_⟩
      have hR' := (hR0 ▸ hR1).more (own' := (z, Cell.tup [.str (S "insert"), .int i, .int (j + many)]) :: own1) fun p hp => .tail _ hp
      k_memK
      exact wX_nil (RetN (h _ _ _ _ (fun p hp => .tail _ (hm1 p hp)) hn1 (.inr ⟨R0, i, by rw [← hsame]; exact hR0, rfl⟩) (hR'.setLast (.ins (.head _)))))
    · intro e
      k_memK
      refine tE_appU (by k_subL) (by kernel_rfl) rfl (by unfold Big; lia) (tE_tuple (by k_subL) (by unfold Big; simp) fun z => ⟨_, rfl, ?_⟩)
      k_memK
      have hR' := hR1.more (own' := (z, Cell.tup [.str (S "insert"), .int st, .int (st + many)]) :: own1) fun p hp => .tail _ hp
      exact wX_nil (RetN (h _ _ _ _ (fun p hp => .tail _ (hm1 p hp)) hn1 (.inl ⟨_, hN1, rfl⟩) (hR'.snoc (.ins (.head _)))))
end
section
variable {g : Gx} {A : Around} {E : Value → Shared → Prop} {pre own : Led} {T dT CL B dB M dM MD LL R dR U dU RL Ao dA V dV EQ D D0 D1 : Addr} {xs rows big cells : List AV} {gs ge pt zv tk ct sv mn n : Int} {pb nt pn il : AV} {so : PySem.Str} {eq : List (Int × Int)} {gg : Gp} {bb : Bf} {uu : Option Un} {aa : Am} {vv : Ug} {dd : Dk}
noncomputable def DelRec (Ro Ro' : List Row) (st : Int) (cs : List Int) : Prop := ∃ Ro1 f, Noted 2 Ro Ro1 ∧ Ro' = Ro1 ++ [.del st cs f]
theorem DelRec.le {Ro Ro' : List Row} {st : Int} {cs : List Int} (h : DelRec Ro Ro' st cs) : Ro'.length ≤ Ro.length + 3 := by
  obtain ⟨Ro1, f, h, rfl⟩ := h
  have := h.le; simp; omega
theorem note_delete_ {Ro : List Row} {bm : Bool} {t st pt' : Int} {P dP c r mk : Addr} {cs : List Int} {Φ : AV → Led → Prop} (Rr : Rm 3 A) (hR : RowsIn own rows Ro) (hb : Ro.length ≤ 80000) (hn : NI nt) (hp : NI pb)
    (hP : (P, Cell.inst c_Piece dP) ∈ own) (hd : (dP, Cell.dict c_Piece [(S "codes", .ref c), (S "runs", .ref r)]) ∈ own) (hc : (c, Cell.list (cs.map .int)) ∈ own) (hr : (r, Cell.list []) ∈ own) (hcs : cs ≠ []) (hmk : (mk, Cell.list []) ∈ own)
    (h : ∀ rows' Ro' nt' own', (∀ p ∈ own, p ∈ own') → NI nt' → DelRec Ro Ro' st cs → RowsIn own' rows' Ro' → Φ .none (Z pre ⟨gg, bb, some ⟨R, dR, U, dU, RL, rows', pb, nt'⟩, aa, vv, dd⟩ own')) :
    wpC g A E (.ref f_UndoList_note_delete) [.ref U, .int st, .ref P, .int pt', .ref mk, .bool bm, .int t] (Z pre ⟨gg, bb, some ⟨R, dR, U, dU, RL, rows, pb, nt⟩, aa, vv, dd⟩ own) Φ := by
  refine N_UndoList_note_delete Rr fun A' L R' => ?_
  conv => arg 5; whnf
  k_memK
  · intro e
    have : cs.length = 0 := by simpa using e
    exact absurd (List.length_eq_zero_iff.mp this) hcs
  intro _
  k_memK
  k_memK
  k_memK
  refine note_begin_ R' hR (by lia) hn hp fun rows1 Ro1 nt1 own1 hm1 hn1 hN1 hR1 => ?_
  have hl1 := hN1.le
  have hrl := hR1.length
  have hP1 := hm1 _ hP
  have hd1 := hm1 _ hd
  have hc1 := hm1 _ hc
  have hr1 := hm1 _ hr
  have hmk1 := hm1 _ hmk
  refine wX_for0 R'.handled (fun _ => rfl) (PE.use (by k_subL) ⟨mk, rfl, Z_own hmk1, ?_⟩)
  k_memK
  refine tE_appU (by k_subL) (by kernel_rfl) rfl (by unfold Big; lia) (tE_tuple (by k_subL) (by unfold Big; simp) fun z => ⟨_, rfl, ?_⟩)
  refine wX_nil (RetN (h _ _ _ _ (fun p hp => .tail _ (hm1 p hp)) hn1 ⟨_, _, hN1, rfl⟩ ((hR1.more fun p hp => .tail _ hp).snoc (.del (.head _) (.tail _ hP1) (.tail _ hd1) (.tail _ hc1) (.tail _ hr1) hcs))))
end
section
variable {g : Gx} {A : Around} {E : Value → Shared → Prop} {pre own : Led} {T dT CL B dB M dM MD LL R dR U dU RL Ao dA V dV EQ D D0 D1 : Addr} {xs rows big cells : List AV} {gs ge pt zv tk ct sv mn n : Int} {pb nt pn il : AV} {so : PySem.Str} {eq : List (Int × Int)} {gg : Gp} {bb : Bf} {uu : Option Un} {aa : Am} {vv : Ug} {dd : Dk}
theorem text_comes_ {Ro : List Row} {st many : Int} {Φ : AV → Led → Prop} (Rr : Rm 4 A) (hR : RowsIn own rows Ro) (hb : Ro.length ≤ 80000) (hn : NI nt) (hp : NI pb) (hm0 : many ≠ 0)
    (h : ∀ rows' Ro' nt' own', (∀ p ∈ own, p ∈ own') → NI nt' → InsRec Ro Ro' st many → RowsIn own' rows' Ro' → Φ .none (Z pre ⟨gg, ⟨B, dB, M, dM, MD, LL, pt, zv, tk, ct, sv⟩, some ⟨R, dR, U, dU, RL, rows', pb, nt'⟩, aa, vv, dd⟩ own')) :
    wpC g A E (.ref f_Recording_text_comes) [.ref R, .ref B, .int st, .int many] (Z pre ⟨gg, ⟨B, dB, M, dM, MD, LL, pt, zv, tk, ct, sv⟩, some ⟨R, dR, U, dU, RL, rows, pb, nt⟩, aa, vv, dd⟩ own) Φ := by
  refine N_Recording_text_comes Rr fun A' L R' => ?_
  conv => arg 5; whnf
  k_memK
  k_memK
  refine note_insert_ R' hR hb hn hp hm0 fun rows1 Ro1 nt1 own1 hm1 hn1 hI hR1 => ?_
  exact wX_nil (RetN (h _ _ _ _ hm1 hn1 hI hR1))
theorem tX_attrN {qual : PySem.Str} {sc : Scope} {L f : Addr} {cd : Value} {vs : List (PySem.Str × Option AV)} {cl : List (PySem.Str × Addr)} {m : Mach} {own' : Led} {x C dx : Addr} {fs : Flds} {o e : Expr} {k : PySem.Str} {p pos : Pos} {a : AV} {rest : List Stmt} {Φ : Out → Led → Prop}
    (he : PE g A (envX qual sc L f cd cl) (Z ((L, .frame sc vs) :: pre) m own) e a) (ho : PE g A (envX qual sc L f cd cl) (Z ((L, .frame sc vs) :: pre) m own) o (.ref x)) (hx : (x, Cell.inst C dx) ∈ own) (U : LPut dx (.dict C fs) (.dict C (fs ++ [(k, a)])) own own')
    (ok : ∀ P, FldOk P C k) (hn : fs.any (·.1 == k) = false) (hz : fs.length < 100) (hs : swapsWith e (some (.Attribute o k p)) pos.line (envX qual sc L f cd cl) = pure false)
    (h : wpX g A E (envX qual sc L f cd cl) rest (Z ((L, .frame sc vs) :: pre) m own') Φ) : wpX g A E (envX qual sc L f cd cl) (.Assign [.Attribute o k p] e pos :: rest) (Z ((L, .frame sc vs) :: pre) m own) Φ :=
  wX_attrN ok hn hz (PE.use he ⟨ho, L, sc, vs, _, Z_fr, Z_own hx, Z_ownput U, h⟩) hs
theorem wC_newZ {C fI : Addr} {as : List AV} {m : Mach} {n : Nat} {Φ : AV → Led → Prop} (O : ClsOk C fI) (Rr : Rm (n + 1) A)
    (h : ∀ A' x dx, Rm n A' → wpC g A' E (.ref fI) (.ref x :: as) (Z pre m ((x, .inst C dx) :: (dx, .dict C []) :: own)) fun a l => a = .none ∧ Φ (.ref x) l) : wpC g A E (.ref C) as (Z pre m own) Φ :=
  wC_new O Rr fun A' x dx R' => wpC_perm ((List.Perm.cons _ Z_new).trans Z_new) (h A' x dx R')
theorem new_Piece {m : Mach} {a b : AV} {Φ : AV → Led → Prop} (Rr : Rm 2 A)
    (h : ∀ x dx, Φ (.ref x) (Z pre m ((x, .inst c_Piece dx) :: (dx, .dict c_Piece [(S "codes", a), (S "runs", b)]) :: own))) :
    wpC g A E (.ref c_Piece) [a, b] (Z pre m own) Φ := by
  refine wC_newZ C_Piece Rr fun A' x dx R' => ?_
  refine N_Piece_init R' fun A2 L R2 => ?_
  conv => arg 5; whnf
  refine tX_attrN (by k_subL) (by k_subL) (.head _) (.tail .head) A_Piece_codes rfl (by decide) (by kernel_rfl) ?_
  refine tX_attrN (by k_subL) (by k_subL) (.head _) (.tail .head) A_Piece_runs (by kernel_rfl) (Nat.le_of_ble_eq_true rfl) (by kernel_rfl) ?_
  exact wX_nil (RetN ⟨rfl, h x dx⟩)
theorem wpK.permR {f : Value} {args : List AV} {led : Led} {Φ : AV → Led → Prop} (h : wpK g A E f args led fun b l => ∃ l', l.Perm l' ∧ Φ b l') : wpK g A E f args led Φ := fun us ab => wpS.permR (h us ab)
theorem numbers_ {Φ : AV → Led → Prop} (Rr : Rm 1 A) (h : ∀ z, Φ (.ref z) (Z pre ⟨gg, ⟨B, dB, M, dM, MD, LL, pt, zv, tk, ct, sv⟩, uu, aa, vv, dd⟩ ((z, .list []) :: own))) :
    wpC g A E (.ref f_Markers_numbers) [.ref M] (Z pre ⟨gg, ⟨B, dB, M, dM, MD, LL, pt, zv, tk, ct, sv⟩, uu, aa, vv, dd⟩ own) Φ := by
  refine N_Markers_numbers Rr fun A' L R' => ?_
  conv => arg 5; whnf
  refine wX_ret (wE_blt B_sorted Z_fr (by kernel_rfl) (PL.use' (by k_subL) (wpK.permR (wK_sorted0 R'.handled zm_b fun z => ⟨_, Z_new, RetZ (h z)⟩))) (by kernel_rfl) (by kernel_rfl))
theorem inserted_ {a b c : AV} {Φ : AV → Led → Prop} (Rr : Rm 2 A) (h : ∀ own', (∀ p ∈ own, p ∈ own') → Φ .none (Z pre ⟨gg, ⟨B, dB, M, dM, MD, LL, pt, zv, tk, ct, sv⟩, uu, aa, vv, dd⟩ own')) :
    wpC g A E (.ref f_Markers_inserted) [.ref M, a, b, c] (Z pre ⟨gg, ⟨B, dB, M, dM, MD, LL, pt, zv, tk, ct, sv⟩, uu, aa, vv, dd⟩ own) Φ := by
  refine N_Markers_inserted Rr fun A' L R' => ?_
  conv => arg 5; whnf
  refine wX_for0 R'.handled (fun _ => rfl) ?_
  k_memK
  refine numbers_ R' fun z => ⟨z, rfl, Z_own (.head _), ?_⟩
  exact wX_nil (RetN (h _ fun p hp => .tail _ hp))
theorem deleted_ {a b : AV} {Φ : AV → Led → Prop} (Rr : Rm 2 A) (h : ∀ own', (∀ p ∈ own, p ∈ own') → Φ .none (Z pre ⟨gg, ⟨B, dB, M, dM, MD, LL, pt, zv, tk, ct, sv⟩, uu, aa, vv, dd⟩ own')) :
    wpC g A E (.ref f_Markers_deleted) [.ref M, a, b] (Z pre ⟨gg, ⟨B, dB, M, dM, MD, LL, pt, zv, tk, ct, sv⟩, uu, aa, vv, dd⟩ own) Φ := by
  refine N_Markers_deleted Rr fun A' L R' => ?_
  conv => arg 5; whnf
  refine wX_for0 R'.handled (fun _ => rfl) ?_
  k_memK
  refine numbers_ R' fun z => ⟨z, rfl, Z_own (.head _), ?_⟩
  exact wX_nil (RetN (h _ fun p hp => .tail _ hp))
theorem within_ {a b : AV} {Φ : AV → Led → Prop} (Rr : Rm 2 A) (h : ∀ own' z, (∀ p ∈ own, p ∈ own') → (z, Cell.list []) ∈ own' → Φ (.ref z) (Z pre ⟨gg, ⟨B, dB, M, dM, MD, LL, pt, zv, tk, ct, sv⟩, uu, aa, vv, dd⟩ own')) :
    wpC g A E (.ref f_Markers_within) [.ref M, a, b] (Z pre ⟨gg, ⟨B, dB, M, dM, MD, LL, pt, zv, tk, ct, sv⟩, uu, aa, vv, dd⟩ own) Φ := by
  refine N_Markers_within Rr fun A' L R' => ?_
  conv => arg 5; whnf
  refine tX_nameE (tE_list PL_nil (by unfold Big; simp) fun y => ⟨_, _, _, _, _, rfl, by k_updF, ?_⟩) (by kernel_rfl)
  refine wX_for0 R'.handled (fun _ => rfl) ?_
  k_memK
  refine numbers_ R' fun z => ⟨z, rfl, Z_own (.head _), ?_⟩
  refine wX_ret (PE.use (by k_subL) (RetZ (h _ _ (fun p hp => .tail _ (.tail _ hp)) (.tail _ (.head _)))))
end
section
variable {g : Gx} {A : Around} {E : Value → Shared → Prop} {pre own : Led} {T dT CL B dB M dM MD LL R dR U dU RL Ao dA V dV EQ D D0 D1 : Addr} {xs rows big cells : List AV} {gs ge pt zv tk ct sv mn n : Int} {pb nt pn il : AV} {so : PySem.Str} {eq : List (Int × Int)} {gg : Gp} {bb : Bf} {uu : Option Un} {aa : Am} {vv : Ug} {dd : Dk}
theorem tE_cell {qual : PySem.Str} {sc : Scope} {L f : Addr} {cd : Value} {vs : List (PySem.Str × Option AV)} {cl : List (PySem.Str × Addr)} {m : Mach} {x : PySem.Str} {pos : Pos} {c : Addr} {a : AV} (hk : sc.kind = .function)
    (h1 : (x == ("__debug__" : PySem.Str)) = false) (h2 : (x == ("__classdict__" : PySem.Str)) = false) (hc : cl.lookup x = some c) (hx : sc.names.lookup x = some .cell) :
    PE g A (envX qual sc L f cd cl) (Z ((L, .frame sc vs) :: (c, cellC (some a)) :: pre) m own) (.Name x pos) a := PE_cell hk ⟨.inl hx, h1, h2⟩ hc (.tail _ (.head _))
local macro_rules | `(tactic| k_subL) => `(tactic| first
  | ((with_reducible apply tE_cell); rotate_left 4; (decide +kernel); (all_goals kernel_rfl)))
theorem tE_ifP {env : Env} {led : Led} {t b o : Expr} {pos : Pos} {c : Bool} {Φ : AV → Led → Prop} (ht : PT g A env led t c) (h1 : c = true → wpE g A E env b led Φ) (h2 : c = false → wpE g A E env o led Φ) : wpE g A E env (.IfExp t b o pos) led Φ :=
  wE_if (ht.use (by cases c with | false => exact h2 rfl | true => exact h1 rfl))
theorem RetN2 {Φ : AV → Led → Prop} {m : Mach} {p q : Addr × Cell} (h : Φ .none (Z pre m own)) : Ret Φ .next (Z (p :: q :: pre) m own) := ⟨.none, _, rfl, (List.sublist_cons_self _ _).trans (List.sublist_cons_self _ _), h⟩
theorem text_goes_ {p q s : List AV} {t : List Int} {Ro : List Row} {i j : Nat} {Φ : AV → Led → Prop} (Rr : Rm 4 A) (ht : p ++ s = t.map .int) (hsz : (p ++ (q ++ s)).length ≤ 50000) (h1 : 1 ≤ i) (hij : i < j) (hj : j ≤ t.length + 1) (hR : RowsIn own rows Ro) (hb : Ro.length ≤ 80000) (hn : NI nt) (hp : NI pb)
    (h : ∀ rows' Ro' nt' own', (∀ p ∈ own, p ∈ own') → NI nt' → DelRec Ro Ro' (i : Nat) ((t.take (j - 1)).drop (i - 1)) → RowsIn own' rows' Ro' →
      Φ .none (Z pre ⟨⟨T, dT, CL, p ++ (q ++ s), (p.length : Nat), ((p.length + q.length : Nat) : Int)⟩, ⟨B, dB, M, dM, MD, LL, pt, zv, tk, ct, sv⟩, some ⟨R, dR, U, dU, RL, rows', pb, nt'⟩, aa, vv, dd⟩ own')) :
    wpC g A E (.ref f_Recording_text_goes) [.ref R, .ref B, .int (i : Nat), .int (j : Nat)] (Z pre ⟨⟨T, dT, CL, p ++ (q ++ s), (p.length : Nat), ((p.length + q.length : Nat) : Int)⟩, ⟨B, dB, M, dM, MD, LL, pt, zv, tk, ct, sv⟩, some ⟨R, dR, U, dU, RL, rows, pb, nt⟩, aa, vv, dd⟩ own) Φ := by
  refine enterC (FC_text_goes _ _ _ _) Rr fun A' L R' => ?_
  rw [List.map_cons, List.map_nil, List.singleton_append]
  dsimp only
  rw [cv1_self]
  conv => arg 5; whnf
  change wpX g A' _ _ _ (Z ((L, .frame (sScope (mAt 36 2)) [(S "self", some (.ref R)), (S "buffer", some (.ref B)), (S "end", some (.int (j : Nat))), (S "rows", none), (S "runs", none), (S "markers", none), (S "marker", none), (S "piece", none)]) :: (L + 1, cellC (some (.int (i : Nat)))) :: pre) ⟨⟨T, dT, CL, p ++ (q ++ s), (p.length : Nat), ((p.length + q.length : Nat) : Int)⟩, ⟨B, dB, M, dM, MD, LL, pt, zv, tk, ct, sv⟩, some ⟨R, dR, U, dU, RL, rows, pb, nt⟩, aa, vv, dd⟩ own) _
  k_memK
  · intro e; cases e
  intro _
  k_memK
  refine tX_nameE ?_ (by kernel_rfl)
  apply tE_ifP
  · k_subL
  rotate_left
  · intro e; cases e
  intro _
  refine tE_list PL_nil (by unfold Big; simp) fun y => ⟨_, _, _, _, _, rfl, by k_updF, ?_⟩
  refine wX_comp (cl' := [(S "start", L + 1)]) (ns := []) R'.handled ⟨by kernel_rfl, by kernel_rfl, by decide +kernel, by decide +kernel, all0, .nil⟩ (fun _ => rfl) (by kernel_rfl) (PE.use (by k_subL) ?_)
  refine ⟨y, [], fun i ys l' => i = 0 ∧ ys = [] ∧ l' = _, rfl, ⟨fun i ys l' e => by rw [e.2.2]; exact Z_own (.head _), ⟨rfl, rfl, rfl⟩, fun C it D i a ys l' e => by simp at e⟩, fun i ys l' e => by rw [e.2.1]; exact Nat.zero_le _, ?_⟩
  rintro D ys l' ⟨-, rfl, rfl⟩
  refine ⟨_, _, _, Z_frput, by k_updF, wpS.perm Z_new ?_⟩
  refine tX_nameE (tE_list PL_nil (by unfold Big; simp) fun mk => ⟨_, _, _, _, _, rfl, by k_updF, ?_⟩) (by kernel_rfl)
  refine wX_for0 R'.handled (fun _ => rfl) ?_
  k_memK
  refine within_ (Rm.less R' (by decide)) fun own1 z hm1 hz => ⟨z, rfl, Z_own hz, ?_⟩
  refine tX_nameE (wE_call G_Piece keep_Piece Z_fr (by kernel_rfl) (wL_cons ?_ (by kernel_rfl)) (by kernel_rfl) (by kernel_rfl)) (by kernel_rfl)
  k_memK
  have hlt := congrArg List.length ht
  simp only [List.length_append, List.length_map] at hlt
  refine bcodes_ (Rm.less R' (by decide)) (by lia) h1 (Nat.le_of_lt hij) (by lia) fun c => ?_
  refine PL.use' (by k_subL) (wpK_C (new_Piece (Rm.less R' (by decide)) fun P dP => ⟨_, _, _, _, _, rfl, by k_updF, ?_⟩))
  have hcs : ((p ++ s).take (j - 1)).drop (i - 1) = ((t.take (j - 1)).drop (i - 1)).map .int := by rw [ht, List.map_drop, List.map_take]
  rw [hcs]
  have hne : (t.take (j - 1)).drop (i - 1) ≠ [] := by
    intro e
    have := congrArg List.length e
    simp only [List.length_drop, List.length_take, List.length_nil] at this
    lia
  have hm2 : ∀ x ∈ own, x ∈ (P, Cell.inst c_Piece dP) :: (dP, Cell.dict c_Piece [(S "codes", .ref c), (S "runs", .ref D)]) :: (c, Cell.list (((t.take (j - 1)).drop (i - 1)).map .int)) :: own1 := fun x hx => .tail _ (.tail _ (.tail _ (hm1 _ (.tail _ (.tail _ (.tail _ hx))))))
  k_memK
  k_memK
  refine note_delete_ (P := P) (dP := dP) (c := c) (r := D) (mk := mk) (cs := (t.take (j - 1)).drop (i - 1)) R' (hR.more hm2) (by lia) hn hp (.head _) (.tail _ (.head _)) (.tail _ (.tail _ (.head _)))
    (.tail _ (.tail _ (.tail _ (hm1 _ (.tail _ (.head _)))))) hne (.tail _ (.tail _ (.tail _ (hm1 _ (.head _))))) fun rows3 Ro3 nt3 own3 hm3 hn3 hD hR3 => ?_
  exact wX_nil (RetN2 (h _ _ _ _ (fun x hx => hm3 _ (hm2 x hx)) hn3 hD hR3))
end
local macro_rules | `(tactic| k_subL) => `(tactic| first
  | ((with_reducible apply tE_cell); rotate_left 4; (decide +kernel); (all_goals kernel_rfl)))
section
variable {g : Gx} {A : Around} {E : Value → Shared → Prop} {pre own : Led} {T dT CL B dB M dM MD LL R dR U dU RL Ao dA V dV EQ D D0 D1 : Addr} {xs rows big cells : List AV} {gs ge pt zv tk ct sv mn n : Int} {pb nt pn il : AV} {so : PySem.Str} {eq : List (Int × Int)} {gg : Gp} {bb : Bf} {uu : Option Un} {aa : Am} {vv : Ug} {dd : Dk}
theorem tX_tupleS {qual : PySem.Str} {sc : Scope} {L f : Addr} {cd : Value} {vs vs' : List (PySem.Str × Option AV)} {cl : List (PySem.Str × Addr)} {m : Mach} {elts vals : List Expr} {n k : Nat} {tp vp pos : Pos} {rest : List Stmt} {xs : List PySem.Str} {as : List AV} {Φ : Out → Led → Prop} (hh : A.handled = none)
    (hl : PL g A (envX qual sc L f cd cl) (Z ((L, .frame sc vs) :: pre) m own) vp vals as) (hb : as.length ≤ Big)
    (hw : swappedStores [.Tuple elts n tp] (.Tuple vals k vp) (envX qual sc L f cd cl) = pure (some xs)) (hs : swapsWithSole [.Tuple elts n tp] (.Tuple vals k vp) pos.line (envX qual sc L f cd cl) = pure false)
    (hlen : as.length = xs.length) (V : VPuts xs.reverse as.reverse vs vs')
    (h : ∀ z, wpX g A E (envX qual sc L f cd cl) rest (Z ((L, .frame sc vs') :: pre) m ((z, .tup as) :: own)) Φ) : wpX g A E (envX qual sc L f cd cl) (.Assign [.Tuple elts n tp] (.Tuple vals k vp) pos :: rest) (Z ((L, .frame sc vs) :: pre) m own) Φ :=
  wX_tupleS hh (tE_tuple hl hb fun z => ⟨z, as, vs, vs', pre ++ (W m ++ own), rfl, List.Perm.cons _ (Z_new (pre := pre) (m := m) (own := own)).symm, hlen, V, wpS.perm (List.Perm.cons _ (Z_new (pre := pre) (m := m) (own := own))) (h z)⟩) hw hs
theorem tX_tuple {qual : PySem.Str} {sc : Scope} {L f : Addr} {cd : Value} {vs : List (PySem.Str × Option AV)} {cl : List (PySem.Str × Addr)} {m : Mach} {elts : List Expr} {n : Nat} {tp pos : Pos} {e : Expr} {rest : List Stmt} {xs : List PySem.Str} {Φ : Out → Led → Prop} (hh : A.handled = none)
    (hx : Setters (envX qual sc L f cd cl) ((assignEach elts (envX qual sc L f cd cl)).map (·.2)) xs)
    (hn : (assignEach elts (envX qual sc L f cd cl)).length = elts.length) (hst : (assignEach elts (envX qual sc L f cd cl)).findIdx? (·.1) = none)
    (hs : swapsWithSole [.Tuple elts n tp] e pos.line (envX qual sc L f cd cl) = pure false) (hw : swappedStores [.Tuple elts n tp] e (envX qual sc L f cd cl) = pure none)
    (h : wpE g A E (envX qual sc L f cd cl) e (Z ((L, .frame sc vs) :: pre) m own) fun a l => ∃ x as vs0 vs' m' own', a = .ref x ∧ l = Z ((L, .frame sc vs0) :: pre) m' ((x, .tup as) :: own') ∧ as.length = elts.length ∧ VPuts xs as vs0 vs' ∧
      wpX g A E (envX qual sc L f cd cl) rest (Z ((L, .frame sc vs') :: pre) m' ((x, .tup as) :: own')) Φ) : wpX g A E (envX qual sc L f cd cl) (.Assign [.Tuple elts n tp] e pos :: rest) (Z ((L, .frame sc vs) :: pre) m own) Φ :=
  wX_tuple hh (wpS.mono h fun a l z => by
    obtain ⟨x, as, vs0, vs', m', own', e1, e2, hl, V, k⟩ := z
    exact ⟨x, as, vs0, vs', pre ++ (W m' ++ own'), e1, by rw [e2]; exact List.Perm.cons _ (Z_new (pre := pre) (m := m') (own := own')).symm, hl, V, wpS.perm (List.Perm.cons _ (Z_new (pre := pre) (m := m') (own := own'))) k⟩) hx hn hst hs hw
theorem reached_ {i j : Int} {Φ : AV → Led → Prop} (Rr : Rm 1 A) (h1 : 1 ≤ i) (hij : i ≤ j) (hj : j ≤ zv)
    (h : ∀ z own', (∀ p ∈ own, p ∈ own') → Φ (.ref z) (Z pre ⟨gg, ⟨B, dB, M, dM, MD, LL, pt, zv, tk, ct, sv⟩, uu, aa, vv, dd⟩ ((z, .tup [.int i, .int j]) :: own'))) :
    wpC g A E (.ref f_reached) [.ref B, .int i, .int j] (Z pre ⟨gg, ⟨B, dB, M, dM, MD, LL, pt, zv, tk, ct, sv⟩, uu, aa, vv, dd⟩ own) Φ := by
  refine N_reached Rr fun A' L R' => ?_
  conv => arg 5; whnf
  refine tX_tupleS (xs := [S "low", S "high"]) (as := [.int (min i j), .int (max i j)]) R'.handled (by k_subL) (by unfold Big; simp) (by kernel_rfl) (by kernel_rfl) rfl (.cons (by k_updF) (.cons (by k_updF) .nil)) fun z0 => ?_
  rw [show min i j = i by lia, show max i j = j by lia]
  k_memK
  · intro hc
    simp only [Bool.or_false, Bool.or_eq_true, decide_eq_true_eq] at hc
    lia
  intro _
  k_memK
  refine wX_ret (tE_tuple (by k_subL) (by unfold Big; simp) fun z => RetZ (h z _ fun p hp => .tail _ hp))
theorem tell_ahead_ {a b : AV} {Φ : AV → Led → Prop} (Rr : Rm 1 A) (h : ∀ own', (∀ p ∈ own, p ∈ own') → Φ .none (Z pre ⟨gg, ⟨B, dB, M, dM, MD, LL, pt, zv, tk, ct, sv⟩, uu, aa, vv, dd⟩ own')) :
    wpC g A E (.ref f_tell_ahead) [.ref B, a, b] (Z pre ⟨gg, ⟨B, dB, M, dM, MD, LL, pt, zv, tk, ct, sv⟩, uu, aa, vv, dd⟩ own) Φ := by
  refine N_tell_ahead Rr fun A' L R' => ?_
  conv => arg 5; whnf
  refine wX_for0 R'.handled (fun _ => rfl) (wE_typ B_list Z_fr (by kernel_rfl) (PL.use' (by k_subL) (wpK.permR (wK_copy zl_b fun z => ⟨_, Z_new, z, rfl, Z_own (.head _), ?_⟩))) (by kernel_rfl) (by kernel_rfl))
  exact wX_nil (RetN (h _ fun p hp => .tail _ hp))
theorem tell_behind_ {a b c : AV} {Φ : AV → Led → Prop} (Rr : Rm 2 A) (h : ∀ own', (∀ p ∈ own, p ∈ own') → Φ .none (Z pre ⟨gg, ⟨B, dB, M, dM, MD, LL, pt, zv, tk + 1, tk + 1, sv⟩, uu, aa, vv, dd⟩ own')) :
    wpC g A E (.ref f_tell_behind) [.ref B, a, b, c] (Z pre ⟨gg, ⟨B, dB, M, dM, MD, LL, pt, zv, tk, ct, sv⟩, uu, aa, vv, dd⟩ own) Φ := by
  refine N_tell_behind Rr fun A' L R' => ?_
  conv => arg 5; whnf
  k_memK
  k_memK
  refine touch_ R' ?_
  refine wX_for0 R'.handled (fun _ => rfl) (wE_typ B_list Z_fr (by kernel_rfl) (PL.use' (by k_subL) (wpK.permR (wK_copy zl_b fun z => ⟨_, Z_new, z, rfl, Z_own (.head _), ?_⟩))) (by kernel_rfl) (by kernel_rfl))
  exact wX_nil (RetN (h _ fun p hp => .tail _ hp))
theorem pc_hung_out {a b : AV} (Rr : Rm 1 A) : PC g A f_hung_out [.ref B, a, b] (Z pre ⟨gg, ⟨B, dB, M, dM, MD, LL, pt, zv, tk, ct, sv⟩, uu, aa, vv, dd⟩ own) .none := fun E Φ h => by
  refine N_hung_out Rr fun A' L R' => ?_
  conv => arg 5; whnf
  k_memK
  · intro e; cases e
  intro _
  k_memK
  k_memK
  · intro e; cases e
  intro _
  k_memK
  exact wX_nil (RetN h)
theorem pc_hung_in {a b c : AV} (Rr : Rm 1 A) : PC g A f_hung_in [.ref B, a, b, c] (Z pre ⟨gg, ⟨B, dB, M, dM, MD, LL, pt, zv, tk, ct, sv⟩, uu, aa, vv, dd⟩ own) .none := fun E Φ h => by
  refine N_hung_in Rr fun A' L R' => ?_
  conv => arg 5; whnf
  k_memK
  · intro e; cases e
  intro _
  k_memK
  k_memK
  · intro e; cases e
  intro _
  k_memK
  exact wX_nil (RetN h)
end
local macro_rules | `(tactic| k_ownIn) => `(tactic| first
  | ((with_reducible apply pc_hung_out); exact Rm.less (by assumption) (by decide))
  | ((with_reducible apply pc_hung_in); exact Rm.less (by assumption) (by decide)))
section
variable {g : Gx} {A : Around} {E : Value → Shared → Prop} {pre own : Led} {T dT CL B dB M dM MD LL R dR U dU RL Ao dA V dV EQ D D0 D1 : Addr} {xs rows big cells : List AV} {gs ge pt zv tk ct sv mn n : Int} {pb nt pn il : AV} {so : PySem.Str} {eq : List (Int × Int)} {gg : Gp} {bb : Bf} {uu : Option Un} {aa : Am} {vv : Ug} {dd : Dk}
theorem at_b_undoS : Atr (Z pre ⟨gg, ⟨B, dB, M, dM, MD, LL, pt, zv, tk, ct, sv⟩, some ⟨R, dR, U, dU, RL, rows, pb, nt⟩, aa, vv, dd⟩ own) (S "undo") (.ref B) (.ref R) := at_b_undo
theorem at_b_undoN : Atr (Z pre ⟨gg, ⟨B, dB, M, dM, MD, LL, pt, zv, tk, ct, sv⟩, none, aa, vv, dd⟩ own) (S "undo") (.ref B) .none := at_b_undo
local macro_rules | `(tactic| k_clsL) => `(tactic| with_reducible first | exact at_b_undoS | exact at_b_undoN)
inductive GT (T dT CL : Addr) (t : List Int) (g : Gp) : Prop
  | mk (p q s : List AV) (e : g = ⟨T, dT, CL, p ++ (q ++ s), (p.length : Nat), ((p.length + q.length : Nat) : Int)⟩) (h : p ++ s = t.map .int) (hb : (p ++ (q ++ s)).length ≤ 3000) : GT T dT CL t g
noncomputable def insT (t : List Int) (i : Nat) (cs : List Int) : List Int := t.take i ++ (cs ++ t.drop i)
noncomputable def delT (t : List Int) (i j : Nat) : List Int := t.take i ++ t.drop j
theorem text_in0_ {t cs : List Int} {c : Addr} {i : Nat} {Φ : AV → Led → Prop} (Rr : Rm 3 A) (hg : GT T dT CL t gg) (hc : (c, Cell.list (cs.map .int)) ∈ own) (hi : i ≤ t.length) (hl : t.length + cs.length ≤ 2000) (hcl : cs.length ≤ 1000)
    (h : ∀ gg' pt', GT T dT CL (insT t i cs) gg' → Φ .none (Z pre ⟨gg', ⟨B, dB, M, dM, MD, LL, pt', zv + (cs.length : Nat), tk, ct, sv⟩, none, aa, vv, dd⟩ own)) :
    wpC g A E (.ref f_text_in) [.ref B, .int ((i : Nat) + 1), .ref c] (Z pre ⟨gg, ⟨B, dB, M, dM, MD, LL, pt, zv, tk, ct, sv⟩, none, aa, vv, dd⟩ own) Φ := by
  obtain ⟨p, q, s, rfl, ht, hb⟩ := hg
  have hlt := congrArg List.length ht
  simp only [List.length_append, List.length_map] at hlt hb
  refine N_text_in Rr fun A' L R' => ?_
  conv => arg 5; whnf
  k_memK
  · intro e; cases e
  intro _
  k_memK
  k_memK
  k_memK
  rw [show ((i : Nat) : Int) + 1 - 1 = (i : Nat) by lia]
  refine insert_ (cs := cs.map .int) R' (by simp only [List.length_append]; lia) hc (by simpa using hcl) (by lia) fun p' q' s' e1 e2 => ?_
  k_memK
  rw [List.length_map]
  have hG : GT T dT CL (insT t i cs) ⟨T, dT, CL, p' ++ (q' ++ s'), (p'.length : Nat), ((p'.length + q'.length : Nat) : Int)⟩ :=
    ⟨p', q', s', rfl, by rw [e1, ht]; simp [insT, List.map_take, List.map_drop], by simp only [List.length_append, List.length_map] at *; lia⟩
  k_memK
  · intro _
    k_memK
    k_memK
    exact wX_nil (RetN (h _ _ hG))
  · intro _
    k_memK
    exact wX_nil (RetN (h _ _ hG))
theorem text_in_ {t cs : List Int} {c : Addr} {i : Nat} {Ro : List Row} {Φ : AV → Led → Prop} (Rr : Rm 5 A) (hg : GT T dT CL t gg) (hc : (c, Cell.list (cs.map .int)) ∈ own) (hi : i ≤ t.length) (hl : t.length + cs.length ≤ 2000) (hcl : cs.length ≤ 1000) (h0 : cs ≠ [])
    (hR : RowsIn own rows Ro) (hb : Ro.length ≤ 80000) (hn : NI nt) (hp : NI pb)
    (h : ∀ gg' pt' rows' Ro' nt' own', (∀ p ∈ own, p ∈ own') → GT T dT CL (insT t i cs) gg' → NI nt' → InsRec Ro Ro' ((i : Nat) + 1) (cs.length : Nat) → RowsIn own' rows' Ro' →
      Φ .none (Z pre ⟨gg', ⟨B, dB, M, dM, MD, LL, pt', zv + (cs.length : Nat), tk, ct, sv⟩, some ⟨R, dR, U, dU, RL, rows', pb, nt'⟩, aa, vv, dd⟩ own')) :
    wpC g A E (.ref f_text_in) [.ref B, .int ((i : Nat) + 1), .ref c] (Z pre ⟨gg, ⟨B, dB, M, dM, MD, LL, pt, zv, tk, ct, sv⟩, some ⟨R, dR, U, dU, RL, rows, pb, nt⟩, aa, vv, dd⟩ own) Φ := by
  obtain ⟨p, q, s, rfl, ht, hb2⟩ := hg
  have hlt := congrArg List.length ht
  simp only [List.length_append, List.length_map] at hlt hb2
  refine N_text_in Rr fun A' L R' => ?_
  conv => arg 5; whnf
  k_memK
  rotate_left
  · intro e; cases e
  intro _
  k_memK
  k_memK
  rw [List.length_map]
  refine text_comes_ (Rm.less R' (by decide)) hR hb hn hp (by have := List.length_pos_iff.mpr h0; lia) fun rows1 Ro1 nt1 own1 hm1 hn1 hI hR1 => ?_
  have hc1 := hm1 _ hc
  k_memK
  k_memK
  k_memK
  rw [show ((i : Nat) : Int) + 1 - 1 = (i : Nat) by lia]
  refine insert_ (cs := cs.map .int) (Rm.less R' (by decide)) (by simp only [List.length_append]; lia) hc1 (by simpa using hcl) (by lia) fun p' q' s' e1 e2 => ?_
  k_memK
  rw [List.length_map]
  have hG : GT T dT CL (insT t i cs) ⟨T, dT, CL, p' ++ (q' ++ s'), (p'.length : Nat), ((p'.length + q'.length : Nat) : Int)⟩ :=
    ⟨p', q', s', rfl, by rw [e1, ht]; simp [insT, List.map_take, List.map_drop], by simp only [List.length_append, List.length_map] at *; lia⟩
  k_memK
  · intro _
    k_memK
    k_memK
    exact wX_nil (RetN (h _ _ _ _ _ _ hm1 hG hn1 hI hR1))
  · intro _
    k_memK
    exact wX_nil (RetN (h _ _ _ _ _ _ hm1 hG hn1 hI hR1))
end
local macro_rules | `(tactic| k_clsL) => `(tactic| with_reducible first | exact at_b_undoS | exact at_b_undoN)
section
variable {g : Gx} {A : Around} {E : Value → Shared → Prop} {pre own : Led} {T dT CL B dB M dM MD LL R dR U dU RL Ao dA V dV EQ D D0 D1 : Addr} {xs rows big cells : List AV} {gs ge pt zv tk ct sv mn n : Int} {pb nt pn il : AV} {so : PySem.Str} {eq : List (Int × Int)} {gg : Gp} {bb : Bf} {uu : Option Un} {aa : Am} {vv : Ug} {dd : Dk}
theorem text_out_ {t : List Int} {i j : Nat} {Ro : List Row} {Φ : AV → Led → Prop} (Rr : Rm 5 A) (hg : GT T dT CL t gg) (hij : i < j) (hj : j ≤ t.length) (hl : t.length ≤ 2000) (hpt : pt ≤ (i : Nat) + 1)
    (hR : RowsIn own rows Ro) (hb : Ro.length ≤ 80000) (hn : NI nt) (hp : NI pb)
    (h : ∀ z gg' rows' Ro' nt' own', (∀ p ∈ own, p ∈ own') → GT T dT CL (delT t i j) gg' → NI nt' → DelRec Ro Ro' ((i + 1 : Nat) : Int) ((t.take j).drop i) → RowsIn own' rows' Ro' →
      Φ (.ref z) (Z pre ⟨gg', ⟨B, dB, M, dM, MD, LL, pt, zv - ((j : Nat) - (i : Nat) : Int), tk, ct, sv⟩, some ⟨R, dR, U, dU, RL, rows', pb, nt'⟩, aa, vv, dd⟩ own')) :
    wpC g A E (.ref f_text_out) [.ref B, .int ((i : Nat) + 1), .int ((j : Nat) + 1)] (Z pre ⟨gg, ⟨B, dB, M, dM, MD, LL, pt, zv, tk, ct, sv⟩, some ⟨R, dR, U, dU, RL, rows, pb, nt⟩, aa, vv, dd⟩ own) Φ := by
  obtain ⟨p, q, s, rfl, ht, hb2⟩ := hg
  have hlt := congrArg List.length ht
  simp only [List.length_append, List.length_map] at hlt hb2
  refine N_text_out Rr fun A' L R' => ?_
  conv => arg 5; whnf
  k_memK
  rotate_left
  · intro e; cases e
  intro _
  k_memK
  k_memK
  refine text_goes_ (t := t) (i := i + 1) (j := j + 1) R' ht (by simp only [List.length_append]; lia) (by lia) (by lia) (by lia) hR hb hn hp fun rows1 Ro1 nt1 own1 hm1 hn1 hD hR1 => ?_
  k_memK
  refine tX_nameE ?_ (by kernel_rfl)
  k_memK
  rw [show ((i : Nat) : Int) + 1 - 1 = (i : Nat) by lia, show ((j : Nat) : Int) + 1 - 1 = (j : Nat) by lia]
  refine delete_ (Rm.less R' (by decide)) (by simp only [List.length_append]; lia) (Nat.le_of_lt hij) (by lia) fun z p' q' s' e1 e2 => ⟨_, _, _, _, _, rfl, by k_updF, ?_⟩
  k_memK
  k_memK
  · intro e
    have : pt > (i : Nat) + 1 := of_decide_eq_true e
    lia
  intro _
  k_memK
  refine wX_ret (PE.use (by k_subL) (RetZ ?_))
  have hz : zv - ((j : Nat) + 1 - ((i : Nat) + 1) : Int) = zv - ((j : Nat) - (i : Nat) : Int) := by lia
  rw [hz]
  refine h z _ _ _ _ _ (fun x hx => .tail _ (hm1 _ hx)) ⟨p', q', s', rfl, by rw [e1, ht]; simp [delT, List.map_take, List.map_drop], by rw [e2]; simp only [List.length_append]; lia⟩ hn1 ?_ (hR1.more fun x hx => .tail _ hx)
  simpa using hD
theorem put_in_gen {t cs : List Int} {c : Addr} {i : Nat} {b : Bool} {Φ : AV → Led → Prop} (Rr : Rm 6 A) (hg : GT T dT CL t gg) (hc : (c, Cell.list (cs.map .int)) ∈ own) (hzv : zv = (t.length : Nat) + 1) (hi : i ≤ t.length) (hl : t.length + cs.length ≤ 2000) (h0 : cs ≠ [])
    (J : Gp → Option Un → Led → Prop)
    (H : ∀ A' pre' own1 (E' : Value → Shared → Prop) (Φ' : AV → Led → Prop), Rm 5 A' → (∀ p ∈ own, p ∈ own1) →
      (∀ gg' pt' uu' own', (∀ p ∈ own1, p ∈ own') → J gg' uu' own' → Φ' .none (Z pre' ⟨gg', ⟨B, dB, M, dM, MD, LL, pt', zv + (cs.length : Nat), tk, ct, sv⟩, uu', aa, vv, dd⟩ own')) →
      wpC g A' E' (.ref f_text_in) [.ref B, .int ((i : Nat) + 1), .ref c] (Z pre' ⟨gg, ⟨B, dB, M, dM, MD, LL, pt, zv, tk, ct, sv⟩, uu, aa, vv, dd⟩ own1) Φ')
    (h : ∀ gg' uu' own1 own2, (∀ p ∈ own, p ∈ own2) → J gg' uu' own1 → (∀ p ∈ own1, p ∈ own2) → Φ .none (Z pre ⟨gg', ⟨B, dB, M, dM, MD, LL, (i : Nat) + 1 + (cs.length : Nat), zv + (cs.length : Nat), tk + 1, tk + 1, sv⟩, uu', aa, vv, dd⟩ own2)) :
    wpC g A E (.ref f_put_in) [.ref B, .int ((i : Nat) + 1), .ref c, .bool b, .bool true] (Z pre ⟨gg, ⟨B, dB, M, dM, MD, LL, pt, zv, tk, ct, sv⟩, uu, aa, vv, dd⟩ own) Φ := by
  obtain ⟨p, q, s, rfl, ht, hb2⟩ := hg
  have hlt := congrArg List.length ht
  simp only [List.length_append, List.length_map] at hlt
  subst hzv
  refine N_put_in Rr fun A' L R' => ?_
  conv => arg 5; whnf
  k_memK
  k_memK
  refine need_writable_ (Rm.less R' (by decide)) _ _ ?_
  k_memK
  k_memK
  refine reached_ (Rm.less R' (by decide)) (by lia) (Int.le_refl _) (by lia) fun z own1 hm1 => ?_
  have hc1 : (c, Cell.list (cs.map .int)) ∈ (z, Cell.tup [.int ((i : Nat) + 1), .int ((i : Nat) + 1)]) :: own1 := .tail _ (hm1 _ hc)
  k_memK
  · intro e
    have : cs.length = 0 := by simpa using e
    exact absurd (List.length_eq_zero_iff.mp this) h0
  intro _
  k_memK
  k_memK
  k_memK
  refine need_room_ (Rm.less R' (by decide)) (by simp only [List.length_append, List.length_map]; lia) _ _ ?_
  k_memK
  k_memK
  refine tell_ahead_ (Rm.less R' (by decide)) fun own2 hm2 => ?_
  have hc2 := hm2 _ hc1
  k_memK
  k_memK
  refine H A' _ own2 _ _ R' (fun x hx => hm2 _ (.tail _ (hm1 _ hx))) fun gg' pt' uu' own3 hm3 hJ => ?_
  have hc3 := hm3 _ hc2
  k_memK
  rotate_left
  · intro e; cases e
  intro _
  k_memK
  k_memK
  k_memK
  k_memK
  refine inserted_ (Rm.less R' (by decide)) fun own4 hm4 => ?_
  have hc4 := hm4 _ hc3
  k_memK
  k_memK
  refine pc_hung_in (Rm.less R' (by decide)) _ _ ?_
  k_memK
  k_memK
  refine tell_behind_ (Rm.less R' (by decide)) fun own5 hm5 => ?_
  rw [List.length_map]
  exact wX_nil (RetN (h _ _ _ _ (fun x hx => hm5 _ (hm4 _ (hm3 _ (hm2 _ (.tail _ (hm1 _ hx)))))) hJ fun x hx => hm5 _ (hm4 _ hx)))
end
section
variable {g : Gx} {A : Around} {E : Value → Shared → Prop} {pre own : Led} {T dT CL B dB M dM MD LL R dR U dU RL Ao dA V dV EQ D D0 D1 : Addr} {xs rows big cells : List AV} {gs ge pt zv tk ct sv mn n : Int} {pb nt pn il : AV} {so : PySem.Str} {eq : List (Int × Int)} {gg : Gp} {bb : Bf} {uu : Option Un} {aa : Am} {vv : Ug} {dd : Dk}
theorem ed_insert0 {t cs : List Int} {c : Addr} {i : Nat} {Φ : AV → Led → Prop} (Rr : Rm 7 A) (hg : GT T dT CL t gg) (hc : (c, Cell.list (cs.map .int)) ∈ own) (hzv : zv = (t.length : Nat) + 1) (hpt : pt = (i : Nat) + 1) (hi : i ≤ t.length) (hl : t.length + cs.length ≤ 1000) (h0 : cs ≠ [])
    (h : ∀ gg' own', (∀ p ∈ own, p ∈ own') → GT T dT CL (insT t i cs) gg' → Φ .none (Z pre ⟨gg', ⟨B, dB, M, dM, MD, LL, (i : Nat) + 1 + (cs.length : Nat), zv + (cs.length : Nat), tk + 1, tk + 1, sv⟩, none, aa, vv, dd⟩ own')) :
    wpC g A E (.ref f_insert) [.ref B, .ref c] (Z pre ⟨gg, ⟨B, dB, M, dM, MD, LL, pt, zv, tk, ct, sv⟩, none, aa, vv, dd⟩ own) Φ := by
  subst hpt
  refine N_insert Rr fun A' L R' => ?_
  conv => arg 5; whnf
  k_memK
  k_memK
  refine put_in_gen R' hg hc hzv hi (by lia) h0 (fun g' u' o' => GT T dT CL (insT t i cs) g' ∧ u' = none) (fun A2 pre' own1 E' Φ' R2 hm hk => ?_) ?_
  · exact text_in0_ (Rm.less R2 (by decide)) hg (hm _ hc) hi (by lia) (by lia) fun gg' pt' hG => hk _ _ _ _ (fun _ hx => hx) ⟨hG, rfl⟩
  · rintro gg' uu' own1 own2 hm ⟨hG, rfl⟩ -
    exact wX_nil (RetN (h _ _ hm hG))
theorem ed_insert {t cs : List Int} {c : Addr} {i : Nat} {Ro : List Row} {Φ : AV → Led → Prop} (Rr : Rm 7 A) (hg : GT T dT CL t gg) (hc : (c, Cell.list (cs.map .int)) ∈ own) (hzv : zv = (t.length : Nat) + 1) (hpt : pt = (i : Nat) + 1) (hi : i ≤ t.length) (hl : t.length + cs.length ≤ 1000) (h0 : cs ≠ [])
    (hR : RowsIn own rows Ro) (hb : Ro.length ≤ 80000) (hn : NI nt) (hp : NI pb)
    (h : ∀ gg' rows' Ro' nt' own', (∀ p ∈ own, p ∈ own') → GT T dT CL (insT t i cs) gg' → NI nt' → InsRec Ro Ro' ((i : Nat) + 1) (cs.length : Nat) → RowsIn own' rows' Ro' →
      Φ .none (Z pre ⟨gg', ⟨B, dB, M, dM, MD, LL, (i : Nat) + 1 + (cs.length : Nat), zv + (cs.length : Nat), tk + 1, tk + 1, sv⟩, some ⟨R, dR, U, dU, RL, rows', pb, nt'⟩, aa, vv, dd⟩ own')) :
    wpC g A E (.ref f_insert) [.ref B, .ref c] (Z pre ⟨gg, ⟨B, dB, M, dM, MD, LL, pt, zv, tk, ct, sv⟩, some ⟨R, dR, U, dU, RL, rows, pb, nt⟩, aa, vv, dd⟩ own) Φ := by
  subst hpt
  refine N_insert Rr fun A' L R' => ?_
  conv => arg 5; whnf
  k_memK
  k_memK
  refine put_in_gen R' hg hc hzv hi (by lia) h0 (fun g' u' o' => GT T dT CL (insT t i cs) g' ∧ ∃ rows' Ro' nt', u' = some ⟨R, dR, U, dU, RL, rows', pb, nt'⟩ ∧ NI nt' ∧ InsRec Ro Ro' ((i : Nat) + 1) (cs.length : Nat) ∧ RowsIn o' rows' Ro') (fun A2 pre' own1 E' Φ' R2 hm hk => ?_) ?_
  · exact text_in_ (Rm.less R2 (by decide)) hg (hm _ hc) hi (by lia) (by lia) h0 (hR.more hm) hb hn hp fun gg' pt' rows' Ro' nt' own' hm2 hG hn2 hI hR2 => hk _ _ _ _ hm2 ⟨hG, _, _, _, rfl, hn2, hI, hR2⟩
  · rintro gg' uu' own1 own2 hm ⟨hG, rows', Ro', nt', rfl, hn2, hI, hR2⟩ hm2
    exact wX_nil (RetN (h _ _ _ _ _ hm hG hn2 hI (hR2.more hm2)))
theorem ed_delete {t : List Int} {i j : Nat} {Ro : List Row} {Φ : AV → Led → Prop} (Rr : Rm 6 A) (hg : GT T dT CL t gg) (hzv : zv = (t.length : Nat) + 1) (hij : i < j) (hj : j ≤ t.length) (hl : t.length ≤ 1000) (hpt : pt ≤ (i : Nat) + 1)
    (hR : RowsIn own rows Ro) (hb : Ro.length ≤ 80000) (hn : NI nt) (hp : NI pb)
    (h : ∀ a gg' rows' Ro' nt' own', (∀ p ∈ own, p ∈ own') → GT T dT CL (delT t i j) gg' → NI nt' → DelRec Ro Ro' ((i + 1 : Nat) : Int) ((t.take j).drop i) → RowsIn own' rows' Ro' →
      Φ a (Z pre ⟨gg', ⟨B, dB, M, dM, MD, LL, pt, zv - ((j : Nat) - (i : Nat) : Int), tk + 1, tk + 1, sv⟩, some ⟨R, dR, U, dU, RL, rows', pb, nt'⟩, aa, vv, dd⟩ own')) :
    wpC g A E (.ref f_delete) [.ref B, .int ((i : Nat) + 1), .int ((j : Nat) + 1)] (Z pre ⟨gg, ⟨B, dB, M, dM, MD, LL, pt, zv, tk, ct, sv⟩, some ⟨R, dR, U, dU, RL, rows, pb, nt⟩, aa, vv, dd⟩ own) Φ := by
  subst hzv
  refine N_delete Rr fun A' L R' => ?_
  conv => arg 5; whnf
  k_memK
  k_memK
  refine need_writable_ (Rm.less R' (by decide)) _ _ ?_
  refine tX_tuple (xs := [S "low", S "high"]) R'.handled (.cons setterN (.cons setterN .nil)) (by kernel_rfl) (by kernel_rfl) (by kernel_rfl) (by kernel_rfl) ?_
  k_memK
  refine reached_ (Rm.less R' (by decide)) (by lia) (by lia) (by lia) fun z own1 hm1 => ⟨z, _, _, _, _, _, rfl, rfl, rfl, .cons (by k_updF) (.cons (by k_updF) .nil), ?_⟩
  k_memK
  · intro e
    have : ((i : Nat) : Int) + 1 = (j : Nat) + 1 := by simpa using e
    lia
  intro _
  k_memK
  k_memK
  k_memK
  refine tell_ahead_ (Rm.less R' (by decide)) fun own2 hm2 => ?_
  have hm02 : ∀ x ∈ own, x ∈ own2 := fun x hx => hm2 _ (.tail _ (hm1 _ hx))
  refine tX_nameE ?_ (by kernel_rfl)
  k_memK
  refine text_out_ R' hg hij hj (by lia) hpt (hR.more hm02) hb hn hp fun z2 gg' rows' Ro' nt' own3 hm3 hG hn3 hD hR3 => ⟨_, _, _, _, _, rfl, by k_updF, ?_⟩
  k_memK
  k_memK
  refine deleted_ (Rm.less R' (by decide)) fun own4 hm4 => ?_
  k_memK
  k_memK
  refine pc_hung_out (Rm.less R' (by decide)) _ _ ?_
  k_memK
  k_memK
  refine tell_behind_ (Rm.less R' (by decide)) fun own5 hm5 => ?_
  refine wX_ret (PE.use (by k_subL) (RetZ (h _ _ _ _ _ _ (fun x hx => hm5 _ (hm4 _ (hm3 _ (hm02 _ hx)))) hG hn3 hD (hR3.more fun x hx => hm5 _ (hm4 _ hx)))))
end
section
variable {g : Gx} {A : Around} {E : Value → Shared → Prop} {pre own : Led} {T dT CL B dB M dM MD LL R dR U dU RL Ao dA V dV EQ D D0 D1 : Addr} {xs rows big cells : List AV} {gs ge pt zv tk ct sv mn n : Int} {pb nt pn il : AV} {so : PySem.Str} {eq : List (Int × Int)} {gg : Gp} {bb : Bf} {uu : Option Un} {aa : Am} {vv : Ug} {dd : Dk}
theorem tupOwn {m : Mach} {x : Addr} {xs : List AV} (h : (x, Cell.tup xs) ∈ own) : TupAt (Z pre m own) x xs := .inl (Z_own h)
theorem tE_itemC {env : Env} {led : Led} {o : Expr} {kd : Nat} {p pos : Pos} {i : Int} {x : Addr} {xs : List AV} {a : AV} (ho : PE g A env led o (.ref x)) (hm : TupAt led x xs) (hk : xs[i.toNat]? = some a) (h0 : (decide (0 ≤ i) && decide (i < 1000)) = true) :
    PE g A env led (.Subscript o (.Constant (.int i) kd p) pos) a := by
  rw [Bool.and_eq_true, decide_eq_true_eq, decide_eq_true_eq] at h0
  obtain ⟨k, rfl⟩ : ∃ k : Nat, i = k := ⟨i.toNat, by lia⟩
  exact PE_itemT ho PE_int hm hk (by lia) rfl
theorem PT_subscr {env : Env} {led : Led} {e i : Expr} {p : Pos} {a : AV} {c : Bool} (h : PE g A env led (.Subscript e i p) a) (b : TruIs a c) : PT g A env led (.Subscript e i p) c :=
  PT.mk' fun s E S Q k => isTrue_plain (h.out S fun v s1 hv S1 => tru_ b hv (k _ S1))
local macro_rules | `(tactic| k_subL) => `(tactic| first
  | ((with_reducible apply tE_itemC); · k_subL
     · (with_reducible apply tupOwn); assumption
     · rfl
     rfl)
  | ((with_reducible apply PT_subscr); · k_subL
     k_upd))
theorem PT.falseE {env : Env} {led : Led} {e : Expr} {Φ : Bool → Led → Prop} (h : ∃ c, c = false ∧ PT g A env led e c) (k : Φ false led) : wpT g A E env e led Φ := by
  obtain ⟨c, rfl, h⟩ := h
  exact h.use k
theorem insert_piece_ {t cs : List Int} {P dP c r : Addr} {i : Nat} {Ro : List Row} {Φ : AV → Led → Prop} (Rr : Rm 8 A) (hg : GT T dT CL t gg) (hP : (P, Cell.inst c_Piece dP) ∈ own) (hd : (dP, Cell.dict c_Piece [(S "codes", .ref c), (S "runs", .ref r)]) ∈ own) (hc : (c, Cell.list (cs.map .int)) ∈ own)
    (hzv : zv = (t.length : Nat) + 1) (hpt : pt = (i : Nat) + 1) (hi : i ≤ t.length) (hl : t.length + cs.length ≤ 1000) (h0 : cs ≠ [])
    (hR : RowsIn own rows Ro) (hb : Ro.length ≤ 80000) (hn : NI nt) (hp : NI pb)
    (h : ∀ gg' rows' Ro' nt' own', (∀ p ∈ own, p ∈ own') → GT T dT CL (insT t i cs) gg' → NI nt' → InsRec Ro Ro' ((i : Nat) + 1) (cs.length : Nat) → RowsIn own' rows' Ro' →
      Φ .none (Z pre ⟨gg', ⟨B, dB, M, dM, MD, LL, (i : Nat) + 1 + (cs.length : Nat), zv + (cs.length : Nat), tk + 1, tk + 1, sv⟩, some ⟨R, dR, U, dU, RL, rows', pb, nt'⟩, aa, vv, dd⟩ own')) :
    wpC g A E (.ref f_insert_piece) [.ref B, .ref P] (Z pre ⟨gg, ⟨B, dB, M, dM, MD, LL, pt, zv, tk, ct, sv⟩, some ⟨R, dR, U, dU, RL, rows, pb, nt⟩, aa, vv, dd⟩ own) Φ := by
  refine enterC (FC_insert_piece _ _) Rr fun A' L R' => ?_
  rw [List.map_cons, List.map_nil, List.singleton_append]
  dsimp only
  conv => arg 5; whnf
  change wpX g A' _ _ _ (Z ((L, .frame (sScope (stAt 45)) [(S "buffer", some (.ref B)), (S "piece", some (.ref P)), (S "rows", none)]) :: (L + 1, cellC none) :: pre) ⟨gg, ⟨B, dB, M, dM, MD, LL, pt, zv, tk, ct, sv⟩, some ⟨R, dR, U, dU, RL, rows, pb, nt⟩, aa, vv, dd⟩ own) _
  refine wX_cell (c := L + 1) (by kernel_rfl) (by kernel_rfl) (by kernel_rfl) (by kernel_rfl) (PE.use (by k_subL) ⟨_, _, .tail .head, ?_⟩)
  change wpX g A' _ _ _ (Z ((L, .frame (sScope (stAt 45)) [(S "buffer", some (.ref B)), (S "piece", some (.ref P)), (S "rows", none)]) :: (L + 1, cellC (some (.int pt))) :: pre) ⟨gg, ⟨B, dB, M, dM, MD, LL, pt, zv, tk, ct, sv⟩, some ⟨R, dR, U, dU, RL, rows, pb, nt⟩, aa, vv, dd⟩ own) _
  k_memK
  k_memK
  refine ed_insert R' hg hc hzv hpt hi hl h0 hR hb hn hp fun gg' rows' Ro' nt' own' hm hG hn2 hI hR2 => ?_
  refine tX_if (c := (!AV.none.isNone) && false) (PT_and (by k_subL) fun e => by cases e) (fun e => by cases e) (fun _ => ?_)
  k_memK
  exact wX_nil (RetN2 (h _ _ _ _ _ hm hG hn2 hI hR2))
theorem markers_ahead_ {m : Mach} {X : Addr} {xs : List AV} {Ro : List Row} {k : Nat} {Φ : AV → Led → Prop} (Rr : Rm 1 A) (hX : (X, Cell.list xs) ∈ own) (hR : RowsIn own xs Ro) (hk : k ≤ Ro.length)
    (h : ∀ z, Φ (.ref z) (Z pre m ((z, .list []) :: own))) : wpC g A E (.ref f_markers_ahead) [.ref X, .int (k : Nat)] (Z pre m own) Φ := by
  refine N_markers_ahead Rr fun A' L R' => ?_
  conv => arg 5; whnf
  refine tX_nameE (tE_list PL_nil (by unfold Big; simp) fun z => ⟨_, _, _, _, _, rfl, by k_updF, ?_⟩) (by kernel_rfl)
  refine wX_while (n := 0) (fun n vs l => n = 0 ∧ vs = _ ∧ l = _) ⟨rfl, rfl, rfl⟩ ?_
  rintro n vs l ⟨rfl, rfl, rfl⟩
  change wpT g A' _ _ _ (Z ((L, Cell.frame (sScope (stAt 50)) [(S "rows", some (.ref X)), (S "at", some (.int (k : Nat))), (S "found", some (.ref z))]) :: pre) m ((z, .list []) :: own)) _
  refine PT.falseE ?_ ?_
  · rcases Nat.eq_zero_or_pos k with h0 | h0
    · refine ⟨decide (((k : Nat) : Int) > 0) && false, by simp, PT_and (by k_subL) fun e => ?_⟩
      have := of_decide_eq_true e
      lia
    · have hlx := hR.length
      obtain ⟨r, hr⟩ : ∃ r, Ro[k - 1]? = some r := ⟨_, List.getElem?_eq_getElem (by lia)⟩
      obtain ⟨a, ha, hir⟩ := hR.get _ hr
      obtain ⟨x, rest, rfl, htup⟩ := hir.tup
      have hw : (r.wd == S "marker") = false := by cases r <;> kernel_rfl
      refine ⟨decide (((k : Nat) : Int) > 0) && ((r.wd == S "marker") && true), by rw [hw]; simp, PT_and (by k_subL) fun _ => PT_and (tT_cmp (tE_itemT (x := x) (xs := .str r.wd :: rest) 0 ?_ rfl (by decide) rfl ?_ PE_int) (by k_subL) .seq (by kernel_rfl)) fun _ => PT_andN⟩
      · rcases (htup pre m).1 with h1 | h1
        · rcases List.mem_append.mp h1 with h1 | h1
          · exact .inl (.tail _ (List.mem_append_left _ h1))
          · rcases List.mem_append.mp h1 with h1 | h1
            · exact .inl (.tail _ (List.mem_append_right _ (List.mem_append_left _ h1)))
            · exact .inl (.tail _ (List.mem_append_right _ (List.mem_append_right _ (.tail _ h1))))
        · exact .inr h1
      · refine PE_item (x := X) (xs := xs) (by k_subL) (by k_subL) (Z_own (.tail _ hX)) (.inl ⟨by lia, ?_⟩) rfl
        rw [show (((k : Nat) : Int) - 1).toNat = k - 1 by lia]; exact ha
  rw [if_neg (by decide)]
  exact wX_ret (PE.use (by k_subL) (RetZ (h z)))
end
local macro_rules | `(tactic| k_subL) => `(tactic| first
  | ((with_reducible apply tE_itemC); · k_subL
     · (with_reducible apply tupOwn); assumption
     · rfl
     rfl)
  | ((with_reducible apply PT_subscr); · k_subL
     k_upd))
section
variable {g : Gx} {A : Around} {E : Value → Shared → Prop} {pre own : Led} {T dT CL B dB M dM MD LL R dR U dU RL Ao dA V dV EQ D D0 D1 : Addr} {xs rows big cells : List AV} {gs ge pt zv tk ct sv mn n : Int} {pb nt pn il : AV} {so : PySem.Str} {eq : List (Int × Int)} {gg : Gp} {bb : Bf} {uu : Option Un} {aa : Am} {vv : Ug} {dd : Dk}
theorem undo_insert_ {t : List Int} {x : Addr} {i j : Nat} {Ro : List Row} {Φ : AV → Led → Prop} (Rr : Rm 7 A) (hg : GT T dT CL t gg) (hx : (x, Cell.tup [.str (S "insert"), .int ((i : Nat) + 1), .int ((j : Nat) + 1)]) ∈ own) (hzv : zv = (t.length : Nat) + 1) (hij : i < j) (hj : j ≤ t.length) (hl : t.length ≤ 1000)
    (hR : RowsIn own rows Ro) (hb : Ro.length ≤ 80000) (hn : NI nt) (hp : NI pb)
    (h : ∀ gg' rows' Ro' nt' own', (∀ p ∈ own, p ∈ own') → GT T dT CL (delT t i j) gg' → NI nt' → DelRec Ro Ro' ((i + 1 : Nat) : Int) ((t.take j).drop i) → RowsIn own' rows' Ro' →
      Φ .none (Z pre ⟨gg', ⟨B, dB, M, dM, MD, LL, (i : Nat) + 1, zv - ((j : Nat) - (i : Nat) : Int), tk + 1, tk + 1, sv⟩, some ⟨R, dR, U, dU, RL, rows', pb, nt'⟩, aa, vv, dd⟩ own')) :
    wpC g A E (.ref f_undo_insert) [.ref B, .ref x] (Z pre ⟨gg, ⟨B, dB, M, dM, MD, LL, pt, zv, tk, ct, sv⟩, some ⟨R, dR, U, dU, RL, rows, pb, nt⟩, aa, vv, dd⟩ own) Φ := by
  refine N_undo_insert Rr fun A' L R' => ?_
  conv => arg 5; whnf
  k_memK
  k_memK
  refine need_visible_ (Rm.less R' (by decide)) (by lia) (by lia) _ _ ?_
  k_memK
  k_memK
  refine goto_ (Rm.less R' (by decide)) ?_
  rw [show min (max (((i : Nat) : Int) + 1) 1) zv = (i : Nat) + 1 by lia]
  k_memK
  k_memK
  refine ed_delete R' hg hzv hij hj hl (Int.le_refl _) hR hb hn hp fun a gg' rows' Ro' nt' own' hm hG hn2 hD hR2 => ?_
  exact wX_nil (RetN (h _ _ _ _ _ hm hG hn2 hD hR2))
theorem undo_delete_ {t cs : List Int} {x P dP c r mk : Addr} {fl : Bool} {i : Nat} {Ro : List Row} {Φ : AV → Led → Prop} (Rr : Rm 9 A) (hg : GT T dT CL t gg) (hx : (x, Cell.tup [.str (S "delete"), .int ((i : Nat) + 1), .ref P, .bool fl]) ∈ own)
    (hP : (P, Cell.inst c_Piece dP) ∈ own) (hd : (dP, Cell.dict c_Piece [(S "codes", .ref c), (S "runs", .ref r)]) ∈ own) (hc : (c, Cell.list (cs.map .int)) ∈ own) (hmk : (mk, Cell.list []) ∈ own)
    (hzv : zv = (t.length : Nat) + 1) (hi : i ≤ t.length) (hl : t.length + cs.length ≤ 1000) (h0 : cs ≠ [])
    (hR : RowsIn own rows Ro) (hb : Ro.length ≤ 80000) (hn : NI nt) (hp : NI pb)
    (h : ∀ gg' pt' rows' Ro' nt' own', (∀ p ∈ own, p ∈ own') → GT T dT CL (insT t i cs) gg' → 1 ≤ pt' → pt' ≤ zv + (cs.length : Nat) → NI nt' → InsRec Ro Ro' ((i : Nat) + 1) (cs.length : Nat) → RowsIn own' rows' Ro' →
      Φ .none (Z pre ⟨gg', ⟨B, dB, M, dM, MD, LL, pt', zv + (cs.length : Nat), tk + 1, tk + 1, sv⟩, some ⟨R, dR, U, dU, RL, rows', pb, nt'⟩, aa, vv, dd⟩ own')) :
    wpC g A E (.ref f_undo_delete) [.ref B, .ref x, .ref mk] (Z pre ⟨gg, ⟨B, dB, M, dM, MD, LL, pt, zv, tk, ct, sv⟩, some ⟨R, dR, U, dU, RL, rows, pb, nt⟩, aa, vv, dd⟩ own) Φ := by
  refine N_undo_delete Rr fun A' L R' => ?_
  conv => arg 5; whnf
  k_memK
  k_memK
  refine need_visible_ (Rm.less R' (by decide)) (by lia) (by lia) _ _ ?_
  refine tX_nameE (tE_list PL_nil (by unfold Big; simp) fun va => ⟨_, _, _, _, _, rfl, by k_updF, ?_⟩) (by kernel_rfl)
  refine wX_for0 R'.handled (fun _ => rfl) (PE.use (by k_subL) ⟨mk, rfl, Z_own (.tail _ hmk), ?_⟩)
  have hx' : (x, Cell.tup [.str (S "delete"), .int ((i : Nat) + 1), .ref P, .bool fl]) ∈ (va, Cell.list []) :: own := .tail _ hx
  k_memK
  k_memK
  refine goto_ (Rm.less R' (by decide)) ?_
  rw [show min (max (((i : Nat) : Int) + 1) 1) zv = (i : Nat) + 1 by lia]
  k_memK
  k_memK
  refine insert_piece_ R' hg (.tail _ hP) (.tail _ hd) (.tail _ hc) hzv rfl hi hl h0 (hR.more fun p hp => .tail _ hp) hb hn hp fun gg' rows' Ro' nt' own' hm hG hn2 hI hR2 => ?_
  have hx2 := hm _ hx'
  have hlen : (insT t i cs).length = t.length + cs.length := by unfold insT; simp only [List.length_append, List.length_take, List.length_drop]; lia
  have hva := hm _ List.mem_cons_self
  refine tX_ifJ (fun l => ∃ pt', 1 ≤ pt' ∧ pt' ≤ zv + (cs.length : Nat) ∧ l = Z ((L, .frame (sScope (stAt 52)) [(S "buffer", some (.ref B)), (S "row", some (.ref x)), (S "marker_rows", some (.ref mk)), (S "valid", some (.ref va)), (S "word", none), (S "marker", none), (S "distance", none)]) :: pre) ⟨gg', ⟨B, dB, M, dM, MD, LL, pt', zv + (cs.length : Nat), tk + 1, tk + 1, sv⟩, some ⟨R, dR, U, dU, RL, rows', pb, nt'⟩, aa, vv, dd⟩ own') (by k_subL) (fun _ => ?_) (fun _ => ?_) ?_
  · k_memK
    k_memK
    refine goto_ (Rm.less R' (by decide)) ?_
    exact wX_nil ⟨rfl, _, by lia, by lia, rfl⟩
  · exact wX_nil ⟨rfl, _, by lia, by lia, rfl⟩
  rintro l ⟨pt', hp1, hp2, rfl⟩
  refine wX_for0 R'.handled (fun _ => rfl) (PE.use (by k_subL) ⟨va, rfl, Z_own hva, ?_⟩)
  exact wX_nil (RetN (h _ _ _ _ _ _ (fun p hp => hm _ (.tail _ hp)) hG hp1 hp2 hn2 hI hR2))
end
section
variable {g : Gx} {A : Around} {E : Value → Shared → Prop} {pre own : Led} {T dT CL B dB M dM MD LL R dR U dU RL Ao dA V dV EQ D D0 D1 : Addr} {xs rows big cells : List AV} {gs ge pt zv tk ct sv mn n : Int} {pb nt pn il : AV} {so : PySem.Str} {eq : List (Int × Int)} {gg : Gp} {bb : Bf} {uu : Option Un} {aa : Am} {vv : Ug} {dd : Dk}
theorem perm_two {α : Type} (l1 l2 l3 : List α) (x y : α) : (l1 ++ x :: (l2 ++ y :: l3)).Perm (l1 ++ y :: (l2 ++ x :: l3)) := by
  refine List.Perm.append_left l1 ?_
  exact ((List.perm_middle (l₁ := l2)).cons x).trans ((List.Perm.swap ..).trans ((List.perm_middle (l₁ := l2)).symm.cons y))
theorem swapRL {D : Addr} {ys : List AV} : ∃ l3, LPut dU (.dict c_UndoList (fl_u ⟨R, dR, U, dU, RL, rows, pb, nt⟩)) (.dict c_UndoList (fl_u ⟨R, dR, U, dU, D, ys, pb, nt⟩)) (Z pre ⟨gg, bb, some ⟨R, dR, U, dU, RL, rows, pb, nt⟩, aa, vv, dd⟩ ((D, .list ys) :: own)) l3 ∧
    l3.Perm (Z pre ⟨gg, bb, some ⟨R, dR, U, dU, D, ys, pb, nt⟩, aa, vv, dd⟩ ((RL, .list rows) :: own)) := by
  refine ⟨pre ++ ((led_g gg ++ (led_b gg.T (udOf (some ⟨R, dR, U, dU, RL, rows, pb, nt⟩)) bb ++ ([(R, .inst c_Recording dR), (dR, .dict c_Recording (fl_r ⟨R, dR, U, dU, RL, rows, pb, nt⟩)), (U, .inst c_UndoList dU), (dU, .dict c_UndoList (fl_u ⟨R, dR, U, dU, D, ys, pb, nt⟩)), (RL, .list rows)] ++ (led_a aa ++ (led_v vv ++ led_d dd))))) ++ ((D, .list ys) :: own)), ?_, ?_⟩
  · exact LPut.appL (LPut.appR (LPut.appL (LPut.appL (LPut.appR (.tail (.tail (.tail .head))) _) _) _) _) _
  · have := perm_two (pre ++ (led_g gg ++ (led_b gg.T (.ref R) bb ++ [(R, Cell.inst c_Recording dR), (dR, .dict c_Recording [(S "list", .ref U)]), (U, .inst c_UndoList dU), (dU, .dict c_UndoList (fl_u ⟨R, dR, U, dU, D, ys, pb, nt⟩))]))) (led_a aa ++ (led_v vv ++ led_d dd)) own (RL, .list rows) (D, .list ys)
    simpa only [Z, W, led_u, udOf, fl_r, List.append_assoc, List.cons_append, List.nil_append] using this
inductive RowU (g : Gx) (A : Around) (E : Value → Shared → Prop) (env : Env) (L : Addr) (sc : Scope) (o : Expr) (rest : List Stmt) (Φ : Out → Led → Prop) (a : AV) (l : Led) : Prop
  | mk (D : Addr) (ys : List AV) (own0 : Led) (vs0 : List (PySem.Str × Option AV)) (pre' : Led) (gg : Gp) (bb : Bf) (R dR U dU RL : Addr) (rows : List AV) (pb nt : AV) (aa : Am) (vv : Ug) (dd : Dk) (e1 : a = .ref D) (e2 : l = Z ((L, .frame sc vs0) :: pre') ⟨gg, bb, some ⟨R, dR, U, dU, RL, rows, pb, nt⟩, aa, vv, dd⟩ ((D, .list ys) :: own0))
    (ho : PE g A env (Z ((L, .frame sc vs0) :: pre') ⟨gg, bb, some ⟨R, dR, U, dU, RL, rows, pb, nt⟩, aa, vv, dd⟩ ((D, .list ys) :: own0)) o (.ref U))
    (k : wpX g A E env rest (Z ((L, .frame sc vs0) :: pre') ⟨gg, bb, some ⟨R, dR, U, dU, D, ys, pb, nt⟩, aa, vv, dd⟩ ((RL, .list rows) :: own0)) Φ) : RowU g A E env L sc o rest Φ a l
theorem tX_rowsU {qual : PySem.Str} {sc : Scope} {L f : Addr} {cd : Value} {cl : List (PySem.Str × Addr)} {o e : Expr} {p pos : Pos} {rest : List Stmt} {led : Led} {Φ : Out → Led → Prop}
    (hs : swapsWith e (some (.Attribute o (S "rows") p)) pos.line (envX qual sc L f cd cl) = pure false)
    (h : wpE g A E (envX qual sc L f cd cl) e led (RowU g A E (envX qual sc L f cd cl) L sc o rest Φ)) :
    wpX g A E (envX qual sc L f cd cl) (.Assign [.Attribute o (S "rows") p] e pos :: rest) led Φ := by
  refine wX_attr (wpS.mono h fun a l hz => ?_) hs
  obtain ⟨D, ys, own0, vs0, pre', gg, bb, R, dR, U, dU, RL, rows, pb, nt, aa, vv, dd, rfl, rfl, ho, k⟩ := hz
  obtain ⟨l3, U3, p3⟩ := swapRL (pre := (L, .frame sc vs0) :: pre') (R := R) (dR := dR) (U := U) (dU := dU) (RL := RL) (rows := rows) (pb := pb) (nt := nt) (gg := gg) (bb := bb) (aa := aa) (vv := vv) (dd := dd) (own := own0) (D := D) (ys := ys)
  exact ho.use ⟨L, sc, vs0, U, c_UndoList, dU, _, _, l3, rfl, Z_fr, zi_u, U3, .head, wpS.perm p3 k⟩
noncomputable def renewR (e f : Int) : Row → Row
  | .um t => if t = e then .um f else .um t
  | r => r
theorem cmp_um {led own : Led} {a : AV} {r : Row} {y : Addr} {e f : Int} (hu : A.units < cLine) (h : RowIn own a r) (hm : ∀ p ∈ own, p ∈ led) (hy : (y, Cell.tup [.str (S "unmodified"), .int e]) ∈ led) :
    ∃ c, PCmp g A led .Eq a (.ref y) c ∧ renewR e f r = if c = true then .um f else r := by
  cases h with
  | bd => exact ⟨_, PCmp_tupEq hu (.inr ⟨rfl, rfl⟩) (.inl hy) (.cons .str .nilL), rfl⟩
  | @um x t h =>
    refine ⟨_, PCmp_tupEq hu (.inl (hm _ h)) (.inl hy) (.cons .str (.cons .int .nilL)), ?_⟩
    have e1 : (S "unmodified" == S "unmodified") = true := by kernel_rfl
    by_cases ht : t = e
    · subst ht; simp [renewR]
    · simp [renewR, ht]
  | pt h =>
    refine ⟨_, PCmp_tupEq hu (.inl (hm _ h)) (.inl hy) (.cons .str (.cons .int .nilL)), ?_⟩
    rw [show (S "point" == S "unmodified") = false from by kernel_rfl]
    rfl
  | ins h =>
    refine ⟨_, PCmp_tupEq hu (.inl (hm _ h)) (.inl hy) (.cons .str (.cons .int .nilR)), ?_⟩
    rw [show (S "insert" == S "unmodified") = false from by kernel_rfl]
    rfl
  | del h =>
    refine ⟨_, PCmp_tupEq hu (.inl (hm _ h)) (.inl hy) (.cons .str (.cons .int .nilR)), ?_⟩
    rw [show (S "delete" == S "unmodified") = false from by kernel_rfl]
    rfl
theorem RetN3 {Φ : AV → Led → Prop} {m : Mach} {p q r : Addr × Cell} (h : Φ .none (Z pre m own)) : Ret Φ .next (Z (p :: q :: r :: pre) m own) := ⟨.none, _, rfl, ((List.sublist_cons_self _ _).trans (List.sublist_cons_self _ _)).trans (List.sublist_cons_self _ _), h⟩
theorem renew_ {e f : Int} {Ro : List Row} {Φ : AV → Led → Prop} (Rr : Rm 1 A) (hR : RowsIn own rows Ro)
    (h : ∀ RL' rows' own', (∀ p ∈ own, p ∈ own') → RowsIn own' rows' (Ro.map (renewR e f)) → Φ .none (Z pre ⟨gg, bb, some ⟨R, dR, U, dU, RL', rows', pb, nt⟩, aa, vv, dd⟩ own')) :
    wpC g A E (.ref f_UndoList_renew_unmodified) [.ref U, .int e, .int f] (Z pre ⟨gg, bb, some ⟨R, dR, U, dU, RL, rows, pb, nt⟩, aa, vv, dd⟩ own) Φ := by
  refine enterC (FC_renew _ _ _) Rr fun A' L R' => ?_
  rw [List.map_cons, List.map_cons, List.map_nil]
  dsimp only
  rw [cv1_self, show cv1 (S "fresh") (some (AV.int f)) (S "own") = none from by kernel_rfl]
  conv => arg 5; whnf
  change wpX g A' _ _ _ (Z ((L, .frame (sScope (mAt 33 10)) [(S "self", some (.ref U)), (S "elder", some (.int e))]) :: (L + 1 + 1, cellC none) :: (L + 1, cellC (some (.int f))) :: pre) ⟨gg, bb, some ⟨R, dR, U, dU, RL, rows, pb, nt⟩, aa, vv, dd⟩ own) _
  refine wX_cell (c := L + 1 + 1) (by kernel_rfl) (by kernel_rfl) (by kernel_rfl) (by kernel_rfl) (tE_tuple (by k_subL) (by unfold Big; simp) fun o => ⟨_, _, .tail .head, ?_⟩)
  have hR1 := hR.more (own' := (o, Cell.tup [.str (S "unmodified"), .int e]) :: own) fun p hp => .tail _ hp
  generalize hown1 : (o, Cell.tup [.str (S "unmodified"), .int e]) :: own = own1 at hR1
  have ho : (o, Cell.tup [.str (S "unmodified"), .int e]) ∈ own1 := by rw [← hown1]; exact .head _
  have hm1 : ∀ p ∈ own, p ∈ own1 := fun p hp => by rw [← hown1]; exact .tail _ hp
  change wpX g A' _ _ _ (Z ((L, .frame (sScope (mAt 33 10)) [(S "self", some (.ref U)), (S "elder", some (.int e))]) :: (L + 1 + 1, cellC (some (.ref o))) :: (L + 1, cellC (some (.int f))) :: pre) ⟨gg, bb, some ⟨R, dR, U, dU, RL, rows, pb, nt⟩, aa, vv, dd⟩ own1) _
  refine tX_rowsU (by kernel_rfl) (wpS.permR (wE_comp (cl' := [(S "own", L + 1 + 1), (S "fresh", L + 1)]) (ns := [S "row"]) R'.handled ⟨by kernel_rfl, by kernel_rfl, by decide +kernel, by decide +kernel, allS ⟨by kernel_rfl, by kernel_rfl⟩ all0, by decide +kernel⟩ (fun _ => rfl) (PE.use (by k_subL) ?_)))
  refine ⟨RL, rows, fun i ys l' => ∃ own', (∀ p ∈ own1, p ∈ own') ∧ RowsIn own' ys ((Ro.take i).map (renewR e f)) ∧ l' = Z ((L, .frame (sScope (mAt 33 10)) [(S "self", some (.ref U)), (S "elder", some (.int e))]) :: (L + 1 + 1, cellC (some (.ref o))) :: (L + 1, cellC (some (.int f))) :: pre) ⟨gg, bb, some ⟨R, dR, U, dU, RL, rows, pb, nt⟩, aa, vv, dd⟩ own', rfl, ⟨?_, ?_, ?_⟩, ?_, ?_⟩
  · rintro i ys l' ⟨own', -, -, rfl⟩; exact zl_u
  · exact ⟨own1, fun _ hp => hp, .nil, rfl⟩
  · rintro C it D i a ys l' ha ⟨own', hm', hR', rfl⟩
    have hi : i < Ro.length := by have := some_lt ha; rwa [hR1.length] at this
    obtain ⟨a', ha', hir⟩ := hR1.get i (List.getElem?_eq_getElem hi)
    rw [ha] at ha'; cases ha'
    refine ⟨[(S "row", some a)], rfl, takes_name ⟨rfl, rfl⟩, wpI_nil ?_⟩
    rw [if_pos rfl]
    obtain ⟨c, hc, hcr⟩ := cmp_um (g := g) (A := A') (led := (C, .frame (relabel _ (envX (S "UndoList.renew_unmodified") (sScope (mAt 33 10)) L f_UndoList_renew_unmodified (.ref 557) [(S "own", L + 1 + 1), (S "fresh", L + 1)])) [(S "row", some a)]) :: (it, listIt RL (i + 1)) :: (D, .list ys) ::
      Z ((L, .frame (sScope (mAt 33 10)) [(S "self", some (.ref U)), (S "elder", some (.int e))]) :: (L + 1 + 1, cellC (some (.ref o))) :: (L + 1, cellC (some (.int f))) :: pre) ⟨gg, bb, some ⟨R, dR, U, dU, RL, rows, pb, nt⟩, aa, vv, dd⟩ own') (f := f) (by have := R'.units; omega) (hir.more hm') (fun p hp => .tail _ (.tail _ (.tail _ (Z_own hp)))) (.tail _ (.tail _ (.tail _ (Z_own (hm' _ ho)))))
    have hstep : (Ro.take (i + 1)).map (renewR e f) = (Ro.take i).map (renewR e f) ++ [renewR e f Ro[i]] := by
      rw [List.take_add_one, List.getElem?_eq_getElem hi, List.map_append]; rfl
    apply tE_ifP
    · apply PT_cmpG
      · exact PE_nameG ⟨rfl, rfl⟩ (.head _) (.head _)
      · exact PE_cell (by kernel_rfl) ⟨.inl (by kernel_rfl), by kernel_rfl, by kernel_rfl⟩ (c := L + 1 + 1) (by kernel_rfl) (.tail _ (.tail _ (.tail _ (.tail _ (.head _)))))
      · exact hc
      · kernel_rfl
    · rintro rfl
      rw [if_pos rfl] at hcr
      refine wE_tuple (PL.use' (PL_cons PE_str (PL_cons (PE_cell (by kernel_rfl) ⟨.inl (by kernel_rfl), by kernel_rfl, by kernel_rfl⟩ (c := L + 1) (by kernel_rfl) (.tail _ (.tail _ (.tail _ (.tail _ (.tail _ (.head _))))))) PL_nil (by kernel_rfl)) (by kernel_rfl)) ⟨by unfold Big; simp, fun z => ?_⟩)
      refine ⟨[(S "row", some a)], _, ((List.perm_middle (l₁ := [_, _, _])).symm).trans (((Z_new (pre := (L, .frame (sScope (mAt 33 10)) [(S "self", some (.ref U)), (S "elder", some (.int e))]) :: (L + 1 + 1, cellC (some (.ref o))) :: (L + 1, cellC (some (.int f))) :: pre)).cons _ |>.cons _).cons _), rfl, (z, _) :: own', fun p hp => .tail _ (hm' p hp), ?_, rfl⟩
      rw [hstep, hcr]
      exact (hR'.more fun p hp => .tail _ hp).snoc (.um (.head _))
    · rintro rfl
      rw [if_neg (by decide)] at hcr
      refine PE.use (PE_nameG ⟨rfl, rfl⟩ (.head _) (.head _)) ⟨[(S "row", some a)], _, .refl _, rfl, own', hm', ?_, rfl⟩
      rw [hstep, hcr]
      exact hR'.snoc (hir.more hm')
  · rintro i ys l' ⟨own', -, hR', -⟩
    have := hR'.length
    simp only [List.length_map, List.length_take] at this; omega
  · rintro D ys l' ⟨own', hm', hR', rfl⟩
    rw [hR1.length, List.take_of_length_le (Nat.le_refl _)] at hR'
    refine ⟨_, Z_new, D, ys, own', _, _, _, _, _, _, _, _, _, _, _, _, _, _, _, rfl, rfl, by k_subL, ?_⟩
    exact wX_nil (RetN3 (h _ _ _ (fun p hp => .tail _ (hm' _ (hm1 _ hp))) (hR'.more fun p hp => .tail _ hp)))
end
section
variable {g : Gx} {A : Around} {E : Value → Shared → Prop} {pre own : Led} {T dT CL B dB M dM MD LL R dR U dU RL Ao dA V dV EQ D D0 D1 : Addr} {xs rows big cells : List AV} {gs ge pt zv tk ct sv mn n : Int} {pb nt pn il : AV} {so : PySem.Str} {eq : List (Int × Int)} {gg : Gp} {bb : Bf} {uu : Option Un} {aa : Am} {vv : Ug} {dd : Dk}
noncomputable def trimB (Ro : List Row) : Nat → Nat
  | 0 => 0
  | k + 1 => if (Ro[k]?.map Row.isBd).getD false = true then trimB Ro k else k + 1
theorem pc_above {m : Mach} {X : Addr} {xs : List AV} {Ro : List Row} {k : Nat} (Rr : Rm 1 A) (hX : ∀ p, (X, Cell.list xs) ∈ Z (p :: pre) m own) (hR : RowsIn own xs Ro) (hk : k ≤ Ro.length) :
    PC g A f_above_boundaries [.ref X, .int (k : Nat)] (Z pre m own) (.int (trimB Ro k : Nat)) := fun E Φ h => by
  refine N_above_boundaries Rr fun A' L R' => ?_
  conv => arg 5; whnf
  refine wX_while (n := k) (fun n vs l => n ≤ Ro.length ∧ trimB Ro n = trimB Ro k ∧ vs = [(S "rows", some (.ref X)), (S "at", some (.int (n : Nat)))] ∧ l = _) ⟨hk, rfl, rfl, rfl⟩ ?_
  rintro n vs l ⟨hn, ht, rfl, rfl⟩
  change wpT g A' _ _ _ (Z ((L, Cell.frame (sScope (stAt 54)) [(S "rows", some (.ref X)), (S "at", some (.int (n : Nat)))]) :: pre) m own) _
  have hlx := hR.length
  rcases Nat.eq_zero_or_pos n with h0 | h0
  · subst h0
    refine PT.use (b := decide (((0 : Nat) : Int) > 0) && false) (PT_and (by k_subL) fun e => by cases e) ?_
    rw [if_neg (by decide)]
    refine wX_ret (PE.use (by k_subL) (RetZ ?_))
    rw [← ht] at h; exact h
  · obtain ⟨j, rfl⟩ : ∃ j, n = j + 1 := ⟨n - 1, by lia⟩
    obtain ⟨r, hr⟩ : ∃ r, Ro[j]? = some r := ⟨_, List.getElem?_eq_getElem (by lia)⟩
    obtain ⟨a, ha, hir⟩ := hR.get _ hr
    have hu : A'.units < cLine := by have := R'.units; lia
    refine PT.use (b := decide (((j + 1 : Nat) : Int) > 0) && (r.isBd && true)) (PT_and (by k_subL) fun _ => PT_and (tT_cmpG (x := a) ?_ (by k_subL) (cmp_bd hu hir) (by kernel_rfl)) fun _ => PT_andN) ?_
    · refine PE_item (x := X) (xs := xs) (by k_subL) (by k_subL) (hX _) (.inl ⟨by lia, ?_⟩) rfl
      rw [show (((j + 1 : Nat) : Int) - 1).toNat = j by lia]; exact ha
    have hpos : decide (((j + 1 : Nat) : Int) > 0) = true := by simp
    rw [hpos, Bool.true_and, Bool.and_true]
    rw [show trimB Ro (j + 1) = if r.isBd = true then trimB Ro j else j + 1 from by rw [trimB, hr]; rfl] at ht
    cases hb : r.isBd with
    | false =>
      rw [if_neg (by decide)]
      refine wX_ret (PE.use (by k_subL) (RetZ ?_))
      rw [hb, if_neg (by decide)] at ht
      rw [← ht] at h; exact h
    | true =>
      rw [if_pos rfl]
      rw [hb, if_pos rfl] at ht
      k_memK
      rw [show (((j + 1 : Nat) : Int) - 1) = (j : Nat) by lia]
      exact wX_nil ⟨.inl rfl, j, _, _, Nat.lt_succ_self _, rfl, by lia, ht, rfl, rfl⟩
end
section
variable {g : Gx} {A : Around} {E : Value → Shared → Prop} {pre own : Led} {T dT CL B dB M dM MD LL R dR U dU RL Ao dA V dV EQ D D0 D1 : Addr} {xs rows big cells : List AV} {gs ge pt zv tk ct sv mn n : Int} {pb nt pn il : AV} {so : PySem.Str} {eq : List (Int × Int)} {gg : Gp} {bb : Bf} {uu : Option Un} {aa : Am} {vv : Ug} {dd : Dk}
structure Ad where
  (T dT CL B dB M dM MD LL R dR U dU : Addr)
inductive EdS (ad : Ad) (t : List Int) (Ro : List Row) (m : Mach) (own : Led) : Prop
  | mk (hG : GT ad.T ad.dT ad.CL t m.g) (hl : t.length ≤ 1000) (hr : Ro.length ≤ 70000) (pt tk ct sv : Int) (RL : Addr) (rows : List AV) (pb nt : AV) (eb : m.b = ⟨ad.B, ad.dB, ad.M, ad.dM, ad.MD, ad.LL, pt, (t.length : Nat) + 1, tk, ct, sv⟩) (h1 : 1 ≤ pt) (h2 : pt ≤ (t.length : Nat) + 1)
    (eu : m.u = some ⟨ad.R, ad.dR, ad.U, ad.dU, RL, rows, pb, nt⟩) (hpb : NI pb) (hnt : NI nt) (hR : RowsIn own rows Ro) : EdS ad t Ro m own
theorem EdS.mk' {ad : Ad} {t : List Int} {Ro : List Row} {gg : Gp} {pt zv tk ct sv : Int} {RL : Addr} {rows : List AV} {pb nt : AV} {aa : Am} {vv : Ug} {dd : Dk} {own : Led} (hG : GT ad.T ad.dT ad.CL t gg) (hl : t.length ≤ 1000) (hr : Ro.length ≤ 70000) (hz : zv = (t.length : Nat) + 1)
    (h1 : 1 ≤ pt) (h2 : pt ≤ zv) (hpb : NI pb) (hnt : NI nt) (hR : RowsIn own rows Ro) : EdS ad t Ro ⟨gg, ⟨ad.B, ad.dB, ad.M, ad.dM, ad.MD, ad.LL, pt, zv, tk, ct, sv⟩, some ⟨ad.R, ad.dR, ad.U, ad.dU, RL, rows, pb, nt⟩, aa, vv, dd⟩ own := by
  subst hz
  exact ⟨hG, hl, hr, _, _, _, _, _, _, _, _, rfl, h1, h2, rfl, hpb, hnt, hR⟩
structure Rest (m m' : Mach) : Prop where
  a : m'.a = m.a
  v : m'.v = m.v
  d : m'.d = m.d
theorem Rest.refl {m : Mach} : Rest m m := ⟨rfl, rfl, rfl⟩
theorem Rest.trans {m m' m'' : Mach} (h : Rest m m') (k : Rest m' m'') : Rest m m'' := ⟨k.a.trans h.a, k.v.trans h.v, k.d.trans h.d⟩
noncomputable def Can : Row → List Int → Prop
  | .bd, _ => False
  | .um _, _ => True
  | .pt _, _ => True
  | .ins a b, t => ∃ i j : Nat, a = (i : Nat) + 1 ∧ b = (j : Nat) + 1 ∧ i < j ∧ j ≤ t.length
  | .del s cs _, t => ∃ i : Nat, s = (i : Nat) + 1 ∧ i ≤ t.length ∧ t.length + cs.length ≤ 1000
noncomputable def undoT : Row → List Int → List Int
  | .ins a b, t => delT t (a - 1).toNat (b - 1).toNat
  | .del s cs _, t => insT t (s - 1).toNat cs
  | _, t => t
theorem undoT_ins {t : List Int} {i j : Nat} : undoT (.ins ((i : Nat) + 1) ((j : Nat) + 1)) t = delT t i j := by
  show delT t ((((i : Nat) : Int) + 1 - 1).toNat) ((((j : Nat) : Int) + 1 - 1).toNat) = _
  rw [show ((((i : Nat) : Int) + 1 - 1).toNat) = i by lia, show ((((j : Nat) : Int) + 1 - 1).toNat) = j by lia]
theorem undoT_del {t cs : List Int} {i : Nat} {f : Bool} : undoT (.del ((i : Nat) + 1) cs f) t = insT t i cs := by
  show insT t ((((i : Nat) : Int) + 1 - 1).toNat) cs = _
  rw [show ((((i : Nat) : Int) + 1 - 1).toNat) = i by lia]
theorem delT_len {t : List Int} {i j : Nat} (hij : i ≤ j) (hj : j ≤ t.length) : (delT t i j).length = t.length - (j - i) := by unfold delT; simp only [List.length_append, List.length_take, List.length_drop]; lia
theorem insT_len {t cs : List Int} {i : Nat} (hi : i ≤ t.length) : (insT t i cs).length = t.length + cs.length := by unfold insT; simp only [List.length_append, List.length_take, List.length_drop]; lia
inductive UStep : Row → List Int → List Row → List Row → Prop
  | umS {x t Ro} : UStep (.um x) t Ro Ro
  | umR {x t Ro e f} : UStep (.um x) t Ro (Ro.map (renewR e f))
  | pt {p t Ro} : UStep (.pt p) t Ro Ro
  | ins {t Ro Ro'} {i j : Nat} (hij : i < j) (hj : j ≤ t.length) (h : DelRec Ro Ro' ((i + 1 : Nat) : Int) ((t.take j).drop i)) : UStep (.ins ((i : Nat) + 1) ((j : Nat) + 1)) t Ro Ro'
  | del {t Ro Ro'} {i : Nat} {cs : List Int} {f : Bool} (hi : i ≤ t.length) (h0 : cs ≠ []) (h : InsRec Ro Ro' ((i : Nat) + 1) (cs.length : Nat)) : UStep (.del ((i : Nat) + 1) cs f) t Ro Ro'
theorem tX_ifT {env : Env} {led : Led} {t : Expr} {b o rest : List Stmt} {pos : Pos} {c : Bool} {Φ : Out → Led → Prop} (ht : PT g A env led t c) (hc : c = true) (h1 : wpX g A E env b led (Sq g A E env rest Φ)) : wpX g A E env (.If t b o pos :: rest) led Φ := tX_if ht (fun _ => h1) fun e => by rw [hc] at e; cases e
theorem tX_ifF {env : Env} {led : Led} {t : Expr} {b o rest : List Stmt} {pos : Pos} {c : Bool} {Φ : Out → Led → Prop} (ht : PT g A env led t c) (hc : c = false) (h1 : wpX g A E env o led (Sq g A E env rest Φ)) : wpX g A E env (.If t b o pos :: rest) led Φ := tX_if ht (fun e => by rw [hc] at e; cases e) fun _ => h1
theorem undo_row_ {ad : Ad} {t : List Int} {Ro Rx : List Row} {m : Mach} {X : Addr} {xs : List AV} {k : Nat} {r : Row} {Φ : AV → Led → Prop} (Rr : Rm 10 A) (hE : EdS ad t Ro m own) (hX : (X, Cell.list xs) ∈ own) (hRx : RowsIn own xs Rx) (hk : Rx[k]? = some r) (hc : Can r t) (hlen : Ro.length ≤ 60000)
    (h : ∀ Ro' m' own', (∀ p ∈ own, p ∈ own') → Rest m m' → EdS ad (undoT r t) Ro' m' own' → UStep r t Ro Ro' → Φ (.int (k : Nat)) (Z pre m' own')) :
    wpC g A E (.ref f_undo_row) [.ref ad.B, .ref X, .int ((k + 1 : Nat) : Int)] (Z pre m own) Φ := by
  obtain ⟨gg, bb, uu, aa, vv, dd⟩ := m
  obtain ⟨hG, hl, hrl, pt, tk, ct, sv, RL, rows, pb, nt, rfl, hp1, hp2, rfl, hpb, hnt, hR⟩ := hE
  refine N_undo_row Rr fun A' L R' => ?_
  conv => arg 5; whnf
  obtain ⟨a, ha, hir⟩ := hRx.get _ hk
  apply tX_name (a := a)
  · refine PE_item (x := X) (xs := xs) (by k_subL) (by k_subL) (Z_own hX) (.inl ⟨by lia, ?_⟩) rfl
    rw [show (((k + 1 : Nat) : Int) - 1).toNat = k by lia]; exact ha
  · k_updF
  · kernel_rfl
  k_memK
  rw [show (((k + 1 : Nat) : Int) - 1) = (k : Nat) by lia]
  cases hir with
  | bd => exact hc.elim
  | ins hx =>
    obtain ⟨i, j, rfl, rfl, hij, hj⟩ := hc
    refine tX_ifT (by k_subL) (by kernel_rfl) ?_
    k_memK
    k_memK
    refine undo_insert_ (Rm.less R' (by decide)) hG hx rfl hij hj hl hR (by lia) hnt hpb fun gg' rows' Ro' nt' own' hm hG' hn' hD hR2 => ?_
    k_memK
    refine wX_ret (PE.use (by k_subL) (RetZ (h Ro' _ _ hm ⟨rfl, rfl, rfl⟩ ?_ (.ins hij hj hD))))
    have hlen' := delT_len (t := t) (Nat.le_of_lt hij) hj
    have hle := hD.le
    rw [undoT_ins]
    exact .mk' hG' (by lia) (by lia) (by rw [hlen']; lia) (by lia) (by lia) hpb hn' hR2
  | del hx hP hd hcc hr hn =>
    obtain ⟨i, rfl, hi, hsum⟩ := hc
    refine tX_ifF (by k_subL) (by kernel_rfl) ?_
    refine tX_ifT (by k_subL) (by kernel_rfl) ?_
    refine tX_nameE ?_ (by kernel_rfl)
    k_memK
    refine markers_ahead_ (Rm.less R' (by decide)) hX hRx (Nat.le_of_lt (some_lt hk)) fun mk => ⟨_, _, _, _, _, rfl, by k_updF, ?_⟩
    k_memK
    k_memK
    refine undo_delete_ R' hG (.tail _ hx) (.tail _ hP) (.tail _ hd) (.tail _ hcc) (.head _) rfl hi hsum hn (hR.more fun p hp => .tail _ hp) (by lia) hnt hpb fun gg' pt' rows' Ro' nt' own' hm hG' hq1 hq2 hn' hI hR2 => ?_
    have hmk := hm _ List.mem_cons_self
    k_memK
    rw [show ((k : Nat) : Int) - (([] : List AV).length : Nat) = (k : Nat) by simp]
    k_memK
    k_memK
    refine wX_ret (PE.use (by k_subL) (RetZ (h Ro' _ _ (fun p hp => hm _ (.tail _ hp)) ⟨rfl, rfl, rfl⟩ ?_ (.del hi hn hI))))
    have hle := hI.le
    rw [undoT_del]
    exact .mk' hG' (by rw [insT_len hi]; exact hsum) (by lia) (by rw [insT_len hi]; lia) hq1 hq2 hpb hn' hR2
  | pt hx =>
    refine tX_ifF (by k_subL) (by kernel_rfl) ?_
    refine tX_ifF (by k_subL) (by kernel_rfl) ?_
    refine tX_ifT (by k_subL) (by kernel_rfl) ?_
    k_memK
    k_memK
    refine goto_ (Rm.less R' (by decide)) ?_
    k_memK
    k_memK
    k_memK
    refine wX_ret (PE.use (by k_subL) (RetZ (h Ro _ _ (fun p hp => hp) ⟨rfl, rfl, rfl⟩ ?_ .pt)))
    exact .mk' hG hl hrl rfl (by lia) (by lia) hpb hnt hR
  | @um x tt hx =>
    refine tX_ifF (by k_subL) (by kernel_rfl) ?_
    refine tX_ifF (by k_subL) (by kernel_rfl) ?_
    refine tX_ifF (by k_subL) (by kernel_rfl) ?_
    refine tX_ifF (by k_subL) (by kernel_rfl) ?_
    k_memK
    · intro _
      k_memK
      k_memK
      refine set_modified_ (Rm.less R' (by decide)) ?_
      k_memK
      rotate_left
      · intro e; cases e
      intro _
      k_memK
      k_memK
      refine renew_ (Rm.less R' (by decide)) hR fun RL' rows' own' hm hR2 => ?_
      k_memK
      k_memK
      k_memK
      k_memK
      k_memK
      k_memK
      refine wX_ret (PE.use (by k_subL) (RetZ (h (Ro.map (renewR tt tk)) _ _ hm ⟨rfl, rfl, rfl⟩ ?_ .umR)))
      exact .mk' hG hl (by rw [List.length_map]; exact hrl) rfl hp1 hp2 hpb hnt hR2
    · intro _
      k_memK
      k_memK
      k_memK
      k_memK
      k_memK
      refine wX_ret (PE.use (by k_subL) (RetZ (h Ro _ _ (fun p hp => hp) ⟨rfl, rfl, rfl⟩ ?_ .umS)))
      exact .mk' hG hl hrl rfl hp1 hp2 hpb hnt hR
end
section
variable {g : Gx} {A : Around} {E : Value → Shared → Prop} {pre own : Led} {T dT CL B dB M dM MD LL R dR U dU RL Ao dA V dV EQ D D0 D1 : Addr} {xs rows big cells : List AV} {gs ge pt zv tk ct sv mn n : Int} {pb nt pn il : AV} {so : PySem.Str} {eq : List (Int × Int)} {gg : Gp} {bb : Bf} {uu : Option Un} {aa : Am} {vv : Ug} {dd : Dk}
noncomputable def CanR : List Row → List Int → Prop
  | [], _ => True
  | r :: rs, t => Can r t ∧ CanR rs (undoT r t)
inductive URun : List Row → List Int → List Row → List Int → List Row → Prop
  | nil {t Ro} : URun [] t Ro t Ro
  | cons {r rs t Ro R1 t' Ro'} (h : UStep r t Ro R1) (k : URun rs (undoT r t) R1 t' Ro') : URun (r :: rs) t Ro t' Ro'
theorem UStep.le {r : Row} {t : List Int} {Ro Ro' : List Row} (h : UStep r t Ro Ro') : Ro'.length ≤ Ro.length + 3 := by
  cases h with
  | umS => lia
  | umR => rw [List.length_map]; lia
  | pt => lia
  | ins _ _ h => exact h.le
  | del _ _ h => exact h.le
theorem undo_group_ {ad : Ad} {t : List Int} {Ro Rx P rs0 : List Row} {m : Mach} {X : Addr} {xs : List AV} {k : Nat} {Φ : AV → Led → Prop} (Rr : Rm 11 A) (hE : EdS ad t Ro m own) (hX : (X, Cell.list xs) ∈ own) (hRx : RowsIn own xs Rx) (hk : k ≤ Rx.length)
    (htr : trimB Rx k = P.length + rs0.length) (hle : P.length + rs0.length ≤ Rx.length) (htk : Rx.take (P.length + rs0.length) = P ++ rs0.reverse) (hbd : ∀ r ∈ rs0, r.isBd = false) (hP : P = [] ∨ ∃ P', P = P' ++ [.bd]) (hc : CanR rs0 t) (hlen : Ro.length + 3 * rs0.length ≤ 60000)
    (h : ∀ t' Ro' m' own', (∀ p ∈ own, p ∈ own') → Rest m m' → EdS ad t' Ro' m' own' → URun rs0 t Ro t' Ro' → Φ (.int (P.length : Nat)) (Z pre m' own')) :
    wpC g A E (.ref f_undo_group) [.ref ad.B, .ref X, .int (k : Nat)] (Z pre m own) Φ := by
  refine N_undo_group Rr fun A' L R' => ?_
  conv => arg 5; whnf
  refine tX_nameE ?_ (by kernel_rfl)
  k_memK
  refine pc_above (Rm.less R' (by decide)) (fun p => Z_own hX) hRx hk _ _ ⟨_, _, _, _, _, rfl, by k_updF, ?_⟩
  rw [htr]
  refine wX_while (n := rs0.length) (fun n vs l => ∃ rs t1 R1 m1 own1, n = rs.length ∧ P.length + rs.length ≤ Rx.length ∧ Rx.take (P.length + rs.length) = P ++ rs.reverse ∧ CanR rs t1 ∧ (∀ r ∈ rs, r.isBd = false) ∧ EdS ad t1 R1 m1 own1 ∧ (∀ p ∈ own, p ∈ own1) ∧ Rest m m1 ∧ R1.length + 3 * rs.length ≤ 60000 ∧
    (∀ t2 R2, URun rs t1 R1 t2 R2 → URun rs0 t Ro t2 R2) ∧ vs = [(S "buffer", some (.ref ad.B)), (S "rows", some (.ref X)), (S "at", some (.int ((P.length + rs.length : Nat) : Int)))] ∧ l = pre ++ (W m1 ++ own1))
    ⟨rs0, t, Ro, m, own, rfl, hle, htk, hc, hbd, hE, fun p hp => hp, .refl, hlen, fun _ _ h => h, rfl, rfl⟩ ?_
  rintro n vs l ⟨rs, t1, R1, m1, own1, rfl, hle1, htk1, hc1, hbd1, hE1, hm1, hr1, hlen1, hrun, rfl, rfl⟩
  change wpT g A' _ _ _ (Z ((L, Cell.frame (sScope (stAt 55)) [(S "buffer", some (.ref ad.B)), (S "rows", some (.ref X)), (S "at", some (.int ((P.length + rs.length : Nat) : Int)))]) :: pre) m1 own1) _
  have hX1 := hm1 _ hX
  have hRx1 := hRx.more hm1
  have hu : A'.units < cLine := by have := R'.units; lia
  have hlx := hRx.length
  cases rs with
  | nil =>
    refine PT.falseE ?_ ?_
    · rcases hP with rfl | ⟨P', rfl⟩
      · exact ⟨decide (((([] : List Row).length + ([] : List Row).length : Nat) : Int) > 0) && false, by simp, PT_and (by k_subL) fun e => by simp at e⟩
      · have hi : Rx[P'.length]? = some .bd := by
          have e := congrArg (fun l => l[P'.length]?) htk1
          simp only [List.length_append, List.length_nil, List.length_singleton, Nat.add_zero, List.reverse_nil, List.append_nil] at e
          rw [List.getElem?_take_of_lt (by lia)] at e
          rw [e]; simp
        obtain ⟨a, ha, hir⟩ := hRx1.get _ hi
        refine ⟨decide ((((P' ++ [Row.bd]).length + ([] : List Row).length : Nat) : Int) > 0) && ((!Row.bd.isBd) && true), by simp [Row.isBd], PT_and (by k_subL) fun _ => PT_and (tT_cmpG (x := a) ?_ (by k_subL) (cmp_nbd hu hir) (by kernel_rfl)) fun _ => PT_andN⟩
        refine PE_item (x := X) (xs := xs) (by k_subL) (by k_subL) (Z_own hX1) (.inl ⟨by simp, ?_⟩) rfl
        rw [show ((((P' ++ [Row.bd]).length + ([] : List Row).length : Nat) : Int) - 1).toNat = P'.length by simp]; exact ha
    · rw [if_neg (by decide)]
      refine wX_ret (PE.use (by k_subL) (RetZ ?_))
      exact h _ _ _ _ hm1 hr1 hE1 (hrun _ _ .nil)
  | cons r rs =>
    have hi : Rx[P.length + rs.length]? = some r := by
      have e := congrArg (fun l => l[P.length + rs.length]?) htk1
      simp only [List.length_cons, List.reverse_cons] at e
      rw [List.getElem?_take_of_lt (by lia)] at e
      rw [e, List.getElem?_append_right (by lia)]
      simp
    obtain ⟨a, ha, hir⟩ := hRx1.get _ hi
    have hb := hbd1 r List.mem_cons_self
    refine PT.use (b := decide (((P.length + (r :: rs).length : Nat) : Int) > 0) && ((!r.isBd) && true)) (PT_and (by k_subL) fun _ => PT_and (tT_cmpG (x := a) ?_ (by k_subL) (cmp_nbd hu hir) (by kernel_rfl)) fun _ => PT_andN) ?_
    · refine PE_item (x := X) (xs := xs) (by k_subL) (by k_subL) (Z_own hX1) (.inl ⟨by simp; lia, ?_⟩) rfl
      rw [show (((P.length + (r :: rs).length : Nat) : Int) - 1).toNat = P.length + rs.length by simp; lia]; exact ha
    rw [if_pos (by rw [hb]; simp; lia)]
    refine tX_nameE ?_ (by kernel_rfl)
    k_memK
    rw [show P.length + (r :: rs).length = (P.length + rs.length) + 1 from rfl]
    refine undo_row_ R' hE1 hX1 hRx1 hi hc1.1 (by simp at hlen1; lia) fun Ro2 m2 own2 hm2 hr2 hE2 hS => ⟨_, _, _, _, _, rfl, by k_updF, ?_⟩
    have hsl := hS.le
    simp only [List.length_cons] at hlen1 hle1
    refine wX_nil ⟨.inl rfl, rs.length, _, _, Nat.lt_succ_self _, rfl, rs, undoT r t1, Ro2, m2, own2, rfl, by lia, ?_, hc1.2, fun r' hr' => hbd1 r' (List.mem_cons_of_mem _ hr'), hE2, fun p hp => hm2 _ (hm1 _ hp), hr1.trans hr2, by lia, fun t2 R2 hU => hrun _ _ (.cons hS hU), rfl, rfl⟩
    have e := congrArg (fun l => l.take (P.length + rs.length)) htk1
    simp only [List.take_take, List.length_cons, List.reverse_cons] at e
    rw [Nat.min_eq_left (by lia), ← List.append_assoc, List.take_left' (by simp)] at e
    exact e
end
section
variable {g : Gx} {A : Around} {E : Value → Shared → Prop} {pre own : Led} {T dT CL B dB M dM MD LL R dR U dU RL Ao dA V dV EQ D D0 D1 : Addr} {xs rows big cells : List AV} {gs ge pt zv tk ct sv mn n : Int} {pb nt pn il : AV} {so : PySem.Str} {eq : List (Int × Int)} {gg : Gp} {bb : Bf} {uu : Option Un} {aa : Am} {vv : Ug} {dd : Dk}
theorem pc_trimmed {Ro : List Row} (Rr : Rm 2 A) (hR : RowsIn own rows Ro) : PC g A f_trimmed_count [.ref U] (Z pre ⟨gg, bb, some ⟨R, dR, U, dU, RL, rows, pb, nt⟩, aa, vv, dd⟩ own) (.int (trimB Ro Ro.length : Nat)) := fun E Φ h => by
  refine N_trimmed_count Rr fun A' L R' => ?_
  conv => arg 5; whnf
  have hl := hR.length
  refine wX_ret (wE_bin (PE.use (by k_subL) ?_))
  (with_reducible apply tE_call)
  · l_intsW
  · l_intsW
  · kernel_rfl
  · k_subL
  · kernel_rfl
  · kernel_rfl
  rw [hl]
  refine pc_above R' (fun p => zl_u) hR (Nat.le_refl _) _ _ ⟨_, .add, ?_⟩
  rw [Int.zero_add]
  exact RetZ h
theorem pc_last_was_undo {Ro : List Row} {es : List (Int × Int)} (Rr : Rm 3 A) (hR : RowsIn own rows Ro) : PC g A f_last_was_undo [.ref V, .ref U] (Z pre ⟨gg, bb, some ⟨R, dR, U, dU, RL, rows, pb, nt⟩, aa, ⟨V, dV, EQ, pn, il, es⟩, dd⟩ own) (.bool (ival es (trimB Ro Ro.length : Nat)).isSome) := fun E Φ h => by
  refine N_last_was_undo Rr fun A' L R' => ?_
  conv => arg 5; whnf
  refine wX_ret (wE_cmp ?_ (by kernel_rfl))
  k_memK
  refine pc_trimmed R' hR _ _ (PE.use (by k_subL) ⟨_, PCmp_inM zm_v, RetZ h⟩)
theorem pc_count {Ro : List Row} (Rr : Rm 1 A) (hR : RowsIn own rows Ro) : PC g A f_UndoList_count [.ref U] (Z pre ⟨gg, bb, some ⟨R, dR, U, dU, RL, rows, pb, nt⟩, aa, vv, dd⟩ own) (.int (Ro.length : Nat)) := fun E Φ h => by
  refine N_UndoList_count Rr fun A' L R' => ?_
  conv => arg 5; whnf
  have hl := hR.length
  refine wX_ret (PE.use (by k_subL) ?_)
  rw [Int.zero_add, hl]
  exact RetZ h
noncomputable def Row.isPt : Row → Bool
  | .pt _ => true
  | _ => false
theorem wd_pt (r : Row) : (r.wd != S "point") = !r.isPt := by cases r <;> kernel_rfl
noncomputable def dropPts (Ro : List Row) (n : Nat) : List Row := Ro.take n ++ (Ro.drop n).filter fun r => !r.isPt
theorem drop_points_ {Ro : List Row} {n : Nat} {Φ : AV → Led → Prop} (Rr : Rm 1 A) (hR : RowsIn own rows Ro) (hb : Ro.length ≤ 100000)
    (h : ∀ RL' rows' own', (∀ p ∈ own, p ∈ own') → RowsIn own' rows' (dropPts Ro n) → Φ .none (Z pre ⟨gg, bb, some ⟨R, dR, U, dU, RL', rows', pb, nt⟩, aa, vv, dd⟩ own')) :
    wpC g A E (.ref f_drop_points) [.ref U, .int (n : Nat)] (Z pre ⟨gg, bb, some ⟨R, dR, U, dU, RL, rows, pb, nt⟩, aa, vv, dd⟩ own) Φ := by
  refine N_drop_points Rr fun A' L R' => ?_
  conv => arg 5; whnf
  k_memK
  rw [show ((n : Nat) : Int) - 0 = (n : Nat) by omega]
  refine tX_rowsU (by kernel_rfl) (tE_add ?_)
  refine tE_slice none (some n) (by k_subL) .none (.some (by k_subL) rfl) zl_u fun z1 => ?_
  refine wpS.permR (wE_comp (cl' := []) (ns := [S "row"]) R'.handled ⟨by kernel_rfl, by kernel_rfl, by decide +kernel, by decide +kernel, allS ⟨by kernel_rfl, by kernel_rfl⟩ all0, by decide +kernel⟩ (fun _ => rfl) (tE_slice (some n) none (by k_subL) (.some (by k_subL) rfl) .none zl_u fun z2 => ?_))
  have e1 : sliceL rows none (some n) = rows.take n := by simp [sliceL]
  have e2 : sliceL rows (some n) none = rows.drop n := by simp [sliceL]
  rw [e1, e2]
  have hR2 := hR.drop n
  generalize hown1 : (z2, Cell.list (rows.drop n)) :: (z1, Cell.list (rows.take n)) :: own = own1
  have hz1 : (z1, Cell.list (rows.take n)) ∈ own1 := by rw [← hown1]; exact .tail _ (.head _)
  have hz2 : (z2, Cell.list (rows.drop n)) ∈ own1 := by rw [← hown1]; exact .head _
  have hm1 : ∀ p ∈ own, p ∈ own1 := fun p hp => by rw [← hown1]; exact .tail _ (.tail _ hp)
  refine ⟨z2, rows.drop n, fun i ys l' => RowsIn own1 ys (((Ro.drop n).take i).filter fun r => !r.isPt) ∧ l' = Z ((L, .frame (sScope (stAt 61)) [(S "history", some (.ref U)), (S "first", some (.int (n : Nat))), (S "at", some (.int (n : Nat)))]) :: pre) ⟨gg, bb, some ⟨R, dR, U, dU, RL, rows, pb, nt⟩, aa, vv, dd⟩ own1, rfl, ⟨?_, ?_, ?_⟩, ?_, ?_⟩
  · rintro i ys l' ⟨-, rfl⟩; exact Z_own hz2
  · exact ⟨.nil, rfl⟩
  · rintro C it D i a ys l' ha ⟨hR', rfl⟩
    have hi : i < (Ro.drop n).length := by have := some_lt ha; rwa [hR2.length] at this
    obtain ⟨a', ha', hir⟩ := hR2.get i (List.getElem?_eq_getElem hi)
    rw [ha] at ha'; cases ha'
    have hir1 := hir.more hm1
    obtain ⟨x, rest, rfl, htup⟩ := hir1.tup
    have hstep : ((Ro.drop n).take (i + 1)).filter (fun r => !r.isPt) = ((Ro.drop n).take i).filter (fun r => !r.isPt) ++ (if (!((Ro.drop n)[i]).isPt) = true then [(Ro.drop n)[i]] else []) := by
      rw [List.take_add_one, List.getElem?_eq_getElem hi, List.filter_append]
      congr 1
      rw [Option.toList_some, List.filter_cons, List.filter_nil]
    refine ⟨[(S "row", some (.ref x))], rfl, takes_name ⟨rfl, rfl⟩, wpI_one (PT.use (b := ((Ro.drop n)[i]).wd != S "point") (tT_cmp (tE_itemT (x := x) (xs := .str ((Ro.drop n)[i]).wd :: rest) 0 ?_ rfl (by decide) rfl (PE_nameG ⟨rfl, rfl⟩ (.head _) (.head _)) PE_int) PE_str .sne (by kernel_rfl)) ?_)⟩
    · rcases (htup ((L, .frame (sScope (stAt 61)) [(S "history", some (.ref U)), (S "first", some (.int (n : Nat))), (S "at", some (.int (n : Nat)))]) :: pre) ⟨gg, bb, some ⟨R, dR, U, dU, RL, rows, pb, nt⟩, aa, vv, dd⟩).1 with h1 | h1
      · exact .inl (.tail _ (.tail _ (.tail _ h1)))
      · exact .inr h1
    rw [wd_pt]
    cases hp : (Ro.drop n)[i].isPt with
    | true =>
      rw [if_neg (by decide)]
      refine ⟨[(S "row", some (.ref x))], _, .refl _, rfl, ?_, rfl⟩
      rw [hstep, hp, if_neg (by decide), List.append_nil]; exact hR'
    | false =>
      rw [if_pos (by decide)]
      refine PE.use (PE_nameG ⟨rfl, rfl⟩ (.head _) (.head _)) ⟨[(S "row", some (.ref x))], _, .refl _, rfl, ?_, rfl⟩
      rw [hstep, hp, if_pos (by decide)]; exact hR'.snoc hir1
  · rintro i ys l' ⟨hR', -⟩
    have h1 := hR'.length
    have h2 := List.length_filter_le (fun r : Row => !r.isPt) ((Ro.drop n).take i)
    simp only [List.length_take] at h2; omega
  · rintro D ys l' ⟨hR', rfl⟩
    rw [hR2.length, List.take_of_length_le (Nat.le_refl _)] at hR'
    have hl1 := hR'.length
    have hl2 := List.length_filter_le (fun r : Row => !r.isPt) (Ro.drop n)
    have hlr := hR.length
    refine ⟨_, Z_new, z1, D, rows.take n, ys, _, _, _, rfl, rfl, rfl, Z_own (.tail _ hz1), Z_own (.head _), by unfold Big; simp only [List.length_take, List.length_drop] at *; omega, fun z => ?_⟩
    refine ⟨z, _, _, _, _, _, _, _, _, _, _, _, _, _, _, _, _, _, rfl, rfl, by k_subL, ?_⟩
    refine wX_nil (RetN (h _ _ _ (fun p hp => .tail _ (.tail _ (hm1 _ hp))) ?_))
    exact ((hR.take n).more (fun p hp => .tail _ (.tail _ (hm1 _ hp)))).append (hR'.more fun p hp => .tail _ (.tail _ hp))
end
local macro_rules | `(tactic| k_ownIn) => `(tactic| first
  | ((with_reducible apply pc_trimmed); · exact Rm.less (by assumption) (by decide)
     assumption)
  | ((with_reducible apply pc_last_was_undo); · exact Rm.less (by assumption) (by decide)
     assumption)
  | ((with_reducible apply pc_count); · exact Rm.less (by assumption) (by decide)
     assumption))
section
variable {g : Gx} {A : Around} {E : Value → Shared → Prop} {pre own : Led} {T dT CL B dB M dM MD LL R dR U dU RL Ao dA V dV EQ D D0 D1 : Addr} {xs rows big cells : List AV} {gs ge pt zv tk ct sv mn n : Int} {pb nt pn il : AV} {so : PySem.Str} {eq : List (Int × Int)} {gg : Gp} {bb : Bf} {uu : Option Un} {aa : Am} {vv : Ug} {dd : Dk}
theorem elder_rows_ {Ro : List Row} {n : Nat} {Φ : AV → Led → Prop} (Rr : Rm 2 A) (hR : RowsIn own rows Ro) (hn : n ≤ Ro.length) (hne : trimB (Ro.take n) n ≠ 0)
    (h : ∀ z, Φ (.ref z) (Z pre ⟨gg, bb, some ⟨R, dR, U, dU, RL, rows, pb, nt⟩, aa, vv, dd⟩ ((z, .list (rows.take n)) :: own))) :
    wpC g A E (.ref f_elder_rows) [.ref U, .int (n : Nat)] (Z pre ⟨gg, bb, some ⟨R, dR, U, dU, RL, rows, pb, nt⟩, aa, vv, dd⟩ own) Φ := by
  refine N_elder_rows Rr fun A' L R' => ?_
  conv => arg 5; whnf
  refine tX_nameE (tE_slice none (some n) (by k_subL) .none (.some (by k_subL) (by lia)) zl_u fun z => ⟨_, _, _, _, _, rfl, by k_updF, ?_⟩) (by kernel_rfl)
  have e1 : sliceL rows none (some n) = rows.take n := by simp [sliceL]
  rw [e1]
  have hlr := hR.length
  have hlt : (rows.take n).length = n := by rw [List.length_take]; lia
  have hlt2 : (Ro.take n).length = n := by rw [List.length_take]; lia
  apply tX_ifF (c := ((trimB (Ro.take n) n : Nat) : Int) == 0)
  · apply tT_cmp
    · (with_reducible apply tP_call)
      · l_intsW
      · l_intsW
      · kernel_rfl
      · k_subL
      · rw [hlt]
        exact pc_above R' (fun p => Z_own (.head _)) ((hR.take n).more fun p hp => .tail _ hp) (by lia)
      · kernel_rfl
      · kernel_rfl
    · k_subL
    · exact .eq
    · kernel_rfl
  · simp; lia
  k_memK
  exact wX_ret (PE.use (by k_subL) (RetZ (h z)))
theorem set_v_chosen {es : List (Int × Int)} : SetsTo (Z pre ⟨gg, bb, uu, aa, ⟨V, dV, EQ, pn, il, es⟩, dd⟩ own) (Z pre ⟨gg, bb, uu, aa, ⟨V, dV, EQ, pn, il, es⟩, dd⟩ own) (S "chosen") (.ref V) .none := ⟨_, _, _, _, _, rfl, zi_v, P_v (.tail .head), .tail (.tail .head)⟩
local macro_rules | `(tactic| k_allIn) => `(tactic| with_reducible exact set_v_chosen)
local macro_rules | `(tactic| k_ownIn) => `(tactic| first
  | ((with_reducible apply pc_trimmed); · exact Rm.less (by assumption) (by decide)
     assumption)
  | ((with_reducible apply pc_last_was_undo); · exact Rm.less (by assumption) (by decide)
     assumption)
  | ((with_reducible apply pc_count); · exact Rm.less (by assumption) (by decide)
     assumption))
noncomputable def inRow (ch : Bool) (pn : AV) (es : List (Int × Int)) (tr : Nat) : Bool := match pn with
  | .int p => ch && (decide (p ≤ 0) || (ival es (tr : Nat)).isSome)
  | _ => false
theorem pc_in_row {Ro : List Row} {ch : Bool} {es : List (Int × Int)} (Rr : Rm 4 A) (hR : RowsIn own rows Ro) (hp : NI pn) : PC g A f_is_in_row [.ref V, .ref U, .bool ch] (Z pre ⟨gg, bb, some ⟨R, dR, U, dU, RL, rows, pb, nt⟩, aa, ⟨V, dV, EQ, pn, .none, es⟩, dd⟩ own) (.bool (inRow ch pn es (trimB Ro Ro.length))) := fun E Φ h => by
  refine N_is_in_row Rr fun A' L R' => ?_
  conv => arg 5; whnf
  cases hp with
  | none =>
    refine tX_ifT (c := !ch || (AV.none.isNone || false)) (PT_or (by k_subL) fun _ => PT_or (by k_subL) fun e => by cases e) (by cases ch <;> rfl) ?_
    have h : Φ (.bool false) _ := h
    exact wX_ret (PE.use (by k_subL) (RetZ h))
  | @int p =>
    cases ch with
    | false =>
      refine tX_ifT (c := !false || false) (PT_or (by k_subL) fun e => by cases e) rfl ?_
      have h : Φ (.bool false) _ := h
      exact wX_ret (PE.use (by k_subL) (RetZ h))
    | true =>
      refine tX_ifF (c := !true || ((AV.int p).isNone || false)) (by k_subL) rfl ?_
      k_memK
      by_cases hp0 : p ≤ 0
      · refine tX_ifT (c := decide (p ≤ 0) || false) (PT_or (by k_subL) fun e => by simp [hp0] at e) (by simp [hp0]) ?_
        refine wX_ret (PE.use (by k_subL) (RetZ ?_))
        simpa [inRow, hp0] using h
      · refine tX_ifF (c := decide (p ≤ 0) || (false || false)) (PT_or (by k_subL) fun _ => PT_or (tT_cmp (by k_subL) (by k_subL) .eie (by kernel_rfl)) fun _ => PT_orN) (by simp [hp0]) ?_
        k_memK
        refine wX_ret (PE.use (by k_subL) (RetZ ?_))
        simpa [inRow, hp0] using h
theorem begin_undo_ {Ro : List Row} {ch : Bool} {es : List (Int × Int)} {Φ : AV → Led → Prop} (Rr : Rm 5 A) (hR : RowsIn own rows Ro) (hb : Ro.length ≤ 90000) (hp : NI pn)
    (h : ∀ rows', RowsIn own rows' (bdry Ro) → Φ .none (Z pre ⟨gg, bb, some ⟨R, dR, U, dU, RL, rows', pb, nt⟩, aa, ⟨V, dV, EQ, if inRow ch pn es (trimB (bdry Ro) (bdry Ro).length) = true then pn else .int (trimB (bdry Ro) (bdry Ro).length : Nat), .none, es⟩, dd⟩ own)) :
    wpC g A E (.ref f_begin_undo) [.ref V, .ref U, .bool ch] (Z pre ⟨gg, bb, some ⟨R, dR, U, dU, RL, rows, pb, nt⟩, aa, ⟨V, dV, EQ, pn, .none, es⟩, dd⟩ own) Φ := by
  refine N_begin_undo Rr fun A' L R' => ?_
  conv => arg 5; whnf
  k_memK
  · intro e; cases e
  intro _
  k_memK
  k_memK
  k_memK
  refine boundary_ (Rm.less R' (by decide)) hR (by lia) fun rows' hR' => ?_
  have h := h rows' hR'
  apply tX_if
  · (with_reducible apply PT_not)
    (with_reducible apply PT_call)
    · (with_reducible apply tP_call)
      · l_intsW
      · l_intsW
      · kernel_rfl
      · k_subL
      · exact pc_in_row (Rm.less R' (by decide)) hR' hp
      · kernel_rfl
      · kernel_rfl
    · exact .bool
  · intro e
    have e : inRow ch pn es (trimB (bdry Ro) (bdry Ro).length) = false := by simpa using e
    rw [e, if_neg (by decide)] at h
    k_memK
    k_memK
    k_memK
    exact wX_nil (RetN h)
  · intro e
    have e : inRow ch pn es (trimB (bdry Ro) (bdry Ro).length) = true := by simpa using e
    rw [e, if_pos rfl] at h
    k_memK
    exact wX_nil (RetN h)
end
local macro_rules | `(tactic| k_allIn) => `(tactic| with_reducible exact set_v_chosen)
section
variable {g : Gx} {A : Around} {E : Value → Shared → Prop} {pre own : Led} {T dT CL B dB M dM MD LL R dR U dU RL Ao dA V dV EQ D D0 D1 : Addr} {xs rows big cells : List AV} {gs ge pt zv tk ct sv mn n : Int} {pb nt pn il : AV} {so : PySem.Str} {eq : List (Int × Int)} {gg : Gp} {bb : Bf} {uu : Option Un} {aa : Am} {vv : Ug} {dd : Dk}
theorem PE_ifF {env : Env} {led : Led} {t b o : Expr} {pos : Pos} {c : Bool} {y : AV} (ht : PT g A env led t c) (hc : c = false) (ho : PE g A env led o y) : PE g A env led (.IfExp t b o pos) y := fun E Φ k =>
  wE_if (ht.use (by rw [hc, if_neg (by decide)]; exact ho E Φ k))
theorem PE_ifT {env : Env} {led : Led} {t b o : Expr} {pos : Pos} {c : Bool} {y : AV} (ht : PT g A env led t c) (hc : c = true) (hb : PE g A env led b y) : PE g A env led (.IfExp t b o pos) y := fun E Φ k =>
  wE_if (ht.use (by rw [hc, if_pos rfl]; exact hb E Φ k))
theorem end_undo_ {Ro : List Row} {n : Nat} {b : Int} {es : List (Int × Int)} {Φ : AV → Led → Prop} (Rr : Rm 3 A) (hR : RowsIn own rows Ro) (hb : Ro.length ≤ 90000) (hes : es.length < 1000) (hn : n < trimB (dropPts Ro n) (dropPts Ro n).length)
    (h : ∀ RL' rows' own', (∀ p ∈ own, p ∈ own') → RowsIn own' rows' (bdry (dropPts Ro n)) → Φ .none (Z pre ⟨gg, bb, some ⟨R, dR, U, dU, RL', rows', pb, nt⟩, aa, ⟨V, dV, EQ, pn, .none, istored es (trimB (dropPts Ro n) (dropPts Ro n).length : Nat) b⟩, dd⟩ own')) :
    wpC g A E (.ref f_end_undo) [.ref V, .ref U, .int (n : Nat), .int b] (Z pre ⟨gg, bb, some ⟨R, dR, U, dU, RL, rows, pb, nt⟩, aa, ⟨V, dV, EQ, pn, il, es⟩, dd⟩ own) Φ := by
  refine N_end_undo Rr fun A' L R' => ?_
  conv => arg 5; whnf
  k_memK
  k_memK
  refine drop_points_ (Rm.less R' (by decide)) hR (by lia) fun RL' rows' own' hm hR' => ?_
  have hdl : (dropPts Ro n).length ≤ Ro.length := by
    have := List.length_filter_le (fun r : Row => !r.isPt) (Ro.drop n)
    unfold dropPts
    simp only [List.length_append, List.length_take, List.length_drop] at *; lia
  generalize dropPts Ro n = D at *
  k_memK
  (with_reducible apply tX_attr)
  · apply PE_ifF (c := decide (((trimB D D.length : Nat) : Int) ≤ (n : Nat)))
    · k_subL
    · simp; lia
    · exact PE_none
  · k_subL
  · k_allIn
  · kernel_rfl
  refine tX_ifT (c := decide (((trimB D D.length : Nat) : Int) > (n : Nat))) (by k_subL) (by simp; lia) ?_
  refine wX_mapset (PE.use (by k_subL) ⟨EQ, es, _, _, _, rfl, by k_subL, by k_subL, by unfold Big; lia, pm_v, ?_⟩) (by kernel_rfl)
  k_memK
  k_memK
  k_memK
  refine boundary_ R' hR' (by lia) fun rows2 hR2 => ?_
  exact wX_nil (RetN (h _ _ _ hm hR2))
end
section
variable {g : Gx} {A : Around} {E : Value → Shared → Prop} {pre own : Led} {T dT CL B dB M dM MD LL R dR U dU RL Ao dA V dV EQ D D0 D1 : Addr} {xs rows big cells : List AV} {gs ge pt zv tk ct sv mn n : Int} {pb nt pn il : AV} {so : PySem.Str} {eq : List (Int × Int)} {gg : Gp} {bb : Bf} {uu : Option Un} {aa : Am} {vv : Ug} {dd : Dk}
theorem tX_forR {qual : PySem.Str} {sc : Scope} {L f : Addr} {cd : Value} {vs : List (PySem.Str × Option AV)} {cl : List (PySem.Str × Addr)} {m : Mach} {x : PySem.Str} {px pos : Pos} {iter : Expr} {body rest : List Stmt} {a b c : Int} {n : Nat} {Φ : Out → Led → Prop} (hh : A.handled = none) (I : Nat → List (PySem.Str × Option AV) → Mach → Led → Prop)
    (hs : ∀ y, foldedSetIterable iter (envX qual sc L f cd cl) y = pure y) (hsm : Builtin.Range.small a b c = true) (hsz : Builtin.Range.rangeSize a b c = (n : Int))
    (hi : ∀ {Φ' : AV → Led → Prop}, (∀ q, Φ' (.ref q) ((q, rangeIs a b c) :: Z ((L, .frame sc vs) :: pre) m own)) → wpE g A E (envX qual sc L f cd cl) iter (Z ((L, .frame sc vs) :: pre) m own) Φ')
    (h0 : I 0 vs m own)
    (step : ∀ i vs1 m1 own1 p, i < n → I i vs1 m1 own1 → ∃ vs', VPut x (.int (a + (i : Int) * c)) vs1 vs' ∧ wpX g A (fun _ _ => False) (envX qual sc L f cd cl) body (Z ((L, .frame sc vs') :: p :: pre) m1 own1) fun o l2 => (o = .next ∨ o = .cont) ∧ ∃ vs2 m2 own2, l2 = Z ((L, .frame sc vs2) :: p :: pre) m2 own2 ∧ I (i + 1) vs2 m2 own2)
    (fin : ∀ vs1 m1 own1, I n vs1 m1 own1 → wpX g A E (envX qual sc L f cd cl) rest (Z ((L, .frame sc vs1) :: pre) m1 own1) Φ) :
    wpX g A E (envX qual sc L f cd cl) (.For (.Name x px) iter body [] pos :: rest) (Z ((L, .frame sc vs) :: pre) m own) Φ := by
  refine wX_for hh (hi fun q => ⟨rangeL a c n, vs, pre ++ (W m ++ own), fun i vs1 l => ∃ m1 own1, l = pre ++ (W m1 ++ own1) ∧ I i vs1 m1 own1, .inr ⟨q, a, b, c, n, rfl, rfl, rfl, hsm, hsz⟩, ⟨m, own, rfl, h0⟩, ?_, ?_⟩) hs
  · intro i a' vs1 l p hx z
    obtain ⟨m1, own1, rfl, hI⟩ := z
    have hin : i < n := by have := some_lt hx; rwa [rangeL_len] at this
    have e : a' = .int (a + (i : Int) * c) := by
      unfold rangeL at hx
      rw [List.getElem?_map, List.getElem?_range hin] at hx
      exact (Option.some.inj hx).symm
    subst e
    obtain ⟨vs', V, k⟩ := step i vs1 m1 own1 p hin hI
    exact ⟨vs', V, wpS.mono k fun o l2 z => by
      obtain ⟨ho, vs2, m2, own2, e, hI2⟩ := z
      exact ⟨ho, vs2, pre ++ (W m2 ++ own2), e, m2, own2, rfl, hI2⟩⟩
  · intro vs1 l z
    obtain ⟨m1, own1, rfl, hI⟩ := z
    rw [rangeL_len] at hI
    exact fin vs1 m1 own1 hI
theorem tE_range1 {qual : PySem.Str} {sc : Scope} {L f : Addr} {cd : Value} {vs : List (PySem.Str × Option AV)} {cl : List (PySem.Str × Addr)} {m : Mach} {p pos : Pos} {e : Expr} {n : Int} {Φ : AV → Led → Prop}
    (hx : (sc.names.lookup (S "range") == some .globalImplicit && !((S "range") == ("__debug__" : PySem.Str))) = true) (he : PL g A (envX qual sc L f cd cl) (Z ((L, .frame sc vs) :: pre) m own) pos [e] [.int n])
    (hs : starEach [e] (envX qual sc L f cd cl) = (false, eval e (envX qual sc L f cd cl)) :: starEach [] (envX qual sc L f cd cl)) (hp : (backTo pos (starEach [] (envX qual sc L f cd cl))).any (·.1) = false)
    (h : ∀ q, Φ (.ref q) ((q, rangeIs 0 n 1) :: Z ((L, .frame sc vs) :: pre) m own)) : wpE g A E (envX qual sc L f cd cl) (.Call (.Name (S "range") p) [e] [] pos) (Z ((L, .frame sc vs) :: pre) m own) Φ :=
  wE_typ B_range Z_fr hx (he.use' (wK_range1 h)) hs hp
noncomputable def VS (V dV EQ : Addr) (pn : AV) (es : List (Int × Int)) (m : Mach) : Prop := m.v = ⟨V, dV, EQ, pn, .none, es⟩
theorem EdS.more {ad : Ad} {t : List Int} {Ro : List Row} {m : Mach} {own own' : Led} (h : EdS ad t Ro m own) (k : ∀ p ∈ own, p ∈ own') : EdS ad t Ro m own' := by
  obtain ⟨h1, h2, h3, pt, tk, ct, sv, RL, rows, pb, nt, h4, h5, h6, h7, h8, h9, h10⟩ := h
  exact ⟨h1, h2, h3, pt, tk, ct, sv, RL, rows, pb, nt, h4, h5, h6, h7, h8, h9, h10.more k⟩
end
section
variable {g : Gx} {A : Around} {E : Value → Shared → Prop} {pre own : Led} {T dT CL B dB M dM MD LL R dR U dU RL Ao dA V dV EQ D D0 D1 : Addr} {xs rows big cells : List AV} {gs ge pt zv tk ct sv mn n : Int} {pb nt pn il : AV} {so : PySem.Str} {eq : List (Int × Int)} {gg : Gp} {bb : Bf} {uu : Option Un} {aa : Am} {vv : Ug} {dd : Dk}
theorem trimB_nb {Ro : List Row} {k : Nat} {r : Row} (h : Ro[k]? = some r) (hb : r.isBd = false) : trimB Ro (k + 1) = k + 1 := by
  rw [trimB, h]; simp [hb]
theorem URun.le {rs : List Row} {t t' : List Int} {Ro Ro' : List Row} (h : URun rs t Ro t' Ro') : Ro'.length ≤ Ro.length + 3 * rs.length := by
  induction h with
  | nil => simp
  | cons h k ih => have := h.le; simp only [List.length_cons]; lia
theorem undo_more_ {ad : Ad} {t : List Int} {Ro P rs0 : List Row} {m : Mach} {k : Nat} {es : List (Int × Int)} {Φ : AV → Led → Prop} (Rr : Rm 12 A) (hE : EdS ad t Ro m own) (hV : VS V dV EQ (.int (k : Nat)) es m)
    (hk : k = P.length + rs0.length) (hle : k ≤ Ro.length) (htk : Ro.take k = P ++ rs0.reverse) (hne : rs0 ≠ []) (hbd : ∀ r ∈ rs0, r.isBd = false) (hP : P = [] ∨ ∃ P', P = P' ++ [.bd]) (hc : CanR rs0 t) (hlen : Ro.length + 3 * rs0.length ≤ 50000) (hes : es.length < 1000)
    (hgrow : ∀ t' Ro1, URun rs0 t Ro t' Ro1 → Ro.length < trimB (dropPts Ro1 Ro.length) (dropPts Ro1 Ro.length).length)
    (h : ∀ w t' Ro1 m' own', (∀ p ∈ own, p ∈ own') → m'.a = m.a → m'.d = m.d → URun rs0 t Ro t' Ro1 → EdS ad t' (bdry (dropPts Ro1 Ro.length)) m' own' →
      VS V dV EQ (.int (trimB (Ro.take k) P.length : Nat)) (istored es (trimB (dropPts Ro1 Ro.length) (dropPts Ro1 Ro.length).length : Nat) (trimB (Ro.take k) P.length : Nat)) m' → Φ w (Z pre m' own')) :
    wpC g A E (.ref f_undo_more) [.ref V, .ref ad.B, .ref ad.U, .int 1, .bool false] (Z pre m own) Φ := by
  obtain ⟨gg, bb, uu, aa, vv, dd⟩ := m
  have hE0 := hE
  obtain ⟨hG, hl, hrl, pt, tk, ct, sv, RL, rows, pb, nt, rfl, hp1, hp2, rfl, hpb, hnt, hR⟩ := hE
  obtain rfl : vv = ⟨V, dV, EQ, .int (k : Nat), .none, es⟩ := hV
  obtain ⟨r0, rs1, rfl⟩ : ∃ r0 rs1, rs0 = r0 :: rs1 := by cases rs0 with | nil => exact absurd rfl hne | cons a b => exact ⟨a, b, rfl⟩
  obtain ⟨k', rfl⟩ : ∃ k', k = k' + 1 := ⟨P.length + rs1.length, by rw [hk]; simp; lia⟩
  have hlast : (Ro.take (k' + 1))[k']? = some r0 := by
    rw [htk, List.getElem?_append_right (by simp at hk; lia)]
    simp at hk
    simp [show k' - P.length = rs1.length by lia]
  have htr : trimB (Ro.take (k' + 1)) (k' + 1) = k' + 1 := trimB_nb hlast (hbd r0 List.mem_cons_self)
  have hlt : (rows.take (k' + 1)).length = k' + 1 := by rw [List.length_take, hR.length]; lia
  have hlt2 : (Ro.take (k' + 1)).length = k' + 1 := by rw [List.length_take]; lia
  refine N_undo_more Rr fun A' L R' => ?_
  conv => arg 5; whnf
  (with_reducible apply tX_name)
  · apply PE_if (c := (ival es ((k' + 1 : Nat) : Int)).isSome && (!false && true))
    · refine PT_and (PT_cmpG (by k_subL) (by k_subL) (PCmp_inM zm_v) (by kernel_rfl)) fun _ => by k_subL
    · exact fun _ => PE_str
    · exact fun _ => PE_str
  · k_updF
  · kernel_rfl
  generalize (if ((ival es ((k' + 1 : Nat) : Int)).isSome && (!false && true)) = true then AV.str _ else AV.str _) = w
  (with_reducible apply tX_name)
  · apply PE_ifF (c := false)
    · k_subL
    · rfl
    · k_subL
  · k_updF
  · kernel_rfl
  refine tX_nameE ?_ (by kernel_rfl)
  k_memK
  refine elder_rows_ (Rm.less R' (by decide)) hR hle (by rw [htr]; lia) fun z => ⟨_, _, _, _, _, rfl, by k_updF, ?_⟩
  have hR1 := hR.more (own' := (z, Cell.list (rows.take (k' + 1))) :: own) fun p hp => .tail _ hp
  k_memK
  k_memK
  rw [hlt]
  have hEz := hE0.more (own' := (z, Cell.list (rows.take (k' + 1))) :: own) fun p hp => .tail _ hp
  refine tX_forR (a := 0) (b := 1) (c := 1) (n := 1) R'.handled (fun i vs1 m1 own1 => (i = 0 ∧ vs1 = [(S "undoing", some (.ref V)), (S "buffer", some (.ref ad.B)), (S "history", some (.ref ad.U)), (S "count", some (.int 1)), (S "passes_undos", some (.bool false)), (S "word", some w), (S "start", some (.int ((k' + 1 : Nat) : Int))), (S "rows", some (.ref z)), (S "first", some (.int (Ro.length : Nat))), (S "at", some (.int ((k' + 1 : Nat) : Int))), (S "turn", none)] ∧
      m1 = ⟨gg, ⟨ad.B, ad.dB, ad.M, ad.dM, ad.MD, ad.LL, pt, (t.length : Nat) + 1, tk, ct, sv⟩, some ⟨ad.R, ad.dR, ad.U, ad.dU, RL, rows, pb, nt⟩, aa, ⟨V, dV, EQ, .int ((k' + 1 : Nat) : Int), .none, es⟩, dd⟩ ∧ own1 = (z, Cell.list (rows.take (k' + 1))) :: own) ∨
    (i = 1 ∧ ∃ t' Ro1, vs1 = [(S "undoing", some (.ref V)), (S "buffer", some (.ref ad.B)), (S "history", some (.ref ad.U)), (S "count", some (.int 1)), (S "passes_undos", some (.bool false)), (S "word", some w), (S "start", some (.int ((k' + 1 : Nat) : Int))), (S "rows", some (.ref z)), (S "first", some (.int (Ro.length : Nat))), (S "at", some (.int (trimB (Ro.take (k' + 1)) P.length : Nat))), (S "turn", some (.int 0))] ∧
      (∀ p ∈ (z, Cell.list (rows.take (k' + 1))) :: own, p ∈ own1) ∧ Rest ⟨gg, ⟨ad.B, ad.dB, ad.M, ad.dM, ad.MD, ad.LL, pt, (t.length : Nat) + 1, tk, ct, sv⟩, some ⟨ad.R, ad.dR, ad.U, ad.dU, RL, rows, pb, nt⟩, aa, ⟨V, dV, EQ, .int ((k' + 1 : Nat) : Int), .none, es⟩, dd⟩ m1 ∧ EdS ad t' Ro1 m1 own1 ∧ URun (r0 :: rs1) t Ro t' Ro1))
    (fun _ => rfl) (by decide) (by decide) (fun k => tE_range1 (by kernel_rfl) (by k_subL) (by kernel_rfl) (by kernel_rfl) k) (.inl ⟨rfl, rfl, rfl, rfl⟩) ?_ ?_
  · rintro i vs1 m1 own1 p hi (⟨rfl, rfl, rfl, rfl⟩ | ⟨rfl, -⟩)
    · refine ⟨_, by k_updF, ?_⟩
      refine tX_nameE ?_ (by kernel_rfl)
      refine wE_call G_above_boundaries keep_above_boundaries Z_fr (by kernel_rfl) (wL_cons (PE.use (by k_subL) (wL_cons ?_ (by kernel_rfl))) (by kernel_rfl)) (by kernel_rfl) (by kernel_rfl)
      k_memK
      refine undo_group_ (P := P) (rs0 := r0 :: rs1) (Rm.less R' (by decide)) hEz (.head _) ((hR1).take (k' + 1)) (by lia) (by rw [htr]; exact hk) (by rw [← hk, hlt2]; exact Nat.le_refl _) (by rw [← hk, List.take_take, Nat.min_self]; exact htk) hbd hP hc (by lia) fun t' Ro1 m' own' hm hrest hE' hU => ?_
      refine wL_nil (wpK_C ?_)
      refine pc_above (Rm.less R' (by decide)) (fun p => Z_own (hm _ (.head _))) ((hR1.take (k' + 1)).more hm) (by rw [hlt2]; lia) _ _ ⟨_, _, _, _, _, rfl, by k_updF, ?_⟩
      exact wX_nil ⟨.inl rfl, _, _, _, rfl, .inr ⟨rfl, t', Ro1, rfl, hm, hrest, hE', hU⟩⟩
    · lia
  · rintro vs1 m1 own1 (⟨hh, -⟩ | ⟨-, t', Ro1, rfl, hm, hrest, hE', hU⟩)
    · lia
    obtain ⟨gg1, bb1, uu1, aa1, vv1, dd1⟩ := m1
    obtain ⟨ra, rv, rd⟩ := hrest
    simp only at ra rv rd
    subst ra rv rd
    obtain ⟨hG1, hl1, hrl1, pt1, tk1, ct1, sv1, RL1, rows1, pb1, nt1, rfl, hp3, hp4, rfl, hpb1, hnt1, hR1'⟩ := hE'
    have hz := hm _ List.mem_cons_self
    k_memK
    rw [hlt, show (((k' + 1 : Nat) : Int) - ((k' + 1 : Nat) : Int) + (trimB (Ro.take (k' + 1)) P.length : Nat)) = (trimB (Ro.take (k' + 1)) P.length : Nat) by lia]
    k_memK
    k_memK
    refine end_undo_ (Rm.less R' (by decide)) hR1' (by lia) hes (hgrow t' Ro1 hU) fun RL' rows' own' hm2 hR2 => ?_
    have hbl : (bdry (dropPts Ro1 Ro.length)).length ≤ Ro1.length + 1 := by
      have := List.length_filter_le (fun r : Row => !r.isPt) (Ro1.drop Ro.length)
      unfold bdry dropPts
      split <;> simp only [List.length_append, List.length_take, List.length_drop, List.length_cons, List.length_nil] at * <;> lia
    have hul := hU.le
    refine wX_ret (PE.use (by k_subL) (RetZ (h w t' Ro1 _ _ (fun p hp => hm2 _ (hm _ (.tail _ hp))) rfl rfl hU (.mk' hG1 hl1 (by lia) rfl hp3 hp4 hpb1 hnt1 hR2) rfl)))
end
section
variable {g : Gx} {A : Around} {E : Value → Shared → Prop} {pre own : Led} {T dT CL B dB M dM MD LL R dR U dU RL Ao dA V dV EQ D D0 D1 : Addr} {xs rows big cells : List AV} {gs ge pt zv tk ct sv mn n : Int} {pb nt pn il : AV} {so : PySem.Str} {eq : List (Int × Int)} {gg : Gp} {bb : Bf} {uu : Option Un} {aa : Am} {vv : Ug} {dd : Dk}
theorem undo_ {ad : Ad} {t : List Int} {Ro P rs0 : List Row} {m : Mach} {k : Nat} {ch : Bool} {es : List (Int × Int)} {Φ : AV → Led → Prop} (Rr : Rm 13 A) (hE : EdS ad t Ro m own) (hV : VS V dV EQ pn es m) (hpn : NI pn)
    (hpk : (if inRow ch pn es (trimB (bdry Ro) (bdry Ro).length) = true then pn else .int (trimB (bdry Ro) (bdry Ro).length : Nat)) = .int (k : Nat))
    (hk : k = P.length + rs0.length) (hle : k ≤ (bdry Ro).length) (htk : (bdry Ro).take k = P ++ rs0.reverse) (hne : rs0 ≠ []) (hbd : ∀ r ∈ rs0, r.isBd = false) (hP : P = [] ∨ ∃ P', P = P' ++ [.bd]) (hc : CanR rs0 t) (hlen : (bdry Ro).length + 3 * rs0.length ≤ 50000) (hes : es.length < 1000)
    (hgrow : ∀ t' Ro1, URun rs0 t (bdry Ro) t' Ro1 → (bdry Ro).length < trimB (dropPts Ro1 (bdry Ro).length) (dropPts Ro1 (bdry Ro).length).length)
    (h : ∀ w t' Ro1 m' own', (∀ p ∈ own, p ∈ own') → m'.a = m.a → m'.d = m.d → URun rs0 t (bdry Ro) t' Ro1 → EdS ad t' (bdry (dropPts Ro1 (bdry Ro).length)) m' own' →
      VS V dV EQ (.int (trimB ((bdry Ro).take k) P.length : Nat)) (istored es (trimB (dropPts Ro1 (bdry Ro).length) (dropPts Ro1 (bdry Ro).length).length : Nat) (trimB ((bdry Ro).take k) P.length : Nat)) m' → Φ w (Z pre m' own')) :
    wpC g A E (.ref f_undo) [.ref V, .ref ad.B, .int 1, .bool ch] (Z pre m own) Φ := by
  obtain ⟨gg, bb, uu, aa, vv, dd⟩ := m
  obtain ⟨hG, hl, hrl, pt, tk, ct, sv, RL, rows, pb, nt, rfl, hp1, hp2, rfl, hpb, hnt, hR⟩ := hE
  obtain rfl : vv = ⟨V, dV, EQ, pn, .none, es⟩ := hV
  have hbl : Ro.length ≤ (bdry Ro).length := by unfold bdry; split <;> simp
  refine N_undo Rr fun A' L R' => ?_
  conv => arg 5; whnf
  k_memK
  k_memK
  refine begin_undo_ (Rm.less R' (by decide)) hR (by lia) hpn fun rows' hR' => ?_
  rw [hpk]
  k_memK
  · intro e; cases e
  intro _
  k_memK
  refine wX_ret ?_
  k_memK
  refine undo_more_ (k := k) R' (.mk' hG hl (by lia) rfl hp1 hp2 hpb hnt hR') rfl hk hle htk hne hbd hP hc hlen hes hgrow fun w t' Ro1 m' own' hm ha hd hU hE' hV' => ?_
  exact RetZ (h w t' Ro1 m' own' hm ha hd hU hE' hV')
theorem PE_get2 {o i e : Expr} {env : Env} {led : Led} {ap pos : Pos} {d : Addr} {es : List (Int × Int)} {k : Int} {pl : Sem Bool} (ho : PE g A env led o (.ref d)) (hm : (d, Cell.imap es) ∈ led) (hi : PL g A env led pos [i, e] [.int k, .none])
    (he : starEach [i, e] env = (false, eval i env) :: starEach [e] env)
    (hp : (backTo pos (starEach [e] env)).any (·.1) = false)
    (hev : eval (.Call (.Attribute o (S "get") ap) [i, e] [] pos) env = (do
      let ov ← eval o env
      standAt ap.atName
      let (f, first) ← holding [ov] (getMethod ov (S "get") pl)
      callWith pos f first (backTo pos (starEach [i, e] env)) (backToKw pos (keywordEach [] env)))) :
    PE g A env led (.Call (.Attribute o (S "get") ap) [i, e] [] pos) (match ival es k with | some v => .int v | none => .none) := fun E Φ h => wE_get2 ho hm hi h hev he hp
theorem go_on_ {Ro : List Row} {es : List (Int × Int)} {Φ : AV → Led → Prop} (Rr : Rm 3 A) (hR : RowsIn own rows Ro)
    (h : ∀ pn', NI pn' → Φ .none (Z pre ⟨gg, bb, some ⟨R, dR, U, dU, RL, rows, pb, nt⟩, aa, ⟨V, dV, EQ, pn', il, es⟩, dd⟩ own)) :
    wpC g A E (.ref f_go_on_behind_redo) [.ref V, .ref U] (Z pre ⟨gg, bb, some ⟨R, dR, U, dU, RL, rows, pb, nt⟩, aa, ⟨V, dV, EQ, pn, il, es⟩, dd⟩ own) Φ := by
  refine N_go_on_behind_redo Rr fun A' L R' => ?_
  conv => arg 5; whnf
  k_memK
  (with_reducible apply tX_attr)
  · apply PE_get2
    · k_subL
    · exact zm_v
    · k_subL
    · kernel_rfl
    · kernel_rfl
    · rfl
  · k_subL
  · k_allIn
  · kernel_rfl
  cases ival es (trimB Ro Ro.length : Nat) with
  | none =>
    refine tX_ifF (c := false) (tT_cmp (by k_subL) (by k_subL) .eqi (by kernel_rfl)) rfl ?_
    k_memK
    exact wX_nil (RetN (h _ .none))
  | some v =>
    k_memK
    · intro _
      k_memK
      k_memK
      exact wX_nil (RetN (h _ .none))
    · intro _
      k_memK
      exact wX_nil (RetN (h _ .int))
theorem tX_tupleSL {qual : PySem.Str} {sc : Scope} {L f : Addr} {cd : Value} {cl : List (PySem.Str × Addr)} {elts vals : List Expr} {n k : Nat} {tp vp pos : Pos} {rest : List Stmt} {xs : List PySem.Str} {led : Led} {Φ : Out → Led → Prop} (hh : A.handled = none)
    (hw : swappedStores [.Tuple elts n tp] (.Tuple vals k vp) (envX qual sc L f cd cl) = pure (some xs)) (hs : swapsWithSole [.Tuple elts n tp] (.Tuple vals k vp) pos.line (envX qual sc L f cd cl) = pure false)
    (hl : wpL g A E (envX qual sc L f cd cl) vp vals led fun as l => as.length ≤ Big ∧ as.length = xs.length ∧ ∃ vs0 vs' pre' m' own', l = Z ((L, .frame sc vs0) :: pre') m' own' ∧ VPuts xs.reverse as.reverse vs0 vs' ∧
      ∀ z, wpX g A E (envX qual sc L f cd cl) rest (Z ((L, .frame sc vs') :: pre') m' ((z, .tup as) :: own')) Φ) : wpX g A E (envX qual sc L f cd cl) (.Assign [.Tuple elts n tp] (.Tuple vals k vp) pos :: rest) led Φ :=
  wX_tupleS hh (wE_tuple (wpS.mono hl fun as l z => by
    obtain ⟨hb, hlen, vs0, vs', pre', m', own', e, V, h⟩ := z
    exact ⟨hb, fun z => ⟨z, as, vs0, vs', pre' ++ (W m' ++ own'), rfl, by rw [e]; exact List.Perm.swap .., hlen, V, wpS.perm (List.Perm.cons _ (Z_new (pre := pre') (m := m') (own := own'))) (h z)⟩⟩)) hw hs
end
section
variable {g : Gx} {A : Around} {E : Value → Shared → Prop} {pre own : Led} {T dT CL B dB M dM MD LL R dR U dU RL Ao dA V dV EQ D D0 D1 : Addr} {xs rows big cells : List AV} {gs ge pt zv tk ct sv mn n : Int} {pb nt pn il : AV} {so : PySem.Str} {eq : List (Int × Int)} {gg : Gp} {bb : Bf} {uu : Option Un} {aa : Am} {vv : Ug} {dd : Dk}
theorem bdry_at {Ro : List Row} (h : atB Ro = true) : bdry Ro = Ro := by unfold bdry; rw [h]; rfl
theorem undo_redo_ {ad : Ad} {t : List Int} {Ro P rs0 : List Row} {m : Mach} {k : Nat} {v : Int} {es : List (Int × Int)} {Φ : AV → Led → Prop} (Rr : Rm 13 A) (hE : EdS ad t Ro m own) (hV : VS V dV EQ pn es m)
    (hat : atB Ro = true) (htr : trimB Ro Ro.length = k) (hin : ival es (k : Nat) = some v)
    (hk : k = P.length + rs0.length) (hle : k ≤ Ro.length) (htk : Ro.take k = P ++ rs0.reverse) (hne : rs0 ≠ []) (hbd : ∀ r ∈ rs0, r.isBd = false) (hP : P = [] ∨ ∃ P', P = P' ++ [.bd]) (hc : CanR rs0 t) (hlen : Ro.length + 3 * rs0.length ≤ 50000)
    (h : ∀ w t' Ro1 m' own' pn', (∀ p ∈ own, p ∈ own') → m'.a = m.a → m'.d = m.d → NI pn' → URun rs0 t Ro t' Ro1 → EdS ad t' (Ro1.take P.length) m' own' → VS V dV EQ pn' (iwithout es (k : Nat)) m' → Φ w (Z pre m' own')) :
    wpC g A E (.ref f_undo_redo) [.ref V, .ref ad.B, .int 1] (Z pre m own) Φ := by
  obtain ⟨gg, bb, uu, aa, vv, dd⟩ := m
  obtain ⟨hG, hl, hrl, pt, tk, ct, sv, RL, rows, pb, nt, rfl, hp1, hp2, rfl, hpb, hnt, hR⟩ := hE
  obtain rfl : vv = ⟨V, dV, EQ, pn, .none, es⟩ := hV
  obtain ⟨r0, rs1, rfl⟩ : ∃ r0 rs1, rs0 = r0 :: rs1 := by cases rs0 with | nil => exact absurd rfl hne | cons a b => exact ⟨a, b, rfl⟩
  obtain ⟨k', rfl⟩ : ∃ k', k = k' + 1 := ⟨P.length + rs1.length, by rw [hk]; simp; lia⟩
  have hlast : (Ro.take (k' + 1))[k']? = some r0 := by
    rw [htk, List.getElem?_append_right (by simp at hk; lia)]
    simp at hk
    simp [show k' - P.length = rs1.length by lia]
  have htr2 : trimB (Ro.take (k' + 1)) (k' + 1) = k' + 1 := trimB_nb hlast (hbd r0 List.mem_cons_self)
  have hlt : (rows.take (k' + 1)).length = k' + 1 := by rw [List.length_take, hR.length]; lia
  have hlt2 : (Ro.take (k' + 1)).length = k' + 1 := by rw [List.length_take]; lia
  refine N_undo_redo Rr fun A' L R' => ?_
  conv => arg 5; whnf
  k_memK
  refine tX_forR (a := 0) (b := max 1 1) (c := 1) (n := 1) R'.handled (fun i vs1 m1 own1 => (i = 0 ∧ vs1 = [(S "undoing", some (.ref V)), (S "buffer", some (.ref ad.B)), (S "count", some (.int 1)), (S "own", some (.ref ad.U)), (S "turn", none), (S "behind", none), (S "rows", none), (S "noted", none), (S "at", none)] ∧
      m1 = ⟨gg, ⟨ad.B, ad.dB, ad.M, ad.dM, ad.MD, ad.LL, pt, (t.length : Nat) + 1, tk, ct, sv⟩, some ⟨ad.R, ad.dR, ad.U, ad.dU, RL, rows, pb, nt⟩, aa, ⟨V, dV, EQ, pn, .none, es⟩, dd⟩ ∧ own = own1) ∨
    (i = 1 ∧ ∃ t' Ro1 pn', (∀ p ∈ own, p ∈ own1) ∧ m1.a = aa ∧ m1.d = dd ∧ NI pn' ∧ URun (r0 :: rs1) t Ro t' Ro1 ∧ EdS ad t' (Ro1.take P.length) m1 own1 ∧ VS V dV EQ pn' (iwithout es ((k' + 1 : Nat) : Int)) m1))
    (fun _ => rfl) (by decide) (by decide) (fun k => tE_range1 (by kernel_rfl) (by k_subL) (by kernel_rfl) (by kernel_rfl) k) (.inl ⟨rfl, rfl, rfl, rfl⟩) ?_ ?_
  · rintro i vs1 m1 own1 p hi (⟨rfl, rfl, rfl, rfl⟩ | ⟨rfl, -⟩)
    rotate_left
    · lia
    refine ⟨_, by k_updF, ?_⟩
    k_memK
    rw [htr]
    refine tX_ifF (c := !(ival es ((k' + 1 : Nat) : Int)).isSome) (PT_cmpG (by k_subL) (by k_subL) (PCmp_ninM zm_v) (by kernel_rfl)) (by rw [hin]; rfl) ?_
    k_memK
    refine tX_ifT (c := decide ((0 : Int) + ((0 : Nat) : Int) * 1 < 1)) (by k_subL) (by decide) ?_
    refine tX_tupleSL (xs := [S "rows", S "noted"]) R'.handled (by kernel_rfl) (by kernel_rfl) (wL_cons (tE_slice none (some (k' + 1)) (by k_subL) .none (.some (by k_subL) (by lia)) zl_u fun z => PL.use' (by k_subL) ?_) (by kernel_rfl))
    refine ⟨by unfold Big; simp, rfl, _, _, _, _, _, rfl, .cons (by k_updF) (.cons (by k_updF) .nil), fun tz => ?_⟩
    have e1 : sliceL rows none (some (k' + 1)) = rows.take (k' + 1) := by simp [sliceL]
    rw [e1]
    generalize hown1 : (tz, Cell.tup _) :: (z, Cell.list (rows.take (k' + 1))) :: own = own1
    have hz : (z, Cell.list (rows.take (k' + 1))) ∈ own1 := by rw [← hown1]; exact .tail _ (.head _)
    have hm1 : ∀ p ∈ own, p ∈ own1 := fun p hp => by rw [← hown1]; exact .tail _ (.tail _ hp)
    have hR1 := hR.more hm1
    k_memK
    k_memK
    refine boundary_ (Rm.less R' (by decide)) hR1 (by lia) fun rows2 hR2 => ?_
    rw [bdry_at hat] at hR2
    refine tX_nameE ?_ (by kernel_rfl)
    k_memK
    rw [hlt]
    refine undo_group_ (P := P) (rs0 := r0 :: rs1) (Rx := Ro.take (k' + 1)) (Ro := Ro) (t := t) (Rm.less R' (by decide)) (.mk' hG hl hrl rfl hp1 hp2 hpb hnt hR2) hz (hR1.take (k' + 1)) (by lia) (by rw [htr2]; exact hk) (by rw [← hk, hlt2]; exact Nat.le_refl _) (by rw [← hk, List.take_take, Nat.min_self]; exact htk) hbd hP hc (by lia) fun t' Ro1 m' own2 hm2 hrest hE' hU => ⟨_, _, _, _, _, rfl, by k_updF, ?_⟩
    obtain ⟨gg1, bb1, uu1, aa1, vv1, dd1⟩ := m'
    obtain ⟨ra, rv, rd⟩ := hrest
    simp only at ra rv rd
    subst ra rv rd
    obtain ⟨hG1, hl1, hrl1, pt1, tk1, ct1, sv1, RL1, rows1, pb1, nt1, rfl, hp3, hp4, rfl, hpb1, hnt1, hR1'⟩ := hE'
    k_memK
    refine wE_mpop (by k_subL) pm_v (by k_subL) hin ?_
    refine tX_rowsU (by kernel_rfl) (tE_slice none (some P.length) (by k_subL) .none (.some (by k_subL) rfl) zl_u fun z2 => ?_)
    have e2 : sliceL rows1 none (some P.length) = rows1.take P.length := by simp [sliceL]
    rw [e2]
    refine ⟨z2, _, _, _, _, _, _, _, _, _, _, _, _, _, _, _, _, _, rfl, rfl, by k_subL, ?_⟩
    have hR3 := (hR1'.take P.length).more (own' := (RL1, Cell.list rows1) :: own2) fun p hp => .tail _ hp
    k_memK
    k_memK
    k_memK
    k_memK
    refine go_on_ (Rm.less R' (by decide)) hR3 fun pn' hpn' => ?_
    exact wX_nil ⟨.inl rfl, _, _, _, rfl, .inr ⟨rfl, t', Ro1, pn', fun p hp => .tail _ (hm2 _ (hm1 _ hp)), rfl, rfl, hpn', hU, .mk' hG1 hl1 (by rw [List.length_take]; lia) rfl hp3 hp4 hpb1 hnt hR3, rfl⟩⟩
  · rintro vs1 m1 own1 (⟨hh, -⟩ | ⟨-, t', Ro1, pn', hm, ha, hd, hpn', hU, hE', hV'⟩)
    · lia
    exact wX_ret (PE.use PE_str (RetZ (h _ t' Ro1 m1 own1 pn' hm ha hd hpn' hU hE' hV')))
end
section
variable {g : Gx} {A : Around} {E : Value → Shared → Prop} {pre own : Led} {T dT CL B dB M dM MD LL R dR U dU RL Ao dA V dV EQ D D0 D1 : Addr} {xs rows big cells : List AV} {gs ge pt zv tk ct sv mn n : Int} {pb nt pn il : AV} {so : PySem.Str} {eq : List (Int × Int)} {gg : Gp} {bb : Bf} {uu : Option Un} {aa : Am} {vv : Ug} {dd : Dk}
theorem begin_change_ {Ro : List Row} {s : PySem.Str} {Φ : AV → Led → Prop} (Rr : Rm 3 A) (hR : RowsIn own rows Ro) (hb : Ro.length ≤ 90000)
    (h1 : (s != S "" && (s == so && decide (mn < 20))) = true → Φ (.bool false) (Z pre ⟨gg, bb, some ⟨R, dR, U, dU, RL, rows, pb, nt⟩, ⟨Ao, dA, so, mn + 1⟩, vv, dd⟩ own))
    (h2 : (s != S "" && (s == so && decide (mn < 20))) = false → ∀ rows', RowsIn own rows' (bdry Ro) → Φ (.bool true) (Z pre ⟨gg, bb, some ⟨R, dR, U, dU, RL, rows', pb, nt⟩, ⟨Ao, dA, s, if (s != S "") = true then 1 else 0⟩, vv, dd⟩ own)) :
    wpC g A E (.ref f_begin_change) [.ref Ao, .ref U, .str s] (Z pre ⟨gg, bb, some ⟨R, dR, U, dU, RL, rows, pb, nt⟩, ⟨Ao, dA, so, mn⟩, vv, dd⟩ own) Φ := by
  refine N_begin_change Rr fun A' L R' => ?_
  conv => arg 5; whnf
  refine tX_if (c := s != S "" && (s == so && (decide (mn < 20) && true))) (PT_and (by k_subL) fun _ => PT_and (by k_subL) fun _ => PT_and (by k_subL) fun _ => PT_andN) (fun e => ?_) (fun e => ?_)
  · rw [Bool.and_true] at e
    k_memK
    exact wX_ret (PE.use (by k_subL) (RetZ (h1 e)))
  · rw [Bool.and_true] at e
    k_memK
    k_memK
    k_memK
    refine boundary_ R' hR (by lia) fun rows' hR' => ?_
    have h2 := h2 e rows' hR'
    k_memK
    cases hs : s != S "" with
    | true =>
      rw [hs, if_pos rfl] at h2
      (with_reducible apply tX_attr)
      · apply PE_ifT (c := s != S "")
        · k_subL
        · exact hs
        · k_subL
      · k_subL
      · k_allIn
      · kernel_rfl
      exact wX_ret (PE.use (by k_subL) (RetZ h2))
    | false =>
      rw [hs, if_neg (by decide)] at h2
      (with_reducible apply tX_attr)
      · apply PE_ifF (c := s != S "")
        · k_subL
        · exact hs
        · k_subL
      · k_subL
      · k_allIn
      · kernel_rfl
      exact wX_ret (PE.use (by k_subL) (RetZ h2))
noncomputable def DkOK (D D0 D1 : Addr) (dd : Dk) : Prop := ∃ (bs cs : List Int) (n : Int), dd = ⟨D, D0, D1, bs.map .int, cs.map .int, n⟩ ∧ cs ≠ []
theorem tE_itemL {env : Env} {o : Expr} {kd : Nat} {p pos : Pos} {m : Mach} {i : Int} {x : Addr} {xs : List AV} {a : AV} (ho : PE g A env (Z pre m own) o (.ref x)) (hm : (x, Cell.list xs) ∈ Z pre m own) (h0 : decide (0 ≤ i) = true) (hk : xs[i.toNat]? = some a) :
    PE g A env (Z pre m own) (.Subscript o (.Constant (.int i) kd p) pos) a := PE_item ho PE_int hm (.inl ⟨of_decide_eq_true h0, hk⟩) rfl
end
section
variable {g : Gx} {A : Around} {E : Value → Shared → Prop} {pre own : Led} {T dT CL B dB M dM MD LL R dR U dU RL Ao dA V dV EQ D D0 D1 : Addr} {xs rows big cells : List AV} {gs ge pt zv tk ct sv mn n : Int} {pb nt pn il : AV} {so : PySem.Str} {eq : List (Int × Int)} {gg : Gp} {bb : Bf} {uu : Option Un} {aa : Am} {vv : Ug} {dd : Dk}
theorem intBits64 {x : Int} (h : x.natAbs < 2 ^ 64) : Builtin.Int.intBits x ≤ 64 := by
  unfold Builtin.Int.intBits
  split
  · lia
  · rename_i h0
    have h1 : x.natAbs ≠ 0 := by simpa using h0
    have := (Nat.log2_lt h1).mpr h
    lia
theorem fmod_range {x y : Int} (hy : 0 < y) : 0 ≤ x.fmod y ∧ x.fmod y < y := ⟨Int.fmod_nonneg_of_pos x hy, Int.fmod_lt_of_pos x hy⟩
theorem draw_ {D D0 D1 : Addr} {k : Int} {Φ : AV → Led → Prop} (Rr : Rm 1 A) (hk : 0 < k) (hk2 : k < 1000000) (hD : DkOK D D0 D1 dd)
    (h : ∀ r dd' own', 0 ≤ r → r < k → (∀ p ∈ own, p ∈ own') → DkOK D D0 D1 dd' → Φ (.int r) (Z pre ⟨gg, bb, uu, aa, vv, dd'⟩ own')) :
    wpC g A E (.ref f__law_draw) [.ref D, .int k] (Z pre ⟨gg, bb, uu, aa, vv, dd⟩ own) Φ := by
  obtain ⟨bs, cs, n, rfl, hcs⟩ := hD
  refine N__law_draw Rr fun A' L R' => ?_
  conv => arg 5; whnf
  have hu : A'.units < cLine := by have := R'.units; omega
  refine wX_if (wT_cmp (PE.use (tE_itemL (by k_subL) zl_d rfl rfl) (tE_list PL_nil (by unfold Big; simp) fun z => ⟨_, PCmp_lstNe (xs := bs) (ys := []) hu zl_d0 (Z_own (.head _)), ?_⟩)) (by kernel_rfl))
  cases bs with
  | cons b bs =>
    rw [if_pos (by simp)]
    (with_reducible apply tX_name (a := .int b))
    · exact tE_itemL (tE_itemL (by k_subL) zl_d rfl rfl) zl_d0 rfl rfl
    · k_updF
    · kernel_rfl
    refine wX_item (PE.use (PE_bin (by k_subL) (by k_subL) (.fdiv (by omega) (PyProof.noPylong_small (by omega)))) ⟨D0, _, 0, _, tE_itemL (by k_subL) zl_d rfl rfl, PE_int, by simp, pl_d0, ?_⟩) (by kernel_rfl)
    rw [List.map_cons, List.set_cons_zero]
    have hmm : ∀ {x : Int}, x ≠ 0 ∨ x = 0 → True := fun _ => trivial
    refine tX_if (c := b.fdiv k == 0) (tT_cmp (tE_itemL (tE_itemL (by k_subL) zl_d rfl rfl) zl_d0 rfl rfl) (by k_subL) .eq (by kernel_rfl)) (fun _ => ?_) (fun _ => ?_)
    · refine tX_expr (by kernel_rfl) (by kernel_rfl) (wE_pop0 (tE_itemL (by k_subL) zl_d rfl rfl) PE_int pl_d0 ?_)
      k_memK
      refine wX_ret (PE.use (PE_bin (by k_subL) (by k_subL) (.mod (by omega))) (RetZ (h _ _ _ (fmod_range hk).1 (fmod_range hk).2 (fun p hp => .tail _ hp) ⟨bs, cs, n, rfl, hcs⟩)))
    · k_memK
      refine wX_ret (PE.use (PE_bin (by k_subL) (by k_subL) (.mod (by omega))) (RetZ (h _ _ _ (fmod_range hk).1 (fmod_range hk).2 (fun p hp => .tail _ hp) ⟨b.fdiv k :: bs, cs, n, rfl, hcs⟩)))
  | nil =>
    rw [if_neg (by simp)]
    k_memK
    refine wX_item (PE.use (PE_bin (tE_itemL (by k_subL) zl_d rfl rfl) (by k_subL) .add) ⟨D, _, 2, _, by k_subL, PE_int, by simp, pl_d (n' := n + 1), ?_⟩) (by kernel_rfl)
    have hlen : 0 < ((cs.map AV.int).length : Int) := by
      have := List.length_pos_iff.mpr hcs
      rw [List.length_map]; omega
    obtain ⟨hr1, hr2⟩ := fmod_range (x := n + 1) hlen
    obtain ⟨c, hc⟩ : ∃ c, cs[((n + 1).fmod ((cs.map AV.int).length : Nat)).toNat]? = some c := ⟨_, List.getElem?_eq_getElem (by simp only [List.length_map] at hr1 hr2 ⊢; omega)⟩
    have hidx : IdxAt (cs.map AV.int) ((n + 1).fmod ((cs.map AV.int).length : Nat)) (.int c) := .inl ⟨hr1, by rw [List.getElem?_map, hc]; rfl⟩
    (with_reducible apply tX_name (a := .int ((c + 1640531527 * (n + 1)).fmod 4294966297)))
    · refine PE_bin (PE_bin (PE_item (tE_itemL (by k_subL) zl_d rfl rfl) (PE_bin (tE_itemL (by k_subL) zl_d rfl rfl) ?_ (.mod (by omega))) zl_d1 hidx rfl) (PE_bin (by k_subL) (tE_itemL (by k_subL) zl_d rfl rfl) (.mul (.of_left (by decide)))) .add) (by k_subL) (.mod (by decide))
      apply tE_blt
      · exact B_len
      · kernel_rfl
      · exact tL_cons (tE_itemL (by k_subL) zl_d rfl rfl) PL_nil (by kernel_rfl)
      · exact PK_len zl_d1
      · kernel_rfl
      · kernel_rfl
    · k_updF
    · kernel_rfl
    obtain ⟨hm1, hm2⟩ := fmod_range (x := c + 1640531527 * (n + 1)) (y := 4294966297) (by decide)
    generalize (c + 1640531527 * (n + 1)).fmod 4294966297 = mx at *
    (with_reducible apply tX_name (a := .int ((mx * mx + 122949823 * (n + 1)).fmod 4294966237)))
    · exact PE_bin (PE_bin (PE_bin (by k_subL) (by k_subL) (.mul (.of_left (intBits64 (by omega))))) (PE_bin (by k_subL) (tE_itemL (by k_subL) zl_d rfl rfl) (.mul (.of_left (by decide)))) .add) (by k_subL) (.mod (by decide))
    · k_updF
    · kernel_rfl
    obtain ⟨hm3, hm4⟩ := fmod_range (x := mx * mx + 122949823 * (n + 1)) (y := 4294966237) (by decide)
    generalize (mx * mx + 122949823 * (n + 1)).fmod 4294966237 = my at *
    refine wX_ret (PE.use (PE_bin (PE_bin (PE_bin (PE_bin (by k_subL) (by k_subL) (.mul (.of_left (intBits64 (by omega))))) (by k_subL) (.mod (by decide))) (by k_subL) (.fdiv (by decide) (PyProof.noPylong_small (by decide)))) (by k_subL) (.mod (by omega))) (RetZ ?_))
    exact h _ _ _ (fmod_range hk).1 (fmod_range hk).2 (fun p hp => .tail _ hp) ⟨[], cs, n + 1, rfl, hcs⟩
end
section
variable {g : Gx} {A : Around} {E : Value → Shared → Prop} {pre own : Led} {T dT CL B dB M dM MD LL R dR U dU RL Ao dA V dV EQ D D0 D1 : Addr} {xs rows big cells : List AV} {gs ge pt zv tk ct sv mn n : Int} {pb nt pn il : AV} {so : PySem.Str} {eq : List (Int × Int)} {gg : Gp} {bb : Bf} {uu : Option Un} {aa : Am} {vv : Ug} {dd : Dk}
theorem wE_permR {env : Env} {e : Expr} {led : Led} {Φ : AV → Led → Prop} (h : wpE g A E env e led fun b l => ∃ l', l.Perm l' ∧ Φ b l') : wpE g A E env e led Φ := wpS.permR h
theorem tR_attr {qual : PySem.Str} {sc : Scope} {L f : Addr} {cd : Value} {vs : List (PySem.Str × Option AV)} {cl : List (PySem.Str × Addr)} {led : Led} {x C dx : Addr} {fs : Flds} {e : Expr} {k : PySem.Str} {p1 p pos : Pos} {rest : List Stmt} {Φ : Out → Led → Prop}
    (ok : ∀ P, FldOk P C k) (hn : fs.any (·.1 == k) = false) (hz : fs.length < 100) (hs : swapsWith e (some (.Attribute (.Name (S "self") p1) k p)) pos.line (envX qual sc L f cd cl) = pure false) (hself : (S "self", some (.ref x)) ∈ vs)
    (h : wpE g A E (envX qual sc L f cd cl) e ((L, .frame sc vs) :: (x, .inst C dx) :: (dx, .dict C fs) :: led) fun a l => ∃ led', l.Perm ((L, .frame sc vs) :: (x, .inst C dx) :: (dx, .dict C fs) :: led') ∧
      wpX g A E (envX qual sc L f cd cl) rest ((L, .frame sc vs) :: (x, .inst C dx) :: (dx, .dict C (fs ++ [(k, a)])) :: led') Φ) :
    wpX g A E (envX qual sc L f cd cl) (.Assign [.Attribute (.Name (S "self") p1) k p] e pos :: rest) ((L, .frame sc vs) :: (x, .inst C dx) :: (dx, .dict C fs) :: led) Φ :=
  wX_attrN ok hn hz (wE_permR (wpS.mono h fun a l z => by
    obtain ⟨led', pm, k'⟩ := z
    exact ⟨_, pm, PE_name (.head _) hself, L, sc, vs, _, .head _, .tail _ (.head _), .tail (.tail .head), k'⟩)) hs
theorem RetR {Φ : AV → Led → Prop} {p : Addr × Cell} {led : Led} (h : Φ .none led) : Ret Φ .next (p :: led) := ⟨.none, _, rfl, List.sublist_cons_self _ _, h⟩
theorem new_Amalgam {led : Led} {Φ : AV → Led → Prop} (Rr : Rm 2 A) (h : ∀ x dx, Φ (.ref x) ((x, .inst c_Amalgam dx) :: (dx, .dict c_Amalgam [(S "sort", .str (S "")), (S "many", .int 0)]) :: led)) : wpC g A E (.ref c_Amalgam) [] led Φ := by
  refine wC_new C_Amalgam Rr fun A' x dx R' => enter F_Amalgam_init R' rfl fun A2 L R2 => ?_
  conv => arg 5; whnf
  refine tR_attr A_Amalgam_sort rfl (by decide) (by kernel_rfl) (.head _) (PE.use PE_str ⟨led, .refl _, ?_⟩)
  refine tR_attr A_Amalgam_many (by kernel_rfl) (by simp) (by kernel_rfl) (.head _) (PE.use PE_int ⟨led, .refl _, ?_⟩)
  exact wX_nil (RetR ⟨rfl, h x dx⟩)
theorem perm3 {α : Type} {a b c d : α} {l : List α} : (d :: a :: b :: c :: l).Perm (a :: b :: c :: d :: l) := (List.perm_middle (l₁ := [a, b, c])).symm
theorem new_Undoing {led : Led} {Φ : AV → Led → Prop} (Rr : Rm 2 A) (h : ∀ x dx eq, Φ (.ref x) ((x, .inst c_Undoing dx) :: (dx, .dict c_Undoing [(S "pending", .none), (S "idle", .none), (S "chosen", .none), (S "equal", .ref eq)]) :: (eq, .imap []) :: led)) : wpC g A E (.ref c_Undoing) [] led Φ := by
  refine wC_new C_Undoing Rr fun A' x dx R' => enter F_Undoing_init R' rfl fun A2 L R2 => ?_
  conv => arg 5; whnf
  refine tR_attr A_Undoing_pending rfl (by decide) (by kernel_rfl) (.head _) (PE.use PE_none ⟨led, .refl _, ?_⟩)
  refine tR_attr A_Undoing_idle (by kernel_rfl) (by simp) (by kernel_rfl) (.head _) (PE.use PE_none ⟨led, .refl _, ?_⟩)
  refine tR_attr A_Undoing_chosen (by kernel_rfl) (by simp) (by kernel_rfl) (.head _) (PE.use PE_none ⟨led, .refl _, ?_⟩)
  refine tR_attr A_Undoing_equal (by kernel_rfl) (by simp) (by kernel_rfl) (.head _) (wE_dict fun z => ⟨_, perm3, ?_⟩)
  exact wX_nil (RetR ⟨rfl, h x dx z⟩)
theorem new_Markers {led : Led} {Φ : AV → Led → Prop} (Rr : Rm 2 A) (h : ∀ x dx md, Φ (.ref x) ((x, .inst c_Markers dx) :: (dx, .dict c_Markers [(S "rows", .ref md)]) :: (md, .imap []) :: led)) : wpC g A E (.ref c_Markers) [] led Φ := by
  refine wC_new C_Markers Rr fun A' x dx R' => enter F_Markers_init R' rfl fun A2 L R2 => ?_
  conv => arg 5; whnf
  refine tR_attr A_Markers_rows rfl (by decide) (by kernel_rfl) (.head _) (wE_dict fun z => ⟨_, perm3, ?_⟩)
  exact wX_nil (RetR ⟨rfl, h x dx z⟩)
theorem new_UndoList {led : Led} {Φ : AV → Led → Prop} (Rr : Rm 2 A) (h : ∀ x dx rl, Φ (.ref x) ((x, .inst c_UndoList dx) :: (dx, .dict c_UndoList [(S "rows", .ref rl), (S "dropped", .int 0), (S "is_on", .bool true), (S "point_before", .none), (S "noted_tick", .none)]) :: (rl, .list []) :: led)) : wpC g A E (.ref c_UndoList) [] led Φ := by
  refine wC_new C_UndoList Rr fun A' x dx R' => enter F_UndoList_init R' rfl fun A2 L R2 => ?_
  conv => arg 5; whnf
  refine tR_attr A_UndoList_rows rfl (by decide) (by kernel_rfl) (.head _) (wE_list (wL_nil ⟨Nat.zero_le _, fun z => ⟨_, perm3, ?_⟩⟩))
  refine tR_attr A_UndoList_dropped (by kernel_rfl) (by simp) (by kernel_rfl) (.head _) (PE.use PE_int ⟨_, .refl _, ?_⟩)
  refine tR_attr A_UndoList_is_on (by kernel_rfl) (by simp) (by kernel_rfl) (.head _) (PE.use PE_bool ⟨_, .refl _, ?_⟩)
  refine tR_attr A_UndoList_point_before (by kernel_rfl) (by simp) (by kernel_rfl) (.head _) (PE.use PE_none ⟨_, .refl _, ?_⟩)
  refine tR_attr A_UndoList_noted_tick (by kernel_rfl) (by simp) (by kernel_rfl) (.head _) (PE.use PE_none ⟨_, .refl _, ?_⟩)
  exact wX_nil (RetR ⟨rfl, h x dx z⟩)
theorem perm33 {α : Type} {a b c d e f : α} {l : List α} : (d :: e :: f :: a :: b :: c :: l).Perm (a :: b :: c :: d :: e :: f :: l) := by
  have h : ([d, e, f] ++ ([a, b, c] ++ l)).Perm ([a, b, c] ++ ([d, e, f] ++ l)) := by
    rw [← List.append_assoc, ← List.append_assoc]; exact List.perm_append_comm.append_right l
  exact h
theorem new_Recording {led : Led} {Φ : AV → Led → Prop} (Rr : Rm 5 A) (h : ∀ x dx u du rl, Φ (.ref x) ((x, .inst c_Recording dx) :: (dx, .dict c_Recording [(S "list", .ref u)]) :: (u, .inst c_UndoList du) :: (du, .dict c_UndoList [(S "rows", .ref rl), (S "dropped", .int 0), (S "is_on", .bool true), (S "point_before", .none), (S "noted_tick", .none)]) :: (rl, .list []) :: led)) : wpC g A E (.ref c_Recording) [] led Φ := by
  refine wC_new C_Recording Rr fun A' x dx R' => enter F_Recording_init R' rfl fun A2 L R2 => ?_
  conv => arg 5; whnf
  refine tR_attr A_Recording_list rfl (by decide) (by kernel_rfl) (.head _) (wE_call0 G_UndoList keep_UndoList (.head _) (by kernel_rfl) (wpK_C (new_UndoList (Rm.less R2 (by decide)) fun u du rl => ⟨_, perm33, ?_⟩)))
  exact wX_nil (RetR ⟨rfl, h x dx u du rl⟩)
end
section
variable {g : Gx} {A : Around} {E : Value → Shared → Prop} {pre own : Led} {T dT CL B dB M dM MD LL R dR U dU RL Ao dA V dV EQ D D0 D1 : Addr} {xs rows big cells : List AV} {gs ge pt zv tk ct sv mn n : Int} {pb nt pn il : AV} {so : PySem.Str} {eq : List (Int × Int)} {gg : Gp} {bb : Bf} {uu : Option Un} {aa : Am} {vv : Ug} {dd : Dk}
theorem permA {α : Type} (xs : List α) {a b c : α} {l : List α} : (xs ++ ([a, b, c] ++ l)).Perm ([a, b, c] ++ (xs ++ l)) := by
  rw [← List.append_assoc, ← List.append_assoc]; exact List.perm_append_comm.append_right l
theorem new_GapText {led : Led} {c : Addr} {Φ : AV → Led → Prop} (Rr : Rm 2 A) (hc : (c, Cell.list []) ∈ led)
    (h : ∀ x dx cl, Φ (.ref x) ((x, .inst c_GapText dx) :: (dx, .dict c_GapText [(S "room", .int 8), (S "cells", .ref cl), (S "gap_start", .int 0), (S "gap_end", .int 8)]) :: (cl, .list (List.replicate 8 (.int 0))) :: led)) : wpC g A E (.ref c_GapText) [.ref c, .int 8] led Φ := by
  refine wC_new C_GapText Rr fun A' x dx R' => enter F_GapText_init R' rfl fun A2 L R2 => ?_
  conv => arg 5; whnf
  change wpX g A2 _ _ _ ((L, .frame (sScope (mAt 6 0)) [(S "self", some (.ref x)), (S "codes", some (.ref c)), (S "room", some (.int 8))]) :: _) _
  refine tR_attr A_GapText_room rfl (by decide) (by kernel_rfl) (.head _) (PE.use (PE_name (.head _) (by k_places)) ⟨led, .refl _, ?_⟩)
  refine tR_attr A_GapText_cells (by kernel_rfl) (by simp) (by kernel_rfl) (.head _) (wE_add (wE_typ B_list (.head _) (by kernel_rfl) (PL.use' (PL_cons (PE_name (.head _) (by k_places)) PL_nil (by kernel_rfl)) (wK_copy (.tail _ (.tail _ (.tail _ hc))) fun cp => ?_)) (by kernel_rfl) (by kernel_rfl)))
  refine wE_mul (wE_list (PL.use' (PL_cons PE_int PL_nil (by kernel_rfl)) ⟨by unfold Big; simp, fun y => PE.use (PE_name (.tail _ (.tail _ (.head _))) (by k_places)) ⟨y, 0, 8, rfl, rfl, .head _, by decide, by unfold Big; decide, fun mu => ?_⟩⟩))
  refine ⟨cp, mu, [], _, rfl, rfl, .tail _ (.tail _ (.head _)), .head _, by unfold Big; simp, fun z => ⟨_, permA [_, _, _, _], ?_⟩⟩
  have hc' : ∀ {p q r s t u v : Addr × Cell}, (c, Cell.list []) ∈ p :: q :: r :: s :: t :: u :: v :: led := fun {_ _ _ _ _ _ _} => .tail _ (.tail _ (.tail _ (.tail _ (.tail _ (.tail _ (.tail _ hc))))))
  refine tR_attr A_GapText_gap_start (by kernel_rfl) (by simp) (by kernel_rfl) (.head _) (PE.use (PE_blt B_len (.head _) (by kernel_rfl) (PL_cons (PE_name (.head _) (by k_places)) PL_nil (by kernel_rfl)) (PK_len hc') (by kernel_rfl) (by kernel_rfl)) ⟨_, .refl _, ?_⟩)
  refine tR_attr A_GapText_gap_end (by kernel_rfl) (by simp) (by kernel_rfl) (.head _) (PE.use (PE_bin (PE_blt B_len (.head _) (by kernel_rfl) (PL_cons (PE_name (.head _) (by k_places)) PL_nil (by kernel_rfl)) (PK_len hc') (by kernel_rfl) (by kernel_rfl)) (PE_name (.head _) (by k_places)) .add) ⟨_, .refl _, ?_⟩)
  exact wX_nil ⟨.none, _, rfl, .cons _ (.cons_cons _ (.cons_cons _ (.cons_cons _ (.cons _ (.cons _ (.cons _ (.refl _))))))), rfl, h x dx z⟩
theorem new_Buffer {led : Led} {Φ : AV → Led → Prop} (Rr : Rm 5 A)
    (h : ∀ B dB T dT CL M dM MD LL, Φ (.ref B) ((B, .inst c_Buffer dB) :: (dB, .dict c_Buffer (fl_b T .none ⟨B, dB, M, dM, MD, LL, 1, 1, 1, 1, 1⟩)) :: (LL, .list []) :: (M, .inst c_Markers dM) :: (dM, .dict c_Markers [(S "rows", .ref MD)]) :: (MD, .imap []) ::
      (T, .inst c_GapText dT) :: (dT, .dict c_GapText [(S "room", .int 8), (S "cells", .ref CL), (S "gap_start", .int 0), (S "gap_end", .int 8)]) :: (CL, .list (List.replicate 8 (.int 0))) :: led)) : wpC g A E (.ref c_Buffer) [.int 1, .str (S "a")] led Φ := by
  refine wC_new C_Buffer Rr fun A' x dx R' => enter F_Buffer_init R' rfl fun A2 L R2 => ?_
  conv => arg 5; whnf
  change wpX g A2 _ _ _ ((L, .frame (sScope (mAt 12 0)) [(S "self", some (.ref x)), (S "number", some (.int 1)), (S "name", some (.str (S "a"))), (S "room", some (.int 8))]) :: _) _
  refine tR_attr A_Buffer_number rfl (by decide) (by kernel_rfl) (.head _) (PE.use (PE_name (.head _) (by k_places)) ⟨led, .refl _, ?_⟩)
  refine tR_attr A_Buffer_name (by kernel_rfl) (by simp) (by kernel_rfl) (.head _) (PE.use (PE_name (.head _) (by k_places)) ⟨led, .refl _, ?_⟩)
  refine tR_attr A_Buffer_text (by kernel_rfl) (by simp) (by kernel_rfl) (.head _) (wE_call G_GapText keep_GapText (.head _) (by kernel_rfl) (wL_cons (wE_list (wL_nil ⟨Nat.zero_le _, fun z => PL.use' (PL_cons (PE_name (.tail _ (.head _)) (by k_places)) PL_nil (by kernel_rfl)) (wpK_C (new_GapText (Rm.less R2 (by decide)) (.head _) fun T dT CL => ⟨_, permA [_, _, _, _], ?_⟩))⟩)) (by kernel_rfl)) (by kernel_rfl) (by kernel_rfl))
  refine tR_attr A_Buffer_markers (by kernel_rfl) (by simp) (by kernel_rfl) (.head _) (wE_call0 G_Markers keep_Markers (.head _) (by kernel_rfl) (wpK_C (new_Markers (Rm.less R2 (by decide)) fun M dM MD => ⟨_, permA [_, _, _], ?_⟩)))
  refine tR_attr A_Buffer_point (by kernel_rfl) (by simp) (by kernel_rfl) (.head _) (PE.use PE_int ⟨_, .refl _, ?_⟩)
  refine tR_attr A_Buffer_begv (by kernel_rfl) (by simp) (by kernel_rfl) (.head _) (PE.use PE_int ⟨_, .refl _, ?_⟩)
  refine tR_attr A_Buffer_zv (by kernel_rfl) (by simp) (by kernel_rfl) (.head _) (PE.use PE_int ⟨_, .refl _, ?_⟩)
  refine tR_attr A_Buffer_mark (by kernel_rfl) (by simp) (by kernel_rfl) (.head _) (PE.use PE_none ⟨_, .refl _, ?_⟩)
  refine tR_attr A_Buffer_is_live (by kernel_rfl) (by simp) (by kernel_rfl) (.head _) (PE.use PE_bool ⟨_, .refl _, ?_⟩)
  refine tR_attr A_Buffer_is_read_only (by kernel_rfl) (by simp) (by kernel_rfl) (.head _) (PE.use PE_bool ⟨_, .refl _, ?_⟩)
  refine tR_attr A_Buffer_ticks (by kernel_rfl) (by simp) (by kernel_rfl) (.head _) (PE.use PE_int ⟨_, .refl _, ?_⟩)
  refine tR_attr A_Buffer_codes_ticks (by kernel_rfl) (by simp) (by kernel_rfl) (.head _) (PE.use PE_int ⟨_, .refl _, ?_⟩)
  refine tR_attr A_Buffer_saved_ticks (by kernel_rfl) (by simp) (by kernel_rfl) (.head _) (PE.use PE_int ⟨_, .refl _, ?_⟩)
  refine tR_attr A_Buffer_listeners (by kernel_rfl) (by simp) (by kernel_rfl) (.head _) (wE_list (wL_nil ⟨Nat.zero_le _, fun LL => ⟨_, perm3, ?_⟩⟩))
  refine tR_attr A_Buffer_undo (by kernel_rfl) (by simp) (by kernel_rfl) (.head _) (PE.use PE_none ⟨_, .refl _, ?_⟩)
  refine tR_attr A_Buffer_props (by kernel_rfl) (by simp) (by kernel_rfl) (.head _) (PE.use PE_none ⟨_, .refl _, ?_⟩)
  refine tR_attr A_Buffer_overlays (by kernel_rfl) (by simp) (by kernel_rfl) (.head _) (PE.use PE_none ⟨_, .refl _, ?_⟩)
  refine tR_attr A_Buffer_locals (by kernel_rfl) (by simp) (by kernel_rfl) (.head _) (PE.use PE_none ⟨_, .refl _, ?_⟩)
  refine tR_attr A_Buffer_syntax (by kernel_rfl) (by simp) (by kernel_rfl) (.head _) (PE.use PE_none ⟨_, .refl _, ?_⟩)
  refine tR_attr A_Buffer_file (by kernel_rfl) (by simp) (by kernel_rfl) (.head _) (PE.use PE_none ⟨_, .refl _, ?_⟩)
  refine wX_nil ⟨.none, _, rfl, .cons _ (.cons_cons _ (.cons_cons _ (.cons_cons _ (.cons_cons _ (.cons_cons _ (.cons_cons _ (.cons_cons _ (.cons_cons _ (.cons_cons _ (.cons _ (.refl _))))))))))), rfl, ?_⟩
  have h := h x dx T dT CL M dM MD LL
  unfold fl_b at h
  dsimp only at h
  simp only [List.append_eq, List.nil_append, List.cons_append]
  with_reducible exact h
end
section
variable {g : Gx} {A : Around} {E : Value → Shared → Prop} {pre own : Led} {T dT CL B dB M dM MD LL R dR U dU RL Ao dA V dV EQ D D0 D1 : Addr} {xs rows big cells : List AV} {gs ge pt zv tk ct sv mn n : Int} {pb nt pn il : AV} {so : PySem.Str} {eq : List (Int × Int)} {gg : Gp} {bb : Bf} {uu : Option Un} {aa : Am} {vv : Ug} {dd : Dk}
theorem wE_sliceB {env : Env} {led : Led} {o : Expr} {lo hi : Option Expr} {p pos : Pos} {x : Addr} {us : List Value} {xs : List AV} {kl kh : Option Nat} {Φ : AV → Led → Prop} (ho : PE g A env led o (.ref x)) (hl : PartE g A env led lo kl) (hh : PartE g A env led hi kh)
    (hm : g.hb.IsList x us.toArray) (ab : AbL us xs) (hb : xs.length ≤ Big)
    (k : ∀ z, Φ (.ref z) ((z, .list (sliceL xs kl kh)) :: led)) : wpE g A E env (.Subscript o (.Slice lo hi none p) pos) led Φ := fun s S =>
  Subscript_ (ho.out S fun v s1 hv S1 => wpAny_Slice (hl.out S1 fun vl s2 pl S2 => hh.out S2 fun vh s3 ph S3 => evalPart_none_step (by
    obtain ⟨t, rfl⟩ := hv
    have hL : s3.heap.IsList x us.toArray := let ⟨o, ho, h1, h2⟩ := hm; ⟨o, S3.keep _ _ ho, h1, h2⟩
    have hlen := ab.length
    refine subTail (T := "list") (hL.push _).typeIs slot_list_getitem.lookup (wpAny_getItem_list_slice (hL.push _) (Heap.IsSliceOf.new ..) pl ph .none (by simp) ?_ (by rw [List.size_toArray, hlen]; exact fitsBig hb)) rfl
    rw [slicePick_nat]
    have S4 := (S3.push { cls := .type "slice", data := .fields #[vl, vh, .none] }).newL (ab.slice kl kh) (Nat.le_trans (sliceL_le ..) hb)
    exact ⟨.ref _, _, ⟨0, rfl⟩, S4, k _⟩)))
theorem PE_bltG {env : Env} {led : Led} {x : PySem.Str} {id : String} {p pos : Pos} {e : Expr} {es : List Expr} {as : List AV} {a : AV} (G : Blt x (.builtin id)) (h1 : env.scope.kind = .function) (h2 : env.globals = mainGlobals) (h3 : env.builtins = builtinsNs) (h4 : env.kindOf x = some .globalImplicit) (h5 : (x == ("__debug__" : PySem.Str)) = false)
    (h : PL g A env led pos (e :: es) as) (k : PK g A (.builtin id) as led a)
    (he : starEach (e :: es) env = (false, eval e env) :: starEach es env) (hp : (backTo pos (starEach es env)).any (·.1) = false) : PE g A env led (.Call (.Name x p) (e :: es) [] pos) a :=
  PE.mk' fun s E S Q k' => Call_ (Name_function_global h1 h4 (loadGlobal_builtin (by rw [h2]; exact S.gs) (mg_none_of g.X g.T.g (G.1 _)) (by rw [h3]; exact S.bs) ((g.T.builtins x G.2.2).trans G.2.1) (PyProof.Rows.callWith_builtin1 (h.out S fun us s1 ab S1 => k us ab s1 E S1 Q k') he hp)) h5)
theorem PE_pow {env : Env} {led : Led} {l r : Expr} {pos : Pos} {a b : Int} (hl : PE g A env led l (.int a)) (hr : PE g A env led r (.int b)) (h0 : b ≥ 0) (h1 : ¬(b == 0) = true) (h2 : ¬(a == 0 || a == 1) = true) (h3 : ¬(a == -1) = true) (h4 : ¬Builtin.Int.intTooBig (((Builtin.Int.intBits a : Nat) : Int) * b) = true) :
    PE g A env led (.BinOp l .Pow r pos) (.int (a ^ b.toNat)) :=
  PE.mk' fun s E S Q k => wpAny_BinOp (hl.out S fun v s1 hv S1 => hr.out S1 fun u s2 hu S2 => by
    obtain ⟨t, rfl⟩ := hv
    obtain ⟨t', rfl⟩ := hu
    exact AutoIntOps.pow_4 h0 h1 h2 h3 h4 (k _ _ ⟨_, rfl⟩ (S2.toks _)))
theorem deck_ {led : Led} {x : Addr} {us : List Value} {ns : List Int} {Φ : AV → Led → Prop} (Rr : Rm 1 A) (hm : g.hb.IsList x us.toArray) (ab : AbL us (ns.map .int)) (hb : ns.length ≤ 1000)
    (h : ∀ D D0 D1 (bs cs : List Int), cs ≠ [] → Φ (.ref D) ((D, .list [.ref D0, .ref D1, .int 0]) :: (D1, .list (cs.map .int)) :: (D0, .list (bs.map .int)) :: led)) :
    wpC g A E (.ref f__law_deck) [.ref x] led Φ := by
  refine enter F__law_deck Rr rfl fun A' L R' => ?_
  conv => arg 5; whnf
  change wpX g A' _ _ _ ((L, .frame (sScope (stAt 73)) [(S "script", some (.ref x)), (S "cells", none)]) :: led) _
  refine wX_comp (cl' := []) (ns := [S "cell"]) R'.handled ⟨by kernel_rfl, by kernel_rfl, by decide +kernel, by decide +kernel, allS ⟨by kernel_rfl, by kernel_rfl⟩ all0, by decide +kernel⟩ (fun _ => rfl) (by kernel_rfl)
    (wE_sliceB (PE_name (.head _) (by k_places)) .none (.some (n := 20) PE_int rfl) hm ab (by rw [List.length_map]; unfold Big; lia) fun z => ?_)
  have e1 : sliceL (ns.map AV.int) none (some 20) = (ns.take 20).map .int := by simp [sliceL, List.map_take]
  rw [e1]
  refine ⟨z, (ns.take 20).map .int, fun i ys l' => ∃ as : List Int, ys = as.map .int ∧ as.length = i ∧ l' = (z, .list ((ns.take 20).map .int)) :: (L, .frame (sScope (stAt 73)) [(S "script", some (.ref x)), (S "cells", none)]) :: led, rfl, ⟨?_, ?_, ?_⟩, ?_, ?_⟩
  · rintro i ys l' ⟨as, -, -, rfl⟩; exact .head _
  · exact ⟨[], rfl, rfl, rfl⟩
  · rintro C it D i a ys l' ha ⟨as, rfl, hl, rfl⟩
    obtain ⟨c, rfl⟩ : ∃ c, a = .int c := by
      rw [List.getElem?_map] at ha
      obtain ⟨c, _, rfl⟩ := Option.map_eq_some_iff.mp ha
      exact ⟨c, rfl⟩
    refine ⟨[(S "cell", some (.int c))], rfl, takes_name ⟨rfl, rfl⟩, wpI_nil ?_⟩
    rw [if_pos rfl]
    refine PE.use (PE_bltG B_abs (by kernel_rfl) rfl rfl (by kernel_rfl) (by kernel_rfl) (PL_cons (PE_nameG ⟨rfl, rfl⟩ (.head _) (.head _)) PL_nil (by kernel_rfl)) PK_abs (by kernel_rfl) (by kernel_rfl)) ⟨[(S "cell", some (.int c))], _, .refl _, rfl, as ++ [((c.natAbs : Nat) : Int)], by simp, by simp [hl], rfl⟩
  · rintro i ys l' ⟨as, rfl, hl, -⟩; simp [hl]
  · rintro D ys l' ⟨as, rfl, hl, rfl⟩
    have hla : as.length ≤ 20 := by rw [hl]; simp; lia
    refine ⟨_, _, _, .tail .head, by k_updF, ?_⟩
    refine wpS.perm (led' := (L, .frame (sScope (stAt 73)) [(S "script", some (.ref x)), (S "cells", some (.ref D))]) :: (D, .list (as.map .int)) :: (z, .list ((ns.take 20).map .int)) :: led) (List.perm_middle (l₁ := [_, _])) ?_
    refine wX_ret (wE_list (wL_cons (wE_comp (cl' := []) (ns := [S "cell"]) R'.handled ⟨by kernel_rfl, by kernel_rfl, by decide +kernel, by decide +kernel, allS ⟨by kernel_rfl, by kernel_rfl⟩ all0, by decide +kernel⟩ (fun _ => rfl) (PE.use (PE_name (.head _) (by k_places)) ?_)) (by kernel_rfl)))
    refine ⟨D, as.map .int, fun i ys l' => ∃ bs : List Int, ys = bs.map .int ∧ bs.length ≤ i ∧ l' = (L, .frame (sScope (stAt 73)) [(S "script", some (.ref x)), (S "cells", some (.ref D))]) :: (D, .list (as.map .int)) :: (z, .list ((ns.take 20).map .int)) :: led, rfl, ⟨?_, ?_, ?_⟩, ?_, ?_⟩
    · rintro i ys l' ⟨bs, -, -, rfl⟩; exact .tail _ (.head _)
    · exact ⟨[], rfl, Nat.zero_le _, rfl⟩
    · rintro C it D' i a ys l' ha ⟨bs, rfl, hlb, rfl⟩
      obtain ⟨c, rfl⟩ : ∃ c, a = .int c := by
        rw [List.getElem?_map] at ha
        obtain ⟨c, _, rfl⟩ := Option.map_eq_some_iff.mp ha
        exact ⟨c, rfl⟩
      refine ⟨[(S "cell", some (.int c))], rfl, takes_name ⟨rfl, rfl⟩, wpI_one (PT.use (tT_cmp (PE_nameG ⟨rfl, rfl⟩ (.head _) (.head _)) (PE_pow PE_int PE_int (by decide) (by decide) (by decide) (by decide) (by decide +kernel)) .ge (by kernel_rfl)) ?_)⟩
      split
      · exact PE.use (PE_nameG ⟨rfl, rfl⟩ (.head _) (.head _)) ⟨[(S "cell", some (.int c))], _, .refl _, rfl, bs ++ [c], by simp, by simp; lia, rfl⟩
      · exact ⟨[(S "cell", some (.int c))], _, .refl _, rfl, bs, rfl, by lia, rfl⟩
    · rintro i ys l' ⟨bs, rfl, hlb, -⟩; simpa using hlb
    · rintro D0 ys l' ⟨bs, rfl, hlb, rfl⟩
      refine wL_cons (wE_add (PE.use (PE_name (.tail _ (.head _)) (by k_places)) (wE_list (PL.use' (PL_cons (PE_bin PE_int (PE_blt B_len (.tail _ (.head _)) (by kernel_rfl) (PL_cons (PE_name (.tail _ (.head _)) (by k_places)) PL_nil (by kernel_rfl)) (PK_len (.tail _ (.tail _ (.head _)))) (by kernel_rfl) (by kernel_rfl)) .add) PL_nil (by kernel_rfl)) ⟨by unfold Big; simp, fun o => ?_⟩)))) (by kernel_rfl)
      refine ⟨D, o, as.map .int, _, rfl, rfl, .tail _ (.tail _ (.tail _ (.head _))), .head _, by unfold Big; simp; lia, fun D1 => ?_⟩
      refine PL.use' (PL_cons PE_int PL_nil (by kernel_rfl)) ⟨by unfold Big; simp, fun D2 => ?_⟩
      have e2 : as.map AV.int ++ [AV.int (417 + ((as.map AV.int).length : Nat))] = (as ++ [417 + (((as.map AV.int).length : Nat) : Int)]).map .int := by simp
      rw [e2]
      refine ⟨_, (D2, .list [.ref D0, .ref D1, .int 0]) :: (D1, .list ((as ++ [417 + (((as.map AV.int).length : Nat) : Int)]).map .int)) :: (D0, .list (bs.map .int)) :: led, rfl, .cons_cons _ (.cons_cons _ (.cons _ (.cons_cons _ (.cons _ (.cons _ (.cons _ (.refl _))))))), h D2 D0 D1 bs _ (by simp)⟩
end
section
variable {g : Gx} {A : Around} {E : Value → Shared → Prop} {pre own : Led} {T dT CL B dB M dM MD LL R dR U dU RL Ao dA V dV EQ D D0 D1 : Addr} {xs rows big cells : List AV} {gs ge pt zv tk ct sv mn n : Int} {pb nt pn il : AV} {so : PySem.Str} {eq : List (Int × Int)} {gg : Gp} {bb : Bf} {uu : Option Un} {aa : Am} {vv : Ug} {dd : Dk}
inductive Srt where | ins | del | mov | oth
noncomputable def Srt.nm : Srt → PySem.Str
  | .ins => S "insert"
  | .del => S "delete"
  | .mov => S "move"
  | .oth => S "other"
noncomputable def Srt.plain : Srt → Bool
  | .ins => true
  | .del => true
  | _ => false
inductive Typ : List Int → List Row → List Int → List Row → Bool → Prop
  | ins {t Rb Ro'} {i : Nat} {cs : List Int} (hi : i ≤ t.length) (h0 : cs ≠ []) (h2 : cs.length ≤ 2) (h : InsRec Rb Ro' ((i : Nat) + 1) (cs.length : Nat)) : Typ t Rb (insT t i cs) Ro' true
  | del {t Rb Ro'} {i : Nat} (hi : i < t.length) (h : DelRec Rb Ro' ((i + 1 : Nat) : Int) ((t.take (i + 1)).drop i)) : Typ t Rb (delT t i (i + 1)) Ro' true
  | none {t Rb} : Typ t Rb t Rb false
noncomputable def joinsA (w : Srt) (so : PySem.Str) (mn : Int) : Bool := w.plain && (w.nm == so && decide (mn < 20))
theorem nm_ne (w : Srt) (h : w.plain = true) : (w.nm != S "") = true := by cases w <;> first | kernel_rfl | cases h
theorem pick_sort (w : Srt) : (if (([S "move", S "other"] : List PySem.Str).any (· == w.nm)) = true then S "" else w.nm) = if w.plain then w.nm else S "" := by
  cases w <;> kernel_rfl
theorem begin_change2_ {Ro : List Row} {w : Srt} {Φ : AV → Led → Prop} (Rr : Rm 3 A) (hR : RowsIn own rows Ro) (hb : Ro.length ≤ 90000)
    (h : ∀ a rows' am, am = (if joinsA w so mn = true then (⟨Ao, dA, so, mn + 1⟩ : Am) else ⟨Ao, dA, if w.plain then w.nm else S "", if w.plain then 1 else 0⟩) → RowsIn own rows' (if joinsA w so mn = true then Ro else bdry Ro) →
      Φ a (Z pre ⟨gg, bb, some ⟨R, dR, U, dU, RL, rows', pb, nt⟩, am, vv, dd⟩ own)) :
    wpC g A E (.ref f_begin_change) [.ref Ao, .ref U, .str (if w.plain then w.nm else S "")] (Z pre ⟨gg, bb, some ⟨R, dR, U, dU, RL, rows, pb, nt⟩, ⟨Ao, dA, so, mn⟩, vv, dd⟩ own) Φ := by
  have hw1 : ((if w.plain then w.nm else S "") != S "") = w.plain := by
    cases hw : w.plain with
    | true => rw [if_pos rfl, nm_ne w hw]
    | false => rw [if_neg (by decide)]; kernel_rfl
  have hj : ((if w.plain then w.nm else S "") != S "" && ((if w.plain then w.nm else S "") == so && decide (mn < 20))) = joinsA w so mn := by
    rw [hw1]; unfold joinsA
    cases hw : w.plain with
    | true => rw [if_pos rfl]
    | false => rfl
  refine begin_change_ Rr hR hb (fun e => ?_) (fun e rows' hR' => ?_)
  · rw [hj] at e
    rw [e] at h
    exact h _ _ _ rfl hR
  · rw [hj] at e
    rw [e] at h
    rw [hw1]
    exact h _ _ _ rfl hR'
theorem if_same {env : Env} {led : Led} {b o : Expr} {c : Bool} {x y : PySem.Str} {Φ : AV → Led → Prop} (hb : PE g A env led b (.str x)) (ho : PE g A env led o (.str y)) (h : Φ (.str (if c = true then x else y)) led) : if c = true then wpE g A E env b led Φ else wpE g A E env o led Φ := by
  cases c with
  | true => exact hb.use h
  | false => exact ho.use h
theorem typed_ {ad : Ad} {t : List Int} {Ro : List Row} {m : Mach} {w : Srt} {so : PySem.Str} {mn : Int} {D D0 D1 : Addr} {fr : Int} {Φ : AV → Led → Prop} (Rr : Rm 9 A) (hE : EdS ad t Ro m own) (ha : m.a = ⟨Ao, dA, so, mn⟩) (hD : DkOK D D0 D1 m.d) (hlt : t.length ≤ 900) (hlr : Ro.length ≤ 50000)
    (h : ∀ b t' Ro' m' own', m'.v = m.v → (∀ p ∈ own, p ∈ own') → DkOK D D0 D1 m'.d → m'.a = (if joinsA w so mn = true then ⟨Ao, dA, so, mn + 1⟩ else ⟨Ao, dA, if w.plain then w.nm else S "", if w.plain then 1 else 0⟩) →
      Typ t (if joinsA w so mn = true then Ro else bdry Ro) t' Ro' b → EdS ad t' Ro' m' own' → Φ (.bool b) (Z pre m' own')) :
    wpC g A E (.ref f__law_typed) [.ref D, .ref ad.B, .ref Ao, .str w.nm, .int fr] (Z pre m own) Φ := by
  obtain ⟨gg, bb, uu, aa, vv, dd⟩ := m
  obtain ⟨hG, hl, hrl, pt, tk, ct, sv, RL, rows, pb, nt, rfl, hp1, hp2, rfl, hpb, hnt, hR⟩ := hE
  obtain rfl : aa = ⟨Ao, dA, so, mn⟩ := ha
  have hG0 := hG
  obtain ⟨p, q, s, rfl, ht, hcells⟩ := hG
  have hlen := congrArg List.length ht
  rw [List.length_map] at hlen
  refine N__law_typed Rr fun A' L R' => ?_
  conv => arg 5; whnf
  (with_reducible apply tX_name (a := .int (t.length : Nat)))
  · rw [← hlen]; k_subL
  · k_updF
  · kernel_rfl
  refine tX_expr (by kernel_rfl) (by kernel_rfl) (wE_call G_begin_change keep_begin_change Z_fr (by kernel_rfl) ?_ (by kernel_rfl) (by kernel_rfl))
  refine wL_cons (PE.use (by k_subL) ?_) (by kernel_rfl)
  refine wL_cons (PE.use (by k_subL) ?_) (by kernel_rfl)
  refine wL_cons (wE_if (wT_cmp (PE.use (by k_subL) ?_) (by kernel_rfl))) (by kernel_rfl)
  refine tE_tuple (as := [.str (S "move"), .str (S "other")]) (by k_subL) (by unfold Big; simp) fun z => ⟨_, PCmp_inT (ys := [S "move", S "other"]) (Z_own (.head _)), ?_⟩
  refine if_same PE_str (by k_subL) ?_
  rw [pick_sort]
  have hR1 := hR.more (own' := (z, Cell.tup [.str (S "move"), .str (S "other")]) :: own) fun p hp => .tail _ hp
  generalize hown1 : (z, Cell.tup [.str (S "move"), .str (S "other")]) :: own = own1 at hR1
  have hm1 : ∀ p ∈ own, p ∈ own1 := fun p hp => by rw [← hown1]; exact .tail _ hp
  refine wL_nil (wpK_C (begin_change2_ (Rm.less R' (by decide)) hR1 (by lia) fun a rows1 am ham hR2 => ?_))
  have hbl : (if joinsA w so mn = true then Ro else bdry Ro).length ≤ Ro.length + 1 := by
    split
    · lia
    · unfold bdry; split <;> simp
  have hK := fun b t' Ro' (m' : Mach) own' (e1 : m'.v = vv) (e2 : ∀ p ∈ own1, p ∈ own') e3 (e4 : m'.a = am) => h b t' Ro' m' own' e1 (fun p hp => e2 _ (hm1 p hp)) e3 (e4.trans ham)
  clear h
  generalize (if joinsA w so mn = true then Ro else bdry Ro) = Rb at *
  clear ham
  k_memK
  k_memK
  refine begin_command_ (Rm.less R' (by decide)) ?_
  have hpl : pt.toNat - 1 ≤ t.length := by lia
  have hpe : pt = ((pt.toNat - 1 : Nat) : Int) + 1 := by lia
  generalize hi : pt.toNat - 1 = i at *
  have hmm : ∀ {c : Addr} {x : Cell}, ∀ p ∈ own1, p ∈ (c, x) :: own1 := fun {_ _} p hp => .tail _ hp
  cases w with
  | ins =>
    refine tX_ifT (by k_subL) (by kernel_rfl) ?_
    refine tX_expr (by kernel_rfl) (by kernel_rfl) (wE_call G_insert keep_insert Z_fr (by kernel_rfl) (wL_cons (PE.use (by k_subL) (wL_cons (tE_list (as := [.int fr]) (by k_subL) (by unfold Big; simp) fun c => wL_nil (wpK_C ?_)) (by kernel_rfl))) (by kernel_rfl)) (by kernel_rfl) (by kernel_rfl))
    refine ed_insert (t := t) (cs := [fr]) (c := c) (i := i) (Rm.less R' (by decide)) ⟨p, q, s, rfl, ht, hcells⟩ (.head _) rfl hpe hpl (by simp; lia) (by simp) (hR2.more fun p hp => .tail _ hp) (by lia) hnt .int fun gg' rows' Ro' nt' own' hm hG' hn' hI hR3 => ?_
    have hle := hI.le
    have hl' : (insT t i [fr]).length = t.length + 1 := insT_len hpl
    have hE' : ∀ {pt' tk ct sv}, 1 ≤ pt' → pt' ≤ ((t.length : Nat) : Int) + 1 + 1 → EdS ad (insT t i [fr]) Ro' ⟨gg', ⟨ad.B, ad.dB, ad.M, ad.dM, ad.MD, ad.LL, pt', (t.length : Nat) + 1 + (([fr] : List Int).length : Nat), tk, ct, sv⟩, some ⟨ad.R, ad.dR, ad.U, ad.dU, RL, rows', .int pt, nt'⟩, am, vv, dd⟩ own' := fun {_ _ _ _} h1 h2 =>
      .mk' hG' (by lia) (by lia) (by rw [hl']; simp; try lia) h1 (by simp; lia) .int hn' hR3
    obtain ⟨p', q', s', rfl, ht', -⟩ := hG'
    have hlen' := congrArg List.length ht'
    rw [List.length_map, hl'] at hlen'
    k_memK
    refine wX_ret (PE.use (a := .bool true) ?_ (RetZ (hK true _ Ro' _ own' rfl (fun p hp => hm _ (.tail _ hp)) hD rfl (.ins hpl (by simp) (by simp) hI) (hE' (by lia) (by simp; lia)))))
    have : true = ((((p' ++ s').length : Nat) : Int) != (t.length : Nat)) := by rw [hlen']; simp; try lia
    rw [this]; k_subL
  | del =>
    refine tX_ifF (by k_subL) (by kernel_rfl) ?_
    by_cases hpz : pt ≤ ((t.length : Nat) : Int)
    · refine tX_ifT (c := (Srt.nm .del == S "delete") && (decide (pt ≤ ((t.length : Nat) : Int)) && true)) (by k_subL) (by rw [show (Srt.nm .del == S "delete") = true from by kernel_rfl]; simp [hpz]) ?_
      k_memK
      k_memK
      have e1 : pt + 1 = ((i + 1 : Nat) : Int) + 1 := by lia
      rw [e1, hpe]
      refine ed_delete (t := t) (i := i) (j := i + 1) (Rm.less R' (by decide)) ⟨p, q, s, rfl, ht, hcells⟩ rfl (by lia) (by lia) (by lia) (by lia) hR2 (by lia) hnt .int fun a2 gg' rows' Ro' nt' own' hm hG' hn' hDl hR3 => ?_
      have hle := hDl.le
      have hl' := delT_len (t := t) (i := i) (j := i + 1) (by lia) (by lia)
      have hE' : ∀ {tk ct sv}, EdS ad (delT t i (i + 1)) Ro' ⟨gg', ⟨ad.B, ad.dB, ad.M, ad.dM, ad.MD, ad.LL, (i : Nat) + 1, (t.length : Nat) + 1 - (((i + 1 : Nat) : Int) - (i : Nat)), tk, ct, sv⟩, some ⟨ad.R, ad.dR, ad.U, ad.dU, RL, rows', .int ((i : Nat) + 1), nt'⟩, am, vv, dd⟩ own' := fun {_ _ _} =>
        .mk' hG' (by lia) (by lia) (by rw [hl']; lia) (by lia) (by lia) .int hn' hR3
      obtain ⟨p', q', s', rfl, ht', -⟩ := hG'
      have hlen' := congrArg List.length ht'
      rw [List.length_map, hl'] at hlen'
      k_memK
      k_memK
      refine wX_ret (PE.use (a := .bool true) ?_ (RetZ (hK true _ Ro' _ own' rfl hm hD rfl (.del (by lia) hDl) hE')))
      have : true = ((((p' ++ s').length : Nat) : Int) != (t.length : Nat)) := by rw [hlen']; simp; lia
      rw [this]; k_subL
    · refine tX_ifF (c := (Srt.nm .del == S "delete") && (decide (pt ≤ ((t.length : Nat) : Int)) && true)) (by k_subL) (by simp [hpz]) ?_
      refine tX_ifF (by k_subL) (by kernel_rfl) ?_
      refine tX_ifF (by k_subL) (by kernel_rfl) ?_
      k_memK
      k_memK
      k_memK
      k_memK
      refine wX_ret (PE.use (a := .bool false) ?_ (RetZ (hK false _ Rb _ own1 rfl (fun p hp => hp) hD rfl .none (.mk' ⟨p, q, s, rfl, ht, hcells⟩ hl (by lia) rfl hp1 hp2 .int hnt hR2))))
      have : false = ((((p ++ s).length : Nat) : Int) != (t.length : Nat)) := by rw [hlen]; simp
      rw [this]; k_subL
  | mov =>
    refine tX_ifF (by k_subL) (by kernel_rfl) ?_
    refine tX_ifF (c := (Srt.nm .mov == S "delete") && false) (PT_and (by k_subL) fun e => by rw [show (Srt.nm .mov == S "delete") = false from by kernel_rfl] at e; cases e) (by simp) ?_
    refine tX_ifT (by k_subL) (by kernel_rfl) ?_
    refine tX_expr (by kernel_rfl) (by kernel_rfl) ?_
    refine wE_meth (by k_subL) M_Buffer_goto zi_b zd_b (wL_cons (wE_bin (PE.use PE_int ?_)) (by kernel_rfl)) rfl (by kernel_rfl) (by kernel_rfl)
    k_memK
    refine draw_ (Rm.less R' (by decide)) (by lia) (by lia) hD fun r dd' own' hr1 hr2 hm hD' => ?_
    refine ⟨_, .add, wL_nil ?_⟩
    refine goto_ (Rm.less R' (by decide)) ?_
    refine wX_ret (PE.use PE_bool (RetZ (hK false _ Rb _ own' rfl hm hD' rfl .none (.mk' ⟨p, q, s, rfl, ht, hcells⟩ hl (by lia) rfl (by lia) (by lia) .int hnt (hR2.more hm)))))
  | oth =>
    refine tX_ifF (by k_subL) (by kernel_rfl) ?_
    refine tX_ifF (c := (Srt.nm .oth == S "delete") && false) (PT_and (by k_subL) fun e => by rw [show (Srt.nm .oth == S "delete") = false from by kernel_rfl] at e; cases e) (by simp) ?_
    refine tX_ifF (by k_subL) (by kernel_rfl) ?_
    refine tX_ifT (by k_subL) (by kernel_rfl) ?_
    refine tX_expr (by kernel_rfl) (by kernel_rfl) (wE_call G_insert keep_insert Z_fr (by kernel_rfl) (wL_cons (PE.use (by k_subL) (wL_cons (tE_list (as := [.int fr, .int fr]) (by k_subL) (by unfold Big; simp) fun c => wL_nil (wpK_C ?_)) (by kernel_rfl))) (by kernel_rfl)) (by kernel_rfl) (by kernel_rfl))
    refine ed_insert (t := t) (cs := [fr, fr]) (c := c) (i := i) (Rm.less R' (by decide)) ⟨p, q, s, rfl, ht, hcells⟩ (.head _) rfl hpe hpl (by simp; lia) (by simp) (hR2.more fun p hp => .tail _ hp) (by lia) hnt .int fun gg' rows' Ro' nt' own' hm hG' hn' hI hR3 => ?_
    have hle := hI.le
    have hl' : (insT t i [fr, fr]).length = t.length + 2 := insT_len hpl
    have hE' : ∀ {pt' tk ct sv}, 1 ≤ pt' → pt' ≤ ((t.length : Nat) : Int) + 1 + 2 → EdS ad (insT t i [fr, fr]) Ro' ⟨gg', ⟨ad.B, ad.dB, ad.M, ad.dM, ad.MD, ad.LL, pt', (t.length : Nat) + 1 + (([fr, fr] : List Int).length : Nat), tk, ct, sv⟩, some ⟨ad.R, ad.dR, ad.U, ad.dU, RL, rows', .int pt, nt'⟩, am, vv, dd⟩ own' := fun {_ _ _ _} h1 h2 =>
      .mk' hG' (by lia) (by lia) (by rw [hl']; simp; try lia) h1 (by simp; lia) .int hn' hR3
    obtain ⟨p', q', s', rfl, ht', -⟩ := hG'
    have hlen' := congrArg List.length ht'
    rw [List.length_map, hl'] at hlen'
    k_memK
    k_memK
    refine goto_ (Rm.less R' (by decide)) ?_
    k_memK
    k_memK
    k_memK
    k_memK
    refine wX_ret (PE.use (a := .bool true) ?_ (RetZ (hK true _ Ro' _ own' rfl (fun p hp => hm _ (.tail _ hp)) hD rfl (.ins hpl (by simp) (by simp) hI) (hE' (by lia) (by lia)))))
    have : true = ((((p' ++ s').length : Nat) : Int) != (t.length : Nat)) := by rw [hlen']; simp; try lia
    rw [this]; k_subL
end
section
variable {g : Gx} {A : Around} {E : Value → Shared → Prop} {pre own : Led} {T dT CL B dB M dM MD LL R dR U dU RL Ao dA V dV EQ D D0 D1 : Addr} {xs rows big cells : List AV} {gs ge pt zv tk ct sv mn n : Int} {pb nt pn il : AV} {so : PySem.Str} {eq : List (Int × Int)} {gg : Gp} {bb : Bf} {uu : Option Un} {aa : Am} {vv : Ug} {dd : Dk}
end
section
variable {g : Gx} {A : Around} {E : Value → Shared → Prop} {led : Led}
theorem two_names {x y : PySem.Str} {vs0 : List (PySem.Str × Option AV)} (ev : vs0.map (·.1) = [x, y]) : ∃ b c, vs0 = [(x, b), (y, c)] := by
  cases vs0 with
  | nil => cases ev
  | cons q r =>
    obtain ⟨rfl, e2⟩ := List.cons.inj ev
    cases r with
    | nil => cases e2
    | cons q' r =>
      obtain ⟨rfl, e3⟩ := List.cons.inj e2
      cases List.map_eq_nil_iff.mp e3
      exact ⟨_, _, rfl⟩
theorem takes_pair {x y : PySem.Str} {px py tp : Pos} {n : Nat} {it C e l : Addr} {i : Nat} {cenv : Env} {csc : Scope} {a b : AV} (hh : A.handled = none) (hE : EnvIs cenv C csc) (hxy : x ≠ y) (hit : (it, listIt l i) ∈ led) (he : (e, Cell.list [a, b]) ∈ led) :
    Takes g A (.Tuple [.Name x px, .Name y py] n tp) it cenv C csc (.ref e) [(x, some a), (y, some b)] led := fun vs0 ev v s Q av S k => by
  obtain ⟨t, rfl⟩ := av
  obtain ⟨oi, hoi, hic, hid⟩ := S.at_ _ (List.mem_cons_of_mem _ hit)
  refine wpAny_letOwnedTupleGo_listiter ⟨oi, hoi, hic, hid⟩ ?_
  rw [arm_assign_Tuple]
  refine wpAny_bind (wpAny_standAt ?_)
  unfold unpack
  have hfin : ∀ s' us, AbL us [a, b] → St g s' ((C, .frame csc vs0) :: led) → wpAny (model pw g.w) A (assignInOrder ((assignEach [.Name x px, .Name y py] cenv).map (·.2)) us) (fun _ s' => Q s') (fun _ _ => False) s' := by
    intro s' us ab S'
    obtain ⟨b1, b2, rfl⟩ := two_names ev
    exact inOrderG hE (.cons setterN (.cons setterN .nil)) ab (.cons .head (.cons (.tail .head) .nil)) S' k
  obtain ⟨us0, n0, ho0, ab0, hb0, hl0, hL0⟩ := S.lst (List.mem_cons_of_mem _ he)
  refine wpAny_bind (wpAny_holding ?_)
  show wpAny _ _ (unpackItems (.ref e) 2 none) _ _ s
  unfold unpackItems notIterableAtAll
  refine wpAny_bind (wpAny_bind (wpAny_specialOf hL0.typeIs slot_list_iter.lookup (wpAny_pure ?_)))
  refine wpAny_bind (wpAny_holding (wpAny_pyIter_list hL0 ?_))
  have S1 := S.new (o := { cls := .type "list_iterator", data := .fields #[.ref e, .int 0 0] }) (c := listIt e 0) ⟨rfl, rfl⟩ rfl
  generalize hJ : s.heap.objs.size = J at S1
  refine wpAny_bind (wpAny_holding ?_)
  have mem : ∀ {c : Nat}, (e, Cell.list [a, b]) ∈ (J, listIt e c) :: (C, .frame csc vs0) :: led := fun {c} => .tail _ (.tail _ he)
  show wpAny _ _ (pyNext (.ref J) >>= _) _ _ _
  refine wpAny_bind ((listIt_ok (it := J) (l := e) (xs := [a, b]) hh).1 0 a _ _ _ _ _ rfl mem .head S1 fun v1 s1 av1 S2 => ?_)
  refine wpAny_bind (wpAny_holding ?_)
  show wpAny _ _ (pyNext (.ref J) >>= _) _ _ _
  refine wpAny_bind ((listIt_ok (it := J) (l := e) (xs := [a, b]) hh).1 1 b _ _ _ _ _ rfl mem .head S2 fun v2 s2 av2 S3 => ?_)
  refine wpAny_bind (wpAny_holding ?_)
  show wpAny _ _ (pure []) _ _ _
  refine wpAny_pure (wpAny_pure (wpAny_pure ?_))
  rw [if_neg (show ¬ [v1, v2].length < 2 from Nat.lt_irrefl 2)]
  refine wpAny_bind (wpAny_holding ?_)
  refine (listIt_ok (it := J) (l := e) (xs := [a, b]) hh).2 (J, listIt e 2) _ _ _ _ mem rfl S3 (by simp) fun s3 S4 => ?_
  rw [if_neg (by simp)]
  exact wpAny_pure (hfin _ _ (.cons av1 (.cons av2 .nil)) S4)
end
section
variable {g : Gx} {A : Around} {E : Value → Shared → Prop} {pre own : Led} {T dT CL B dB M dM MD LL R dR U dU RL Ao dA V dV EQ D D0 D1 : Addr} {xs rows big cells : List AV} {gs ge pt zv tk ct sv mn n : Int} {pb nt pn il : AV} {so : PySem.Str} {eq : List (Int × Int)} {gg : Gp} {bb : Bf} {uu : Option Un} {aa : Am} {vv : Ug} {dd : Dk}
end
section
noncomputable def runT : List Row → List Int → List Int
  | [], t => t
  | r :: rs, t => runT rs (undoT r t)
theorem URun.text {rs : List Row} {t t' : List Int} {Ro Ro' : List Row} (h : URun rs t Ro t' Ro') : t' = runT rs t := by
  induction h with
  | nil => rfl
  | cons h k ih => exact ih
noncomputable def Back (N : List Row) (t t0 : List Int) : Prop := CanR N.reverse t ∧ runT N.reverse t = t0
theorem Back.nil {t : List Int} : Back [] t t := ⟨trivial, rfl⟩
theorem Back.snoc {N : List Row} {r : Row} {t t0 : List Int} : Back (N ++ [r]) t t0 ↔ Can r t ∧ Back N (undoT r t) t0 := by
  unfold Back
  rw [List.reverse_append, List.reverse_singleton, List.singleton_append]
  simp only [CanR, runT, and_assoc]
theorem note_can {r : Row} (h : r.isNote = true) (t : List Int) : Can r t ∧ undoT r t = t := by
  cases r with
  | um _ => exact ⟨trivial, rfl⟩
  | pt _ => exact ⟨trivial, rfl⟩
  | bd => cases h
  | ins _ _ => cases h
  | del _ _ _ => cases h
theorem Back.notes {N ns : List Row} {t t0 : List Int} (h : ∀ r ∈ ns, r.isNote = true) (k : Back N t t0) : Back (N ++ ns) t t0 := by
  induction ns generalizing N with
  | nil => simpa using k
  | cons r ns ih =>
    have := ih (N := N ++ [r]) (fun x hx => h x (List.mem_cons_of_mem _ hx)) (by
      obtain ⟨h1, h2⟩ := note_can (h r List.mem_cons_self) t
      exact Back.snoc.mpr ⟨h1, by rw [h2]; exact k⟩)
    simpa using this
noncomputable def Row.solid : Row → Bool
  | .ins _ _ => true
  | .del _ _ _ => true
  | _ => false
noncomputable def NoBd (N : List Row) : Prop := ∀ r ∈ N, r.isBd = false
noncomputable def Solid (N : List Row) : Prop := ∃ r ∈ N, r.solid = true
noncomputable def EndsB (Q : List Row) : Prop := Q = [] ∨ ∃ P, Q = P ++ [.bd]
theorem note_nobd {r : Row} (h : r.isNote = true) : r.isBd = false := by
  cases r with
  | um _ => rfl
  | pt _ => rfl
  | bd => cases h
  | ins _ _ => rfl
  | del _ _ _ => rfl
theorem solid_last {N : List Row} {r : Row} (h : r.solid = true) : Solid (N ++ [r]) := ⟨r, List.mem_append_right _ (List.mem_singleton.mpr rfl), h⟩
theorem ins_undo {t cs : List Int} {i : Nat} (hi : i ≤ t.length) : delT (insT t i cs) i (i + cs.length) = t := by
  unfold delT insT
  have hl : (t.take i).length = i := by rw [List.length_take]; lia
  rw [List.take_left' hl, ← List.append_assoc, List.drop_left' (by rw [List.length_append, hl]), List.take_append_drop]
theorem del_undo {t : List Int} {i j : Nat} (hij : i ≤ j) (hj : j ≤ t.length) : insT (delT t i j) i ((t.take j).drop i) = t := by
  unfold delT insT
  have hl : (t.take i).length = i := by rw [List.length_take]; lia
  rw [List.take_left' hl, List.drop_left' hl, ← List.append_assoc]
  have : t.take i ++ (t.take j).drop i = t.take j := by
    conv => rhs; rw [← List.take_append_drop i (t.take j), List.take_take, Nat.min_eq_left hij]
  rw [this, List.take_append_drop]
theorem ins_undo2 {t cs : List Int} {i a : Nat} (ha : a ≤ i) (hi : i ≤ t.length) : delT (insT t i cs) a (i + cs.length) = delT t a i := by
  unfold delT insT
  have hl : (t.take i).length = i := by rw [List.length_take]; lia
  have e1 : (t.take i ++ (cs ++ t.drop i)).take a = t.take a := by
    rw [List.take_append_of_le_length (by lia), List.take_take, Nat.min_eq_left ha]
  have e2 : (t.take i ++ (cs ++ t.drop i)).drop (i + cs.length) = t.drop i := by
    rw [← List.append_assoc, List.drop_left' (by rw [List.length_append, hl])]
  rw [e1, e2]
theorem back_ins {Q N Ro' : List Row} {t t0 cs : List Int} {i : Nat} (hQ : EndsB Q) (hB : Back N t t0) (hN : NoBd N) (hi : i ≤ t.length) (h0 : cs ≠ []) (h : InsRec (Q ++ N) Ro' ((i : Nat) + 1) (cs.length : Nat)) :
    ∃ N', Ro' = Q ++ N' ∧ Back N' (insT t i cs) t0 ∧ NoBd N' ∧ Solid N' := by
  have hpos := List.length_pos_iff.mpr h0
  have hl := insT_len (t := t) (cs := cs) hi
  rcases h with ⟨Ro1, ⟨ns, rfl, hns, -⟩, rfl⟩ | ⟨R0, a, e, rfl⟩
  · refine ⟨N ++ ns ++ [.ins ((i : Nat) + 1) ((i : Nat) + 1 + (cs.length : Nat))], by simp, (Back.snoc (r := .ins ((i : Nat) + 1) ((i : Nat) + 1 + (cs.length : Nat)))).mpr ⟨⟨i, i + cs.length, rfl, by lia, by lia, by lia⟩, ?_⟩, ?_, solid_last rfl⟩
    · rw [show (((i : Nat) : Int) + 1 + (cs.length : Nat)) = ((i + cs.length : Nat) : Int) + 1 by lia, undoT_ins, ins_undo hi]
      exact hB.notes hns
    · intro r hr
      rcases List.mem_append.mp hr with hr | hr
      · rcases List.mem_append.mp hr with hr | hr
        · exact hN r hr
        · exact note_nobd (hns r hr)
      · rw [List.mem_singleton.mp hr]; rfl
  · rcases List.eq_nil_or_concat N with rfl | ⟨N0, r, rfl⟩
    · rw [List.append_nil] at e
      rcases hQ with rfl | ⟨P, rfl⟩
      · simp at e
      · have := (List.append_inj' e rfl).2
        simp at this
    · rw [List.concat_eq_append] at *
      rw [← List.append_assoc] at e
      obtain ⟨e1, e2⟩ := List.append_inj' e rfl
      simp only [List.cons.injEq, and_true] at e2
      subst e2
      obtain ⟨⟨a', j', ha, hj, haj, hjt⟩, hB0⟩ := Back.snoc.mp hB
      have hji : j' = i := by lia
      subst hji
      subst ha
      rw [undoT_ins] at hB0
      refine ⟨N0 ++ [.ins ((a' : Nat) + 1) ((j' : Nat) + 1 + (cs.length : Nat))], by rw [← e1, List.append_assoc], (Back.snoc (r := .ins ((a' : Nat) + 1) ((j' : Nat) + 1 + (cs.length : Nat)))).mpr ⟨⟨a', j' + cs.length, rfl, by lia, by lia, by lia⟩, ?_⟩, ?_, solid_last rfl⟩
      · rw [show (((j' : Nat) : Int) + 1 + (cs.length : Nat)) = ((j' + cs.length : Nat) : Int) + 1 by lia, undoT_ins, ins_undo2 (by lia) hi]
        exact hB0
      · intro r hr
        rcases List.mem_append.mp hr with hr | hr
        · exact hN r (List.mem_append_left _ hr)
        · rw [List.mem_singleton.mp hr]; rfl
theorem back_del {Q N Ro' : List Row} {t t0 : List Int} {i j : Nat} (hB : Back N t t0) (hN : NoBd N) (hij : i < j) (hj : j ≤ t.length) (hl : t.length ≤ 1000) (h : DelRec (Q ++ N) Ro' ((i + 1 : Nat) : Int) ((t.take j).drop i)) :
    ∃ N', Ro' = Q ++ N' ∧ Back N' (delT t i j) t0 ∧ NoBd N' ∧ Solid N' := by
  obtain ⟨Ro1, f, ⟨ns, rfl, hns, -⟩, rfl⟩ := h
  have hl2 := delT_len (t := t) (Nat.le_of_lt hij) hj
  refine ⟨N ++ ns ++ [.del ((i + 1 : Nat) : Int) ((t.take j).drop i) f], by simp, (Back.snoc (r := .del ((i + 1 : Nat) : Int) ((t.take j).drop i) f)).mpr ⟨⟨i, by lia, by lia, ?_⟩, ?_⟩, ?_, solid_last rfl⟩
  · rw [hl2]; simp only [List.length_drop, List.length_take]; lia
  · rw [show (((i + 1 : Nat) : Int)) = (i : Nat) + 1 by lia, undoT_del, del_undo (Nat.le_of_lt hij) hj]
    exact hB.notes hns
  · intro r hr
    rcases List.mem_append.mp hr with hr | hr
    · rcases List.mem_append.mp hr with hr | hr
      · exact hN r hr
      · exact note_nobd (hns r hr)
    · rw [List.mem_singleton.mp hr]; rfl
noncomputable def er : Row → Row
  | .um _ => .um 0
  | r => r
theorem er_renew (e f : Int) (r : Row) : er (renewR e f r) = er r := by
  cases r <;> try rfl
  rename_i t
  show er (if t = e then .um f else .um t) = _
  split <;> rfl
theorem er_can (r : Row) (t : List Int) : (Can (er r) t ↔ Can r t) ∧ undoT (er r) t = undoT r t := by cases r <;> exact ⟨Iff.rfl, rfl⟩
theorem er_bd (r : Row) : (er r).isBd = r.isBd := by cases r <;> rfl
theorem er_solid (r : Row) : (er r).solid = r.solid := by cases r <;> rfl
theorem er_isBd {r : Row} (h : er r = .bd) : r = .bd := by cases r <;> first | rfl | cases h
theorem er_run (rs : List Row) (t : List Int) : (CanR (rs.map er) t ↔ CanR rs t) ∧ runT (rs.map er) t = runT rs t := by
  induction rs generalizing t with
  | nil => exact ⟨Iff.rfl, rfl⟩
  | cons r rs ih =>
    obtain ⟨h1, h2⟩ := er_can r t
    obtain ⟨h3, h4⟩ := ih (undoT r t)
    simp only [List.map_cons, CanR, runT, h1, h2, h3, h4, and_self]
theorem Back.sim {N N' : List Row} {t t0 : List Int} (e : N'.map er = N.map er) (h : Back N t t0) : Back N' t t0 := by
  unfold Back at *
  rw [← (er_run N.reverse t).1, ← (er_run N.reverse t).2] at h
  rw [← (er_run N'.reverse t).1, ← (er_run N'.reverse t).2, List.map_reverse, e, ← List.map_reverse]
  exact h
theorem mem_sim {N N' : List Row} (e : N'.map er = N.map er) {r : Row} (h : r ∈ N) : ∃ r' ∈ N', er r' = er r := by
  have : er r ∈ N'.map er := by rw [e]; exact List.mem_map_of_mem h
  obtain ⟨r', h1, h2⟩ := List.mem_map.mp this
  exact ⟨r', h1, h2⟩
theorem NoBd.sim {N N' : List Row} (e : N'.map er = N.map er) (h : NoBd N) : NoBd N' := fun r hr => by
  obtain ⟨r', h1, h2⟩ := mem_sim e.symm hr
  rw [← er_bd, ← h2, er_bd]; exact h r' h1
theorem Solid.sim {N N' : List Row} (e : N'.map er = N.map er) (h : Solid N) : Solid N' := by
  obtain ⟨r, h1, h2⟩ := h
  obtain ⟨r', h3, h4⟩ := mem_sim e h1
  exact ⟨r', h3, by rw [← er_solid, h4, er_solid]; exact h2⟩
theorem EndsB.sim {Q Q' : List Row} (e : Q'.map er = Q.map er) (h : EndsB Q) : EndsB Q' := by
  rcases h with rfl | ⟨P, rfl⟩
  · left; simpa using e
  · right
    rcases List.eq_nil_or_concat Q' with rfl | ⟨P', r, rfl⟩
    · simp at e
    · rw [List.concat_eq_append, List.map_append, List.map_append] at e
      have := (List.append_inj' e rfl).2
      simp only [List.map_cons, List.map_nil, List.cons.injEq, and_true] at this
      exact ⟨P', by rw [List.concat_eq_append, er_isBd this]⟩
theorem map_renew (e f : Int) (N : List Row) : (N.map (renewR e f)).map er = N.map er := by
  rw [List.map_map]; exact List.map_congr_left fun r _ => er_renew e f r
theorem ustep_back {Q N R1 : List Row} {r : Row} {t t0 : List Int} (hQ : EndsB Q) (hB : Back N t t0) (hN : NoBd N) (hl : t.length ≤ 1000) (h : UStep r t (Q ++ N) R1) :
    ∃ Q' N', R1 = Q' ++ N' ∧ Q'.map er = Q.map er ∧ Back N' (undoT r t) t0 ∧ NoBd N' ∧ (r.solid = true ∨ Solid N → Solid N') := by
  generalize hRo : Q ++ N = Ro at h
  cases h with
  | umS => exact ⟨Q, N, hRo.symm, rfl, hB, hN, fun h => h.elim (fun e => nomatch e) id⟩
  | @umR x t Ro e f =>
    subst hRo
    exact ⟨Q.map (renewR e f), N.map (renewR e f), List.map_append, map_renew .., hB.sim (map_renew ..), hN.sim (map_renew ..), fun h => h.elim (fun e => nomatch e) fun s => s.sim (map_renew ..)⟩
  | pt => exact ⟨Q, N, hRo.symm, rfl, hB, hN, fun h => h.elim (fun e => nomatch e) id⟩
  | ins hij hj h =>
    subst hRo
    obtain ⟨N', e, h1, h2, h3⟩ := back_del hB hN hij hj hl h
    exact ⟨Q, N', e, rfl, by rw [undoT_ins]; exact h1, h2, fun _ => h3⟩
  | del hi h0 h =>
    subst hRo
    obtain ⟨N', e, h1, h2, h3⟩ := back_ins hQ hB hN hi h0 h
    exact ⟨Q, N', e, rfl, by rw [undoT_del]; exact h1, h2, fun _ => h3⟩
theorem can_len {r : Row} {t : List Int} (h : Can r t) (hl : t.length ≤ 1000) : (undoT r t).length ≤ 1000 := by
  cases r with
  | bd => exact h.elim
  | um _ => exact hl
  | pt _ => exact hl
  | ins a b =>
    obtain ⟨i, j, rfl, rfl, hij, hj⟩ := h
    rw [undoT_ins, delT_len (Nat.le_of_lt hij) hj]; omega
  | del s cs f =>
    obtain ⟨i, rfl, hi, hs⟩ := h
    rw [undoT_del, insT_len hi]; exact hs
theorem urun_back {rs : List Row} {t t' : List Int} {Ro R1 : List Row} (h : URun rs t Ro t' R1) : ∀ {Q N : List Row} {t0 : List Int}, Ro = Q ++ N → EndsB Q → Back N t t0 → NoBd N → t.length ≤ 1000 → CanR rs t →
    ∃ Q' N', R1 = Q' ++ N' ∧ Q'.map er = Q.map er ∧ Back N' t' t0 ∧ NoBd N' ∧ (Solid rs ∨ Solid N → Solid N') := by
  induction h with
  | nil => intro Q N t0 e hQ hB hN hl hc; exact ⟨Q, N, e, rfl, hB, hN, fun h => h.elim (fun ⟨r, hr, _⟩ => nomatch hr) id⟩
  | cons h k ih =>
    intro Q N t0 e hQ hB hN hl hc
    subst e
    obtain ⟨Q1, N1, e1, h1, h2, h3, h4⟩ := ustep_back hQ hB hN hl h
    obtain ⟨Q2, N2, e2, h5, h6, h7, h8⟩ := ih e1 (hQ.sim h1) h2 h3 (can_len hc.1 hl) hc.2
    refine ⟨Q2, N2, e2, h5.trans h1, h6, h7, fun hs => h8 ?_⟩
    rcases hs with ⟨r', hr', hs⟩ | hs
    · rcases List.mem_cons.mp hr' with rfl | hr'
      · exact .inr (h4 (.inl hs))
      · exact .inl ⟨r', hr', hs⟩
    · exact .inr (h4 (.inr hs))
end
section
variable {g : Gx} {A : Around} {E : Value → Shared → Prop} {pre own : Led} {T dT CL B dB M dM MD LL R dR U dU RL Ao dA V dV EQ D D0 D1 : Addr} {xs rows big cells : List AV} {gs ge pt zv tk ct sv mn n : Int} {pb nt pn il : AV} {so : PySem.Str} {eq : List (Int × Int)} {gg : Gp} {bb : Bf} {uu : Option Un} {aa : Am} {vv : Ug} {dd : Dk}
end
section
noncomputable def Grp (N : List Row) (tA tB : List Int) : Prop := Back N tB tA ∧ NoBd N ∧ Solid N
noncomputable def flat (gs : List (List Row)) : List Row := gs.flatMap fun G => G ++ [.bd]
theorem flat_append (a b : List (List Row)) : flat (a ++ b) = flat a ++ flat b := by unfold flat; rw [List.flatMap_append]
theorem flat_one (G : List Row) : flat [G] = G ++ [.bd] := by simp [flat]
theorem flat_ends (X : List (List Row)) : EndsB (flat X) := by
  rcases List.eq_nil_or_concat X with rfl | ⟨X0, G, rfl⟩
  · exact .inl rfl
  · exact .inr ⟨flat X0 ++ G, by rw [List.concat_eq_append, flat_append, flat_one, List.append_assoc]⟩
noncomputable def Whole (X : List (List Row)) : Prop := ∀ H ∈ X, NoBd H ∧ H ≠ []
theorem getElem_sim {R Q : List Row} (e : R.map er = Q.map er) (i : Nat) : (R[i]?.map Row.isBd) = (Q[i]?.map Row.isBd) := by
  have h : (R.map er)[i]? = (Q.map er)[i]? := by rw [e]
  rw [List.getElem?_map, List.getElem?_map] at h
  cases hr : R[i]? with
  | none => cases hq : Q[i]? with
    | none => rfl
    | some q => rw [hr, hq] at h; cases h
  | some r => cases hq : Q[i]? with
    | none => rw [hr, hq] at h; cases h
    | some q =>
      rw [hr, hq] at h
      simp only [Option.map_some, Option.some.injEq] at h ⊢
      rw [← er_bd r, h, er_bd]
theorem trimB_congr {R Q : List Row} (k : Nat) (h : ∀ i, i < k → R[i]?.map Row.isBd = Q[i]?.map Row.isBd) : trimB R k = trimB Q k := by
  induction k with
  | zero => rfl
  | succ k ih => rw [trimB, trimB, h k (Nat.lt_succ_self k), ih fun i hi => h i (Nat.lt_succ_of_lt hi)]
theorem trimB_flat {X : List (List Row)} {Y : List Row} (h : Whole X) : trimB (flat X ++ Y) (flat X).length = (flat X).length - 1 := by
  rcases List.eq_nil_or_concat X with rfl | ⟨X0, G, rfl⟩
  · rfl
  · rw [List.concat_eq_append] at *
    obtain ⟨h1, h2⟩ := h G (by simp)
    rcases List.eq_nil_or_concat G with rfl | ⟨G0, r, rfl⟩
    · exact absurd rfl h2
    · rw [List.concat_eq_append] at *
      rw [flat_append, flat_one]
      have hr : r.isBd = false := h1 r (by simp)
      have hl : (flat X0 ++ (G0 ++ [r] ++ [Row.bd])).length = (flat X0).length + G0.length + 1 + 1 := by simp only [List.length_append, List.length_singleton]; lia
      rw [hl, trimB]
      have e1 : (flat X0 ++ (G0 ++ [r] ++ [Row.bd]) ++ Y)[(flat X0).length + G0.length + 1]? = some .bd := by
        have : flat X0 ++ (G0 ++ [r] ++ [Row.bd]) ++ Y = (flat X0 ++ G0 ++ [r]) ++ (Row.bd :: Y) := by simp
        rw [this, List.getElem?_append_right (by simp only [List.length_append, List.length_singleton]; lia), show (flat X0).length + G0.length + 1 - (flat X0 ++ G0 ++ [r]).length = 0 by simp only [List.length_append, List.length_singleton]; lia]
        rfl
      rw [e1, if_pos (by rfl)]
      have e2 : (flat X0 ++ (G0 ++ [r] ++ [Row.bd]) ++ Y)[(flat X0).length + G0.length]? = some r := by
        have : flat X0 ++ (G0 ++ [r] ++ [Row.bd]) ++ Y = (flat X0 ++ G0) ++ (r :: ([Row.bd] ++ Y)) := by simp
        rw [this, List.getElem?_append_right (by simp)]
        simp
      rw [trimB_nb e2 hr]
      lia
theorem trimB_last {Q N : List Row} (hN : NoBd N) (h0 : N ≠ []) : trimB (Q ++ N) (Q ++ N).length = (Q ++ N).length := by
  rcases List.eq_nil_or_concat N with rfl | ⟨N0, r, rfl⟩
  · exact absurd rfl h0
  · rw [List.concat_eq_append] at *
    have e : (Q ++ (N0 ++ [r]))[(Q ++ N0).length]? = some r := by rw [← List.append_assoc, List.getElem?_append_right (Nat.le_refl _)]; simp
    rw [show (Q ++ (N0 ++ [r])).length = (Q ++ N0).length + 1 by simp; lia]
    exact trimB_nb e (hN r (by simp))
theorem bdry_last {Q N : List Row} (hN : NoBd N) (h0 : N ≠ []) : bdry (Q ++ N) = Q ++ N ++ [.bd] := by
  rcases List.eq_nil_or_concat N with rfl | ⟨N0, r, rfl⟩
  · exact absurd rfl h0
  · rw [List.concat_eq_append] at *
    have : atB (Q ++ (N0 ++ [r])) = false := by
      unfold atB
      rw [← List.append_assoc, List.getLast?_append]
      simp [hN r (by simp)]
    unfold bdry; rw [this]; rfl
theorem atB_ends {Q : List Row} (h : EndsB Q) : atB Q = true := by
  rcases h with rfl | ⟨P, rfl⟩
  · rfl
  · unfold atB; simp [Row.isBd]
theorem Solid.ne {N : List Row} (h : Solid N) : N ≠ [] := by rintro rfl; obtain ⟨r, hr, _⟩ := h; cases hr
theorem solid_nopt {r : Row} (h : r.solid = true) : (!r.isPt) = true := by
  cases r with
  | um _ => cases h
  | pt _ => cases h
  | bd => cases h
  | ins _ _ => rfl
  | del _ _ _ => rfl
theorem Back.filter {N : List Row} : ∀ {t t0 : List Int}, Back N t t0 → Back (N.filter fun r => !r.isPt) t t0 := by
  rcases List.eq_nil_or_concat N with rfl | ⟨N0, r, rfl⟩
  · exact fun h => h
  · intro t t0 h
    rw [List.concat_eq_append] at *
    obtain ⟨h1, h2⟩ := Back.snoc.mp h
    have ih := Back.filter h2
    rw [List.filter_append]
    cases hp : r.isPt with
    | true =>
      have : undoT r t = t := by
        cases r with
        | pt _ => rfl
        | um _ => cases hp
        | bd => cases hp
        | ins _ _ => cases hp
        | del _ _ _ => cases hp
      rw [this] at ih
      simpa [hp] using ih
    | false =>
      have e : List.filter (fun r => !r.isPt) [r] = [r] := by simp [hp]
      rw [e]
      exact Back.snoc.mpr ⟨h1, ih⟩
termination_by N.length
decreasing_by subst_vars; simp
theorem NoBd.filter {N : List Row} (h : NoBd N) (p : Row → Bool) : NoBd (N.filter p) := fun r hr => h r (List.mem_filter.mp hr).1
theorem undo_pure {R0 G : List Row} {X Y : List (List Row)} {tA tB : List Int} (hR : R0.map er = (flat (X ++ G :: Y)).map er) (hX : Whole X) (hG : Grp G tA tB) (hl : tB.length ≤ 1000) :
    ∃ P rs0, P.length = (flat X).length ∧ rs0.length = G.length ∧ R0.take (P.length + rs0.length) = P ++ rs0.reverse ∧ P.length + rs0.length ≤ R0.length ∧ rs0 ≠ [] ∧ (∀ r ∈ rs0, r.isBd = false) ∧ EndsB P ∧ CanR rs0 tB ∧
      trimB (R0.take (P.length + rs0.length)) P.length = (flat X).length - 1 ∧
      ∀ t' R1, URun rs0 tB R0 t' R1 → t' = tA ∧ (∃ B, Grp B tB tA ∧ (bdry (dropPts R1 R0.length)).map er = (flat ((X ++ G :: Y) ++ [B])).map er ∧ R0.length < trimB (dropPts R1 R0.length) (dropPts R1 R0.length).length ∧
        trimB (dropPts R1 R0.length) (dropPts R1 R0.length).length = (flat ((X ++ G :: Y) ++ [B])).length - 1 ∧ B.length ≤ 3 * G.length) ∧ (R1.take P.length).map er = (flat X).map er := by
  have hlen : R0.length = (flat (X ++ G :: Y)).length := by have := congrArg List.length hR; simpa using this
  have hfl : flat (X ++ G :: Y) = flat X ++ (G ++ (.bd :: flat Y)) := by
    rw [flat_append, show G :: Y = [G] ++ Y from rfl, flat_append, flat_one]; simp
  have hle : (flat X).length + G.length ≤ R0.length := by rw [hlen, hfl]; simp only [List.length_append]; lia
  have hP : (R0.take (flat X).length).map er = (flat X).map er := by rw [List.map_take, hR, ← List.map_take, hfl, List.take_left' rfl]
  have hGs : ((R0.take ((flat X).length + G.length)).drop (flat X).length).map er = G.map er := by
    rw [List.map_drop, List.map_take, hR, ← List.map_take, ← List.map_drop, hfl]
    congr 1
    rw [← List.append_assoc, List.take_left' (by simp), List.drop_left' rfl]
  have hPl : (R0.take (flat X).length).length = (flat X).length := by rw [List.length_take]; lia
  have hrl : ((R0.take ((flat X).length + G.length)).drop (flat X).length).length = G.length := by rw [List.length_drop, List.length_take]; lia
  generalize hrs : (R0.take ((flat X).length + G.length)).drop (flat X).length = Gs at *
  have hBk : Back Gs tB tA := hG.1.sim hGs
  have hNb : NoBd Gs := hG.2.1.sim hGs
  have hSo : Solid Gs := hG.2.2.sim hGs
  refine ⟨R0.take (flat X).length, Gs.reverse, hPl, by simp [hrl], ?_, ?_, ?_, ?_, (flat_ends X).sim hP, hBk.1, ?_, fun t' R1 hU => ?_⟩
  · rw [List.reverse_reverse, List.length_reverse, hPl, hrl, ← hrs]
    conv => lhs; rw [← List.take_append_drop (flat X).length (R0.take ((flat X).length + G.length))]
    rw [List.take_take, Nat.min_eq_left (by lia)]
  · rw [List.length_reverse, hPl, hrl]; exact hle
  · intro e; exact hSo.ne (by simpa using e)
  · exact fun r hr => hNb r (List.mem_reverse.mp hr)
  · rw [hPl, ← trimB_flat (Y := G ++ (.bd :: flat Y)) hX, ← hfl]
    refine trimB_congr _ fun i hi => ?_
    rw [List.getElem?_take_of_lt (by lia)]
    exact getElem_sim hR i
  · have hU2 := hU.text
    have hle3 := hU.le
    have hEr : EndsB R0 := (flat_ends _).sim hR
    obtain ⟨Q', N', e1, h1, h2, h3, h4⟩ := urun_back hU (Q := R0) (N := []) (t0 := tB) (by simp) hEr .nil (fun r hr => nomatch hr) hl hBk.1
    have hS' : Solid N' := h4 (.inl (by obtain ⟨r, hr, hs⟩ := hSo; exact ⟨r, List.mem_reverse.mpr hr, hs⟩))
    have hQl : Q'.length = R0.length := by have := congrArg List.length h1; simpa using this
    have ht' : t' = tA := by rw [hU2]; exact hBk.2
    subst ht' e1
    have hdp : dropPts (Q' ++ N') R0.length = Q' ++ N'.filter fun r => !r.isPt := by
      unfold dropPts; rw [← hQl, List.take_left' rfl, List.drop_left' rfl]
    have hB2 := h2.filter
    have hN2 := h3.filter fun r => !r.isPt
    have hS2 : Solid (N'.filter fun r => !r.isPt) := by
      obtain ⟨r, hr, hs⟩ := hS'
      exact ⟨r, List.mem_filter.mpr ⟨hr, solid_nopt hs⟩, hs⟩
    have hfl2 := List.length_filter_le (fun r : Row => !r.isPt) N'
    rw [hdp]
    generalize N'.filter (fun r => !r.isPt) = N2 at *
    have hN0 := hS2.ne
    have hpos := List.length_pos_iff.mpr hN0
    refine ⟨rfl, ⟨N2, ⟨hB2, hN2, hS2⟩, ?_, ?_, ?_, ?_⟩, ?_⟩
    · rw [bdry_last hN2 hN0, flat_append, flat_one, List.map_append, List.map_append, List.map_append, List.map_append, h1, hR, List.append_assoc]
    · rw [trimB_last hN2 hN0, List.length_append]; lia
    · rw [trimB_last hN2 hN0, flat_append, flat_one]
      simp only [List.length_append, List.length_singleton]; lia
    · simp only [List.length_append, List.length_reverse] at hle3; lia
    · rw [hPl, List.take_append_of_le_length (by lia), List.map_take, h1, ← List.map_take]
      exact hP
end
section
variable {g : Gx} {A : Around} {E : Value → Shared → Prop} {pre own : Led} {T dT CL B dB M dM MD LL R dR U dU RL Ao dA V dV EQ D D0 D1 : Addr} {xs rows big cells : List AV} {gs ge pt zv tk ct sv mn n : Int} {pb nt pn il : AV} {so : PySem.Str} {eq : List (Int × Int)} {gg : Gp} {bb : Bf} {uu : Option Un} {aa : Am} {vv : Ug} {dd : Dk}
theorem ival_istored {es : List (Int × Int)} {k v k' : Int} (h : k' = k ∨ (ival es k').isSome = true) : (ival (istored es k v) k').isSome = true := by
  unfold ival istored at *
  rw [Option.isSome_map, List.find?_isSome] at *
  split
  · rename_i hany
    by_cases e : k' = k
    · subst e
      obtain ⟨x, hx, hxe⟩ := List.any_eq_true.mp hany
      exact ⟨(x.1, v), List.mem_map.mpr ⟨x, hx, by rw [if_pos (of_decide_eq_true hxe)]⟩, by simpa using of_decide_eq_true hxe⟩
    · obtain ⟨x, hx, hxe⟩ := h.resolve_left e
      exact ⟨_, List.mem_map.mpr ⟨x, hx, rfl⟩, by
        have hxe := of_decide_eq_true hxe
        split <;> simpa using hxe⟩
  · by_cases e : k' = k
    · exact ⟨(k, v), by simp, by simp [e]⟩
    · obtain ⟨x, hx, hxe⟩ := h.resolve_left e
      exact ⟨x, List.mem_append_left _ hx, hxe⟩
theorem ival_iwithout {es : List (Int × Int)} {k k' : Int} (hne : k' ≠ k) (h : (ival es k').isSome = true) : (ival (iwithout es k) k').isSome = true := by
  unfold ival iwithout at *
  rw [Option.isSome_map, List.find?_isSome] at *
  obtain ⟨x, hx, hxe⟩ := h
  exact ⟨x, List.mem_filter.mpr ⟨hx, by have := of_decide_eq_true hxe; simp; lia⟩, hxe⟩
theorem istored_len {es : List (Int × Int)} {k v : Int} : (istored es k v).length ≤ es.length + 1 := by
  unfold istored; split <;> simp
structure Chains (As Bs : List (List Row)) (Ts : List (List Int)) : Prop where
  len : Ts.length = As.length + 1
  a : ∀ i (G : List Row) tA tB, As[i]? = some G → Ts[i]? = some tA → Ts[i + 1]? = some tB → Grp G tA tB
  b : ∀ i (G : List Row) tA tB, Bs[i]? = some G → Ts[As.length - i]? = some tA → Ts[As.length - i - 1]? = some tB → Grp G tA tB
  lb : Bs.length ≤ As.length
  tl : ∀ t ∈ Ts, t.length ≤ 1000
inductive UPhX (ad : Ad) (V dV EQ : Addr) (As Bs : List (List Row)) (pn : AV) (t : List Int) (m : Mach) (own : Led) : Prop
  | mk (Ro : List Row) (es : List (Int × Int)) (hE : EdS ad t Ro m own) (hV : VS V dV EQ pn es m) (hn : NI pn) (hR : (bdry Ro).map er = (flat (As ++ Bs)).map er) (hes : es.length ≤ Bs.length)
    (hk : ∀ i, i < Bs.length → (ival es (((flat (As ++ Bs.take (i + 1))).length - 1 : Nat) : Int)).isSome = true) (hend : Bs ≠ [] → EndsB Ro) : UPhX ad V dV EQ As Bs pn t m own
structure UPh (ad : Ad) (V dV EQ : Addr) (As Bs : List (List Row)) (pn : AV) (t : List Int) (m : Mach) (own : Led) : Prop where
  ex : UPhX ad V dV EQ As Bs pn t m own
theorem Grp.whole {G : List Row} {a b : List Int} (h : Grp G a b) : NoBd G ∧ G ≠ [] := ⟨h.2.1, h.2.2.ne⟩
theorem Chains.wholeA {As Bs : List (List Row)} {Ts : List (List Int)} (h : Chains As Bs Ts) : Whole As := fun H hH => by
  obtain ⟨i, hi, rfl⟩ := List.mem_iff_getElem.mp hH
  have := h.len
  exact (h.a i _ _ _ (List.getElem?_eq_getElem hi) (List.getElem?_eq_getElem (by lia)) (List.getElem?_eq_getElem (by lia))).whole
theorem Chains.wholeB {As Bs : List (List Row)} {Ts : List (List Int)} (h : Chains As Bs Ts) : Whole Bs := fun H hH => by
  obtain ⟨i, hi, rfl⟩ := List.mem_iff_getElem.mp hH
  have := h.len
  have := h.lb
  exact (h.b i _ _ _ (List.getElem?_eq_getElem hi) (List.getElem?_eq_getElem (by omega)) (List.getElem?_eq_getElem (by omega))).whole
theorem Whole.append {X Y : List (List Row)} (h : Whole X) (k : Whole Y) : Whole (X ++ Y) := fun H hH => (List.mem_append.mp hH).elim (h H) (k H)
theorem trim_of_flat {R0 : List Row} {X : List (List Row)} (hR : R0.map er = (flat X).map er) (hX : Whole X) : trimB R0 R0.length = (flat X).length - 1 := by
  have hl : R0.length = (flat X).length := by have := congrArg List.length hR; simpa using this
  have := trimB_flat (Y := []) hX
  rw [List.append_nil] at this
  rw [← this, hl]
  exact trimB_congr _ fun i _ => getElem_sim hR i
theorem bdry_len (Ro : List Row) : Ro.length ≤ (bdry Ro).length ∧ (bdry Ro).length ≤ Ro.length + 1 := by
  unfold bdry; split <;> simp
theorem undo_step_ {ad : Ad} {As Bs : List (List Row)} {Ts : List (List Int)} {tA tB : List Int} {m : Mach} {ch : Bool} {Φ : AV → Led → Prop} (Rr : Rm 13 A) (hC : Chains As Bs Ts) (hlt : Bs.length < As.length) (hU : UPh ad V dV EQ As Bs pn tB m own)
    (htB : Ts[As.length - Bs.length]? = some tB) (htA : Ts[As.length - Bs.length - 1]? = some tA) (hch : ch = decide (0 < Bs.length)) (hpn : 0 < Bs.length → pn = .int (((flat (As.take (As.length - Bs.length))).length - 1 : Nat) : Int))
    (hsz : (flat (As ++ Bs)).length + 3 * (flat As).length ≤ 10000) (hnA : As.length ≤ 900)
    (h : ∀ w B m' own', (∀ p ∈ own, p ∈ own') → m'.a = m.a → m'.d = m.d → Chains As (Bs ++ [B]) Ts → UPh ad V dV EQ As (Bs ++ [B]) (.int (((flat (As.take (As.length - Bs.length - 1))).length - 1 : Nat) : Int)) tA m' own' →
      (flat (Bs ++ [B])).length + 3 * (flat (As.take (As.length - Bs.length - 1))).length ≤ (flat Bs).length + 3 * (flat (As.take (As.length - Bs.length))).length → Φ w (Z pre m' own')) :
    wpC g A E (.ref f_undo) [.ref V, .ref ad.B, .int 1, .bool ch] (Z pre m own) Φ := by
  obtain ⟨Ro, es, hE, hV, hni, hR, hes, hkeys, hend⟩ := hU.ex
  have hlen := hC.len
  have hlb := hC.lb
  generalize hi : As.length - Bs.length - 1 = c at *
  have hc : c < As.length := by lia
  have hci : As.length - Bs.length = c + 1 := by lia
  rw [hci] at htB hpn h
  have hG := hC.a c As[c] tA tB (List.getElem?_eq_getElem hc) htA htB
  have hsplit : As ++ Bs = As.take c ++ As[c] :: (As.drop (c + 1) ++ Bs) := by
    have e : As = As.take c ++ As[c] :: As.drop (c + 1) := by rw [← List.drop_eq_getElem_cons hc, List.take_append_drop]
    exact (congrArg (· ++ Bs) e).trans (by rw [List.append_assoc]; rfl)
  have hWA := hC.wholeA
  have hWX : Whole (As.take c) := fun H hH => hWA H (List.mem_of_mem_take hH)
  have htBl : tB.length ≤ 1000 := hC.tl _ (List.mem_of_getElem? htB)
  rw [hsplit] at hR
  obtain ⟨P, rs0, h1, h2, h3, h4, h5, h6, h7, h8, h9, h10⟩ := undo_pure hR hWX hG htBl
  have htk : As.take (c + 1) = As.take c ++ [As[c]] := by rw [List.take_add_one, List.getElem?_eq_getElem hc]; rfl
  have hfk : (flat (As.take (c + 1))).length = (flat (As.take c)).length + As[c].length + 1 := by rw [htk, flat_append, flat_one]; simp; lia
  have hR0l : (bdry Ro).length = (flat (As ++ Bs)).length := by
    have := congrArg List.length hR
    rw [← hsplit] at this
    simpa using this
  have hbl := bdry_len Ro
  have hfA : (flat As).length = (flat (As.take (c + 1))).length + (flat (As.drop (c + 1))).length := by
    conv => lhs; rw [← List.take_append_drop (c + 1) As]
    rw [flat_append, List.length_append]
  have hWAB : Whole (As ++ Bs) := hWA.append hC.wholeB
  have htrim : trimB (bdry Ro) (bdry Ro).length = (flat (As ++ Bs)).length - 1 := trim_of_flat (by rw [hR, hsplit]) hWAB
  refine undo_ (k := P.length + rs0.length) (P := P) (rs0 := rs0) (Ro := Ro) (es := es) Rr hE hV hni ?_ rfl h4 h3 h5 h6 h7 h8 (by lia) (by lia) (fun t' R1 hU => ?_) fun w t' R1 m' own' hm ha hd hU hE' hV' => ?_
  · by_cases hz : 0 < Bs.length
    · have hp := hpn hz
      subst hp
      rw [if_pos]
      · rw [h1, h2]; congr 2; lia
      · rw [hch, decide_eq_true hz]
        unfold inRow
        have hk := hkeys (Bs.length - 1) (by lia)
        rw [show Bs.length - 1 + 1 = Bs.length by lia, List.take_of_length_le (Nat.le_refl _)] at hk
        rw [htrim, hk]; simp
    · have hb : Bs = [] := List.length_eq_zero_iff.mp (by lia)
      subst hb
      have hcA : c + 1 = As.length := by simp at hi; lia
      rw [if_neg]
      · rw [htrim, List.append_nil, h1, h2]
        have : (flat As).length = (flat (As.take c)).length + As[c].length + 1 := by rw [← hfk, hcA, List.take_of_length_le (Nat.le_refl _)]
        congr 2; lia
      · rw [hch]; unfold inRow; cases pn <;> simp
  · exact (h10 t' R1 hU).2.1.elim fun B hB => hB.2.2.1
  · obtain ⟨rfl, ⟨B, hGB, hmap, hgrow, htr, hBl⟩, -⟩ := h10 _ _ hU
    rw [← hsplit, List.append_assoc] at hmap htr
    have hEB : EndsB (bdry (dropPts R1 (bdry Ro).length)) := (flat_ends _).sim hmap
    rw [show ((P.length + rs0.length : Nat)) = P.length + rs0.length from rfl, h9, htr] at hV'
    refine h w B m' own' hm ha hd ⟨hlen, hC.a, ?_, by simp; lia, hC.tl⟩ ⟨⟨_, _, hE', hV', .int, ?_, ?_, ?_, fun _ => hEB⟩⟩ ?_
    · intro i G a b hB2 ha2 hb2
      rcases Nat.lt_or_ge i Bs.length with hlt2 | hge
      · rw [List.getElem?_append_left hlt2] at hB2
        exact hC.b i G a b hB2 ha2 hb2
      · rw [List.getElem?_append_right hge] at hB2
        have : i = Bs.length := by
          have := some_lt hB2
          simp at this; lia
        subst this
        simp at hB2
        subst hB2
        rw [show As.length - Bs.length = c + 1 by lia, htB] at ha2
        rw [show As.length - Bs.length - 1 = c by lia, htA] at hb2
        cases ha2; cases hb2
        exact hGB
    · rw [bdry_at (atB_ends hEB)]; exact hmap
    · have := istored_len (es := es) (k := (((flat (As ++ (Bs ++ [B]))).length - 1 : Nat) : Int)) (v := (((flat (As.take c)).length - 1 : Nat) : Int))
      simp only [List.length_append, List.length_singleton]; lia
    · intro i hi2
      refine ival_istored ?_
      rcases Nat.lt_or_ge i Bs.length with hlt2 | hge
      · rw [List.take_append_of_le_length (by lia)]
        exact .inr (hkeys i hlt2)
      · have : i = Bs.length := by simp at hi2; lia
        subst this
        rw [List.take_of_length_le (by simp)]
        exact .inl rfl
    · rw [flat_append, flat_one, hfk]
      simp only [List.length_append, List.length_singleton]; lia
end
section
variable {g : Gx} {A : Around} {E : Value → Shared → Prop} {pre own : Led} {T dT CL B dB M dM MD LL R dR U dU RL Ao dA V dV EQ D D0 D1 : Addr} {xs rows big cells : List AV} {gs ge pt zv tk ct sv mn n : Int} {pb nt pn il : AV} {so : PySem.Str} {eq : List (Int × Int)} {gg : Gp} {bb : Bf} {uu : Option Un} {aa : Am} {vv : Ug} {dd : Dk}
theorem redo_step_ {ad : Ad} {As Bs : List (List Row)} {B : List Row} {Ts : List (List Int)} {tA tB : List Int} {m : Mach} {Φ : AV → Led → Prop} (Rr : Rm 13 A) (hC : Chains As (Bs ++ [B]) Ts) (hU : UPh ad V dV EQ As (Bs ++ [B]) pn tA m own)
    (htB : Ts[As.length - Bs.length]? = some tB) (htA : Ts[As.length - Bs.length - 1]? = some tA) (hsz : (flat (As ++ (Bs ++ [B]))).length ≤ 10000)
    (h : ∀ w pn' m' own', (∀ p ∈ own, p ∈ own') → m'.a = m.a → m'.d = m.d → Chains As Bs Ts → UPh ad V dV EQ As Bs pn' tB m' own' → Φ w (Z pre m' own')) :
    wpC g A E (.ref f_undo_redo) [.ref V, .ref ad.B, .int 1] (Z pre m own) Φ := by
  obtain ⟨Ro, es, hE, hV, hni, hR, hes, hkeys, hend⟩ := hU.ex
  have hEnd := hend (by simp)
  rw [bdry_at (atB_ends hEnd)] at hR
  have hlen := hC.len
  have hlb := hC.lb
  simp only [List.length_append, List.length_singleton] at hlb
  have hG : Grp B tB tA := hC.b Bs.length B tB tA (by simp) htB htA
  have hWB : Whole (Bs ++ [B]) := hC.wholeB
  have hWX : Whole (As ++ Bs) := hC.wholeA.append fun H hH => hWB H (List.mem_append_left _ hH)
  have hR2 : Ro.map er = (flat ((As ++ Bs) ++ B :: [])).map er := by rw [hR]; simp
  have hl : tA.length ≤ 1000 := hC.tl _ (List.mem_of_getElem? htA)
  obtain ⟨P, rs0, h1, h2, h3, h4, h5, h6, h7, h8, h9, h10⟩ := undo_pure hR2 hWX hG hl
  have hfl : (flat (As ++ (Bs ++ [B]))).length = (flat (As ++ Bs)).length + B.length + 1 := by
    rw [← List.append_assoc, flat_append, flat_one]; simp only [List.length_append, List.length_singleton]; lia
  have hRl : Ro.length = (flat (As ++ (Bs ++ [B]))).length := by have := congrArg List.length hR; simpa using this
  have htrim : trimB Ro Ro.length = (flat (As ++ (Bs ++ [B]))).length - 1 := trim_of_flat hR (hC.wholeA.append hWB)
  have hk := hkeys Bs.length (by simp)
  rw [List.take_of_length_le (by simp)] at hk
  obtain ⟨v, hv⟩ := Option.isSome_iff_exists.mp hk
  have hkk : (flat (As ++ (Bs ++ [B]))).length - 1 = P.length + rs0.length := by lia
  rw [hkk] at hv htrim
  refine undo_redo_ (k := P.length + rs0.length) (P := P) (rs0 := rs0) Rr hE hV (atB_ends hEnd) htrim hv rfl h4 h3 h5 h6 h7 h8 (by lia) fun w t' R1 m' own' pn' hm ha hd hpn' hU2 hE' hV' => ?_
  obtain ⟨rfl, -, hmap⟩ := h10 _ _ hU2
  have hEP : EndsB (R1.take P.length) := (flat_ends _).sim hmap
  refine h w pn' m' own' hm ha hd ⟨hlen, hC.a, fun i G a b hB2 ha2 hb2 => hC.b i G a b (by rw [List.getElem?_append_left (some_lt hB2)]; exact hB2) ha2 hb2, by lia, hC.tl⟩ ⟨⟨_, _, hE', hV', hpn', ?_, ?_, ?_, fun _ => hEP⟩⟩
  · rw [bdry_at (atB_ends hEP)]; exact hmap
  · -- a key is gone
    have hlt : (iwithout es ((P.length + rs0.length : Nat) : Int)).length < es.length := by
      unfold iwithout
      unfold ival at hv
      obtain ⟨x, hx, -⟩ := Option.map_eq_some_iff.mp hv
      have h11 := List.mem_of_find?_eq_some hx
      have h12 := List.find?_some hx
      refine List.length_filter_lt_length_iff_exists.mpr ⟨x, h11, ?_⟩
      simpa using h12
    simp only [List.length_append, List.length_singleton] at hes
    lia
  · intro i hi2
    have hk2 := hkeys i (by simp; lia)
    rw [List.take_append_of_le_length (by lia)] at hk2
    refine ival_iwithout ?_ hk2
    rw [← hkk]
    have hf2 : (flat (As ++ Bs)).length = (flat (As ++ Bs.take (i + 1))).length + (flat (Bs.drop (i + 1))).length := by
      conv => lhs; rw [← List.take_append_drop (i + 1) Bs, ← List.append_assoc, flat_append, List.length_append]
    have hBp := List.length_pos_iff.mpr hG.whole.2
    lia
end
section
variable {g : Gx} {A : Around} {E : Value → Shared → Prop} {pre own : Led} {T dT CL B dB M dM MD LL R dR U dU RL Ao dA V dV EQ D D0 D1 : Addr} {xs rows big cells : List AV} {gs ge pt zv tk ct sv mn n : Int} {pb nt pn il : AV} {so : PySem.Str} {eq : List (Int × Int)} {gg : Gp} {bb : Bf} {uu : Option Un} {aa : Am} {vv : Ug} {dd : Dk}
end
section
variable {g : Gx} {A : Around} {E : Value → Shared → Prop} {s : Shared}
noncomputable def ExTb (h base : Heap) (e C : Addr) (dc : Option Addr) (x : Option Value) : Prop :=
  ∃ oe vs, h.get? e = some oe ∧ oe.cls = .ref C ∧ oe.dict = dc ∧ oe.data = .fields vs ∧
    match x with
    | none => vs[1]? = some .none
    | some fl => ∃ T oT ts, vs[1]? = some (.ref T) ∧ base.get? T = none ∧ T ≠ e ∧ h.get? T = some oT ∧ oT.data = .fields ts ∧ ts[3]? = some fl
structure Fly (base : Heap) (l : List Env) (e C : Addr) (dc : Option Addr) (x : Option Value) (h : Heap) : Prop where
  stays : base.StaysIn h
  new : base.get? e = none
  frames : h.FunFrames base l
  tb : ExTb h base e C dc x
theorem dict_mapFields (o : Obj) (f : Array Value → Array Value) : (Obj.mapFields f o).dict = o.dict := by
  unfold Obj.mapFields; split <;> rfl
theorem upd_other {h : Heap} {b : Addr} {o : Obj} {vs : Array Value} (f : Obj → Obj) (ho : h.get? b = some o) (hd : o.data = .fields vs) : ∀ c o', h.get? c = some o' → (∀ ws, o'.data ≠ .fields ws) → (h.update b f).get? c = some o' := fun c o' hc hn => by
  refine (Heap.get?_update_other _ _ fun e => ?_).trans hc
  subst e; rw [ho] at hc; cases hc; exact hn _ hd
theorem fly_set {base : Heap} {l : List Env} {e C : Addr} {dc : Option Addr} {fl : Value} (x : Fly base l e C dc (some fl) s.heap) :
    ∃ T, (∀ {α : Type} {f : Value → Sem α} {Q' : α → Shared → Prop}, wpAny (model pw g.w) A (f (.ref T)) Q' E s → wpAny (model pw g.w) A (field (.ref e) 1 >>= f) Q' E s) ∧
      (∀ {α : Type} {f : Value → Sem α} {Q' : α → Shared → Prop}, wpAny (model pw g.w) A (f fl) Q' E s → wpAny (model pw g.w) A (field (.ref T) 3 >>= f) Q' E s) ∧
      ∀ (w : Value) (Q : Unit → Shared → Prop), (∀ h', Fly base l e C dc (some w) h' → s.heap.UpToSlots h' → Q () { s with heap := h' }) → wpAny (model pw g.w) A (setField (.ref T) 3 w) Q E s := by
  obtain ⟨x1, x2, x3, oe, vs, he, hc, hdc, hd, T, oT, ts, h1, hnT, hTe, hT, hdT, h3⟩ := x
  refine ⟨T, fun k => wpAny_bind (wpAny_field he hd h1 k), fun k => wpAny_bind (wpAny_field hT hdT h3 k), fun w Q h => ?_⟩
  have hsz : 3 < ts.size := (Array.getElem?_eq_some_iff.mp h3).1
  have ko := upd_other (Obj.mapFields (·.setIfInBounds 3 w)) hT hdT
  refine wpAny_setField hT hdT hsz (h _ ⟨fun b o hb => ?_, x2, x3.of_keeps fun b o hb hn => ⟨o, ko b o hb hn, rfl⟩, oe, vs, ?_, hc, hdc, hd, T, _, _, h1, hnT, hTe, Heap.get?_update_self _ hT (Obj.isFreed_of_fields (Obj.data_mapFields hdT _)), Obj.data_mapFields hdT _, by simp [hsz]⟩ fun b o hb hn => ⟨o.slots, ko b o hb hn⟩)
  · exact (Heap.get?_update_other _ _ fun q => by subst q; rw [hnT] at hb; cases hb).trans (x1 b o hb)
  · exact (Heap.get?_update_other _ _ hTe).trans he
theorem fly_entry {base : Heap} {env : Env} {outer : List Env} {L e C : Addr} {dc : Option Addr} {x : Option Value} {head : Value} {hadNext : Bool} {Q : Unit → Shared → Prop} (hfr : A.frames = some (env :: outer)) (hf : env.frame = some L)
    (y : Fly base (env :: outer) e C dc x s.heap) (h : ∀ h', Fly base (env :: outer) e C dc (some (rawInt L)) h' → s.heap.UpToSlots h' → Q () { s with heap := h' }) :
    wpAny (model pw g.w) A (do let a ← _root_.PySem.frameOf env; let pl ← entryPlaceOf L hadNext; let b ← EntryCells.newEntry head a .none (rawInt L) .none pl; setField (.ref e) 1 b) Q E s := by
  obtain ⟨y1, y2, y3, oe, vs, he, hc, hdc, hd, y4⟩ := y
  have hsz : 1 < vs.size := by
    cases x with
    | none => exact (Array.getElem?_eq_some_iff.mp y4).1
    | some fl => obtain ⟨T, _, _, h1, _⟩ := y4; exact (Array.getElem?_eq_some_iff.mp h1).1
  have notFr : e ∉ (env :: outer).filterMap (·.frame) := fun hm => by
    obtain ⟨_, o, ho, hn⟩ := y3.mem hm
    rw [he] at ho; cases ho; exact hn vs hd
  refine wpAny_bind (wpAny_frameOf_fun hfr y3 hf fun h1 so => wpAny_bind (wpAny_entryPlaceOf fun pl hpl => ?_))
  unfold EntryCells.newEntry newFields
  refine wpAny_bind (wpAny_newObj_type ?_ (hpl.sizeOk5 _ _ _ _ _))
  have he1 : h1.get? e = some oe := (so.2.1 e notFr).trans he
  have st1 : base.StaysIn h1 := fun b o hb => (so.2.1 b fun hm => by rw [(y3.mem hm).1] at hb; cases hb).trans (y1 b o hb)
  have hTe : h1.objs.size ≠ e := Nat.ne_of_gt (Heap.lt_size he1)
  have he2 := Heap.get?_push_of_some (h := h1) { cls := .type "traceback", dict := none, data := .fields ([head, .ref L, .none, rawInt L, .none] ++ (if pl.isEmpty then List.replicate 6 Value.none else pl)).toArray } he1
  have hT2 := Heap.get?_push_size h1 (o := { cls := .type "traceback", dict := none, data := .fields ([head, .ref L, .none, rawInt L, .none] ++ (if pl.isEmpty then List.replicate 6 Value.none else pl)).toArray }) rfl
  have keep : ∀ b o, h1.get? b = some o → (h1.push { cls := .type "traceback", dict := none, data := .fields ([head, .ref L, .none, rawInt L, .none] ++ (if pl.isEmpty then List.replicate 6 Value.none else pl)).toArray }).get? b = some o := fun b o hb => Heap.get?_push_of_some _ hb
  generalize hp : h1.push { cls := .type "traceback", dict := none, data := .fields ([head, .ref L, .none, rawInt L, .none] ++ (if pl.isEmpty then List.replicate 6 Value.none else pl)).toArray } = h2 at *
  have ko := upd_other (Obj.mapFields (·.setIfInBounds 1 (Value.ref h1.objs.size))) he2 hd
  have up : ∀ b o, s.heap.get? b = some o → (∀ ws, o.data ≠ .fields ws) → ∃ sl, (h2.update e (Obj.mapFields (·.setIfInBounds 1 (Value.ref h1.objs.size)))).get? b = some { o with slots := sl } := fun b o hb hn => by
    obtain ⟨sl, hs⟩ := so.2.2 b o hb
    exact ⟨sl, ko b _ (keep b _ hs) hn⟩
  refine wpAny_setField he2 hd hsz (h _ ⟨fun b o hb => ?_, y2, y3.of_keeps fun b o hb hn => ?_, _, _, Heap.get?_update_self _ he2 (Obj.isFreed_of_fields (Obj.data_mapFields hd _)), (Obj.cls_mapFields _ _).trans hc, (dict_mapFields _ _).trans hdc, Obj.data_mapFields hd _, h1.objs.size, _, _, by simp [hsz], st1.fresh, hTe,
    (Heap.get?_update_other _ _ (Ne.symm hTe)).trans hT2, rfl, by first | (simp; done) | (rcases hpl with rfl | ⟨_, _, _, _, _, _, _, rfl⟩ <;> simp)⟩ up)
  · exact (Heap.get?_update_other _ _ fun q => by subst q; rw [y2] at hb; cases hb).trans (keep b o (st1 b o hb))
  · obtain ⟨sl, hs⟩ := up b o hb hn
    exact ⟨_, hs, rfl⟩
theorem fly_note {base : Heap} {env : Env} {outer : List Env} {L e C : Addr} {dc : Option Addr} {x : Option Value} {Q : Unit → Shared → Prop} (hfr : A.frames = some (env :: outer)) (hf : env.frame = some L) (hx : x = none ∨ x = some .none)
    (y : Fly base (env :: outer) e C dc x s.heap) (h : ∀ h', Fly base (env :: outer) e C dc (some (rawInt L)) h' → s.heap.UpToSlots h' → Q () { s with heap := h' }) : wpAny (model pw g.w) A (noteFrame (.ref e) env) Q E s := by
  unfold noteFrame
  simp only [hf]
  rcases hx with rfl | rfl
  · obtain ⟨y1, y2, y3, oe, vs, he, hc, hdc, hd, y4⟩ := id y
    refine wpAny_bind (wpAny_field he hd y4 ?_)
    rw [if_neg (by decide)]
    exact fly_entry hfr hf y h
  · obtain ⟨T, f1, f2, f3⟩ := fly_set (g := g) (A := A) (E := E) y
    refine f1 ?_
    rw [if_pos (show (Value.ref T != Value.none) = true from by simp)]
    refine f2 ?_
    rw [if_neg (show ¬ ((Value.none == rawInt L) = true) from by simp [rawInt])]
    refine wpAny_bind (f3 _ _ fun h1 y1 u1 => ?_)
    exact fly_entry (s := { s with heap := h1 }) hfr hf y1 fun h' y' u' => h h' y' (u1.trans u')
theorem fly_land {base : Heap} {l : List Env} {e C : Addr} {dc : Option Addr} {fl : Value} {Q : Unit → Shared → Prop} (y : Fly base l e C dc (some fl) s.heap) (h : ∀ h', Fly base l e C dc (some .none) h' → s.heap.UpToSlots h' → Q () { s with heap := h' }) :
    wpAny (model pw g.w) A (setFlight (.ref e) none) Q E s := by
  unfold setFlight
  obtain ⟨T, f1, f2, f3⟩ := fly_set (g := g) (A := A) (E := E) y
  refine f1 ?_
  rw [if_pos (show (Value.ref T != Value.none) = true from by simp)]
  exact f3 _ _ h
theorem Fly.pop {base : Heap} {env : Env} {l : List Env} {e C : Addr} {dc : Option Addr} {x : Option Value} {h : Heap} (y : Fly base (env :: l) e C dc x h) : Fly base l e C dc x h := ⟨y.stays, y.new, y.frames.2.2, y.tb⟩
theorem fly_leave {base : Heap} {env : Env} {outer : List Env} {L e C : Addr} {dc : Option Addr} {x : Option Value} {Q : Unit → Shared → Prop} (hfr : A.frames = some (env :: outer)) (hf : env.frame = some L) (hx : x = none ∨ x = some .none)
    (y : Fly base (env :: outer) e C dc x s.heap) (h : ∀ h', Fly base outer e C dc (some .none) h' → s.heap.UpToSlots h' → Q () { s with heap := h' }) : wpAny (model pw g.w) A (leaving env (.ref e)) Q E s := by
  unfold leaving
  refine wpAny_bind (fly_note hfr hf hx y fun h1 y1 u1 => ?_)
  exact fly_land (s := { s with heap := h1 }) y1 fun h2 y2 u2 => h h2 y2.pop (u1.trans u2)
noncomputable def InBase (base : Heap) (h : Heap) (led : Led) : Prop := ∀ p ∈ led, base.get? p.1 = h.get? p.1 ∨ ∃ sc vs, p.2 = .frame sc vs
theorem fly_st {led : Led} {base h' : Heap} (S : St g s led) (hb : InBase base s.heap led) (hg : g.hb.StaysIn base) (hs : base.StaysIn h') (u : s.heap.UpToSlots h') (hne : led ≠ []) : St g { s with heap := h' } led ∧ InBase base h' led := by
  have key : ∀ p ∈ led, ∃ o, h'.get? p.1 = some o ∧ p.2.Is g.w o ∧ (base.get? p.1 = h'.get? p.1 ∨ ∃ sc vs, p.2 = .frame sc vs) := fun p hp => by
    obtain ⟨o, ho, hi⟩ := S.at_ p hp
    rcases hb p hp with hq | ⟨sc, vs, hq⟩
    · have := hs _ _ (hq.trans ho)
      exact ⟨o, this, hi, .inl ((hq.trans ho).trans this.symm)⟩
    · rw [hq] at hi
      obtain ⟨m, es, ep, hd, r⟩ := id hi
      obtain ⟨sl, hsl⟩ := u _ _ ho fun ws q => by rw [hd] at q; cases q
      refine ⟨_, hsl, ?_, .inr ⟨sc, vs, hq⟩⟩
      rw [hq]; exact ⟨m, es, ep, hd, r⟩
  refine ⟨⟨fun b o hb' => hs _ _ (hg _ _ hb'), ?_, fun p hp => (key p hp).imp fun o ho => ⟨ho.1, ho.2.1⟩, S.nodup, S.fresh, S.os_, S.gens⟩, fun p hp => (key p hp).elim fun o ho => ho.2.2⟩
  obtain ⟨p, l', rfl⟩ : ∃ p l', led = p :: l' := by cases led with | nil => exact absurd rfl hne | cons a b => exact ⟨a, b, rfl⟩
  obtain ⟨o, ho, -⟩ := key p (.head _)
  exact Nat.le_of_lt (Nat.lt_of_le_of_lt (S.fresh p (.head _)) (Heap.lt_size ho))
end
section
end
section
variable {g : Gx} {A : Around} {E : Value → Shared → Prop} {pre own : Led} {T dT CL B dB M dM MD LL R dR U dU RL Ao dA V dV EQ D D0 D1 : Addr} {xs rows big cells : List AV} {gs ge pt zv tk ct sv mn n : Int} {pb nt pn il : AV} {so : PySem.Str} {eq : List (Int × Int)} {gg : Gp} {bb : Bf} {uu : Option Un} {aa : Am} {vv : Ug} {dd : Dk}
end
noncomputable abbrev sigObj : Obj := excClassObj (S "LispSignal") (S "LispSignal") c_LispSignal 365 [.type "Exception"] [.type "Exception", .type "BaseException", .type "object"] true [] [] false none none (some (.ref 350)) none (some (.str (S "LispSignal") 639)) (some (.str (S "LispSignal") 647)) (some (.bool true)) "Exception.__new__"
theorem sig_look (P : Params) : (KK P).lookup c_LispSignal = some sigObj := look_at (i := 11) (by kernel_rfl)
section
variable {g : Gx} {A : Around} {E : Value → Shared → Prop} {s : Shared} {led : Led}
theorem St.sigC (S0 : St g s led) : s.heap.get? c_LispSignal = some sigObj := S0.K _ _ (sig_look _)
theorem sig_find (P : Params) : findIn (KK P) (.ref c_LispSignal) "__setattr__" = some (some (.builtin "object.__setattr__")) ∧ findIn (KK P) (.ref c_LispSignal) (S "symbol") = some none ∧ findIn (KK P) (.ref c_LispSignal) (S "data") = some none ∧ hasDictIn (KK P) c_LispSignal = true := ⟨by kernel_rfl, by kernel_rfl, by kernel_rfl, by kernel_rfl⟩
theorem sig_clsIn (P : Params) : clsIn (KK P) c_LispSignal = some { name := S "LispSignal", bases := [.type "Exception"], mro := [.ref c_LispSignal, .type "Exception", .type "BaseException", .type "object"], ns := 365, qualname := S "LispSignal", hasDict := true, slotNames := [], subclasses := [], abstract := false, collection := none, hasDel := false } := by
  unfold clsIn; rw [sig_look]
noncomputable abbrev rawSig (vs : Array Value) : Obj := { cls := .ref c_LispSignal, data := .fields vs }
noncomputable abbrev sigWith (dx : Addr) (vs : Array Value) : Obj := { cls := .ref c_LispSignal, dict := some dx, data := .fields vs }
theorem call_first {x : Addr} {vs : Array Value} {v : Value} {tk0 : Tok} {R : Result → Shared → Prop} (S0 : St g s led) (hx : s.heap.get? x = some (rawSig vs))
    (h : ∀ h' tk, h'.objs.size = s.heap.objs.size + 1 → h'.Ns1 s.heap.objs.size (fun y => if y = S "symbol" then some v else none) → h'.get? x = some (sigWith s.heap.objs.size vs) → (∀ b o, b ≠ x → s.heap.get? b = some o → h'.get? b = some o) → R (.ok (.ret .none)) { s with heap := h', toks := tk }) :
    codeAny (model pw g.w) A (.call (.builtin "object.__setattr__") ⟨[.ref x, .str (S "symbol") tk0, v], []⟩) R s := by
  have X := S0.K
  have I : InstAt s.heap x (rawSig vs) c_LispSignal none := ⟨hx, rfl, rfl, trivial⟩
  have hc := sig_clsIn g.w.params
  have SF := PySem.F.store_object
  have SE := PySem.F.store_Exception
  have sub : Looks (model pw g.w) s.heap (isInstance (.ref x) (.type "object")) true := I.type.andThen (looks_mroIn X (by unfold mroIn; rw [hc]; rfl))
  refine codeAny_call_builtin SF.slot.plain SF.entry (@check_slot (model pw g.w) _ _ s "object.__setattr__" "object" "__setattr__" (.ref x) [.str (S "symbol") tk0, v] [] _ SF.kind SF.split sub (SF.args (.ref x) (.str (S "symbol") tk0) v) ?_)
  have hm : Looks (model pw g.w) s.heap (mroOf (.ref c_LispSignal)) [.ref c_LispSignal, .type "Exception", .type "BaseException", .type "object"] := (looks_clsIn X hc).andThen .now
  rw [osa_eq, refuse_eq]
  refine wpAny_bind (wpAny_bind (I.type.here (wpAny_bind (hm.here ?_))))
  rw [refuseLoop_ref, SE.passes]
  refine wpAny_pure (wpAny_bind (I.type.here (wpAny_bind ((looks_findIn X (sig_find _).2.1).here (wpAny_bind (wpAny_pure ?_))))))
  dsimp only
  refine wpAny_bind (wpAny_pure (wpAny_bind (wpAny_bind (wpAny_loadPart hx (wpAny_bind ((looks_clsIn X hc).here ?_))))))
  obtain ⟨hh, gs, d, t, os⟩ := s
  have hx1 : (hh.push emptyDict).get? x = some (rawSig vs) := Heap.get?_push_of_some _ hx
  have hxs : x ≠ hh.objs.size := Nat.ne_of_lt (Heap.lt_size hx)
  refine wpAny_bind (wpAny_alloc' (wpAny_bind (wpAny_update' hx1 (wpAny_pure ?_))))
  have hgd : ((hh.push emptyDict).update x fun o => { o with dict := some hh.objs.size }).get? hh.objs.size = some emptyDict := (Heap.get?_update_ne _ _ _ _ hxs.symm).trans (Heap.get?_push_at rfl rfl)
  have hnd : ((hh.push emptyDict).update x fun o => { o with dict := some hh.objs.size }).Ns1 hh.objs.size (fun _ => none) := Heap.Ns1.of_empty ⟨_, #[], _, hgd, rfl, fun e he => absurd he (by simp), fun _ => rfl⟩
  have hx2 : ((hh.push emptyDict).update x fun o => { o with dict := some hh.objs.size }).get? x = some (sigWith hh.objs.size vs) := Heap.get?_update_self _ hx1 rfl
  have hk2 : ∀ b o, b ≠ x → hh.get? b = some o → ((hh.push emptyDict).update x fun o => { o with dict := some hh.objs.size }).get? b = some o := fun b o hb ho => (Heap.get?_update_ne _ _ _ _ hb).trans (Heap.get?_push_of_some _ ho)
  have hz2 : ((hh.push emptyDict).update x fun o => { o with dict := some hh.objs.size }).objs.size = hh.objs.size + 1 := by rw [Heap.size_after_update]; exact Heap.size_push ..
  refine wpAny_bind (wpAny_pure (wpAny_bind (wpAny_nsSet1 (s := ⟨_, gs, d, t, os⟩) hnd fun h' hn' hs => ?_)))
  obtain ⟨oD, esD, epD, hoD, hdD, hcD⟩ := hn'.count (Within.cons (S "symbol") v Within.nil)
  refine wpAny_bind (wpAny_lookBehind hoD (by rw [hdD]; exact pastItsLine_dict (Nat.le_trans hcD (by rw [List.length_cons, List.length_nil, sizeLine_eq]; lia))) ?_)
  refine wpAny_pure (h h' _ (hs.1.trans hz2) hn' ((hs.2 x hxs).trans hx2) fun b o hb ho => (hs.2 b (Nat.ne_of_lt (Heap.lt_size ho))).trans (hk2 b o hb ho))
theorem call_second {x dx : Addr} {vs : Array Value} {v v0 : Value} {tk0 : Tok} {R : Result → Shared → Prop} (S0 : St g s led) (hx : s.heap.get? x = some (sigWith dx vs)) (hn : s.heap.Ns1 dx (fun y => if y = S "symbol" then some v0 else none)) (hxd : dx ≠ x)
    (h : ∀ h' tk, h'.objs.size = s.heap.objs.size → h'.Ns1 dx (fun y => if y = S "data" then some v else if y = S "symbol" then some v0 else none) → h'.get? x = some (sigWith dx vs) → (∀ b o, b ≠ dx → s.heap.get? b = some o → h'.get? b = some o) → R (.ok (.ret .none)) { s with heap := h', toks := tk }) :
    codeAny (model pw g.w) A (.call (.builtin "object.__setattr__") ⟨[.ref x, .str (S "data") tk0, v], []⟩) R s := by
  have X := S0.K
  obtain ⟨oD0, esD0, epD0, hoD0, hdD0, hkD0, huD0, hmD0⟩ := id hn
  have I : InstAt s.heap x (sigWith dx vs) c_LispSignal (some oD0) := ⟨hx, rfl, rfl, hoD0⟩
  have hc := sig_clsIn g.w.params
  have SF := PySem.F.store_object
  have SE := PySem.F.store_Exception
  have sub : Looks (model pw g.w) s.heap (isInstance (.ref x) (.type "object")) true := I.type.andThen (looks_mroIn X (by unfold mroIn; rw [hc]; rfl))
  refine codeAny_call_builtin SF.slot.plain SF.entry (@check_slot (model pw g.w) _ _ s "object.__setattr__" "object" "__setattr__" (.ref x) [.str (S "data") tk0, v] [] _ SF.kind SF.split sub (SF.args (.ref x) (.str (S "data") tk0) v) ?_)
  have hm : Looks (model pw g.w) s.heap (mroOf (.ref c_LispSignal)) [.ref c_LispSignal, .type "Exception", .type "BaseException", .type "object"] := (looks_clsIn X hc).andThen .now
  rw [osa_eq, refuse_eq]
  refine wpAny_bind (wpAny_bind (I.type.here (wpAny_bind (hm.here ?_))))
  rw [refuseLoop_ref, SE.passes]
  refine wpAny_pure (wpAny_bind (I.type.here (wpAny_bind ((looks_findIn X (sig_find _).2.2.1).here (wpAny_bind (wpAny_pure ?_))))))
  dsimp only
  refine wpAny_bind (wpAny_pure (wpAny_bind (wpAny_bind (wpAny_loadPart hx (wpAny_bind ((looks_clsIn X hc).here ?_))))))
  refine wpAny_pure (wpAny_bind (wpAny_pure (wpAny_bind (wpAny_nsSet1 hn fun h' hn' hs => ?_))))
  obtain ⟨oD, esD, epD, hoD, hdD, hcD⟩ := hn'.count (Within.cons (S "data") v (Within.cons (S "symbol") v0 Within.nil))
  refine wpAny_bind (wpAny_lookBehind hoD (by rw [hdD]; exact pastItsLine_dict (Nat.le_trans hcD (by rw [List.length_cons, List.length_cons, List.length_nil, sizeLine_eq]; lia))) ?_)
  exact wpAny_pure (h h' _ hs.1 hn' ((hs.2 x hxd.symm).trans hx) fun b o hb ho => (hs.2 b hb).trans ho)
end
section
end
section
variable {g : Gx} {A : Around} {E : Value → Shared → Prop} {pre own : Led} {T dT CL B dB M dM MD LL R dR U dU RL Ao dA V dV EQ D D0 D1 : Addr} {xs rows big cells : List AV} {gs ge pt zv tk ct sv mn n : Int} {pb nt pn il : AV} {so : PySem.Str} {eq : List (Int × Int)} {gg : Gp} {bb : Bf} {uu : Option Un} {aa : Am} {vv : Ug} {dd : Dk}
end
section
variable {g : Gx} {A : Around} {E : Value → Shared → Prop} {s : Shared} {led : Led}
noncomputable abbrev newSig (t : Addr) : Obj := rawSig #[.ref t, .none, .none, .none, .bool false, .none]
theorem sig_init (P : Params) : findIn (KK P) (.ref c_LispSignal) "__init__" = some (some (.ref f_LispSignal_init)) := by kernel_rfl
theorem sig_initFn (P : Params) : typeIn (KK P) (.ref f_LispSignal_init) = some (.type "function") := by kernel_rfl
theorem make_sig {rest : List Value} {R : Result → Shared → Prop} (S0 : St g s led) (hrest : rest.length ≤ 100)
    (h : codeAny (model pw g.w) (A.under (.builtin "type.__call__" ⟨.ref c_LispSignal :: rest, []⟩)) (.call (.ref f_LispSignal_init) ⟨.ref (s.heap.objs.size + 1) :: rest, []⟩) (InitBack (s.heap.objs.size + 1) R)
      { s with heap := (s.heap.push { cls := .type "tuple", data := .seq rest.toArray }).push (newSig s.heap.objs.size) }) :
    codeAny (model pw g.w) A (.call (.ref c_LispSignal) ⟨rest, []⟩) R s := by
  have F := PySem.F.excBase_Exception
  have hC := S0.sigC
  have X := S0.K
  have hi := looks_findIn (M := model pw g.w) X (sig_init _)
  obtain ⟨hh, gs, d, t, os⟩ := s
  have f1 := tc_lookup
  have f2 := tc_bind (.ref c_LispSignal)
  have hT : (⟨hh, gs, d, t, os⟩ : Shared).TypeIs (.ref c_LispSignal) "type" := ⟨_, hC, rfl⟩
  refine codeAny_of_tree ?_
  show wpAny _ _ (callAny (.ref c_LispSignal) _) _ _ _
  repeat (any_goals (first | assumption | with_reducible refine wpAny_loadPart_at hC ?_ | wp_step))
  refine ⟨rfl, ?_⟩
  refine codeAny_call_builtin_at (Code.quiet_builtin _ (by decide +kernel)) entry_typeCall (wpAny_check_type_call_sub hC ?_)
  repeat (first | with_reducible refine wpAny_loadPart_at hC ?_ | with_reducible refine wpAny_madeBy_exc hC ?_ | wp_step)
  refine codeAny_call_builtin_code (Code.quiet_builtin _ F.quiet) (wpAny_check_new_sub F hC ?_)
  refine codeAny_exc_new_sub F hC ?_ (Nat.le_trans hrest (by rw [sizeLine_eq]; lia))
  show wpAny _ _ _ _ _ _
  have k : ∀ b o, hh.get? b = some o → ((hh.push { cls := .type "tuple", data := .seq rest.toArray }).push (newSig hh.objs.size)).get? b = some o := fun b o e => Heap.get?_push_of_some _ (Heap.get?_push_of_some _ e)
  have hx : ((hh.push { cls := .type "tuple", data := .seq rest.toArray }).push (newSig hh.objs.size)).get? (hh.objs.size + 1) = some { cls := .ref c_LispSignal, data := .fields #[.ref hh.objs.size, .none, .none, .none, .bool false, .none] } := by heap_get
  have hC1 := k _ _ hC
  have i1 := hi.keeps k
  have hcC : (Value.ref c_LispSignal :: [Value.type "Exception", .type "BaseException", .type "object"]).contains (.ref c_LispSignal) = true := by decide +kernel
  have b1 := bind_fn (M := model pw g.w) (X.keeps k) (.ref (hh.objs.size + 1)) (sig_initFn _)
  have t1 : Looks (model pw g.w) ((hh.push { cls := .type "tuple", data := .seq rest.toArray }).push (newSig hh.objs.size)) (typeOf (.ref (hh.objs.size + 1))) (.ref c_LispSignal) := (Looks.ld hx).andThen .now
  have s1 : Looks (model pw g.w) ((hh.push { cls := .type "tuple", data := .seq rest.toArray }).push (newSig hh.objs.size)) (isSubtype (.ref c_LispSignal) (.ref c_LispSignal)) true := looks_mroIn (X.keeps k) (by unfold mroIn; rw [sig_clsIn]; rfl)
  have in1 : Looks (model pw g.w) ((hh.push { cls := .type "tuple", data := .seq rest.toArray }).push (newSig hh.objs.size)) (isInstance (.ref (hh.objs.size + 1)) (.ref c_LispSignal)) true := t1.andThen s1
  have I : InstAt ((hh.push { cls := .type "tuple", data := .seq rest.toArray }).push (newSig hh.objs.size)) (hh.objs.size + 1) (newSig hh.objs.size) c_LispSignal none := ⟨hx, rfl, rfl, trivial⟩
  refine wpAny_bind (in1.here ?_)
  rw [if_neg (by decide)]
  refine wpAny_bind (wpAny_holding (special_fn (s := ⟨(hh.push { cls := .type "tuple", data := .seq rest.toArray }).push (newSig hh.objs.size), gs, d, t, os⟩) (X.keeps k) I (sig_init _) (sig_initFn _) (wpAny_call (codeAny_mono h fun r s' z => ?_))))
  rcases r with e | (v | _ | _ | _) <;> first | exact z | exact z.elim | skip
  obtain ⟨rfl, z⟩ := z
  wp_walk
  exact z
end
section
end
section
variable {g : Gx} {A : Around} {E : Value → Shared → Prop} {pre own : Led} {T dT CL B dB M dM MD LL R dR U dU RL Ao dA V dV EQ D D0 D1 : Addr} {xs rows big cells : List AV} {gs ge pt zv tk ct sv mn n : Int} {pb nt pn il : AV} {so : PySem.Str} {eq : List (Int × Int)} {gg : Gp} {bb : Bf} {uu : Option Un} {aa : Am} {vv : Ug} {dd : Dk}
end
section
variable {g : Gx} {A : Around} {E : Value → Shared → Prop} {led : Led} {env : Env}
noncomputable def DictIs (m : PySem.Str → Option Value) (o : Obj) : Prop := ∃ es ep, o.data = .dict es ep ∧ StrKeys es ∧ UniqKeys es ∧ ∀ n, nsFind es n = m n
theorem DictIs.of {h : Heap} {a : Addr} {m : PySem.Str → Option Value} (x : h.Ns1 a m) : ∃ o, h.get? a = some o ∧ DictIs m o := let ⟨o, es, ep, e, r⟩ := x; ⟨o, e, es, ep, r⟩
theorem DictIs.ns {h : Heap} {a : Addr} {m : PySem.Str → Option Value} {o : Obj} (e : h.get? a = some o) (x : DictIs m o) : h.Ns1 a m := let ⟨es, ep, r⟩ := x; ⟨o, es, ep, e, r⟩
noncomputable def Sd1 (a : AV) (o : Obj) : Prop := ∃ v, Ab v a ∧ DictIs (fun y => if y = S "symbol" then some v else none) o
noncomputable def Sd2 (a : AV) (o : Obj) : Prop := ∃ v w, Ab v a ∧ DictIs (fun y => if y = S "data" then some w else if y = S "symbol" then some v else none) o
theorem wX_sig1 {fr : Addr × Cell} {o ex : Expr} {p pos : Pos} {rest : List Stmt} {x : Addr} {vs : Array Value} {a : AV} {Φ : Out → Led → Prop} (he : PE g A env (fr :: (x, .prop (· = rawSig vs)) :: led) ex a) (ho : PE g A env (fr :: (x, .prop (· = rawSig vs)) :: led) o (.ref x))
    (h : ∀ dx, wpX g A E env rest (fr :: (dx, .prop (Sd1 a)) :: (x, .prop (· = sigWith dx vs)) :: led) Φ)
    (hs : swapsWith ex (some (.Attribute o (S "symbol") p)) pos.line env = pure false := by rfl) : wpX g A E env (.Assign [.Attribute o (S "symbol") p] ex pos :: rest) (fr :: (x, .prop (· = rawSig vs)) :: led) Φ :=
  wX_next fun s S0 => plainObj_wpAny_Assign_Attribute (he.out S0 fun v s1 ab S1 => ho.out S1 fun u s2 ab2 S2 => by
    obtain ⟨t, rfl⟩ := ab2
    obtain ⟨ox, hox, hix⟩ := S2.at_ (x, .prop (· = rawSig vs)) (.tail _ (.head _))
    obtain rfl : ox = rawSig vs := hix
    refine set_plain S2.K (⟨hox, rfl, rfl, trivial⟩ : InstAt s2.heap x (rawSig vs) c_LispSignal none) (sig_find _).1 ?_
    refine call_first (S2.toks (s2.toks + 1)) hox fun h' tk hz hn hx' hk => ?_
    have hfx := S2.fresh (x, .prop (· = rawSig vs)) (.tail _ (.head _))
    have hnd := S2.nodup
    rw [List.map_cons, List.map_cons, List.nodup_cons, List.nodup_cons] at hnd
    obtain ⟨oD, hoD, hiD⟩ := DictIs.of hn
    refine ⟨rfl, _, ⟨fun b o e => hk b o (fun q => ?_) (S2.keep b o e), ?_, fun q hq => ?_, ?_, fun q hq => ?_, S2.os_, S2.gens⟩, h s2.heap.objs.size⟩
    · subst q; exact absurd (Heap.lt_size e) (Nat.not_lt.mpr hfx)
    · show g.hb.objs.size ≤ h'.objs.size
      rw [hz]; have := S2.size; show _ ≤ s2.heap.objs.size + 1; lia
    · rcases List.mem_cons.mp hq with rfl | hq
      · obtain ⟨o', e', i'⟩ := S2.at_ q (.head _)
        exact ⟨o', hk _ _ (fun e => hnd.1 (by rw [e]; exact .head _)) e', i'⟩
      rcases List.mem_cons.mp hq with rfl | hq
      · exact ⟨oD, hoD, v, ab, hiD⟩
      rcases List.mem_cons.mp hq with rfl | hq
      · exact ⟨_, hx', rfl⟩
      · obtain ⟨o', e', i'⟩ := S2.at_ q (.tail _ (.tail _ hq))
        exact ⟨o', hk _ _ (fun e => hnd.2.1 (by rw [← e]; exact List.mem_map_of_mem (f := (·.1)) hq)) e', i'⟩
    · have hlt := S2.lt
      simp only [List.map_cons, List.nodup_cons, List.mem_cons, List.mem_map, not_or] at hnd ⊢
      refine ⟨⟨fun e => ?_, hnd.1⟩, ⟨fun e => ?_, ?_⟩, hnd.2⟩
      · have := hlt fr (.head _); rw [e] at this; exact absurd this (Nat.lt_irrefl _)
      · have := hlt _ (.tail _ (.head _)); rw [← e] at this; exact absurd this (Nat.lt_irrefl _)
      · rintro ⟨q, hq, e⟩
        have := hlt q (.tail _ (.tail _ hq)); rw [e] at this; exact absurd this (Nat.lt_irrefl _)
    · rcases List.mem_cons.mp hq with rfl | hq
      · exact S2.fresh q (.head _)
      rcases List.mem_cons.mp hq with rfl | hq
      · exact S2.size
      rcases List.mem_cons.mp hq with rfl | hq
      · exact hfx
      · exact S2.fresh q (.tail _ (.tail _ hq))) hs
theorem wX_sig2 {fr : Addr × Cell} {o ex : Expr} {p pos : Pos} {rest : List Stmt} {x dx : Addr} {vs : Array Value} {a b : AV} {Φ : Out → Led → Prop} (he : PE g A env (fr :: (dx, .prop (Sd1 a)) :: (x, .prop (· = sigWith dx vs)) :: led) ex b)
    (ho : PE g A env (fr :: (dx, .prop (Sd1 a)) :: (x, .prop (· = sigWith dx vs)) :: led) o (.ref x))
    (h : wpX g A E env rest (fr :: (dx, .prop (Sd2 a)) :: (x, .prop (· = sigWith dx vs)) :: led) Φ)
    (hs : swapsWith ex (some (.Attribute o (S "data") p)) pos.line env = pure false := by rfl) : wpX g A E env (.Assign [.Attribute o (S "data") p] ex pos :: rest) (fr :: (dx, .prop (Sd1 a)) :: (x, .prop (· = sigWith dx vs)) :: led) Φ :=
  wX_next fun s S0 => plainObj_wpAny_Assign_Attribute (he.out S0 fun v s1 ab S1 => ho.out S1 fun u s2 ab2 S2 => by
    obtain ⟨t, rfl⟩ := ab2
    obtain ⟨ox, hox, hix⟩ := S2.at_ (x, .prop (· = sigWith dx vs)) (.tail _ (.tail _ (.head _)))
    obtain ⟨oD, hoD, v0, hv0, hiD⟩ := S2.at_ (dx, .prop (Sd1 a)) (.tail _ (.head _))
    obtain rfl : ox = sigWith dx vs := hix
    refine set_plain S2.K (⟨hox, rfl, rfl, hoD⟩ : InstAt s2.heap x (sigWith dx vs) c_LispSignal (some oD)) (sig_find _).1 ?_
    have hnd := S2.nodup
    have hfd := S2.fresh (dx, .prop (Sd1 a)) (.tail _ (.head _))
    simp only [List.map_cons, List.nodup_cons, List.mem_cons, List.mem_map, not_or] at hnd
    refine call_second (S2.toks (s2.toks + 1)) hox (DictIs.ns hoD hiD) hnd.2.1.1 fun h' tk hz hn hx' hk => ?_
    obtain ⟨oD2, hoD2, hiD2⟩ := DictIs.of hn
    refine ⟨rfl, _, ⟨fun b o e => hk b o (fun q => ?_) (S2.keep b o e), ?_, fun q hq => ?_, ?_, fun q hq => ?_, S2.os_, S2.gens⟩, h⟩
    · subst q; exact absurd (Heap.lt_size e) (Nat.not_lt.mpr hfd)
    · show g.hb.objs.size ≤ h'.objs.size
      rw [hz]; exact S2.size
    · rcases List.mem_cons.mp hq with rfl | hq
      · obtain ⟨o', e', i'⟩ := S2.at_ q (.head _)
        exact ⟨o', hk _ _ (fun e => hnd.1.1 e) e', i'⟩
      rcases List.mem_cons.mp hq with rfl | hq
      · exact ⟨oD2, hoD2, v0, v, hv0, hiD2⟩
      rcases List.mem_cons.mp hq with rfl | hq
      · exact ⟨_, hx', rfl⟩
      · obtain ⟨o', e', i'⟩ := S2.at_ q (.tail _ (.tail _ (.tail _ hq)))
        exact ⟨o', hk _ _ (fun e => hnd.2.1.2 ⟨q, hq, e⟩) e', i'⟩
    · exact S2.nodup
    · rcases List.mem_cons.mp hq with rfl | hq
      · exact S2.fresh q (.head _)
      rcases List.mem_cons.mp hq with rfl | hq
      · exact hfd
      rcases List.mem_cons.mp hq with rfl | hq
      · exact S2.fresh (x, .prop (· = sigWith dx vs)) (.tail _ (.tail _ (.head _)))
      · exact S2.fresh q (.tail _ (.tail _ (.tail _ hq)))) hs
theorem wC_signal {a b : AV} {Φ : AV → Led → Prop} (Rr : Rm 3 A) (h : ∀ x dx t, Φ (.ref x) ((dx, .prop (Sd2 a)) :: (x, .prop (· = sigWith dx #[.ref t, .none, .none, .none, .bool false, .none])) :: led)) : wpC g A E (.ref c_LispSignal) [a, b] led Φ := fun us ab s S0 => by
  have hlen := ab.length
  have S1 : St g { s with heap := s.heap.push { cls := .type "tuple", data := .seq us.toArray } } led := S0.push _
  have S2 := S1.new (c := .prop (· = newSig s.heap.objs.size)) (o := newSig s.heap.objs.size) rfl rfl
  rw [show ({ s with heap := s.heap.push { cls := .type "tuple", data := .seq us.toArray } } : Shared).heap.objs.size = s.heap.objs.size + 1 from Heap.size_push ..] at S2
  refine make_sig S0 (by rw [hlen]; simp) ?_
  generalize s.heap.objs.size = t at *
  have R1 : Rm 2 (A.under (.builtin "type.__call__" ⟨.ref c_LispSignal :: us, []⟩)) := Rm.make Rr _ _
  have body : wpC g (A.under (.builtin "type.__call__" ⟨.ref c_LispSignal :: us, []⟩)) E (.ref f_LispSignal_init) [.ref (t + 1), a, b] ((t + 1, .prop (· = newSig t)) :: led) fun r l => r = .none ∧ Φ (.ref (t + 1)) l := by
    refine enter F_LispSignal_init R1 rfl fun A' L R' => ?_
    conv => arg 5; whnf
    refine wX_sig1 (a := a) (PE_name (vs := [(S "self", some (.ref (t + 1))), (S "symbol", some a), (S "data", some b)]) (.head _) (.tail _ (.head _))) (PE_name (vs := [(S "self", some (.ref (t + 1))), (S "symbol", some a), (S "data", some b)]) (.head _) (.head _)) (fun dx => ?_) (by kernel_rfl)
    refine wX_sig2 (b := b) (PE_name (vs := [(S "self", some (.ref (t + 1))), (S "symbol", some a), (S "data", some b)]) (.head _) (.tail _ (.tail _ (.head _)))) (PE_name (vs := [(S "self", some (.ref (t + 1))), (S "symbol", some a), (S "data", some b)]) (.head _) (.head _)) ?_ (by kernel_rfl)
    exact wX_nil ⟨.none, _, rfl, List.sublist_cons_self .., rfl, h _ _ _⟩
  refine codeAny_mono (body (.ref (t + 1) :: us) (.cons ⟨0, rfl⟩ ab) _ S2) fun r s' z => ?_
  rcases r with e | (v | _ | _ | _)
  · exact z
  · exact z
  · exact z
  · exact z
  · obtain ⟨b2, l, i, j, rfl, k⟩ := z
    obtain ⟨t2, rfl⟩ := i
    exact ⟨rfl, .ref (t + 1), l, ⟨0, rfl⟩, j, k⟩
end
section
end
section
variable {g : Gx} {A : Around} {E : Value → Shared → Prop} {pre own : Led} {T dT CL B dB M dM MD LL R dR U dU RL Ao dA V dV EQ D D0 D1 : Addr} {xs rows big cells : List AV} {gs ge pt zv tk ct sv mn n : Int} {pb nt pn il : AV} {so : PySem.Str} {eq : List (Int × Int)} {gg : Gp} {bb : Bf} {uu : Option Un} {aa : Am} {vv : Ug} {dd : Dk}
end
section
variable {g : Gx} {A : Around} {E : Value → Shared → Prop} {led led' : Led} {env : Env}
theorem wX_raise {ex : Expr} {pos : Pos} {rest : List Stmt} {Φ : Out → Led → Prop} (hA : A.handled = none)
    (h : wpE g A E env ex led fun v l => ∃ x dx t, v = .ref x ∧ (x, Cell.prop (· = sigWith dx #[.ref t, .none, .none, .none, .bool false, .none])) ∈ l ∧ ∀ s', St g s' l → E (.ref x) s') : wpX g A E env (.Raise (some ex) none pos :: rest) led Φ :=
  wX_cons fun s S0 => by
    rw [arm_exec_Raise]
    rw [show evalOpt (some ex) env = some (eval ex env) from rfl, show evalOpt none env = none from rfl]
    simp only [Option.map]
    refine wpAny_bind (wpAny_standAt ?_)
    unfold raiseStmt
    refine wpAny_bind (wpAny_bind (wpAny_mono (h s S0) (fun v s1 h1 => ?_) fun _ _ x => x))
    obtain ⟨b, l, ab, S1, x, dx, t, rfl, hx, hE⟩ := h1
    obtain ⟨tk, rfl⟩ := ab
    refine wpAny_bind (wpAny_standAt (wpAny_pure ?_))
    have hE := hE s1 S1
    have hC := S1.sigC
    obtain ⟨ox, hox, hix⟩ := S1.at_ _ hx
    obtain rfl : ox = _ := hix
    have he : s1.heap.get? x = some { cls := .ref c_LispSignal, dict := some dx, data := .fields #[.ref t, .none, .none, .none, .bool false, .none] } := hox
    obtain ⟨hp, gs, d, tk, os⟩ := s1
    have hcB : (Value.ref c_LispSignal :: [Value.type "Exception", .type "BaseException", .type "object"]).contains (.type "BaseException") = true := by decide +kernel
    show wpAny _ _ _ _ _ ⟨hp, gs, d, tk, os⟩
    repeat (first | with_reducible refine wpAny_loadPart_at he ?_ | with_reducible refine wpAny_loadPart_at hC ?_ | (with_reducible refine wpAny_isSubtype_exc hC ?_; rw [hcB]) | wp_step)
    exact wpAny_raiseNew_none hA hE
end
section
end
section
variable {g : Gx} {A : Around} {E : Value → Shared → Prop} {pre own : Led} {T dT CL B dB M dM MD LL R dR U dU RL Ao dA V dV EQ D D0 D1 : Addr} {xs rows big cells : List AV} {gs ge pt zv tk ct sv mn n : Int} {pb nt pn il : AV} {so : PySem.Str} {eq : List (Int × Int)} {gg : Gp} {bb : Bf} {uu : Option Un} {aa : Am} {vv : Ug} {dd : Dk}
end
section
variable {g : Gx} {A : Around} {E : Value → Shared → Prop} {led led' : Led} {env : Env} {s : Shared}
noncomputable def SigAt (dx : Addr) (o : Obj) : Prop := o.cls = .ref c_LispSignal ∧ o.dict = some dx ∧ ∃ vs, o.data = .fields vs
inductive FlyX (g : Gx) (l : List Env) (led : Led) (x : Addr) (a : AV) (st : Option Value) (s : Shared) : Prop
  | mk (base : Heap) (dx : Addr) (hF : Fly base l x c_LispSignal (some dx) st s.heap) (hg : g.hb.StaysIn base) (S0 : St g s ((x, .prop (SigAt dx)) :: (dx, .prop (Sd2 a)) :: led)) (hB : InBase base s.heap ((dx, .prop (Sd2 a)) :: led)) : FlyX g l led x a st s
structure FlyS (g : Gx) (l : List Env) (led : Led) (x : Addr) (a : AV) (st : Option Value) (s : Shared) : Prop where
  ex : FlyX g l led x a st s
noncomputable def EnvsOk (l : List Env) (led : Led) : Prop := ∀ env ∈ l, env.scope.kind ≠ .module ∧ ∃ L sc vs, env.frame = some L ∧ (L, Cell.frame sc vs) ∈ led
theorem InBase.sub {base h : Heap} (x : InBase base h led) (hs : led'.Sublist led) : InBase base h led' := fun p hp => x p (hs.subset hp)
theorem St.weak {b : Addr} {c c' : Cell} (S0 : St g s ((b, c) :: led)) (h : ∀ o, c.Is g.w o → c'.Is g.w o) : St g s ((b, c') :: led) := by
  refine ⟨S0.keep, S0.size, fun p hp => ?_, S0.nodup, fun p hp => ?_, S0.os_, S0.gens⟩
  · rcases List.mem_cons.mp hp with rfl | hp
    · obtain ⟨o, e, i⟩ := S0.at_ _ (.head _)
      exact ⟨o, e, h o i⟩
    · exact S0.at_ p (.tail _ hp)
  · rcases List.mem_cons.mp hp with rfl | hp
    · exact S0.fresh (b, c) (.head _)
    · exact S0.fresh p (.tail _ hp)
theorem fly_st2 {base h' : Heap} {l : List Env} {x dx : Addr} {st : Option Value} (S0 : St g s ((x, .prop (SigAt dx)) :: led)) (hb : InBase base s.heap led) (hg : g.hb.StaysIn base) (F : Fly base l x c_LispSignal (some dx) st h') (u : s.heap.UpToSlots h') : St g { s with heap := h' } ((x, .prop (SigAt dx)) :: led) ∧ InBase base h' led := by
  obtain ⟨oe, vs, he, hc, hd, hv, -⟩ := F.tb
  by_cases hne : led = []
  · subst hne
    refine ⟨⟨fun b o hb' => F.stays _ _ (hg _ _ hb'), ?_, fun p hp => ?_, S0.nodup, S0.fresh, S0.os_, S0.gens⟩, fun _ h => nomatch h⟩
    · exact Nat.le_of_lt (Nat.lt_of_le_of_lt (S0.fresh (x, .prop (SigAt dx)) (.head _)) (Heap.lt_size he))
    · rcases List.mem_cons.mp hp with rfl | hp
      · exact ⟨oe, he, hc, hd, vs, hv⟩
      · cases hp
  · obtain ⟨S1, hB1⟩ := fly_st (S0.sub (List.sublist_cons_self _ _)) hb hg F.stays u hne
    refine ⟨⟨S1.keep, S1.size, fun p hp => ?_, S0.nodup, S0.fresh, S1.os_, S1.gens⟩, hB1⟩
    rcases List.mem_cons.mp hp with rfl | hp
    · exact ⟨oe, he, hc, hd, vs, hv⟩
    · exact S1.at_ p hp
theorem fly_start {l : List Env} {x dx t : Addr} {a : AV} (S0 : St g s ((dx, .prop (Sd2 a)) :: (x, .prop (· = sigWith dx #[.ref t, .none, .none, .none, .bool false, .none])) :: led)) (hl : EnvsOk l led) (hs : led'.Sublist led) : FlyS g l led' x a none s := by
  obtain ⟨ox, hox, hix⟩ := S0.at_ _ (.tail _ (.head _))
  obtain rfl : ox = _ := hix
  have hnd := S0.nodup
  simp only [List.map_cons, List.nodup_cons, List.mem_cons, not_or] at hnd
  have hfr : ∀ b ∈ l.filterMap (·.frame), ∃ sc vs, (b, Cell.frame sc vs) ∈ led := fun b hb => by
    obtain ⟨env, he, hb⟩ := List.mem_filterMap.mp hb
    obtain ⟨-, L, sc, vs, hf, hm⟩ := hl env he
    rw [hf] at hb; cases hb
    exact ⟨sc, vs, hm⟩
  have hmem : ∀ {p : Addr × Cell}, p ∈ led → p.1 ∈ led.map (·.1) := fun {p} hp => List.mem_map_of_mem (f := (·.1)) hp
  have hfl : ∀ b ∈ l.filterMap (·.frame), b ∈ led.map (·.1) := fun b hb => let ⟨sc, vs, h⟩ := hfr b hb; hmem h
  refine ⟨hideAll s.heap (x :: l.filterMap (·.frame)), dx, ⟨fun b o hb => of_hideAll _ hb, hideAll_none _ (.head _), ?_, _, _, hox, rfl, rfl, rfl, rfl⟩, fun b o hb => ?_, ?_, fun p hp => ?_⟩
  · have key : ∀ l' : List Env, (∀ env ∈ l', env ∈ l) → s.heap.FunFrames (hideAll s.heap (x :: l.filterMap (·.frame))) l' := by
      intro l'
      induction l' with
      | nil => intro _; trivial
      | cons env r ih =>
        intro hsub
        obtain ⟨hk, L, sc, vs, hf, hm⟩ := hl env (hsub _ (.head _))
        obtain ⟨o, ho, m, es, ep, hdt, -⟩ := S0.at_ _ (.tail _ (.tail _ hm))
        exact ⟨hk, ⟨L, o, hf, hideAll_none _ (.tail _ (List.mem_filterMap.mpr ⟨env, hsub _ (.head _), hf⟩)), ho, fun ws q => by rw [hdt] at q; cases q⟩, ih fun e he => hsub e (.tail _ he)⟩
    exact key l fun _ h => h
  · refine hideAll_get _ (S0.keep b o hb) fun hm => ?_
    have hlt := Heap.lt_size hb
    rcases List.mem_cons.mp hm with rfl | hm
    · exact absurd hlt (Nat.not_lt.mpr (S0.fresh _ (.tail _ (.head _))))
    · obtain ⟨sc, vs, hm⟩ := hfr _ hm
      exact absurd hlt (Nat.not_lt.mpr (S0.fresh _ (.tail _ (.tail _ hm))))
  · have S1 := (S0.sub ((hs.cons_cons _).cons_cons _)).perm (.swap ..)
    exact S1.weak fun o h => by rw [show o = _ from h]; exact ⟨rfl, rfl, _, rfl⟩
  · rcases List.mem_cons.mp hp with rfl | hp
    · obtain ⟨oD, hoD, -⟩ := S0.at_ _ (.head _)
      refine .inl ((hideAll_get _ hoD fun hm => ?_).trans hoD.symm)
      rcases List.mem_cons.mp hm with e | hm
      · exact hnd.1.1 e
      · exact hnd.1.2 (hfl _ hm)
    · have hp' := hs.subset hp
      by_cases hm : p.1 ∈ x :: l.filterMap (·.frame)
      · rcases List.mem_cons.mp hm with e | hm
        · exact absurd (hmem hp') (by rw [e]; exact hnd.2.1)
        · obtain ⟨sc, vs, hm⟩ := hfr _ hm
          exact .inr ⟨sc, vs, nodup_fst S0.nodup (a := p.1) (.tail _ (.tail _ hp')) (.tail _ (.tail _ hm))⟩
      · obtain ⟨o, ho, -⟩ := S0.at_ p (.tail _ (.tail _ hp'))
        exact .inl ((hideAll_get _ ho hm).trans ho.symm)
theorem fly_leaveS {l : List Env} {x L : Addr} {a : AV} {st : Option Value} {Q : Unit → Shared → Prop} (hfr : A.frames = some (env :: l)) (hf : env.frame = some L) (hst : st = none ∨ st = some .none) (F : FlyS g (env :: l) led x a st s) (hs : led'.Sublist led)
    (h : ∀ s', FlyS g l led' x a (some .none) s' → Q () s') : wpAny (model pw g.w) A (leaving env (.ref x)) Q E s := by
  obtain ⟨base, dx, hF, hg, S0, hB⟩ := F.ex
  refine fly_leave hfr hf hst hF fun h' hF' hu => ?_
  obtain ⟨S1, hB1⟩ := fly_st2 S0 hB hg hF' hu
  exact h _ ⟨⟨base, dx, hF', hg, S1.sub ((hs.cons_cons _).cons_cons _), hB1.sub (hs.cons_cons _)⟩⟩
theorem fly_noteS {l : List Env} {x L : Addr} {a : AV} {st : Option Value} {Q : Unit → Shared → Prop} (hfr : A.frames = some (env :: l)) (hf : env.frame = some L) (hst : st = none ∨ st = some .none) (F : FlyS g (env :: l) led x a st s)
    (h : ∀ s', FlyS g (env :: l) led x a (some (rawInt L)) s' → Q () s') : wpAny (model pw g.w) A (noteFrame (.ref x) env) Q E s := by
  obtain ⟨base, dx, hF, hg, S0, hB⟩ := F.ex
  refine fly_note hfr hf hst hF fun h' hF' hu => ?_
  obtain ⟨S1, hB1⟩ := fly_st2 S0 hB hg hF' hu
  exact h _ ⟨⟨base, dx, hF', hg, S1, hB1⟩⟩
theorem fly_landS {l : List Env} {x : Addr} {a : AV} {fl : Value} {Q : Unit → Shared → Prop} (F : FlyS g l led x a (some fl) s) (h : ∀ s', FlyS g l led x a (some .none) s' → Q () s') : wpAny (model pw g.w) A (setFlight (.ref x) none) Q E s := by
  obtain ⟨base, dx, hF, hg, S0, hB⟩ := F.ex
  refine fly_land hF fun h' hF' hu => ?_
  obtain ⟨S1, hB1⟩ := fly_st2 S0 hB hg hF' hu
  exact h _ ⟨⟨base, dx, hF', hg, S1, hB1⟩⟩
end
section
end
section
variable {g : Gx} {A : Around} {E : Value → Shared → Prop} {pre own : Led} {T dT CL B dB M dM MD LL R dR U dU RL Ao dA V dV EQ D D0 D1 : Addr} {xs rows big cells : List AV} {gs ge pt zv tk ct sv mn n : Int} {pb nt pn il : AV} {so : PySem.Str} {eq : List (Int × Int)} {gg : Gp} {bb : Bf} {uu : Option Un} {aa : Am} {vv : Ug} {dd : Dk}
end
section
variable {g : Gx} {A : Around} {E : Value → Shared → Prop} {led led' : Led} {env : Env} {qual : PySem.Str} {L f : Addr}
noncomputable def Fails (g : Gx) (E : Value → Shared → Prop) (l : List Env) (led : Led) : Prop := ∀ x s', FlyS g l led x (.str (S "user-error")) (some .none) s' → E (.ref x) s'
theorem EnvsOk.more {l : List Env} (h : EnvsOk l led) (hs : ∀ p ∈ led, p ∈ led') : EnvsOk l led' := fun env he => let ⟨a, L, sc, vs, b, c⟩ := h env he; ⟨a, L, sc, vs, b, hs _ c⟩
theorem EnvsOk.push {l : List Env} {cd : Value} {sc : Scope} {vs : List (PySem.Str × Option AV)} {cl : List (PySem.Str × Addr)} (h : EnvsOk l led) (hk : sc.kind ≠ .module) (hm : (L, Cell.frame sc vs) ∈ led) : EnvsOk (envX qual sc L f cd cl :: l) led := fun env he => by
  rcases List.mem_cons.mp he with rfl | he
  · exact ⟨hk, L, sc, vs, rfl, hm⟩
  · exact h env he
theorem enterF {fn : Addr} {st : Stmt} {dV pm : Value} {cda : Addr} {ps ls : List PySem.Str} {as ds : List AV} {n : Nat} {l : List Env} {led1 : Led} {Φ : AV → Led → Prop} (F : FnOk fn st qual cda dV pm ps ls ds) (R : Rm (n + 1) A) (hl : as.length + ds.length = ps.length) (hfr : A.frames = some l) (hE : Fails g E l led1)
    (h : ∀ A' E' L, Rm n A' → A'.frames = some (envX qual (sScope st) L fn (.ref cda) [] :: l) →
      (∀ x s' ls' stt, (stt = none ∨ stt = some .none) → FlyS g (envX qual (sScope st) L fn (.ref cda) [] :: l) ls' x (.str (S "user-error")) stt s' → led1.Sublist ls' → E' (.ref x) s') →
      wpX g A' E' (envX qual (sScope st) L fn (.ref cda) []) (sBody st) ((L, .frame (sScope st) (frameOf ps ls (as ++ ds))) :: led) (Ret Φ)) : wpC g A E (.ref fn) as led Φ :=
  enterE F R hl fun L => h _ _ L (R.deeper _) (Around.frames_deeper hfr) fun x s' ls' stt hst FS hs => fly_leaveS (Around.frames_deeper hfr) rfl hst FS hs fun s2 F2 => hE x s2 F2
theorem raise_flies {l : List Env} {a : AV} {x dx t : Addr} {s' : Shared} {led1 : Led} {E' : Value → Shared → Prop} (S0 : St g s' ((dx, .prop (Sd2 a)) :: (x, .prop (· = sigWith dx #[.ref t, .none, .none, .none, .bool false, .none])) :: led)) (hl : EnvsOk l led) (hs : led1.Sublist led)
    (h : ∀ x s' stt, (stt = none ∨ stt = some .none) → FlyS g l led1 x a stt s' → E' (.ref x) s') : E' (.ref x) s' := by
  exact h x s' none (.inl rfl) (fly_start S0 hl hs)
theorem keep_cSignal (P : Params) : keepIn (KK P) (.ref c_LispSignal) = true := by kernel_rfl
end
section
variable {g : Gx} {A : Around} {E : Value → Shared → Prop} {pre own own' : Led} {m : Mach} {L : Addr}
theorem Z_sub {pre own own' : Led} {m : Mach} {p : Addr × Cell} (h : own.Sublist own') : (Z pre m own).Sublist (Z (p :: pre) m own') := ((List.Sublist.refl pre).append ((List.Sublist.refl _).append h)).cons _
end
section
variable {g : Gx} {A : Around} {E : Value → Shared → Prop} {pre own : Led} {T dT CL B dB M dM MD LL R dR U dU RL Ao dA V dV EQ D D0 D1 : Addr} {xs rows big cells : List AV} {gs ge pt zv tk ct sv mn n : Int} {pb nt pn il : AV} {so : PySem.Str} {eq : List (Int × Int)} {gg : Gp} {bb : Bf} {uu : Option Un} {aa : Am} {vv : Ug} {dd : Dk}
theorem elder_rows_fail {Ro : List Row} {l : List Env} {Φ : AV → Led → Prop} (Rr : Rm 4 A) (hR : RowsIn own rows Ro) (hfr : A.frames = some l) (hl : EnvsOk l pre) (hF : Fails g E l (Z pre ⟨gg, bb, some ⟨R, dR, U, dU, RL, rows, pb, nt⟩, aa, vv, dd⟩ own)) :
    wpC g A E (.ref f_elder_rows) [.ref U, .int 0] (Z pre ⟨gg, bb, some ⟨R, dR, U, dU, RL, rows, pb, nt⟩, aa, vv, dd⟩ own) Φ := by
  refine enterF F_elder_rows Rr rfl hfr hF fun A' E' L R' hfr' hE' => ?_
  show wpX g A' E' (envX (S "elder_rows") (sScope (stAt 62)) L f_elder_rows (.ref 769) []) (sBody (stAt 62)) (Z ((L, .frame (sScope (stAt 62)) [(S "history", some (.ref U)), (S "count", some (.int 0)), (S "rows", none)]) :: pre) ⟨gg, bb, some ⟨R, dR, U, dU, RL, rows, pb, nt⟩, aa, vv, dd⟩ own) (Ret Φ)
  conv => arg 5; whnf
  refine tX_nameE (tE_slice none (some 0) (by k_subL) .none (.some (by k_subL) (by lia)) zl_u fun z => ⟨_, _, _, _, _, rfl, by k_updF, ?_⟩) (by kernel_rfl)
  have e1 : sliceL rows none (some 0) = [] := by simp [sliceL]
  rw [e1]
  apply tX_ifT (c := ((trimB [] 0 : Nat) : Int) == 0)
  · apply tT_cmp
    · (with_reducible apply tP_call)
      · l_intsW
      · l_intsW
      · kernel_rfl
      · k_subL
      · exact pc_above (Ro := []) (Rm.less R' (by decide)) (fun p => Z_own (.head _)) (by simpa using (hR.take 0).more (own' := (z, Cell.list ([] : List AV)) :: own) (fun p hp => .tail _ hp)) (by omega)
      · kernel_rfl
      · kernel_rfl
    · k_subL
    · exact .eq
    · kernel_rfl
  · simp [trimB]
  refine wX_raise R'.handled (wE_call G_LispSignal keep_cSignal Z_fr (by kernel_rfl) (wL_cons (PE.use PE_str (wL_cons (tE_list (as := [.str _]) (by k_subL) (by unfold Big; simp) fun c => wL_nil (wpK_C (wC_signal (Rm.less R' (by decide)) fun x dx t => ⟨x, dx, t, rfl, .tail _ (.head _), fun s' S0 => ?_⟩))) (by kernel_rfl))) (by kernel_rfl)) (by kernel_rfl) (by kernel_rfl))
  refine raise_flies S0 (l := envX (S "elder_rows") (sScope (stAt 62)) L f_elder_rows (.ref 769) [] :: l) (led1 := Z pre ⟨gg, bb, some ⟨R, dR, U, dU, RL, rows, pb, nt⟩, aa, vv, dd⟩ own) ((hl.more fun p hp => Z_pre (.tail _ hp)).push (fun h => by rw [F_elder_rows.kind] at h; cases h) Z_fr) (Z_sub ((List.sublist_cons_self _ _).cons _)) fun x s' stt hst FS => hE' x s' _ stt hst FS (List.Sublist.refl _)
end
section
variable {g : Gx} {A : Around} {E : Value → Shared → Prop} {pre own : Led} {T dT CL B dB M dM MD LL R dR U dU RL Ao dA V dV EQ D D0 D1 : Addr} {xs rows big cells : List AV} {gs ge pt zv tk ct sv mn n : Int} {pb nt pn il : AV} {so : PySem.Str} {eq : List (Int × Int)} {gg : Gp} {bb : Bf} {uu : Option Un} {aa : Am} {vv : Ug} {dd : Dk}
theorem undo_more_fail {Ro : List Row} {es : List (Int × Int)} {l : List Env} {c1 : AV} {Φ : AV → Led → Prop} (Rr : Rm 6 A) (hR : RowsIn own rows Ro) (hfr : A.frames = some l) (hl : EnvsOk l pre) (hF : Fails g E l (Z pre ⟨gg, bb, some ⟨R, dR, U, dU, RL, rows, pb, nt⟩, aa, ⟨V, dV, EQ, .int 0, il, es⟩, dd⟩ own)) :
    wpC g A E (.ref f_undo_more) [.ref V, .ref B, .ref U, c1, .bool false] (Z pre ⟨gg, bb, some ⟨R, dR, U, dU, RL, rows, pb, nt⟩, aa, ⟨V, dV, EQ, .int 0, il, es⟩, dd⟩ own) Φ := by
  refine enterF F_undo_more Rr rfl hfr hF fun A' E' L R' hfr' hE' => ?_
  show wpX g A' E' (envX (S "undo_more") (sScope (stAt 67)) L f_undo_more (.ref 804) []) (sBody (stAt 67)) (Z ((L, .frame (sScope (stAt 67)) [(S "undoing", some (.ref V)), (S "buffer", some (.ref B)), (S "history", some (.ref U)), (S "count", some c1), (S "passes_undos", some (.bool false)), (S "word", none), (S "start", none), (S "rows", none), (S "first", none), (S "at", none), (S "turn", none)]) :: pre) ⟨gg, bb, some ⟨R, dR, U, dU, RL, rows, pb, nt⟩, aa, ⟨V, dV, EQ, .int 0, il, es⟩, dd⟩ own) (Ret Φ)
  conv => arg 5; whnf
  (with_reducible apply tX_name)
  · apply PE_if (c := (ival es 0).isSome && (!false && true))
    · refine PT_and (PT_cmpG (by k_subL) (by k_subL) (PCmp_inM zm_v) (by kernel_rfl)) fun _ => by k_subL
    · exact fun _ => PE_str
    · exact fun _ => PE_str
  · k_updF
  · kernel_rfl
  generalize (if ((ival es 0).isSome && (!false && true)) = true then AV.str _ else AV.str _) = w
  (with_reducible apply tX_name)
  · apply PE_ifF (c := false)
    · k_subL
    · rfl
    · k_subL
  · k_updF
  · kernel_rfl
  refine tX_nameE ?_ (by kernel_rfl)
  k_memK
  exact elder_rows_fail (Rm.less R' (by decide)) hR hfr' ((hl.more fun p hp => .tail _ hp).push (fun h => by rw [F_undo_more.kind] at h; cases h) (.head _)) fun x s' FS => hE' x s' _ _ (.inr rfl) FS Z_drop
theorem undo_fail {ad : Ad} {t : List Int} {Ro : List Row} {m : Mach} {ch : Bool} {es : List (Int × Int)} {l : List Env} {Φ : AV → Led → Prop} (Rr : Rm 13 A) (hE : EdS ad t Ro m own) (hV : VS V dV EQ pn es m) (hpn : NI pn) (hb : Ro.length ≤ 60000)
    (hpk : (if inRow ch pn es (trimB (bdry Ro) (bdry Ro).length) = true then pn else .int (trimB (bdry Ro) (bdry Ro).length : Nat)) = .int 0)
    (hfr : A.frames = some l) (hl : EnvsOk l pre) (hF : ∀ m', m'.a = m.a → m'.d = m.d → EdS ad t (bdry Ro) m' own → VS V dV EQ (.int 0) es m' → Fails g E l (Z pre m' own)) :
    wpC g A E (.ref f_undo) [.ref V, .ref ad.B, .int 1, .bool ch] (Z pre m own) Φ := by
  obtain ⟨gg, bb, uu, aa, vv, dd⟩ := m
  obtain ⟨hG, hl2, hrl, pt, tk, ct, sv, RL, rows, pb, nt, rfl, hp1, hp2, rfl, hpb, hnt, hR⟩ := hE
  obtain rfl : vv = ⟨V, dV, EQ, pn, .none, es⟩ := hV
  have hbl : (bdry Ro).length ≤ Ro.length + 1 := by unfold bdry; split <;> simp
  refine enterE F_undo Rr rfl fun L => ?_
  have hfr' : (A.deeper (envX (S "undo") (sScope (stAt 68)) L f_undo (.ref 811) [])).frames = some (envX (S "undo") (sScope (stAt 68)) L f_undo (.ref 811) [] :: l) := Around.frames_deeper hfr
  have R' : Rm 12 (A.deeper (envX (S "undo") (sScope (stAt 68)) L f_undo (.ref 811) [])) := Rr.deeper _
  generalize hA' : A.deeper (envX (S "undo") (sScope (stAt 68)) L f_undo (.ref 811) []) = A' at *
  show wpX g A' _ (envX (S "undo") (sScope (stAt 68)) L f_undo (.ref 811) []) (sBody (stAt 68)) (Z ((L, .frame (sScope (stAt 68)) [(S "undoing", some (.ref V)), (S "buffer", some (.ref ad.B)), (S "count", some (.int 1)), (S "is_chained", some (.bool ch))]) :: pre) _ own) (Ret Φ)
  conv => arg 5; whnf
  k_memK
  k_memK
  refine begin_undo_ (Rm.less R' (by decide)) hR (by lia) hpn fun rows' hR' => ?_
  rw [hpk]
  k_memK
  · intro e; cases e
  intro _
  k_memK
  refine wX_ret ?_
  k_memK
  refine undo_more_fail (Rm.less R' (by decide)) hR' hfr' ((hl.more fun p hp => .tail _ hp).push (fun h => by rw [F_undo.kind] at h; cases h) (.head _)) fun x s' FS => ?_
  refine fly_leaveS hfr' rfl (.inr rfl) FS Z_drop fun s2 F2 => ?_
  exact hF ⟨gg, ⟨ad.B, ad.dB, ad.M, ad.dM, ad.MD, ad.LL, pt, (t.length : Nat) + 1, tk, ct, sv⟩, some ⟨ad.R, ad.dR, ad.U, ad.dU, RL, rows', pb, nt⟩, aa, ⟨V, dV, EQ, .int 0, .none, es⟩, dd⟩ rfl rfl (.mk' hG hl2 (by lia) rfl hp1 hp2 hpb hnt hR') rfl x s2 F2
end
section
variable {g : Gx} {A : Around} {E : Value → Shared → Prop} {pre own : Led} {T dT CL B dB M dM MD LL R dR U dU RL Ao dA V dV EQ D D0 D1 : Addr} {xs rows big cells : List AV} {gs ge pt zv tk ct sv mn n : Int} {pb nt pn il : AV} {so : PySem.Str} {eq : List (Int × Int)} {gg : Gp} {bb : Bf} {uu : Option Un} {aa : Am} {vv : Ug} {dd : Dk}
end
section
variable {g : Gx} {A : Around} {E : Value → Shared → Prop} {led : Led} {env : Env} {s : Shared}
theorem sig_find2 (P : Params) : findIn (KK P) (.ref c_LispSignal) "__getattribute__" = some (some (.builtin "BaseException.__getattribute__")) ∧ findIn (KK P) (.ref c_LispSignal) "__getattr__" = some none := ⟨by kernel_rfl, by kernel_rfl⟩
theorem sig_get {x dx : Addr} {ox oD : Obj} {v : Value} {es : Array DictEntry} {ep : Nat} {expr : Bool} {Q : Value → Shared → Prop} (S0 : St g s led) (hx : s.heap.get? x = some ox) (hc : ox.cls = .ref c_LispSignal) (hd : ox.dict = some dx) {vs : Array Value} (hv : ox.data = .fields vs)
    (hD : s.heap.get? dx = some oD) (hDd : oD.data = .dict es ep) (hf : nsFind es (S "symbol") = some v) (hh : handedIn v = true) (h : Q v { s with toks := s.toks + 1 }) : wpAny (model pw g.w) A (getAttr (.ref x) (S "symbol") expr) Q E s := by
  have X := S0.K
  have I : InstAt s.heap x ox c_LispSignal (some oD) := ⟨hx, hc, by unfold notCls; rw [hv], by rw [hd]; exact hD⟩
  have hcl := sig_clsIn g.w.params
  have hfo : findObj (KK g.w.params) c_LispSignal (some oD) (S "symbol") = some (.value v) := by
    unfold findObj
    rw [hcl, Option.bind_some, (sig_find _).2.1]
    have hl : lookIn (S "symbol") oD = some (some v) := by
      unfold lookIn
      rw [hDd]
      unfold nsFind findBy at hf
      obtain ⟨en, he, rfl⟩ := Option.map_eq_some_iff.mp hf
      obtain ⟨l⟩ := es
      rw [List.find?_toArray] at he
      show (match l.find? _ with | some e => some (some e.val) | none => _) = _
      rw [he]
    show ((ownOf _ (some oD) (S "symbol")).bind _) = _
    rw [show ownOf _ (some oD) (S "symbol") = lookIn (S "symbol") oD from rfl, hl]
    rfl
  have L0 := I.type (M := model pw g.w)
  have L1 := looks_findIn (M := model pw g.w) X (sig_find2 g.w.params).1
  have L2 := looks_findIn (M := model pw g.w) X (sig_find2 g.w.params).2
  have L3 := looks_find (M := model pw g.w) X I hfo
  have sub : Looks (model pw g.w) s.heap (isInstance (.ref x) (.type "BaseException")) true := I.type.andThen (looks_mroIn X (by unfold mroIn; rw [hcl]; rfl))
  have hk : builtinKind "BaseException.__getattribute__" = some .slot := by decide +kernel
  have hsp : splitId "BaseException.__getattribute__" = some ("BaseException", "__getattribute__") := by decide +kernel
  have FB := PySem.F.attrBase_Exception
  have f3 := FB.ga.bind (.ref x)
  obtain ⟨hp, gs, d, t, os⟩ := s
  unfold getAttr getAttrBy
  refine wpAny_bind (wpAny_mkText (wpAny_holding (wpAny_bind (L0.at (wpAny_bind (L1.at ?_))))))
  show wpAny _ _ (getAttrByItsOwn _ _ _ _ _ _) _ _ _
  unfold getAttrByItsOwn
  refine wpAny_bind (L2.at ?_)
  have hcg : callGetattribute (.ref x) (.str (S "symbol") t) (.builtin "BaseException.__getattribute__") expr = boundAndCalled (.builtin "BaseException.__getattribute__") (.ref x) (.str (S "symbol") t) := by cases expr <;> rfl
  refine wpAny_bind (wpAny_attempt (wpAny_holding ?_))
  rw [hcg]
  unfold boundAndCalled
  rw [f3]
  refine wpAny_bind (wpAny_pure (wpAny_call (codeAny_call_builtin FB.ga.plain F.entry_bexc_ga (@check_slot (model pw g.w) _ _ ⟨hp, gs, d, t + 1, os⟩ "BaseException.__getattribute__" "BaseException" "__getattribute__" (.ref x) [.str (S "symbol") t] [] _ hk hsp sub (F.args_bexc_ga _ _) ?_))))
  unfold Builtin.«object.__getattribute__»
  refine wpAny_bind (wpAny_pure (wpAny_bind (wpAny_pure (wpAny_bind (L0.at (wpAny_bind (L3.at ?_)))))))
  refine wpAny_pure ?_
  show wpAny _ _ (handedOut v) _ _ _
  rw [handedOut_of hh]; exact wpAny_pure h
theorem PE_sig {y : PySem.Str} {p pos : Pos} {x dx : Addr} {b : PySem.Str} (ho : PE g A env led (.Name y p) (.ref x)) (hx : (x, Cell.prop (SigAt dx)) ∈ led) (hd : (dx, Cell.prop (Sd2 (.str b))) ∈ led) : PE g A env led (.Attribute (.Name y p) (S "symbol") pos) (.str b) := fun E Φ h s S0 => by
  refine Attribute_any_ (ho.out S0 fun v s1 ab S1 => ?_)
  obtain ⟨t, rfl⟩ := ab
  obtain ⟨ox, hox, h1, h2, vs, h3⟩ := S1.at_ _ hx
  obtain ⟨oD, hoD, v, w, ⟨tk, rfl⟩, es, ep, h4, -, -, h5⟩ := S1.at_ _ hd
  refine sig_get S1 hox h1 h2 h3 hoD h4 (v := .str b tk) ((h5 _).trans ?_) rfl ⟨.str b, led, ⟨tk, rfl⟩, S1.toks _, h⟩
  have : (S "symbol" = S "data") = False := by simp only [eq_iff_iff, iff_false]; decide +kernel
  simp only [this, if_false, if_true]
  rfl
end
section
end
section
variable {g : Gx} {A : Around} {E : Value → Shared → Prop} {pre own : Led} {T dT CL B dB M dM MD LL R dR U dU RL Ao dA V dV EQ D D0 D1 : Addr} {xs rows big cells : List AV} {gs ge pt zv tk ct sv mn n : Int} {pb nt pn il : AV} {so : PySem.Str} {eq : List (Int × Int)} {gg : Gp} {bb : Bf} {uu : Option Un} {aa : Am} {vv : Ug} {dd : Dk}
end
section
variable {g : Gx} {A : Around} {E : Value → Shared → Prop} {led led' led2 : Led} {qual : PySem.Str} {sc : Scope} {L f : Addr} {cd : Value} {vs vs' : List (PySem.Str × Option AV)} {cl : List (PySem.Str × Addr)} {s : Shared}
theorem nameGoes_ {n : PySem.Str} {pos : Pos} {Q : Unit → Shared → Prop} (S0 : St g s led) (U : LPut L (.frame sc vs') (.frame sc vs) led led') (hn : n ∈ vs'.map (·.1)) (hf : vs.map (·.1) = vs'.map (·.1)) (hb : ∀ p ∈ vs, ∀ a, p.2 = some a → p ∈ vs' ∧ p.1 ≠ n) (h : ∀ s', St g s' led' → Q () s') :
    wpAny (model pw g.w) A (do bindName (envX qual sc L f cd cl) n .none; unbindBehindTheSuite (envX qual sc L f cd cl) n pos) Q E s := by
  obtain ⟨m, hns, hfr, nd, hk, hl⟩ := S0.ns U.mem
  obtain ⟨q0, hb0, e0⟩ := List.mem_map.mp hn
  refine wpAny_nameGoes_keeps (kindOf_local (by rw [← e0]; exact (hl _ hb0).1)) hns (by show (sc.kind == .class || (sc.kind == .module && L != mainGlobals)) = false; rw [hk]; rfl) fun h' v hn' hs => h _ ?_
  obtain ⟨o', es, ep, ho, hd, hsk, hfd⟩ := hn'
  refine S0.upd (tk := s.toks + 1) U hs.1 (fun b o hb e => by rw [hs.2 b hb]; exact e) ho ⟨_, es, ep, hd, hsk, hfd, ?_, by rw [hf]; exact nd, hk, fun p hp => ?_⟩
  · intro p hp a e
    obtain ⟨h1, h2⟩ := hb p hp a e
    show ∃ w, (if p.1 = n then v else m p.1) = some w ∧ Ab w a
    rw [if_neg h2]
    exact hfr p h1 a e
  · obtain ⟨q, hq, e⟩ := List.mem_map.mp (show p.1 ∈ vs'.map (·.1) from hf ▸ List.mem_map_of_mem (f := (·.1)) hp)
    rw [← e]; exact hl q hq
theorem wX_try_sig {n : PySem.Str} {np hpos pos : Pos} {body suite rest : List Stmt} {b0 : Stmt} {l : List Env} {vsx : Addr → List (PySem.Str × Option AV)} {Φ : Out → Led → Prop} (P : Led → Prop) (hfr : A.frames = some (envX qual sc L f cd cl :: l))
    (hx : (sc.names.lookup (S "LispSignal") == some .globalImplicit && !((S "LispSignal") == ("__debug__" : PySem.Str))) = true) (Vx : ∀ x, VPut n (.ref x) vs (vsx x)) (hb : ∀ x, ∀ p ∈ vs, ∀ a, p.2 = some a → p ∈ vsx x ∧ p.1 ≠ n)
    (hbody : ∀ E', (∀ led2, P led2 → Fails g E' (envX qual sc L f cd cl :: l) ((L, .frame sc vs) :: led2)) → wpX g A E' (envX qual sc L f cd cl) body led fun _ _ => False)
    (hsuite : ∀ led2 A' x dx, P led2 → wpX g A' (fun _ _ => False) (envX qual sc L f cd cl) (b0 :: suite) ((L, .frame sc (vsx x)) :: (x, .prop (SigAt dx)) :: (dx, .prop (Sd2 (.str (S "user-error")))) :: led2) fun o l => o = .next ∧ l = (L, .frame sc (vsx x)) :: (x, .prop (SigAt dx)) :: (dx, .prop (Sd2 (.str (S "user-error")))) :: led2)
    (hrest : ∀ led2, P led2 → wpX g A E (envX qual sc L f cd cl) rest ((L, .frame sc vs) :: led2) Φ) :
    wpX g A E (envX qual sc L f cd cl) (.Try body [.ExceptHandler (some (.Name (S "LispSignal") np)) (some n) (b0 :: suite) hpos] [] [] pos :: rest) led Φ :=
  wX_cons fun s S0 => wpAny_Try_except (wpAny_mono (hbody _ (fun led2 hP x s1 FS => by
    refine fly_noteS hfr rfl (.inr rfl) FS fun s2 F2 => fly_landS F2 fun s3 F3 => ?_
    obtain ⟨base, dx, hF, hg, S3, hB⟩ := F3.ex
    obtain ⟨m, hns, hfm, -, hsk, hlv⟩ := S3.ns (L := L) (.tail _ (.tail _ (.head _)))
    have hxx := hx
    rw [Bool.and_eq_true, beq_iff_eq, Bool.not_eq_true'] at hxx
    obtain ⟨ox, hox, hoc, hod, wv, how⟩ := S3.at_ (x, .prop (SigAt dx)) (.head _)
    have hC := S3.sigC
    refine wpAny_handleBy_cons (codeAny_handlers_test (glb_name S3 G_LispSignal hsk hxx.1 hxx.2 ?_)) (by intro q; cases q)
    obtain ⟨hp, gs, d, t, os⟩ := s3
    refine wpAny_excMatches_sub_self hC hox hoc (by decide +kernel) (codeAny_handlers_suite_as ?_)
    refine fly_landS F3 fun s4 F4 => ?_
    obtain ⟨base4, dx4, -, -, S4, -⟩ := F4.ex
    have S5 : St g s4 ((L, .frame sc vs) :: (x, .prop (SigAt dx4)) :: (dx4, .prop (Sd2 (.str (S "user-error")))) :: led2) := S4.perm (((List.Perm.swap ..).cons _).trans (.swap ..))
    refine store_ S5 .head (Vx x) ⟨0, rfl⟩ fun s6 S6 => ?_
    refine wpAny_mono (hsuite led2 _ x dx4 hP s6 S6) (fun fl s7 h7 => ?_) fun _ _ z => z.elim
    obtain ⟨o, l7, ho7, S7, rfl, rfl⟩ := h7
    refine nameGoes_ (vs := vs) S7 .head (by rw [(Vx x).fst]; obtain ⟨b, h⟩ := (Vx x).mem; exact List.mem_map_of_mem (f := (·.1)) h) (Vx x).fst.symm (hb x) fun s8 S8 => ?_
    exact .inl ⟨ho7, _, S8.sub (((List.sublist_cons_self _ _).trans (List.sublist_cons_self _ _)).cons_cons _), hrest led2 hP⟩) s S0) (fun _ _ z => by obtain ⟨_, _, _, _, z⟩ := z; exact z.elim) fun _ _ z => z)
end
section
end
section
variable {g : Gx} {A : Around} {E : Value → Shared → Prop} {pre own : Led} {T dT CL B dB M dM MD LL R dR U dU RL Ao dA V dV EQ D D0 D1 : Addr} {xs rows big cells : List AV} {gs ge pt zv tk ct sv mn n : Int} {pb nt pn il : AV} {so : PySem.Str} {eq : List (Int × Int)} {gg : Gp} {bb : Bf} {uu : Option Un} {aa : Am} {vv : Ug} {dd : Dk}
inductive RunG : List (List Row) → List (List Int) → List Int → Prop
  | nil {t} : RunG [] [] t
  | snoc {Xs Ts tA G tB} (h : RunG Xs Ts tA) (k : Grp G tA tB) : RunG (Xs ++ [G]) (Ts ++ [tA]) tB
theorem RunG.len {Xs : List (List Row)} {Ts : List (List Int)} {t : List Int} (h : RunG Xs Ts t) : Ts.length = Xs.length := by
  induction h with
  | nil => rfl
  | snoc h k ih => simp [ih]
theorem RunG.get {Xs : List (List Row)} {Ts : List (List Int)} {t : List Int} (h : RunG Xs Ts t) : ∀ i (G : List Row) tA tB, Xs[i]? = some G → (Ts ++ [t])[i]? = some tA → (Ts ++ [t])[i + 1]? = some tB → Grp G tA tB := by
  induction h with
  | nil => intro i G tA tB h; simp at h
  | @snoc Xs Ts tA0 G0 tB0 h k ih =>
    intro i G tA tB hG hA hB
    have hl := h.len
    rcases Nat.lt_or_ge i Xs.length with hi | hi
    · rw [List.getElem?_append_left hi] at hG
      refine ih i G tA tB hG ?_ ?_
      · rw [List.getElem?_append_left (by simp; lia)] at hA; exact hA
      · rw [List.getElem?_append_left (by simp; lia)] at hB; exact hB
    · rw [List.getElem?_append_right hi] at hG
      have := some_lt hG
      have e : i = Xs.length := by simp at this; lia
      subst e
      simp at hG
      subst hG
      rw [List.getElem?_append_left (by simp; lia), List.getElem?_append_right (by lia)] at hA
      rw [List.getElem?_append_right (by simp; lia)] at hB
      simp [hl] at hA hB
      subst hA; subst hB
      exact k
theorem RunG.chains {Xs : List (List Row)} {Ts : List (List Int)} {t : List Int} (h : RunG Xs Ts t) (hl : ∀ u ∈ Ts ++ [t], u.length ≤ 1000) : Chains Xs [] (Ts ++ [t]) :=
  ⟨by simp [h.len], h.get, fun i G a b h => by simp at h, by simp, hl⟩
noncomputable def chg (es : List (List Int × Bool)) : List (List Int) := (es.filter (·.2)).map (·.1)
theorem chg_append (a b : List (List Int × Bool)) : chg (a ++ b) = chg a ++ chg b := by unfold chg; rw [List.filter_append, List.map_append]
inductive LI : List (List Int × Bool) → List Int → List Row → Prop
  | start {t} : LI [] t []
  | run {es0 t0 fl Xs cur t} (h : RunG Xs (chg es0) t0) (hB : Back cur t t0) (hN : NoBd cur) (hf : if fl = true then Solid cur else (cur = [] ∧ t = t0)) : LI (es0 ++ [(t0, fl)]) t (flat Xs ++ cur)
theorem LI.close {es : List (List Int × Bool)} {t : List Int} {Ro : List Row} (h : LI es t Ro) : ∃ Xs, RunG Xs (chg es) t ∧ bdry Ro = flat Xs := by
  cases h with
  | start => exact ⟨[], .nil, rfl⟩
  | @run es0 t0 fl Xs cur t h hB hN hf =>
    cases fl with
    | true =>
      rw [if_pos rfl] at hf
      refine ⟨Xs ++ [cur], ?_, ?_⟩
      · rw [chg_append]; exact h.snoc ⟨hB, hN, hf⟩
      · rw [bdry_last hN hf.ne, flat_append, flat_one, List.append_assoc]
    | false =>
      rw [if_neg (by decide)] at hf
      obtain ⟨rfl, rfl⟩ := hf
      refine ⟨Xs, ?_, ?_⟩
      · rw [chg_append]; simpa [chg] using h
      · rw [List.append_nil]; exact bdry_at (atB_ends (flat_ends _))
theorem LI.typed {es0 : List (List Int × Bool)} {t0 t t' : List Int} {fl b : Bool} {Xs : List (List Row)} {cur Ro' : List Row} (h : RunG Xs (chg es0) t0) (hB : Back cur t t0) (hN : NoBd cur) (hf : if fl = true then Solid cur else (cur = [] ∧ t = t0)) (hl : t.length ≤ 1000) (k : Typ t (flat Xs ++ cur) t' Ro' b) :
    LI (es0 ++ [(t0, fl || b)]) t' Ro' := by
  cases k with
  | ins hi h0 h2 hr =>
    obtain ⟨N', rfl, h1, h3, h4⟩ := back_ins (flat_ends _) hB hN hi h0 hr
    exact .run h h1 h3 (by rw [Bool.or_true, if_pos rfl]; exact h4)
  | del hi hr =>
    obtain ⟨N', rfl, h1, h3, h4⟩ := back_del hB hN (Nat.lt_succ_self _) hi hl hr
    exact .run h h1 h3 (by rw [Bool.or_true, if_pos rfl]; exact h4)
  | none => rw [Bool.or_false]; exact .run h hB hN hf
theorem LI.join {es0 : List (List Int × Bool)} {t0 t t' : List Int} {fl b : Bool} {Ro Ro' : List Row} (h : LI (es0 ++ [(t0, fl)]) t Ro) (hl : t.length ≤ 1000) (k : Typ t Ro t' Ro' b) : LI (es0 ++ [(t0, fl || b)]) t' Ro' := by
  generalize he : es0 ++ [(t0, fl)] = es at h
  cases h with
  | start => simp at he
  | @run es1 t1 fl1 Xs cur t h hB hN hf =>
    obtain ⟨rfl, e⟩ := List.append_inj' he rfl
    simp only [List.cons.injEq, Prod.mk.injEq, and_true] at e
    obtain ⟨rfl, rfl⟩ := e
    exact .typed h hB hN hf hl k
theorem LI.fresh {es : List (List Int × Bool)} {t t' : List Int} {b : Bool} {Ro Ro' : List Row} (h : LI es t Ro) (hl : t.length ≤ 1000) (k : Typ t (bdry Ro) t' Ro' b) : LI (es ++ [(t, b)]) t' Ro' := by
  obtain ⟨Xs, h1, h2⟩ := h.close
  rw [h2] at k
  have := LI.typed (fl := false) (cur := []) h1 .nil (fun _ h => by simp at h) (by simp) hl (by rw [List.append_nil]; exact k)
  simpa using this
theorem Typ.le {t t' : List Int} {Rb Ro' : List Row} {b : Bool} (k : Typ t Rb t' Ro' b) : t'.length ≤ t.length + 2 ∧ Ro'.length ≤ Rb.length + 3 := by
  cases k with
  | ins hi h0 h2 hr => exact ⟨by rw [insT_len hi]; lia, hr.le⟩
  | del hi hr => exact ⟨by rw [delT_len (by lia) (by lia)]; lia, hr.le⟩
  | none => exact ⟨by lia, by lia⟩
noncomputable def lastNm : Option Srt → PySem.Str
  | none => S ""
  | some w => w.nm
noncomputable def AmOk (lw : Option Srt) (many : Int) (so : PySem.Str) (mn : Int) : Prop := match lw with
  | some w => if w.plain = true then so = w.nm ∧ mn = many else so = S ""
  | none => so = S ""
noncomputable def eqS : Srt → Srt → Bool
  | .ins, .ins => true
  | .del, .del => true
  | .mov, .mov => true
  | .oth, .oth => true
  | _, _ => false
theorem nm_eq (w v : Srt) : (w.nm == v.nm) = eqS w v := by cases w <;> cases v <;> kernel_rfl
theorem nm_e (w : Srt) : (w.nm == S "") = false := by cases w <;> kernel_rfl
theorem am_joins {lw : Option Srt} {many mn : Int} {so : PySem.Str} (w : Srt) (h : AmOk lw many so mn) : joinsA w so mn = ((w.nm == lastNm lw) && (w.plain && decide (many < 20))) := by
  unfold joinsA
  cases lw with
  | none =>
    rw [show so = S "" from h, show lastNm none = S "" from rfl, nm_e]; simp
  | some v =>
    rw [show lastNm (some v) = v.nm from rfl]
    unfold AmOk at h
    dsimp only at h
    cases hv : v.plain with
    | true =>
      rw [if_pos hv] at h
      rw [h.1, h.2, nm_eq]
      cases w.plain <;> simp
    | false =>
      rw [if_neg (by rw [hv]; decide)] at h
      rw [h, nm_e, nm_eq]
      cases v <;> cases w <;> first | rfl | (simp [eqS, Srt.plain]; done) | cases hv
theorem am_next {lw : Option Srt} {many mn : Int} {so : PySem.Str} (w : Srt) (h : AmOk lw many so mn) (so' : PySem.Str) (mn' : Int)
    (e : (so', mn') = if joinsA w so mn = true then (so, mn + 1) else ((if w.plain then w.nm else S ""), (if w.plain then 1 else 0))) : AmOk (some w) (if joinsA w so mn = true then many + 1 else 1) so' mn' := by
  unfold AmOk
  cases hj : joinsA w so mn with
  | true =>
    rw [hj, if_pos rfl] at e
    obtain ⟨rfl, rfl⟩ := Prod.mk.inj e
    have hp : w.plain = true := by unfold joinsA at hj; simp only [Bool.and_eq_true] at hj; exact hj.1
    dsimp only
    rw [if_pos hp, if_pos rfl]
    rw [am_joins w h] at hj
    simp only [Bool.and_eq_true, beq_iff_eq] at hj
    cases lw with
    | none => have := nm_e w; rw [show w.nm = S "" from hj.1] at this; simp at this
    | some v =>
      have hv : w.nm = v.nm := hj.1
      have : w = v := by
        have h2 := nm_eq w v
        rw [hv] at h2
        cases w <;> cases v <;> first | rfl | (simp [eqS] at h2)
      subst this
      unfold AmOk at h
      dsimp only at h
      rw [if_pos hp] at h
      exact ⟨h.1, by rw [h.2]⟩
  | false =>
    rw [hj, if_neg (by decide)] at e
    obtain ⟨rfl, rfl⟩ := Prod.mk.inj e
    dsimp only
    cases hp : w.plain with
    | true => simp
    | false => simp
end
section
variable {g : Gx} {A : Around} {E : Value → Shared → Prop} {pre own : Led} {T dT CL B dB M dM MD LL R dR U dU RL Ao dA V dV EQ D D0 D1 : Addr} {xs rows big cells : List AV} {gs ge pt zv tk ct sv mn n : Int} {pb nt pn il : AV} {so : PySem.Str} {eq : List (Int × Int)} {gg : Gp} {bb : Bf} {uu : Option Un} {aa : Am} {vv : Ug} {dd : Dk}
theorem ed_insertE {c : Addr} {Φ : AV → Led → Prop} (Rr : Rm 7 A) (hc : (c, Cell.list []) ∈ own) (h1 : 1 ≤ pt) (h2 : pt ≤ zv) (h : ∀ own', (∀ p ∈ own, p ∈ own') → Φ .none (Z pre ⟨gg, ⟨B, dB, M, dM, MD, LL, pt, zv, tk, ct, sv⟩, uu, aa, vv, dd⟩ own')) :
    wpC g A E (.ref f_insert) [.ref B, .ref c] (Z pre ⟨gg, ⟨B, dB, M, dM, MD, LL, pt, zv, tk, ct, sv⟩, uu, aa, vv, dd⟩ own) Φ := by
  refine N_insert Rr fun A1 L1 R1 => ?_
  conv => arg 5; whnf
  k_memK
  k_memK
  refine N_put_in R1 fun A' L R' => ?_
  conv => arg 5; whnf
  k_memK
  k_memK
  refine need_writable_ (Rm.less R' (by decide)) _ _ ?_
  k_memK
  k_memK
  refine reached_ (Rm.less R' (by decide)) h1 (Int.le_refl _) h2 fun z own1 hm1 => ?_
  have hc1 : (c, Cell.list []) ∈ (z, Cell.tup [.int pt, .int pt]) :: own1 := .tail _ (hm1 _ hc)
  refine tX_ifT (c := ((([] : List AV).length : Nat) : Int) == 0) (by k_subL) (by simp) ?_
  exact wX_ret0 (RetZ (wX_nil (RetN (h _ fun p hp => .tail _ (hm1 p hp)))))
theorem range_up {n : Nat} {a : Int} : Builtin.Range.rangeSize a (a + n) 1 = (n : Int) := by
  unfold Builtin.Range.rangeSize
  rw [if_pos (by decide)]
  split
  · rw [Int.ediv_one]; lia
  · lia
theorem range_down {n : Nat} : Builtin.Range.rangeSize ((n : Int) - 1) (-1) (-1) = (n : Int) := by
  unfold Builtin.Range.rangeSize
  rw [if_neg (by decide)]
  split
  · rw [show (- -1 : Int) = 1 from rfl, Int.ediv_one]; lia
  · lia
theorem small_up {n : Nat} {a : Int} (h0 : 0 ≤ a) (ha : a ≤ 1000) (hn : n ≤ 1000) : Builtin.Range.small a (a + n) 1 = true := by
  unfold Builtin.Range.small
  rw [range_up]
  unfold Builtin.Range.rangeFitsLong
  simp only [Bool.and_eq_true, decide_eq_true_eq, Bool.or_eq_true]
  refine ⟨⟨⟨⟨by lia, by lia⟩, by lia⟩, by lia⟩, .inr ?_⟩
  rw [if_pos (by decide)]
  simp only [Bool.and_eq_true, decide_eq_true_eq]
  lia
theorem small_down {n : Nat} (hn : n ≤ 1000) : Builtin.Range.small ((n : Int) - 1) (-1) (-1) = true := by
  unfold Builtin.Range.small
  rw [range_down]
  unfold Builtin.Range.rangeFitsLong
  simp only [Bool.and_eq_true, decide_eq_true_eq, Bool.or_eq_true]
  refine ⟨⟨⟨⟨by lia, by lia⟩, by lia⟩, by lia⟩, .inr ?_⟩
  rw [if_neg (by decide)]
  simp only [Bool.and_eq_true, decide_eq_true_eq]
  lia
end
section
variable {g : Gx} {A : Around} {E : Value → Shared → Prop} {pre own : Led} {T dT CL B dB M dM MD LL R dR U dU RL Ao dA V dV EQ D D0 D1 : Addr} {xs rows big cells : List AV} {gs ge pt zv tk ct sv mn n : Int} {pb nt pn il : AV} {so : PySem.Str} {eq : List (Int × Int)} {gg : Gp} {bb : Bf} {uu : Option Un} {aa : Am} {vv : Ug} {dd : Dk}
theorem perm_pick {α : Type} {x : α} {l r r' : List α} (h : Pick x l r') (t : r'.Perm r) : l.Perm (x :: r) := h.perm.trans (t.cons _)
noncomputable abbrev envL (L : Addr) : Env := envX (S "law") (sScope (stAt 76)) L f_law (.ref 856) []
noncomputable abbrev fr0 (x : Addr) (dk bf am un : Option AV) : List (PySem.Str × Option AV) := [(S "script", some (.ref x)), (S "deck", dk), (S "buffer", bf), (S "amalgam", am), (S "undoing", un), (S "sort", none), (S "last", none), (S "many", none), (S "ahead", none), (S "turn", none), (S "way", none), (S "text", none), (S "joins", none), (S "is_fresh", none), (S "texts", none), (S "place", none), (S "error", none)]
noncomputable def lawRest (k : Nat) : List Stmt := (sBody (stAt 76)).drop k
noncomputable def forHd (b : List Stmt) : Pos × Expr × List Stmt × Pos := match b with
  | .For (.Name _ p) e bd _ q :: _ => (p, e, bd, q)
  | _ => default
theorem law1_ {L x : Addr} {us : List Value} {ns : List Int} {Φ : Out → Led → Prop} (Rr : Rm 20 A) (hm : g.hb.IsList x us.toArray) (ab : AbL us (ns.map .int)) (hb : ns.length ≤ 1000)
    (h : ∀ z D D0 D1 (bs cs : List Int) B dB T dT CL M dM MD LL Ao dA V dV EQ, cs ≠ [] →
      wpX g A E (envL L) (lawRest 1) (Z [(L, .frame (sScope (stAt 76)) (fr0 x (some (.ref D)) (some (.ref B)) (some (.ref Ao)) (some (.ref V)))), (z, .tup [.ref D, .ref B, .ref Ao, .ref V])]
        ⟨⟨T, dT, CL, List.replicate 8 (.int 0), 0, 8⟩, ⟨B, dB, M, dM, MD, LL, 1, 1, 1, 1, 1⟩, none, ⟨Ao, dA, S "", 0⟩, ⟨V, dV, EQ, .none, .none, []⟩, ⟨D, D0, D1, bs.map .int, cs.map .int, 0⟩⟩ []) Φ) :
    wpX g A E (envL L) (sBody (stAt 76)) [(L, .frame (sScope (stAt 76)) (fr0 x none none none none))] Φ := by
  conv => arg 5; whnf
  refine wX_tuple (xs := [S "deck", S "buffer", S "amalgam", S "undoing"]) Rr.handled (wE_tuple (wL_cons (wE_call G__law_deck keep__law_deck (.head _) (by kernel_rfl) (wL_cons (PE.use (PE_name (.head _) (.head _)) (wL_nil (wpK_C (deck_ (Rm.less Rr (by decide)) hm ab hb fun D D0 D1 bs cs hcs => ?_)))) (by kernel_rfl)) (by kernel_rfl) (by kernel_rfl)) (by kernel_rfl)))
    (.cons setterN (.cons setterN (.cons setterN (.cons setterN .nil)))) (by kernel_rfl) (by kernel_rfl) (by kernel_rfl) (by kernel_rfl)
  refine wL_cons (wE_call G_Buffer keep_Buffer (.tail _ (.tail _ (.tail _ (.head _)))) (by kernel_rfl) (wL_cons (PE.use PE_int (wL_cons (PE.use PE_str (wL_nil (wpK_C (new_Buffer (Rm.less Rr (by decide)) fun B dB T dT CL M dM MD LL => ?_)))) (by kernel_rfl))) (by kernel_rfl)) (by kernel_rfl) (by kernel_rfl)) (by kernel_rfl)
  refine wL_cons (wE_call0 G_Amalgam keep_Amalgam (.tail _ (.tail _ (.tail _ (.tail _ (.tail _ (.tail _ (.tail _ (.tail _ (.tail _ (.tail _ (.tail _ (.tail _ (.head _))))))))))))) (by kernel_rfl) (wpK_C (new_Amalgam (Rm.less Rr (by decide)) fun Ao dA => ?_))) (by kernel_rfl)
  refine wL_cons (wE_call0 G_Undoing keep_Undoing (.tail _ (.tail _ (.tail _ (.tail _ (.tail _ (.tail _ (.tail _ (.tail _ (.tail _ (.tail _ (.tail _ (.tail _ (.tail _ (.tail _ (.head _))))))))))))))) (by kernel_rfl) (wpK_C (new_Undoing (Rm.less Rr (by decide)) fun V dV EQ => ?_))) (by kernel_rfl)
  refine wL_nil ⟨by unfold Big; simp, fun z => ⟨z, [.ref D, .ref B, .ref Ao, .ref V], fr0 x none none none none, fr0 x (some (.ref D)) (some (.ref B)) (some (.ref Ao)) (some (.ref V)), W ⟨⟨T, dT, CL, List.replicate 8 (.int 0), 0, 8⟩, ⟨B, dB, M, dM, MD, LL, 1, 1, 1, 1, 1⟩, none, ⟨Ao, dA, S "", 0⟩, ⟨V, dV, EQ, .none, .none, []⟩, ⟨D, D0, D1, bs.map .int, cs.map .int, 0⟩⟩ ++ [], rfl, ?_, rfl, ?_, h z D D0 D1 bs cs B dB T dT CL M dM MD LL Ao dA V dV EQ hcs⟩⟩
  · simp only [W, led_g, led_b, led_u, led_a, led_v, led_d, fl_g, fl_k, fl_a, fl_v, udOf, List.cons_append, List.nil_append, List.append_nil]
    repeat (with_reducible refine perm_pick (by repeat (first | exact Pick.head | apply Pick.tail)) ?_)
    exact .nil
  · exact .cons (.tail .head) (.cons (.tail (.tail .head)) (.cons (.tail (.tail (.tail .head))) (.cons (.tail (.tail (.tail (.tail .head)))) .nil)))
end
section
variable {g : Gx} {A : Around} {E : Value → Shared → Prop} {pre own : Led} {T dT CL B dB M dM MD LL R dR U dU RL Ao dA V dV EQ D D0 D1 : Addr} {xs rows big cells : List AV} {gs ge pt zv tk ct sv mn n : Int} {pb nt pn il : AV} {so : PySem.Str} {eq : List (Int × Int)} {gg : Gp} {bb : Bf} {uu : Option Un} {aa : Am} {vv : Ug} {dd : Dk}
noncomputable abbrev fr1 (x D B Ao V : Addr) (so la mn ah : Option AV) : List (PySem.Str × Option AV) := [(S "script", some (.ref x)), (S "deck", some (.ref D)), (S "buffer", some (.ref B)), (S "amalgam", some (.ref Ao)), (S "undoing", some (.ref V)), (S "sort", so), (S "last", la), (S "many", mn), (S "ahead", ah), (S "turn", none), (S "way", none), (S "text", none), (S "joins", none), (S "is_fresh", none), (S "texts", none), (S "place", none), (S "error", none)]
theorem rangeL_ints (a c : Int) (k : Nat) : rangeL a c k = ((List.range k).map fun i : Nat => a + (i : Int) * c).map .int := by unfold rangeL; rw [List.map_map]; rfl
theorem Z_new2 {p q : Addr × Cell} {m : Mach} : (p :: q :: Z pre m own).Perm (Z pre m (p :: q :: own)) := (List.Perm.cons _ Z_new).trans Z_new
theorem GT_start {T dT CL : Addr} : GT T dT CL [] ⟨T, dT, CL, List.replicate 8 (.int 0), 0, 8⟩ := ⟨[], List.replicate 8 (.int 0), [], rfl, rfl, by simp⟩
theorem law2_ {L x z D D0 D1 : Addr} {dd : Dk} {Φ : Out → Led → Prop} (Rr : Rm 20 A) (hD : DkOK D D0 D1 dd)
    (h : ∀ z2 gg' t tk' ct' dd' own', GT T dT CL t gg' → t.length ≤ 5 → DkOK D D0 D1 dd' →
      wpX g A E (envL L) (lawRest 2) (Z [(L, .frame (sScope (stAt 76)) (fr1 x D B Ao V none none none none)), (z, .tup z2)] ⟨gg', ⟨B, dB, M, dM, MD, LL, 1 + (t.length : Nat), 1 + (t.length : Nat), tk', ct', 1⟩, none, aa, vv, dd'⟩ own') Φ) {as : List AV} :
    wpX g A E (envL L) (lawRest 1) (Z [(L, .frame (sScope (stAt 76)) (fr1 x D B Ao V none none none none)), (z, .tup as)] ⟨⟨T, dT, CL, List.replicate 8 (.int 0), 0, 8⟩, ⟨B, dB, M, dM, MD, LL, 1, 1, 1, 1, 1⟩, none, aa, vv, dd⟩ []) Φ := by
  conv => arg 5; whnf
  refine tX_expr (by kernel_rfl) (by kernel_rfl) (wE_call G_insert keep_insert Z_fr (by kernel_rfl) (wL_cons (PE.use (by k_subL) (wL_cons (wE_typ B_list Z_fr (by kernel_rfl) (wL_cons (wE_typ B_range Z_fr (by kernel_rfl) (wL_cons (wE_call G__law_draw keep__law_draw Z_fr (by kernel_rfl) (wL_cons (PE.use (by k_subL) (wL_cons (PE.use PE_int (wL_nil (wpK_C (draw_ (Rm.less Rr (by decide)) (by lia) (by lia) hD fun r dd' own' h0 h6 hm hD' => ?_)))) (by kernel_rfl))) (by kernel_rfl)) (by kernel_rfl) (by kernel_rfl)) (by kernel_rfl)) (by kernel_rfl) (by kernel_rfl)) (by kernel_rfl)) (by kernel_rfl) (by kernel_rfl)) (by kernel_rfl))) (by kernel_rfl)) (by kernel_rfl) (by kernel_rfl))
  obtain ⟨k, rfl⟩ : ∃ k : Nat, r = k := ⟨r.toNat, by lia⟩
  refine wL_nil (wK_range1 fun q => ?_)
  refine wL_nil (wK_listRange (n := k) Rr.handled (.head _) (by have := small_up (a := 0) (n := k) (by lia) (by lia) (by lia); rwa [Int.zero_add] at this) (by have := range_up (a := 0) (n := k); rwa [Int.zero_add] at this) (by unfold Big; lia) fun zz => ?_)
  refine wL_nil (wpK_C (wpC_perm Z_new2 ?_))
  rw [rangeL_ints]
  rcases Nat.eq_zero_or_pos k with rfl | hk
  · refine ed_insertE (Rm.less Rr (by decide)) (.head _) (by lia) (by lia) fun own2 hm2 => ?_
    exact h as _ [] 1 1 dd' own2 GT_start (by simp) hD'
  · refine ed_insert0 (t := []) (cs := (List.range k).map fun i : Nat => 0 + (i : Int) * 1) (i := 0) (Rm.less Rr (by decide)) GT_start (.head _) rfl rfl (by simp) (by simp; lia) (by simp; lia) fun gg' own2 hm2 hG => ?_
    have e : (insT [] 0 ((List.range k).map fun i : Nat => 0 + (i : Int) * 1)).length = k := by simp [insT]
    have hh := h as gg' _ (1 + 1) (1 + 1) dd' own2 hG (by lia) hD'
    rw [e] at hh
    rw [show (((List.range k).map fun i : Nat => 0 + (i : Int) * 1).length : Nat) = k from by simp, show (((0 : Nat) : Int) + 1) = 1 from rfl]
    exact hh
end
section
variable {g : Gx} {A : Around} {E : Value → Shared → Prop} {pre own : Led} {T dT CL B dB M dM MD LL R dR U dU RL Ao dA V dV EQ D D0 D1 : Addr} {xs rows big cells : List AV} {gs ge pt zv tk ct sv mn n : Int} {pb nt pn il : AV} {so : PySem.Str} {eq : List (Int × Int)} {gg : Gp} {bb : Bf} {uu : Option Un} {aa : Am} {vv : Ug} {dd : Dk}
theorem turn_on {R : Addr} {gg : Gp} {bb : Bf} {aa : Am} {vv : Ug} {dd : Dk} {X : Led} : LPut bb.dB (.dict c_Buffer (fl_b gg.T .none bb)) (.dict c_Buffer (fl_b gg.T (.ref R) bb)) (X ++ Z pre ⟨gg, bb, none, aa, vv, dd⟩ own) (X ++ (pre ++ ((led_g gg ++ (led_b gg.T (.ref R) bb ++ (led_a aa ++ (led_v vv ++ led_d dd)))) ++ own))) :=
  have h : LPut bb.dB (.dict c_Buffer (fl_b gg.T .none bb)) (.dict c_Buffer (fl_b gg.T (.ref R) bb)) (led_b gg.T .none bb) (led_b gg.T (.ref R) bb) := .tail .head
  ((((h.appR _).appL _).appR _).appL _).appL _
theorem turn_perm {gg : Gp} {bb : Bf} {x : Un} {aa : Am} {vv : Ug} {dd : Dk} : (led_u (some x) ++ (pre ++ ((led_g gg ++ (led_b gg.T (.ref x.R) bb ++ (led_a aa ++ (led_v vv ++ led_d dd)))) ++ own))).Perm (Z pre ⟨gg, bb, some x, aa, vv, dd⟩ own) := by
  have h := List.perm_append_comm_assoc (led_u (some x)) (pre ++ (led_g gg ++ led_b gg.T (.ref x.R) bb)) (led_a aa ++ (led_v vv ++ (led_d dd ++ own)))
  unfold Z W
  simp only [List.append_assoc] at h ⊢
  exact h
noncomputable abbrev fr2 (x D B Ao V : Addr) (so la mn ah : AV) (tu wa te jo fr tx pl : Option AV) : List (PySem.Str × Option AV) := [(S "script", some (.ref x)), (S "deck", some (.ref D)), (S "buffer", some (.ref B)), (S "amalgam", some (.ref Ao)), (S "undoing", some (.ref V)), (S "sort", some so), (S "last", some la), (S "many", some mn), (S "ahead", some ah), (S "turn", tu), (S "way", wa), (S "text", te), (S "joins", jo), (S "is_fresh", fr), (S "texts", tx), (S "place", pl), (S "error", none)]
theorem law3_ {L x z : Addr} {gg : Gp} {dd : Dk} {as : List AV} {t : List Int} {Φ : Out → Led → Prop} (Rr : Rm 20 A) (hG : GT T dT CL t gg) (ht : t.length ≤ 5)
    (h : ∀ AH m own1 R dR U dU, EdS ⟨T, dT, CL, B, dB, M, dM, MD, LL, R, dR, U, dU⟩ t [] m own1 → m.a = aa → m.v = vv → m.d = dd →
      wpX g A E (envL L) (lawRest 5) (Z [(L, .frame (sScope (stAt 76)) (fr2 x D B Ao V (.str (S "insert")) (.str (S "")) (.int 0) (.ref AH) none none none none none none none)), (AH, .list [])] m own1) Φ) :
    wpX g A E (envL L) (lawRest 2) (Z [(L, .frame (sScope (stAt 76)) (fr1 x D B Ao V none none none none)), (z, .tup as)] ⟨gg, ⟨B, dB, M, dM, MD, LL, 1 + (t.length : Nat), 1 + (t.length : Nat), tk, ct, 1⟩, none, aa, vv, dd⟩ own) Φ := by
  obtain ⟨p, q, s, rfl, hps, hcells⟩ := id hG
  conv => arg 5; whnf
  k_memK
  k_memK
  refine goto_ (Rm.less Rr (by decide)) ?_
  rw [show min (max (1 : Int) 1) (1 + (t.length : Nat)) = 1 from by lia]
  refine wX_attr (wE_call0 G_Recording keep_Recording Z_fr (by kernel_rfl) (wpK_C (new_Recording (Rm.less Rr (by decide)) fun R dR U dU RL => ?_))) (by kernel_rfl)
  refine PE.use (PE_name (.tail _ (.tail _ (.tail _ (.tail _ (.tail _ (.head _)))))) (.tail _ (.tail _ (.head _)))) ⟨L, _, _, B, c_Buffer, dB, _, _, _, rfl, .tail _ (.tail _ (.tail _ (.tail _ (.tail _ (.head _))))), ?_, turn_on (X := led_u (some ⟨R, dR, U, dU, RL, [], .none, .none⟩)) (R := R) (bb := ⟨B, dB, M, dM, MD, LL, 1, 1 + (t.length : Nat), tk, ct, 1⟩), ?_, wpS.perm turn_perm ?_⟩
  · exact .tail _ (.tail _ (.tail _ (.tail _ (.tail _ zi_b))))
  · repeat (first | exact FPut.head | apply FPut.tail)
  refine wX_tuple (xs := [S "sort", S "last", S "many", S "ahead"]) Rr.handled (wE_tuple (wL_cons (PE.use PE_str (wL_cons (PE.use PE_str (wL_cons (PE.use PE_int (wL_cons (wE_list (wL_nil ⟨by unfold Big; simp, fun AH => wL_nil ⟨by unfold Big; simp, fun zz => ⟨zz, [.str (S "insert"), .str (S ""), .int 0, .ref AH], fr1 x D B Ao V none none none none, fr2 x D B Ao V (.str (S "insert")) (.str (S "")) (.int 0) (.ref AH) none none none none none none none, (AH, .list []) :: (z, .tup as) :: (W ⟨⟨T, dT, CL, p ++ (q ++ s), (p.length : Nat), ((p.length + q.length : Nat) : Int)⟩, ⟨B, dB, M, dM, MD, LL, 1, 1 + (t.length : Nat), tk, ct, 1⟩, some ⟨R, dR, U, dU, RL, [], .none, .none⟩, aa, vv, dd⟩ ++ own), rfl, ?_, rfl, ?_, ?_⟩⟩⟩)) (by kernel_rfl))) (by kernel_rfl))) (by kernel_rfl))) (by kernel_rfl)))
    (.cons setterN (.cons setterN (.cons setterN (.cons setterN .nil)))) (by kernel_rfl) (by kernel_rfl) (by kernel_rfl) (by kernel_rfl)
  · exact (List.Perm.cons _ (.swap ..)).trans (.swap ..)
  · exact .cons (.tail (.tail (.tail (.tail (.tail .head))))) (.cons (.tail (.tail (.tail (.tail (.tail (.tail .head)))))) (.cons (.tail (.tail (.tail (.tail (.tail (.tail (.tail .head))))))) (.cons (.tail (.tail (.tail (.tail (.tail (.tail (.tail (.tail .head)))))))) .nil)))
  · refine wpS.sub (led' := Z [(L, .frame (sScope (stAt 76)) (fr2 x D B Ao V (.str (S "insert")) (.str (S "")) (.int 0) (.ref AH) none none none none none none none)), (AH, .list [])] ⟨⟨T, dT, CL, p ++ (q ++ s), (p.length : Nat), ((p.length + q.length : Nat) : Int)⟩, ⟨B, dB, M, dM, MD, LL, 1, 1 + (t.length : Nat), tk, ct, 1⟩, some ⟨R, dR, U, dU, RL, [], .none, .none⟩, aa, vv, dd⟩ own) ((((List.Sublist.refl _).cons _).cons_cons _).cons _ |>.cons_cons _) ?_
    exact h AH _ own R dR U dU (.mk' hG (by lia) (by simp) (by lia) (by lia) (by lia) .none .none .nil) rfl rfl rfl
end
section
variable {g : Gx} {A : Around} {E : Value → Shared → Prop} {pre own : Led} {T dT CL B dB M dM MD LL R dR U dU RL Ao dA V dV EQ D D0 D1 : Addr} {xs rows big cells : List AV} {gs ge pt zv tk ct sv mn n : Int} {pb nt pn il : AV} {so : PySem.Str} {eq : List (Int × Int)} {gg : Gp} {bb : Bf} {uu : Option Un} {aa : Am} {vv : Ug} {dd : Dk}
theorem wE_subL {env : Env} {led : Led} {o i : Expr} {pos : Pos} {Φ : AV → Led → Prop} (hp : plainIdx i = true) (h : wpE g A E env o led fun v l => ∃ x xs k b, v = .ref x ∧ (x, Cell.list xs) ∈ l ∧ PE g A env l i (.int k) ∧ IdxAt xs k b ∧ Φ b l) : wpE g A E env (.Subscript o i pos) led Φ := fun s S0 =>
  Subscript_ (h.run S0 fun v s1 a l av S1 z => by
    obtain ⟨x, xs, k, b, rfl, hm, hi, hk, hΦ⟩ := z
    exact hi.out S1 fun u s2 hu S2 => av.elim fun t e => hu.elim fun t' e' => by
      subst e e'
      obtain ⟨us, n, ho, ab, hb, hl, hL⟩ := S2.lst hm
      exact subTail hL.typeIs slot_list_getitem.lookup (getitem_list S2 hm hk fun v hv => ⟨b, l, hv, S2, hΦ⟩) (plainIdx_eq hp _ _))
theorem wE_andW {env : Env} {led : Led} {e e' : Expr} {es : List Expr} {pos : Pos} {Φ : AV → Led → Prop} (h : wpE g A E env e led fun v l => ∃ b, v = .bool b ∧ (b = false → Φ (.bool false) l) ∧ (b = true → wpE g A E env (.BoolOp .And (e' :: es) pos) l Φ)) : wpE g A E env (.BoolOp .And (e :: e' :: es) pos) led Φ := fun s S0 =>
  BoolOp_and (h.run S0 fun v s1 a l av S1 z => by
    obtain ⟨b, rfl, h0, h1⟩ := z
    obtain ⟨t, rfl⟩ := av
    refine wpAny_truthy_bool ?_
    cases b with
    | false => exact ⟨_, _, ⟨0, rfl⟩, S1, h0 rfl⟩
    | true => exact h1 rfl s1 S1)
theorem wE_and1 {env : Env} {led : Led} {e : Expr} {pos : Pos} {Φ : AV → Led → Prop} (h : wpE g A E env e led Φ) : wpE g A E env (.BoolOp .And [e] pos) led Φ := fun s S0 => BoolOp_one (h s S0)
theorem wT_callW {env : Env} {led : Led} {f : Expr} {es : List Expr} {ks : List Keyword} {pos : Pos} {Φ : Bool → Led → Prop} (h : wpE g A E env (.Call f es ks pos) led fun v l => ∃ b, v = .bool b ∧ Φ b l) : wpT g A E env (.Call f es ks pos) led Φ := fun s S0 =>
  isTrue_plain (h.run S0 fun v s1 a l av S1 z => by
    obtain ⟨b, rfl, k⟩ := z
    obtain ⟨t, rfl⟩ := av
    exact wpAny_truthy_bool ⟨b, l, rfl, S1, k⟩)
noncomputable abbrev Ent := Addr × Addr × List Int × Bool
noncomputable def entC (es : List Ent) : Led := es.map fun e => (e.1, Cell.list [.ref e.2.1, .bool e.2.2.2])
noncomputable def entR (es : List Ent) : List AV := es.map fun e => .ref e.1
noncomputable def entP (es : List Ent) : List (List Int × Bool) := es.map fun e => (e.2.2.1, e.2.2.2)
noncomputable def entT (es : List Ent) (own : Led) : Prop := ∀ e ∈ es, (e.2.1, Cell.list (e.2.2.1.map .int)) ∈ own
theorem entC_append (a b : List Ent) : entC (a ++ b) = entC a ++ entC b := List.map_append
theorem entR_append (a b : List Ent) : entR (a ++ b) = entR a ++ entR b := List.map_append
theorem entP_append (a b : List Ent) : entP (a ++ b) = entP a ++ entP b := List.map_append
inductive LoopX (ad : Ad) (x D D0 D1 Ao dA V dV EQ AH : Addr) (i : Nat) (vs1 : List (PySem.Str × Option AV)) (l : Led) : Prop
  | mk (es : List Ent) (lw : Option Srt) (w0 : Srt) (many mn : Int) (so : PySem.Str) (t : List Int) (Ro : List Row) (m : Mach) (own : Led) (tu wa te jo fr : Option AV)
    (el : l = (AH, .list (entR es)) :: (entC es ++ (W m ++ own))) (ev : vs1 = fr2 x D ad.B Ao V (.str w0.nm) (.str (lastNm lw)) (.int many) (.ref AH) tu wa te jo fr none none)
    (hE : EdS ad t Ro m own) (ha : m.a = ⟨Ao, dA, so, mn⟩) (hV : VS V dV EQ .none [] m) (hD : DkOK D D0 D1 m.d) (hAm : AmOk lw many so mn) (hLI : LI (entP es) t Ro) (hne : lw = none ∨ es ≠ []) (hT : entT es own) (hl : t.length ≤ 5 + 2 * i) (hr : Ro.length ≤ 4 * i) (hn : es.length ≤ i)
    (hle : ∀ e ∈ es, e.2.2.1.length ≤ 5 + 2 * i) (hmy : many ≤ i) : LoopX ad x D D0 D1 Ao dA V dV EQ AH i vs1 l
structure LoopS (ad : Ad) (x D D0 D1 Ao dA V dV EQ AH : Addr) (i : Nat) (vs1 : List (PySem.Str × Option AV)) (l : Led) : Prop where
  ex : LoopX ad x D D0 D1 Ao dA V dV EQ AH i vs1 l
noncomputable def loopB : List Stmt := (forHd (lawRest 5)).2.2.1
end
section
variable {g : Gx} {A : Around} {E : Value → Shared → Prop} {pre own : Led} {T dT CL B dB M dM MD LL R dR U dU RL Ao dA V dV EQ D D0 D1 : Addr} {xs rows big cells : List AV} {gs ge pt zv tk ct sv mn n : Int} {pb nt pn il : AV} {so : PySem.Str} {eq : List (Int × Int)} {gg : Gp} {bb : Bf} {uu : Option Un} {aa : Am} {vv : Ug} {dd : Dk}
theorem loopA1_ {ad : Ad} {L x D D0 D1 Ao V AH : Addr} {lw : Option Srt} {w0 : Srt} {many : Int} {t : List Int} {Ro : List Row} {m : Mach} {tu wa te jo fr : Option AV} {Φ : Out → Led → Prop} (Rr : Rm 12 A) (hE : EdS ad t Ro m own) (hD : DkOK D D0 D1 m.d)
    (h : ∀ (w : Srt) own' r dd', (∀ p ∈ own, p ∈ own') → DkOK D D0 D1 dd' →
      wpX g A E (envL L) (loopB.drop 2) (Z ((L, .frame (sScope (stAt 76)) (fr2 x D ad.B Ao V (.str w.nm) (.str (lastNm lw)) (.int many) (.ref AH) tu (some (.int r)) te jo fr none none)) :: pre) ⟨m.g, m.b, m.u, m.a, m.v, dd'⟩ own') Φ) :
    wpX g A E (envL L) loopB (Z ((L, .frame (sScope (stAt 76)) (fr2 x D ad.B Ao V (.str w0.nm) (.str (lastNm lw)) (.int many) (.ref AH) tu wa te jo fr none none)) :: pre) m own) Φ := by
  obtain ⟨gg, bb, uu, aa, vv, dd⟩ := m
  obtain ⟨hG, hl, hrl, pt, tk, ct, sv, RL, rows, pb, nt, rfl, hp1, hp2, rfl, hpb, hnt, hR⟩ := hE
  obtain ⟨p, q, s, rfl, ht, hcells⟩ := id hG
  have hlen := congrArg List.length ht
  rw [List.length_map] at hlen
  have K0 := fun (w : Srt) own' hm r dd' hD' => h w own' r dd' hm hD'
  clear h
  conv => arg 5; whnf
  refine tX_nameE ?_ (by kernel_rfl)
  k_memK
  refine draw_ (Rm.less Rr (by decide)) (by lia) (by lia) hD fun r dd' own1 hr1 hr2 hm hD' => ⟨_, _, _, _, _, rfl, by k_updF, ?_⟩
  have K : ∀ (w : Srt) own2, (∀ p ∈ own1, p ∈ own2) → wpX g A E (envL L) (loopB.drop 2) (Z ((L, .frame (sScope (stAt 76)) (fr2 x D ad.B Ao V (.str w.nm) (.str (lastNm lw)) (.int many) (.ref AH) tu (some (.int r)) te jo fr none none)) :: pre) ⟨⟨ad.T, ad.dT, ad.CL, p ++ (q ++ s), (p.length : Nat), ((p.length + q.length : Nat) : Int)⟩, ⟨ad.B, ad.dB, ad.M, ad.dM, ad.MD, ad.LL, pt, (t.length : Nat) + 1, tk, ct, sv⟩, some ⟨ad.R, ad.dR, ad.U, ad.dU, RL, rows, pb, nt⟩, aa, vv, dd'⟩ own2) Φ := fun w own2 hm2 => K0 w own2 (fun p hp => hm2 _ (hm p hp)) r dd' hD'
  refine tX_nameE (wE_if (PT.use (b := decide (r < 4)) (by k_subL) ?_)) (by kernel_rfl)
  by_cases h4 : r < 4
  · rw [if_pos (decide_eq_true h4)]
    refine wE_subL rfl (tE_list (as := [.str (S "delete"), .str (S "move"), .str (S "other"), .str (S "insert")]) (by k_subL) (by unfold Big; simp) fun zz => ?_)
    obtain rfl | rfl | rfl | rfl : r = 0 ∨ r = 1 ∨ r = 2 ∨ r = 3 := by lia
    · exact ⟨zz, _, _, .str (Srt.nm .del), rfl, Z_own (.head _), by k_subL, .inl ⟨by decide, rfl⟩, _, _, _, _, _, rfl, by k_updF, K .del _ fun p hp => .tail _ hp⟩
    · exact ⟨zz, _, _, .str (Srt.nm .mov), rfl, Z_own (.head _), by k_subL, .inl ⟨by decide, rfl⟩, _, _, _, _, _, rfl, by k_updF, K .mov _ fun p hp => .tail _ hp⟩
    · exact ⟨zz, _, _, .str (Srt.nm .oth), rfl, Z_own (.head _), by k_subL, .inl ⟨by decide, rfl⟩, _, _, _, _, _, rfl, by k_updF, K .oth _ fun p hp => .tail _ hp⟩
    · exact ⟨zz, _, _, .str (Srt.nm .ins), rfl, Z_own (.head _), by k_subL, .inl ⟨by decide, rfl⟩, _, _, _, _, _, rfl, by k_updF, K .ins _ fun p hp => .tail _ hp⟩
  · rw [if_neg (by simpa using h4)]
    refine wE_if (wT_cmp (PE.use (by k_subL) ?_) (by kernel_rfl))
    refine tE_tuple (as := [.str (S "insert"), .str (S "delete")]) (by k_subL) (by unfold Big; simp) fun z => ⟨_, PCmp_inT (ys := [S "insert", S "delete"]) (Z_own (.head _)), ?_⟩
    have hw : (([S "insert", S "delete"] : List PySem.Str).any (· == w0.nm)) = w0.plain := by cases w0 <;> kernel_rfl
    rw [hw]
    cases hp : w0.plain with
    | true =>
      rw [if_pos rfl]
      exact PE.use (by k_subL) ⟨_, _, _, _, _, rfl, by k_updF, K w0 _ fun p hp => .tail _ hp⟩
    | false =>
      rw [if_neg (by decide)]
      exact PE.use (a := .str (Srt.nm .ins)) PE_str ⟨_, _, _, _, _, rfl, by k_updF, K .ins _ fun p hp => .tail _ hp⟩
end
section
variable {g : Gx} {A : Around} {E : Value → Shared → Prop} {pre own : Led} {T dT CL B dB M dM MD LL R dR U dU RL Ao dA V dV EQ D D0 D1 : Addr} {xs rows big cells : List AV} {gs ge pt zv tk ct sv mn n : Int} {pb nt pn il : AV} {so : PySem.Str} {eq : List (Int × Int)} {gg : Gp} {bb : Bf} {uu : Option Un} {aa : Am} {vv : Ug} {dd : Dk}
theorem loopA2_ {ad : Ad} {L x D Ao V AH : Addr} {lw : Option Srt} {w : Srt} {many : Int} {t : List Int} {Ro : List Row} {m : Mach} {tu te jo fr : Option AV} {wy : AV} {Φ : Out → Led → Prop} (Rr : Rm 12 A) (hE : EdS ad t Ro m own)
    (h : ∀ (j : Bool) z own', (∀ p ∈ own, p ∈ own') → (z, Cell.list (t.map .int)) ∈ own' → j = ((w.nm == lastNm lw) && (w.plain && decide (many < 20))) →
      wpX g A E (envL L) (loopB.drop 6) (Z ((L, .frame (sScope (stAt 76)) (fr2 x D ad.B Ao V (.str w.nm) (.str w.nm) (.int (if j = true then many + 1 else 1)) (.ref AH) tu (some wy) (some (.ref z)) (some (.bool j)) (some (.bool (!j))) none none)) :: pre) m own') Φ) :
    wpX g A E (envL L) (loopB.drop 2) (Z ((L, .frame (sScope (stAt 76)) (fr2 x D ad.B Ao V (.str w.nm) (.str (lastNm lw)) (.int many) (.ref AH) tu (some wy) te jo fr none none)) :: pre) m own) Φ := by
  obtain ⟨gg, bb, uu, aa, vv, dd⟩ := m
  obtain ⟨hG, hl, hrl, pt, tk, ct, sv, RL, rows, pb, nt, rfl, hp1, hp2, rfl, hpb, hnt, hR⟩ := hE
  obtain ⟨p, q, s, rfl, ht, hcells⟩ := id hG
  have hlen := congrArg List.length ht
  rw [List.length_map] at hlen
  conv => arg 5; whnf
  refine tX_nameE ?_ (by kernel_rfl)
  k_memK
  rw [show (((p ++ s).length : Nat) : Int) + 1 = ((p.length + s.length + 1 : Nat) : Int) from by rw [List.length_append]; lia]
  refine bcodes_ (i := 1) (Rm.less Rr (by decide)) (by lia) (by lia) (by lia) (by lia) fun z => ⟨_, _, _, _, _, rfl, by k_updF, ?_⟩
  rw [show ((p ++ s).take (p.length + s.length + 1 - 1)).drop (1 - 1) = t.map .int from by rw [← ht]; exact List.take_of_length_le (by simp)]
  have hz : (z, Cell.list (t.map .int)) ∈ (z, Cell.list (t.map .int)) :: own := .head _
  have hmm : ∀ p ∈ own, p ∈ (z, Cell.list (t.map .int)) :: own := fun p hp => .tail _ hp
  generalize (z, Cell.list (t.map .int)) :: own = own1 at hz hmm
  have K : ∀ (j : Bool) own2, (∀ p ∈ own1, p ∈ own2) → j = ((w.nm == lastNm lw) && (w.plain && decide (many < 20))) → wpX g A E (envL L) (loopB.drop 4) (Z ((L, .frame (sScope (stAt 76)) (fr2 x D ad.B Ao V (.str w.nm) (.str (lastNm lw)) (.int many) (.ref AH) tu (some wy) (some (.ref z)) (some (.bool j)) fr none none)) :: pre) ⟨⟨ad.T, ad.dT, ad.CL, p ++ (q ++ s), (p.length : Nat), ((p.length + q.length : Nat) : Int)⟩, ⟨ad.B, ad.dB, ad.M, ad.dM, ad.MD, ad.LL, pt, (t.length : Nat) + 1, tk, ct, sv⟩, some ⟨ad.R, ad.dR, ad.U, ad.dU, RL, rows, pb, nt⟩, aa, vv, dd⟩ own2) Φ := by
    intro j own2 hm2 hj
    have hk := h j z
    clear h
    conv => arg 5; whnf
    refine tX_tupleSL (xs := [S "many", S "last"]) Rr.handled (by kernel_rfl) (by kernel_rfl) ?_
    have hif : (if j = true then AV.int (many + 1) else AV.int 1) = .int (if j = true then many + 1 else 1) := by cases j <;> rfl
    refine wL_cons (PE.use (a := .int (if j = true then many + 1 else 1)) (by rw [← hif]; exact PE_if (c := j) (by k_subL) (fun _ => by k_subL) (fun _ => PE_int)) ?_) (by kernel_rfl)
    refine wL_cons (PE.use (by k_subL) (wL_nil ⟨by unfold Big; simp, rfl, _, _, _, _, _, rfl, .cons (by k_updF) (.cons (by k_updF) .nil), fun z3 => ?_⟩)) (by kernel_rfl)
    refine tX_name (a := .bool (!j)) (PE_not (by k_subL) .bool) (by k_updF) (by kernel_rfl) ?_
    exact hk _ (fun p hp => .tail _ (hm2 _ (hmm _ hp))) (.tail _ (hm2 _ hz)) hj
  refine tX_nameE (wE_andW (PE.use (a := .bool (w.nm == lastNm lw)) (by k_subL) ⟨_, rfl, fun e => ?_, fun e => ?_⟩)) (by kernel_rfl)
  · exact ⟨_, _, _, _, _, rfl, by k_updF, K false _ (fun p hp => hp) (by rw [e]; rfl)⟩
  refine wE_andW (wE_cmp (PE.use (by k_subL) (tE_tuple (as := [.str (S "insert"), .str (S "delete")]) (by k_subL) (by unfold Big; simp) fun z2 => ⟨_, PCmp_inT (ys := [S "insert", S "delete"]) (Z_own (.head _)), ?_⟩)) (by kernel_rfl))
  have hw : (([S "insert", S "delete"] : List PySem.Str).any (· == w.nm)) = w.plain := by cases w <;> kernel_rfl
  rw [hw]
  refine ⟨_, rfl, fun e2 => ?_, fun e2 => ?_⟩
  · exact ⟨_, _, _, _, _, rfl, by k_updF, K false _ (fun p hp => .tail _ hp) (by rw [e, e2]; rfl)⟩
  · exact wE_and1 (PE.use (a := .bool (decide (many < 20))) (by k_subL) ⟨_, _, _, _, _, rfl, by k_updF, K _ _ (fun p hp => .tail _ hp) (by rw [e, e2]; rfl)⟩)
end
section
variable {g : Gx} {A : Around} {E : Value → Shared → Prop} {pre own : Led} {T dT CL B dB M dM MD LL R dR U dU RL Ao dA V dV EQ D D0 D1 : Addr} {xs rows big cells : List AV} {gs ge pt zv tk ct sv mn n : Int} {pb nt pn il : AV} {so : PySem.Str} {eq : List (Int × Int)} {gg : Gp} {bb : Bf} {uu : Option Un} {aa : Am} {vv : Ug} {dd : Dk}
theorem Z_move {p : Addr × Cell} {m : Mach} : (Z pre m (p :: own)).Perm (Z (pre ++ [p]) m own) := by
  have h : ((pre ++ W m) ++ p :: own).Perm (pre ++ p :: (W m ++ own)) := List.perm_middle.trans (by rw [List.append_assoc]; exact List.perm_middle.symm)
  unfold Z
  simp only [List.append_assoc, List.singleton_append, List.cons_append, List.nil_append] at h ⊢
  exact h
theorem loopB2_ {ad : Ad} {L x D D0 D1 Ao dA V dV EQ AH : Addr} {i : Nat} {es0 : List Ent} {e1 ta : Addr} {t0 : List Int} {fl : Bool} {lw : Option Srt} {w : Srt} {many mn tv : Int} {so : PySem.Str} {t : List Int} {Ro : List Row} {m : Mach} {p : Addr × Cell} {te jo fr : Option AV} {wy : AV} (Rr : Rm 12 A) (hi : i ≤ 40)
    (hE : EdS ad t Ro m own) (ha : m.a = ⟨Ao, dA, so, mn⟩) (hV : VS V dV EQ .none [] m) (hD : DkOK D D0 D1 m.d) (hAm : AmOk lw many so mn) (hT : entT (es0 ++ [(e1, ta, t0, fl)]) own) (hl : t.length ≤ 5 + 2 * i) (hr : Ro.length ≤ 4 * i) (hn : (es0 ++ [(e1, ta, t0, fl)]).length ≤ i + 1) (hle : ∀ e ∈ es0 ++ [(e1, ta, t0, fl)], e.2.2.1.length ≤ 5 + 2 * i) (hmy : many ≤ i)
    (hLI : ∀ t' Ro' b, Typ t (if joinsA w so mn = true then Ro else bdry Ro) t' Ro' b → LI (entP es0 ++ [(t0, fl || b)]) t' Ro') :
    wpX g A E (envL L) (loopB.drop 7) (Z ((L, .frame (sScope (stAt 76)) (fr2 x D ad.B Ao V (.str w.nm) (.str w.nm) (.int (if joinsA w so mn = true then many + 1 else 1)) (.ref AH) (some (.int tv)) (some wy) te jo fr none none)) :: p :: (AH, .list (entR (es0 ++ [(e1, ta, t0, fl)]))) :: (entC es0 ++ [(e1, .list [.ref ta, .bool fl])])) m own)
      (fun o l2 => (o = .next ∨ o = .cont) ∧ ∃ vs2 l3, l2 = (L, .frame (sScope (stAt 76)) vs2) :: p :: l3 ∧ LoopS ad x D D0 D1 Ao dA V dV EQ AH (i + 1) vs2 l3) := by
  conv => arg 5; whnf
  have fin : ∀ b t' Ro' m' own', m'.v = m.v → (∀ p ∈ own, p ∈ own') → DkOK D D0 D1 m'.d → m'.a = (if joinsA w so mn = true then ⟨Ao, dA, so, mn + 1⟩ else ⟨Ao, dA, if w.plain then w.nm else S "", if w.plain then 1 else 0⟩) →
      Typ t (if joinsA w so mn = true then Ro else bdry Ro) t' Ro' b → EdS ad t' Ro' m' own' → LoopS ad x D D0 D1 Ao dA V dV EQ AH (i + 1) (fr2 x D ad.B Ao V (.str w.nm) (.str w.nm) (.int (if joinsA w so mn = true then many + 1 else 1)) (.ref AH) (some (.int tv)) (some wy) te jo fr none none)
        ((AH, .list (entR (es0 ++ [(e1, ta, t0, fl)]))) :: ((entC es0 ++ [(e1, .list [.ref ta, .bool (fl || b)])]) ++ (W m' ++ own'))) := by
    intro b t' Ro' m' own' h1 h2 h3 h4 h5 h6
    have hbl : (if joinsA w so mn = true then Ro else bdry Ro).length ≤ Ro.length + 1 := by
      have := bdry_len Ro
      split <;> lia
    have hle5 := h5.le
    obtain ⟨so', mn', h7, h8⟩ : ∃ so' mn', m'.a = ⟨Ao, dA, so', mn'⟩ ∧ (so', mn') = (if joinsA w so mn = true then (so, mn + 1) else ((if w.plain then w.nm else S ""), (if w.plain then 1 else 0))) := by
      rw [h4]
      split <;> exact ⟨_, _, rfl, rfl⟩
    refine ⟨⟨es0 ++ [(e1, ta, t0, fl || b)], some w, w, _, mn', so', t', Ro', m', own', _, _, _, _, _, ?_, rfl, h6, h7, h1.trans hV, h3, am_next w hAm so' mn' h8, ?_, .inr (by simp), ?_, by lia, by lia, by simpa using hn, ?_, ?_⟩⟩
    · rw [entR_append, entR_append, entC_append, List.append_assoc, List.append_assoc]; rfl
    · rw [entP_append]; exact hLI t' Ro' b h5
    · intro e he
      rcases List.mem_append.mp he with he | he
      · exact h2 _ (hT e (List.mem_append_left _ he))
      · rw [List.mem_singleton] at he; subst he
        exact h2 _ (hT (e1, ta, t0, fl) (by simp))
    · intro e he
      rcases List.mem_append.mp he with he | he
      · have := hle e (List.mem_append_left _ he); lia
      · rw [List.mem_singleton] at he; subst he
        have := hle (e1, ta, t0, fl) (by simp)
        show t0.length ≤ _
        have h9 : t0.length ≤ 5 + 2 * i := this
        lia
    · split <;> lia
  refine wX_if (wT_callW (wE_call G__law_typed keep__law_typed Z_fr (by kernel_rfl) (PL.use' (as := [.ref D, .ref ad.B, .ref Ao, .str w.nm, .int (50 + tv)]) (by k_subL) (wpK_C (typed_ (Rm.less Rr (by decide)) hE ha hD (by lia) (by lia) fun b t' Ro' m' own' h1 h2 h3 h4 h5 h6 => ⟨b, rfl, ?_⟩))) (by kernel_rfl) (by kernel_rfl)))
  have hfin := fin b t' Ro' m' own' h1 h2 h3 h4 h5 h6
  cases b with
  | false =>
    rw [if_neg (by decide)]
    rw [Bool.or_false] at hfin
    exact wX_nil (wX_nil ⟨.inl rfl, _, _, rfl, hfin⟩)
  | true =>
    rw [if_pos rfl]
    rw [Bool.or_true] at hfin
    have hAH : (AH, Cell.list (entR (es0 ++ [(e1, ta, t0, fl)]))) ∈ Z ((L, .frame (sScope (stAt 76)) (fr2 x D ad.B Ao V (.str w.nm) (.str w.nm) (.int (if joinsA w so mn = true then many + 1 else 1)) (.ref AH) (some (.int tv)) (some wy) te jo fr none none)) :: p :: (AH, .list (entR (es0 ++ [(e1, ta, t0, fl)]))) :: (entC es0 ++ [(e1, .list [.ref ta, .bool fl])])) m' own' := .tail _ (.tail _ (.head _))
    have hidx : IdxAt (entR (es0 ++ [(e1, ta, t0, fl)])) (-1) (.ref e1) := by
      rw [entR_append]
      refine .inr ⟨by decide, by simp [entR]; lia, ?_⟩
      rw [show ((-1 : Int) + ((entR es0 ++ entR [(e1, ta, t0, fl)]).length : Nat)).toNat = (entR es0).length from by simp [entR]; lia]
      rw [List.getElem?_append_right (Nat.le_refl _), Nat.sub_self]; rfl
    have hput : LPut e1 (.list [.ref ta, .bool fl]) (.list ([AV.ref ta, .bool fl].set 1 (.bool true))) (Z ((L, .frame (sScope (stAt 76)) (fr2 x D ad.B Ao V (.str w.nm) (.str w.nm) (.int (if joinsA w so mn = true then many + 1 else 1)) (.ref AH) (some (.int tv)) (some wy) te jo fr none none)) :: p :: (AH, .list (entR (es0 ++ [(e1, ta, t0, fl)]))) :: (entC es0 ++ [(e1, .list [.ref ta, .bool fl])])) m' own')
        (Z ((L, .frame (sScope (stAt 76)) (fr2 x D ad.B Ao V (.str w.nm) (.str w.nm) (.int (if joinsA w so mn = true then many + 1 else 1)) (.ref AH) (some (.int tv)) (some wy) te jo fr none none)) :: p :: (AH, .list (entR (es0 ++ [(e1, ta, t0, fl)]))) :: (entC es0 ++ [(e1, .list ([AV.ref ta, .bool fl].set 1 (.bool true)))])) m' own') :=
      .tail (.tail (.tail (((LPut.appL .head _)).appR _)))
    refine wX_item (PE.use PE_bool ⟨e1, _, 1, _, PE_item (by k_subL) (PE_neg PE_int) hAH hidx (by kernel_rfl), PE_int, by simp, hput, ?_⟩) (by kernel_rfl)
    exact wX_nil (wX_nil ⟨.inl rfl, _, _, rfl, hfin⟩)
end
section
variable {g : Gx} {A : Around} {E : Value → Shared → Prop} {pre own : Led} {T dT CL B dB M dM MD LL R dR U dU RL Ao dA V dV EQ D D0 D1 : Addr} {xs rows big cells : List AV} {gs ge pt zv tk ct sv mn n : Int} {pb nt pn il : AV} {so : PySem.Str} {eq : List (Int × Int)} {gg : Gp} {bb : Bf} {uu : Option Un} {aa : Am} {vv : Ug} {dd : Dk}
theorem EdS.dk {ad : Ad} {t : List Int} {Ro : List Row} {m : Mach} {dd' : Dk} (h : EdS ad t Ro m own) : EdS ad t Ro ⟨m.g, m.b, m.u, m.a, m.v, dd'⟩ own := by
  obtain ⟨h1, h2, h3, pt, tk, ct, sv, RL, rows, pb, nt, h4, h5, h6, h7, h8, h9, h10⟩ := h
  exact ⟨h1, h2, h3, pt, tk, ct, sv, RL, rows, pb, nt, h4, h5, h6, h7, h8, h9, h10⟩
theorem loop_step_ {ad : Ad} {L x D D0 D1 Ao dA V dV EQ AH : Addr} {i : Nat} {vs1 : List (PySem.Str × Option AV)} {l : Led} {p : Addr × Cell} (Rr : Rm 12 A) (hi : i < 32) (hS : LoopS ad x D D0 D1 Ao dA V dV EQ AH i vs1 l) :
    ∃ vs', VPut (S "turn") (.int (0 + (i : Int) * 1)) vs1 vs' ∧ wpX g A (fun _ _ => False) (envL L) loopB ((L, .frame (sScope (stAt 76)) vs') :: p :: l) fun o l2 => (o = .next ∨ o = .cont) ∧ ∃ vs2 l3, l2 = (L, .frame (sScope (stAt 76)) vs2) :: p :: l3 ∧ LoopS ad x D D0 D1 Ao dA V dV EQ AH (i + 1) vs2 l3 := by
  obtain ⟨es, lw, w0, many, mn, so, t, Ro, m, own, tu, wa, te, jo, fr, rfl, rfl, hE, ha, hV, hD, hAm, hLI, hne, hT, hl, hr, hn, hle, hmy⟩ := hS.ex
  refine ⟨fr2 x D ad.B Ao V (.str w0.nm) (.str (lastNm lw)) (.int many) (.ref AH) (some (.int (0 + (i : Int) * 1))) wa te jo fr none none, by k_updF, ?_⟩
  show wpX g A _ (envL L) loopB (Z ((L, .frame (sScope (stAt 76)) (fr2 x D ad.B Ao V (.str w0.nm) (.str (lastNm lw)) (.int many) (.ref AH) (some (.int (0 + (i : Int) * 1))) wa te jo fr none none)) :: p :: (AH, .list (entR es)) :: entC es) m own) _
  refine loopA1_ Rr hE hD fun w own1 r dd' hm1 hD' => ?_
  refine loopA2_ (m := ⟨m.g, m.b, m.u, m.a, m.v, dd'⟩) Rr ((hE.dk (dd' := dd')).more hm1) fun j z own2 hm2 hz hj => ?_
  have hE2 : EdS ad t Ro ⟨m.g, m.b, m.u, m.a, m.v, dd'⟩ own2 := (hE.dk (dd' := dd')).more fun p hp => hm2 _ (hm1 _ hp)
  have hT2 : entT es own2 := fun e he => hm2 _ (hm1 _ (hT e he))
  have hjj : joinsA w so mn = j := by rw [am_joins w hAm, hj]
  conv => arg 5; whnf
  cases j with
  | true =>
    refine tX_ifF (c := !true) (by k_subL) rfl ?_
    have hes : es ≠ [] := by
      rcases hne with rfl | h
      · exfalso
        rw [am_joins w hAm] at hjj
        have := nm_e w
        rw [show lastNm none = S "" from rfl, this] at hjj
        simp at hjj
      · exact h
    obtain ⟨es0, e, rfl⟩ : ∃ es0 e, es = es0 ++ [e] := by
      rcases List.eq_nil_or_concat es with h | ⟨a, b, h⟩
      · exact absurd h hes
      · exact ⟨a, b, by rw [h, List.concat_eq_append]⟩
    obtain ⟨e1, ta, t0, fl⟩ := e
    have key := loopB2_ (g := g) (E := fun _ _ => False) (AH := AH) (L := L) (x := x) (p := p) (te := some (.ref z)) (jo := some (.bool true)) (fr := some (.bool (!true))) (wy := .int r) (tv := 0 + (i : Int) * 1) (i := i) (es0 := es0) (e1 := e1) (ta := ta) (t0 := t0) (fl := fl) (w := w) Rr (by lia) hE2 ha hV hD' hAm hT2 hl hr (by lia) hle hmy fun t' Ro' b k => by
      rw [hjj, if_pos rfl] at k
      rw [entP_append] at hLI
      exact hLI.join (by lia) k
    rw [hjj] at key
    rw [entC_append]
    exact wX_nil key
  | false =>
    refine tX_ifT (c := !false) (by k_subL) rfl ?_
    refine tX_expr (by kernel_rfl) (by kernel_rfl) (wE_append (x := AH) (by k_subL) ⟨entR es, .tail _ (.tail _ (.head _))⟩ (tE_list (as := [.ref z, .bool false]) (by k_subL) (by unfold Big; simp) fun e1 => ⟨entR es, _, .tail (.tail .head), by have : (entR es).length = es.length := List.length_map _; unfold Big; lia, ?_⟩) (by rfl) (by kernel_rfl))
    refine wX_nil ?_
    have key := loopB2_ (g := g) (E := fun _ _ => False) (AH := AH) (L := L) (x := x) (p := p) (te := some (.ref z)) (jo := some (.bool false)) (fr := some (.bool (!false))) (wy := .int r) (tv := 0 + (i : Int) * 1) (i := i) (es0 := es) (e1 := e1) (ta := z) (t0 := t) (fl := false) (w := w) Rr (by lia) hE2 ha hV hD' hAm
      (fun e he => (List.mem_append.mp he).elim (hT2 e) fun he => by rw [List.mem_singleton] at he; subst he; exact hz) hl hr (by simp; lia) (fun e he => (List.mem_append.mp he).elim (hle e) fun he => by rw [List.mem_singleton] at he; subst he; exact hl) hmy fun t' Ro' b k => by
      rw [hjj, if_neg (by decide)] at k
      rw [Bool.false_or]
      exact hLI.fresh (by lia) k
    rw [hjj] at key
    rw [entR_append] at key
    have pm : (Z ((L, .frame (sScope (stAt 76)) (fr2 x D ad.B Ao V (.str w.nm) (.str w.nm) (.int (if false = true then many + 1 else 1)) (.ref AH) (some (.int (0 + (i : Int) * 1))) (some (.int r)) (some (.ref z)) (some (.bool false)) (some (.bool (!false))) none none)) :: p :: (AH, .list (entR es ++ [.ref e1])) :: entC es) ⟨m.g, m.b, m.u, m.a, m.v, dd'⟩ ((e1, .list [.ref z, .bool false]) :: own2)).Perm _ := Z_move
    exact wpS.perm pm key
end
section
variable {g : Gx} {A : Around} {E : Value → Shared → Prop} {pre own : Led} {T dT CL B dB M dM MD LL R dR U dU RL Ao dA V dV EQ D D0 D1 : Addr} {xs rows big cells : List AV} {gs ge pt zv tk ct sv mn n : Int} {pb nt pn il : AV} {so : PySem.Str} {eq : List (Int × Int)} {gg : Gp} {bb : Bf} {uu : Option Un} {aa : Am} {vv : Ug} {dd : Dk}
theorem law4_ {ad : Ad} {L x D D0 D1 Ao dA V dV EQ AH : Addr} {t : List Int} {m : Mach} {Φ : Out → Led → Prop} (Rr : Rm 20 A) (hE : EdS ad t [] m own) (ha : m.a = ⟨Ao, dA, S "", 0⟩) (hV : VS V dV EQ .none [] m) (hD : DkOK D D0 D1 m.d) (ht : t.length ≤ 5)
    (h : ∀ n vs1 l, n < 32 → LoopS ad x D D0 D1 Ao dA V dV EQ AH n vs1 l → wpX g A E (envL L) (lawRest 6) ((L, .frame (sScope (stAt 76)) vs1) :: l) Φ) :
    wpX g A E (envL L) (lawRest 5) (Z [(L, .frame (sScope (stAt 76)) (fr2 x D ad.B Ao V (.str (S "insert")) (.str (S "")) (.int 0) (.ref AH) none none none none none none none)), (AH, .list [])] m own) Φ := by
  obtain ⟨gg, bb, uu, aa, vv, dd⟩ := m
  have hs : lawRest 5 = .For (.Name (S "turn") (forHd (lawRest 5)).1) (forHd (lawRest 5)).2.1 loopB [] (forHd (lawRest 5)).2.2.2 :: lawRest 6 := by kernel_rfl
  rw [hs]; clear hs
  refine wX_for Rr.handled ?_ (fun _ => by kernel_rfl)
  conv => arg 5; whnf
  refine wE_typ B_range Z_fr (by kernel_rfl) (wL_cons (wE_bin (PE.use PE_int (wE_call G__law_draw keep__law_draw Z_fr (by kernel_rfl) (PL.use' (as := [.ref D, .int 20]) (by k_subL) (wpK_C (draw_ (Rm.less Rr (by decide)) (by lia) (by lia) hD fun r dd' own1 hr1 hr2 hm hD' => ⟨_, .add, ?_⟩))) (by kernel_rfl) (by kernel_rfl)))) (by kernel_rfl)) (by kernel_rfl) (by kernel_rfl)
  obtain ⟨n, hn⟩ : ∃ n : Nat, 12 + r = n := ⟨(12 + r).toNat, by lia⟩
  rw [hn]
  refine wL_nil (wK_range1 fun q => ⟨rangeL 0 1 n, _, _, LoopS ad x D D0 D1 Ao dA V dV EQ AH, .inr ⟨q, 0, n, 1, n, rfl, rfl, rfl, by have := small_up (a := 0) (n := n) (by lia) (by lia) (by lia); rwa [Int.zero_add] at this, by have := range_up (a := 0) (n := n); rwa [Int.zero_add] at this⟩, ?_, ?_, ?_⟩)
  · exact ⟨⟨[], none, .ins, 0, 0, S "", t, [], ⟨gg, bb, uu, aa, vv, dd'⟩, own1, none, none, none, none, none, rfl, rfl, (hE.dk (dd' := dd')).more hm, ha, hV, hD', rfl, .start, .inl rfl, fun e he => by simp at he, by lia, by simp, by simp, fun e he => by simp at he, by lia⟩⟩
  · rintro i a vs1 l p hx hS
    have hin : i < n := by have := some_lt hx; rwa [rangeL_len] at this
    have e : a = .int (0 + (i : Int) * 1) := by
      unfold rangeL at hx
      rw [List.getElem?_map, List.getElem?_range hin] at hx
      exact (Option.some.inj hx).symm
    subst e
    exact loop_step_ (Rm.less Rr (by decide)) (by lia) hS
  · intro vs1 l hS
    rw [rangeL_len] at hS
    exact h n vs1 l (by lia) hS
end
section
variable {g : Gx} {A : Around} {E : Value → Shared → Prop} {pre own : Led} {T dT CL B dB M dM MD LL R dR U dU RL Ao dA V dV EQ D D0 D1 : Addr} {xs rows big cells : List AV} {gs ge pt zv tk ct sv mn n : Int} {pb nt pn il : AV} {so : PySem.Str} {eq : List (Int × Int)} {gg : Gp} {bb : Bf} {uu : Option Un} {aa : Am} {vv : Ug} {dd : Dk}
noncomputable def entX (es : List Ent) : List AV := (es.filter fun e => e.2.2.2).map fun e => AV.ref e.2.1
theorem chg_entP (es : List Ent) : chg (entP es) = (es.filter fun e => e.2.2.2).map fun e => e.2.2.1 := by
  induction es with
  | nil => rfl
  | cons e r ih =>
    obtain ⟨a, b, c, d⟩ := e
    unfold chg entP at *
    cases d <;> simp [ih]
theorem law5_ {ad : Ad} {L x D D0 D1 Ao dA V dV EQ AH : Addr} {n : Nat} {vs1 : List (PySem.Str × Option AV)} {l : Led} {Φ : Out → Led → Prop} (Rr : Rm 20 A) (hn : n < 32) (hS : LoopS ad x D D0 D1 Ao dA V dV EQ AH n vs1 l)
    (h : ∀ TX (xs : List AV) (Ts : List (List Int)) t Ro m own pre so la mn tu wa te jo fr, EdS ad t Ro m own → VS V dV EQ .none [] m → (TX, Cell.list xs) ∈ own → xs.length = Ts.length → (∀ (i : Nat) (a : AV) (u : List Int), xs[i]? = some a → Ts[i]? = some u → ∃ z, a = AV.ref z ∧ (z, Cell.list (u.map AV.int)) ∈ own) →
      (∃ Xs Ts0, RunG Xs Ts0 t ∧ bdry Ro = flat Xs ∧ Ts = Ts0 ++ [t]) → (∀ u ∈ Ts, u.length ≤ 80) → Ro.length ≤ 130 → Ts.length ≤ 33 →
      wpX g A E (envL L) (lawRest 7) (Z ((L, .frame (sScope (stAt 76)) (fr2 x D ad.B Ao V so la mn (.ref AH) tu wa te jo fr (some (.ref TX)) none)) :: pre) m own) Φ) :
    wpX g A E (envL L) (lawRest 6) ((L, .frame (sScope (stAt 76)) vs1) :: l) Φ := by
  obtain ⟨es, lw, w0, many, mn, so, t, Ro, m, own, tu, wa, te, jo, fr, rfl, rfl, hE, ha, hV, hD, hAm, hLI, hne, hT, hl, hr, hne2, hle, hmy⟩ := hS.ex
  obtain ⟨Xs, hRun, hbd⟩ := hLI.close
  show wpX g A E (envL L) (lawRest 6) (Z ((L, .frame (sScope (stAt 76)) (fr2 x D ad.B Ao V (.str w0.nm) (.str (lastNm lw)) (.int many) (.ref AH) tu wa te jo fr none none)) :: (AH, .list (entR es)) :: entC es) m own) Φ
  obtain ⟨gg, bb, uu, aa, vv, dd⟩ := m
  obtain ⟨hG, hl2, hrl, pt, tk, ct, sv, RL, rows, pb, nt, rfl, hp1, hp2, rfl, hpb, hnt, hR⟩ := hE
  obtain ⟨p, q, s, rfl, ht, hcells⟩ := id hG
  have hlen := congrArg List.length ht
  rw [List.length_map] at hlen
  have hE : ∀ own', (∀ p ∈ own, p ∈ own') → EdS ad t Ro ⟨⟨ad.T, ad.dT, ad.CL, p ++ (q ++ s), (p.length : Nat), ((p.length + q.length : Nat) : Int)⟩, ⟨ad.B, ad.dB, ad.M, ad.dM, ad.MD, ad.LL, pt, (t.length : Nat) + 1, tk, ct, sv⟩, some ⟨ad.R, ad.dR, ad.U, ad.dU, RL, rows, pb, nt⟩, aa, vv, dd⟩ own' := fun own' hm => .mk' hG hl2 hrl rfl hp1 hp2 hpb hnt (hR.more hm)
  conv => arg 5; whnf
  refine tX_nameE (tE_add ?_) (by kernel_rfl)
  refine wpS.permR (wE_comp (cl' := []) (ns := [S "text", S "is_changed"]) Rr.handled ⟨by kernel_rfl, by kernel_rfl, by decide +kernel, by decide +kernel, allS ⟨by kernel_rfl, by kernel_rfl⟩ (allS ⟨by kernel_rfl, by kernel_rfl⟩ all0), by decide +kernel⟩ (fun _ => rfl) (PE.use (a := .ref AH) (by k_subL) ?_))
  refine ⟨AH, entR es, fun i ys l' => ys = entX (es.take i) ∧ l' = Z ((L, .frame (sScope (stAt 76)) (fr2 x D ad.B Ao V (.str w0.nm) (.str (lastNm lw)) (.int many) (.ref AH) tu wa te jo fr none none)) :: (AH, .list (entR es)) :: entC es) ⟨⟨ad.T, ad.dT, ad.CL, p ++ (q ++ s), (p.length : Nat), ((p.length + q.length : Nat) : Int)⟩, ⟨ad.B, ad.dB, ad.M, ad.dM, ad.MD, ad.LL, pt, (t.length : Nat) + 1, tk, ct, sv⟩, some ⟨ad.R, ad.dR, ad.U, ad.dU, RL, rows, pb, nt⟩, aa, vv, dd⟩ own, rfl, ⟨?_, ?_, ?_⟩, ?_, ?_⟩
  · rintro i ys l' ⟨-, rfl⟩; exact .tail _ (.head _)
  · exact ⟨rfl, rfl⟩
  · rintro C it D2 i a ys l' hxa ⟨rfl, rfl⟩
    have hi : i < es.length := by have := some_lt hxa; simpa [entR] using this
    obtain ⟨⟨e1, ta, t0, fl⟩, hes'⟩ : ∃ e, es[i]? = some e := ⟨_, List.getElem?_eq_getElem hi⟩
    have e : a = .ref e1 := by
      unfold entR at hxa
      rw [List.getElem?_map, hes'] at hxa
      exact (Option.some.inj hxa).symm
    subst e
    have hcell : (e1, Cell.list [.ref ta, .bool fl]) ∈ entC es := List.mem_map.mpr ⟨(e1, ta, t0, fl), List.mem_of_getElem? hes', rfl⟩
    have hstep : entX (es.take (i + 1)) = entX (es.take i) ++ (if fl = true then [.ref ta] else []) := by
      unfold entX
      rw [List.take_add_one, hes', List.filter_append, List.map_append]
      cases fl <;> simp
    refine ⟨[(S "text", some (.ref ta)), (S "is_changed", some (.bool fl))], rfl, takes_pair Rr.handled ⟨rfl, rfl⟩ (by decide +kernel) (.head _) (.tail _ (.tail _ (Z_pre (.tail _ (.tail _ hcell))))), wpI_one (PT.use (PT_name (PE_nameG ⟨rfl, rfl⟩ (.head _) (.tail _ (.head _))) .bool) ?_)⟩
    cases fl with
    | true =>
      rw [if_pos rfl]
      refine PE.use (PE_nameG ⟨rfl, rfl⟩ (.head _) (.head _)) ⟨[(S "text", some (.ref ta)), (S "is_changed", some (.bool true))], _, .refl _, rfl, ?_, rfl⟩
      rw [hstep, if_pos rfl]
    | false =>
      rw [if_neg (by decide)]
      refine ⟨[(S "text", some (.ref ta)), (S "is_changed", some (.bool false))], _, .refl _, rfl, ?_, rfl⟩
      rw [hstep, if_neg (by decide), List.append_nil]
  · rintro i ys l' ⟨rfl, -⟩
    unfold entX
    rw [List.length_map]
    exact Nat.le_trans (List.length_filter_le _ _) (by rw [List.length_take]; lia)
  · rintro D2 ys l' ⟨rfl, rfl⟩
    have hlr : (entR es).length = es.length := by simp [entR]
    rw [hlr, List.take_of_length_le (Nat.le_refl _)]
    have hXl : (entX es).length ≤ es.length := by unfold entX; rw [List.length_map]; exact List.length_filter_le _ _
    refine ⟨_, Z_new, ?_⟩
    refine wpS.permR (wE_list (wL_cons ?_ (by kernel_rfl)))
    k_memK
    rw [show (((p ++ s).length : Nat) : Int) + 1 = ((p.length + s.length + 1 : Nat) : Int) from by rw [List.length_append]; lia]
    refine bcodes_ (i := 1) (Rm.less Rr (by decide)) (by lia) (by lia) (by lia) (by lia) fun z => ?_
    rw [show ((p ++ s).take (p.length + s.length + 1 - 1)).drop (1 - 1) = t.map .int from by rw [← ht]; exact List.take_of_length_le (by simp)]
    refine wL_nil ⟨by unfold Big; simp, fun y => ⟨_, Z_new, D2, y, entX es, [.ref z], _, _, _, rfl, rfl, rfl, Z_own (.tail _ (.tail _ (.head _))), Z_own (.head _), by unfold Big; simp; lia, fun TX => ⟨_, _, _, _, _, rfl, by k_updF, ?_⟩⟩⟩
    have hmm : ∀ p ∈ own, p ∈ (TX, Cell.list (entX es ++ [.ref z])) :: (y, Cell.list [.ref z]) :: (z, Cell.list (t.map .int)) :: (D2, Cell.list (entX es)) :: own := fun p hp => .tail _ (.tail _ (.tail _ (.tail _ hp)))
    have hcl : (chg (entP es)).length = (entX es).length := by rw [chg_entP]; unfold entX; rw [List.length_map, List.length_map]
    refine h TX (entX es ++ [.ref z]) (chg (entP es) ++ [t]) t Ro _ _ _ _ _ _ _ _ _ _ _ (hE _ hmm) hV (.head _) (by simp [hcl]) ?_ ⟨Xs, _, hRun, hbd, rfl⟩ ?_ (by lia) (by simp [hcl]; lia)
    · intro i a u h1 h2
      rcases Nat.lt_or_ge i (entX es).length with hi | hi
      · rw [List.getElem?_append_left hi] at h1
        rw [List.getElem?_append_left (by lia), chg_entP] at h2
        unfold entX at h1
        rw [List.getElem?_map] at h1 h2
        obtain ⟨e, he, rfl⟩ := Option.map_eq_some_iff.mp h1
        rw [he] at h2
        cases h2
        exact ⟨_, rfl, hmm _ (hT e (List.mem_filter.mp (List.mem_of_getElem? he)).1)⟩
      · rw [List.getElem?_append_right hi] at h1
        rw [List.getElem?_append_right (by lia)] at h2
        have := some_lt h1
        have e0 : i - (entX es).length = 0 := by simp at this; lia
        rw [e0] at h1
        rw [hcl, e0] at h2
        cases h1; cases h2
        exact ⟨z, rfl, .tail _ (.tail _ (.head _))⟩
    · intro u hu
      rcases List.mem_append.mp hu with hu | hu
      · rw [chg_entP] at hu
        obtain ⟨e, he, rfl⟩ := List.mem_map.mp hu
        have := hle e (List.mem_filter.mp he).1
        lia
      · rw [List.mem_singleton] at hu; subst hu; lia
end
section
variable {g : Gx} {A : Around} {E : Value → Shared → Prop} {pre own : Led} {T dT CL B dB M dM MD LL R dR U dU RL Ao dA V dV EQ D D0 D1 : Addr} {xs rows big cells : List AV} {gs ge pt zv tk ct sv mn n : Int} {pb nt pn il : AV} {so : PySem.Str} {eq : List (Int × Int)} {gg : Gp} {bb : Bf} {uu : Option Un} {aa : Am} {vv : Ug} {dd : Dk}
inductive UndoX (ad : Ad) (x D Ao V dV EQ AH TX : Addr) (As : List (List Row)) (Ts : List (List Int)) (Bs : List (List Row)) (pn : AV) (vs1 : List (PySem.Str × Option AV)) (m : Mach) (own : Led) : Prop
  | mk (so la mn : AV) (tu wa te jo fr pl : Option AV) (tB : List Int) (ev : vs1 = fr2 x D ad.B Ao V so la mn (.ref AH) tu wa te jo fr (some (.ref TX)) pl) (hU : UPh ad V dV EQ As Bs pn tB m own) (hC : Chains As Bs Ts) (hB : Ts[As.length - Bs.length]? = some tB) : UndoX ad x D Ao V dV EQ AH TX As Ts Bs pn vs1 m own
structure UndoS (ad : Ad) (x D Ao V dV EQ AH TX : Addr) (As : List (List Row)) (Ts : List (List Int)) (Bs : List (List Row)) (pn : AV) (vs1 : List (PySem.Str × Option AV)) (m : Mach) (own : Led) : Prop where
  ex : UndoX ad x D Ao V dV EQ AH TX As Ts Bs pn vs1 m own
noncomputable def TxtOk (TX : Addr) (xs : List AV) (Ts : List (List Int)) (own : Led) : Prop := (TX, Cell.list xs) ∈ own ∧ xs.length = Ts.length ∧ ∀ (i : Nat) (a : AV) (u : List Int), xs[i]? = some a → Ts[i]? = some u → ∃ z, a = AV.ref z ∧ (z, Cell.list (u.map AV.int)) ∈ own
theorem TxtOk.more {TX : Addr} {xs : List AV} {Ts : List (List Int)} {own own' : Led} (h : TxtOk TX xs Ts own) (hm : ∀ p ∈ own, p ∈ own') : TxtOk TX xs Ts own' :=
  ⟨hm _ h.1, h.2.1, fun i a u h1 h2 => let ⟨z, e, k⟩ := h.2.2 i a u h1 h2; ⟨z, e, hm _ k⟩⟩
theorem UPh.eds {ad : Ad} {As Bs : List (List Row)} {t : List Int} {m : Mach} (h : UPh ad V dV EQ As Bs pn t m own) : ∃ Ro, EdS ad t Ro m own := by obtain ⟨Ro, es, h1, -⟩ := h.ex; exact ⟨Ro, h1⟩
noncomputable def undoB (k : Nat) : List Stmt := (forHd (lawRest k)).2.2.1
theorem same_text_ {ad : Ad} {L x D Ao AH TX : Addr} {xs : List AV} {Ts : List (List Int)} {t : List Int} {Ro : List Row} {m : Mach} {k : Nat} {so la mn : AV} {tu wa te jo fr : Option AV} {Φ : Out → Led → Prop} (Rr : Rm 12 A) (hE : EdS ad t Ro m own) (hX : TxtOk TX xs Ts own) (hk : Ts[k]? = some t)
    (h : ∀ own', (∀ p ∈ own, p ∈ own') → wpX g A E (envL L) [] (Z ((L, .frame (sScope (stAt 76)) (fr2 x D ad.B Ao V so la mn (.ref AH) tu wa te jo fr (some (.ref TX)) (some (.int (k : Nat))))) :: pre) m own') Φ) :
    wpX g A E (envL L) ((undoB 7).drop 1) (Z ((L, .frame (sScope (stAt 76)) (fr2 x D ad.B Ao V so la mn (.ref AH) tu wa te jo fr (some (.ref TX)) (some (.int (k : Nat))))) :: pre) m own) Φ := by
  obtain ⟨gg, bb, uu, aa, vv, dd⟩ := m
  obtain ⟨hG, hl2, hrl, pt, tk, ct, sv, RL, rows, pb, nt, rfl, hp1, hp2, rfl, hpb, hnt, hR⟩ := hE
  obtain ⟨p, q, s, rfl, ht, hcells⟩ := id hG
  have hlen := congrArg List.length ht
  rw [List.length_map] at hlen
  have hkl := some_lt hk
  obtain ⟨a, ha⟩ : ∃ a, xs[k]? = some a := ⟨_, List.getElem?_eq_getElem (by rw [hX.2.1]; exact hkl)⟩
  obtain ⟨zt, rfl, hzt⟩ := hX.2.2 k a t ha hk
  have hTX := hX.1
  have hu : A.units < cLine := by have := Rr.units; lia
  conv => arg 5; whnf
  refine wX_if (wT_cmp ?_ (by kernel_rfl))
  k_memK
  rw [show (((p ++ s).length : Nat) : Int) + 1 = ((p.length + s.length + 1 : Nat) : Int) from by rw [List.length_append]; lia]
  refine bcodes_ (i := 1) (Rm.less Rr (by decide)) (by lia) (by lia) (by lia) (by lia) fun z => ?_
  rw [show ((p ++ s).take (p.length + s.length + 1 - 1)).drop (1 - 1) = t.map .int from by rw [← ht]; exact List.take_of_length_le (by simp)]
  refine PE.use (PE_item (a := .ref zt) (k := (k : Nat)) (by k_subL) (by k_subL) (Z_own (.tail _ hTX)) (.inl ⟨by lia, by simpa using ha⟩) (by kernel_rfl)) ⟨_, PCmp_lstNe (xs := t) (ys := t) hu (Z_own (.head _)) (Z_own (.tail _ hzt)), ?_⟩
  rw [if_neg (by simp)]
  exact wX_nil (h _ fun p hp => .tail _ hp)
end
section
variable {g : Gx} {A : Around} {E : Value → Shared → Prop} {pre own : Led} {T dT CL B dB M dM MD LL R dR U dU RL Ao dA V dV EQ D D0 D1 : Addr} {xs rows big cells : List AV} {gs ge pt zv tk ct sv mn n : Int} {pb nt pn il : AV} {so : PySem.Str} {eq : List (Int × Int)} {gg : Gp} {bb : Bf} {uu : Option Un} {aa : Am} {vv : Ug} {dd : Dk}
theorem same_text2_ {ad : Ad} {L x D Ao AH TX : Addr} {xs : List AV} {Ts : List (List Int)} {t : List Int} {Ro : List Row} {m : Mach} {k : Nat} {so la mn : AV} {tu wa te jo fr : Option AV} {Φ : Out → Led → Prop} (Rr : Rm 12 A) (hE : EdS ad t Ro m own) (hX : TxtOk TX xs Ts own) (hk : Ts[k]? = some t)
    (h : ∀ own', (∀ p ∈ own, p ∈ own') → wpX g A E (envL L) [] (Z ((L, .frame (sScope (stAt 76)) (fr2 x D ad.B Ao V so la mn (.ref AH) tu wa te jo fr (some (.ref TX)) (some (.int (k : Nat))))) :: pre) m own') Φ) :
    wpX g A E (envL L) ((undoB 9).drop 1) (Z ((L, .frame (sScope (stAt 76)) (fr2 x D ad.B Ao V so la mn (.ref AH) tu wa te jo fr (some (.ref TX)) (some (.int (k : Nat))))) :: pre) m own) Φ := by
  obtain ⟨gg, bb, uu, aa, vv, dd⟩ := m
  obtain ⟨hG, hl2, hrl, pt, tk, ct, sv, RL, rows, pb, nt, rfl, hp1, hp2, rfl, hpb, hnt, hR⟩ := hE
  obtain ⟨p, q, s, rfl, ht, hcells⟩ := id hG
  have hlen := congrArg List.length ht
  rw [List.length_map] at hlen
  have hkl := some_lt hk
  obtain ⟨a, ha⟩ : ∃ a, xs[k]? = some a := ⟨_, List.getElem?_eq_getElem (by rw [hX.2.1]; exact hkl)⟩
  obtain ⟨zt, rfl, hzt⟩ := hX.2.2 k a t ha hk
  have hTX := hX.1
  have hu : A.units < cLine := by have := Rr.units; lia
  conv => arg 5; whnf
  refine wX_if (wT_cmp ?_ (by kernel_rfl))
  k_memK
  rw [show (((p ++ s).length : Nat) : Int) + 1 = ((p.length + s.length + 1 : Nat) : Int) from by rw [List.length_append]; lia]
  refine bcodes_ (i := 1) (Rm.less Rr (by decide)) (by lia) (by lia) (by lia) (by lia) fun z => ?_
  rw [show ((p ++ s).take (p.length + s.length + 1 - 1)).drop (1 - 1) = t.map .int from by rw [← ht]; exact List.take_of_length_le (by simp)]
  refine PE.use (PE_item (a := .ref zt) (k := (k : Nat)) (by k_subL) (by k_subL) (Z_own (.tail _ hTX)) (.inl ⟨by lia, by simpa using ha⟩) (by kernel_rfl)) ⟨_, PCmp_lstNe (xs := t) (ys := t) hu (Z_own (.head _)) (Z_own (.tail _ hzt)), ?_⟩
  rw [if_neg (by simp)]
  exact wX_nil (h _ fun p hp => .tail _ hp)
theorem UPh.more {ad : Ad} {As Bs : List (List Row)} {t : List Int} {m : Mach} {own' : Led} (h : UPh ad V dV EQ As Bs pn t m own) (k : ∀ p ∈ own, p ∈ own') : UPh ad V dV EQ As Bs pn t m own' := by obtain ⟨Ro, es, h1, h2, h3, h4, h5, h6, h7⟩ := h.ex; exact ⟨⟨Ro, es, h1.more k, h2, h3, h4, h5, h6, h7⟩⟩
theorem pylong1 (a : Int) : Builtin.divisionGoesByPylong a (-1) = false := by kernel_rfl
theorem law6_ {ad : Ad} {L x D Ao V dV EQ AH TX : Addr} {As : List (List Row)} {Ts : List (List Int)} {xs : List AV} {t : List Int} {Ro : List Row} {m : Mach} {so la mn : AV} {tu wa te jo fr : Option AV} {Φ : Out → Led → Prop} (Rr : Rm 20 A) (hE : EdS ad t Ro m own) (hV : VS V dV EQ .none [] m) (hX : TxtOk TX xs Ts own)
    (hC : Chains As [] Ts) (hbd : bdry Ro = flat As) (ht : Ts[As.length]? = some t) (hr : Ro.length ≤ 130) (hTl : Ts.length ≤ 33)
    (h : ∀ Bs pn vs1 m' own', Bs.length = As.length → TxtOk TX xs Ts own' → UndoS ad x D Ao V dV EQ AH TX As Ts Bs pn vs1 m' own' → (0 < As.length → pn = .int 0) → (flat Bs).length ≤ 3 * (flat As).length → (flat As).length ≤ 131 →
      wpX g A E (envL L) (lawRest 8) (Z ((L, .frame (sScope (stAt 76)) vs1) :: pre) m' own') Φ) :
    wpX g A E (envL L) (lawRest 7) (Z ((L, .frame (sScope (stAt 76)) (fr2 x D ad.B Ao V so la mn (.ref AH) tu wa te jo fr (some (.ref TX)) none)) :: pre) m own) Φ := by
  have hs : lawRest 7 = .For (.Name (S "place") (forHd (lawRest 7)).1) (forHd (lawRest 7)).2.1 (undoB 7) [] (forHd (lawRest 7)).2.2.2 :: lawRest 8 := by kernel_rfl
  rw [hs]; clear hs
  have hAl : Ts.length = As.length + 1 := hC.len
  have hfl : (flat As).length ≤ 131 := by rw [← hbd]; have := (bdry_len Ro).2; lia
  have hTX := hX.1
  have hxl := hX.2.1
  generalize hN : As.length = N at *
  refine tX_forR (a := (N : Int) - 1) (b := -1) (c := -1) (n := N) Rr.handled (fun i vs1 m1 own1 => ∃ Bs pn, Bs.length = i ∧ TxtOk TX xs Ts own1 ∧ UndoS ad x D Ao V dV EQ AH TX As Ts Bs pn vs1 m1 own1 ∧ (0 < i → pn = .int (((flat (As.take (N - i))).length - 1 : Nat) : Int)) ∧ (flat Bs).length + 3 * (flat (As.take (N - i))).length ≤ 3 * (flat As).length)
    (fun _ => by kernel_rfl) (small_down (by lia)) range_down ?_ ?_ ?_ ?_
  · intro Φ' hq
    conv => arg 5; whnf
    refine wE_typ B_range Z_fr (by kernel_rfl) (PL.use' (as := [.int ((xs.length : Nat) - 2), .int (-1), .int (-1)]) (PL_cons (by k_subL) (PL_cons (PE_neg PE_int) (PL_cons (PE_neg PE_int) PL_nil (by kernel_rfl)) (by kernel_rfl)) (by kernel_rfl)) (wK_range3 (by decide) (pylong1 _) fun q => ?_)) (by kernel_rfl) (by kernel_rfl)
    rw [show ((xs.length : Nat) : Int) - 2 = (N : Int) - 1 from by lia]
    exact hq q
  · refine ⟨[], .none, rfl, hX, ⟨⟨so, la, mn, tu, wa, te, jo, fr, none, t, rfl, ⟨⟨Ro, [], hE, hV, .none, by rw [hbd, List.append_nil], by simp, fun i hi => by simp at hi, fun h => absurd rfl h⟩⟩, hC, by simpa [hN] using ht⟩⟩, fun h => absurd h (by lia), ?_⟩
    rw [← hN, Nat.sub_zero, List.take_of_length_le (Nat.le_refl _)]; simp [flat]
  · rintro i vs1 m1 own1 p hi ⟨Bs, pn, rfl, hX1, ⟨so1, la1, mn1, tu1, wa1, te1, jo1, fr1, pl1, tB, rfl, hU, hC1, hB⟩, hpn, hsz⟩
    have hTX1 := hX1.1
    refine ⟨fr2 x D ad.B Ao V so1 la1 mn1 (.ref AH) tu1 wa1 te1 jo1 fr1 (some (.ref TX)) (some (.int ((N : Int) - 1 + (Bs.length : Int) * -1))), by k_updF, ?_⟩
    rw [show (N : Int) - 1 + (Bs.length : Int) * -1 = ((N - Bs.length - 1 : Nat) : Int) from by lia]
    conv => arg 5; whnf
    have htA : ∃ tA, Ts[As.length - Bs.length - 1]? = some tA := ⟨_, List.getElem?_eq_getElem (by lia)⟩
    obtain ⟨tA, htA⟩ := htA
    refine tX_expr (by kernel_rfl) (by kernel_rfl) (wE_call G_undo keep_undo Z_fr (by kernel_rfl) (PL.use' (as := [.ref V, .ref ad.B, .int 1, .bool (decide (((N - Bs.length - 1 : Nat) : Int) < (xs.length : Nat) - 2))]) (by k_subL) (wpK_C ?_)) (by kernel_rfl) (by kernel_rfl))
    have hfAB : (flat (As ++ Bs)).length = (flat As).length + (flat Bs).length := by rw [flat_append, List.length_append]
    refine undo_step_ (Rm.less Rr (by decide)) hC1 (by lia) hU hB htA (decide_eq_decide.mpr (by lia)) (fun h0 => by rw [hN]; exact hpn h0) (by lia) (by lia) fun w B m2 own2 hm ha hd hC2 hU2 hs2 => ?_
    rw [hN] at hU2 hs2
    obtain ⟨Ro2, hE2⟩ := hU2.eds
    have hk : Ts[N - Bs.length - 1]? = some tA := by rw [← hN]; exact htA
    refine same_text_ (k := N - Bs.length - 1) (Rm.less Rr (by decide)) hE2 (hX1.more hm) hk fun own3 hm3 => ?_
    have e1 : N - Bs.length - 1 = N - (Bs.length + 1) := by lia
    refine wX_nil ⟨.inl rfl, _, _, _, rfl, Bs ++ [B], _, by simp, (hX1.more hm).more hm3, ⟨⟨_, _, _, _, _, _, _, _, _, tA, rfl, hU2.more hm3, hC2, ?_⟩⟩, fun _ => by rw [e1], ?_⟩
    · rw [hN, List.length_append, List.length_singleton, ← e1]; exact hk
    · rw [e1] at hs2; lia
  · rintro vs1 m1 own1 ⟨Bs, pn, hBl, hX1, hS, hpn, hsz⟩
    refine h Bs pn vs1 m1 own1 hBl hX1 hS (fun h0 => ?_) (by lia) hfl
    rw [hpn h0, Nat.sub_self]; rfl
end
section
variable {g : Gx} {A : Around} {E : Value → Shared → Prop} {pre own : Led} {T dT CL B dB M dM MD LL R dR U dU RL Ao dA V dV EQ D D0 D1 : Addr} {xs rows big cells : List AV} {gs ge pt zv tk ct sv mn n : Int} {pb nt pn il : AV} {so : PySem.Str} {eq : List (Int × Int)} {gg : Gp} {bb : Bf} {uu : Option Un} {aa : Am} {vv : Ug} {dd : Dk}
theorem bdry2 (Ro : List Row) : bdry (bdry Ro) = bdry Ro := by
  refine bdry_at ?_
  unfold bdry
  split
  · assumption
  · unfold atB; simp [Row.isBd]
noncomputable abbrev frB (x D B Ao V : Addr) (so la mn ah : AV) (tu wa te jo fr tx pl : Option AV) : List (PySem.Str × Option AV) := [(S "script", some (.ref x)), (S "deck", some (.ref D)), (S "buffer", some (.ref B)), (S "amalgam", some (.ref Ao)), (S "undoing", some (.ref V)), (S "sort", some so), (S "last", some la), (S "many", some mn), (S "ahead", some ah), (S "turn", tu), (S "way", wa), (S "text", te), (S "joins", jo), (S "is_fresh", fr), (S "texts", tx), (S "place", pl)]
theorem frB_back {x D B Ao V : Addr} {so la mn ah : AV} {tu wa te jo fr tx pl : Option AV} {e : Addr} : ∀ p ∈ fr2 x D B Ao V so la mn ah tu wa te jo fr tx pl, ∀ a, p.2 = some a → p ∈ frB x D B Ao V so la mn ah tu wa te jo fr tx pl ++ [(S "error", some (.ref e))] ∧ p.1 ≠ S "error" := by
  intro p hp a ha
  have hp' : p ∈ frB x D B Ao V so la mn ah tu wa te jo fr tx pl ++ [(S "error", none)] := hp
  rcases List.mem_append.mp hp' with h | h
  · refine ⟨List.mem_append_left _ h, fun e => ?_⟩
    have h2 : p.1 ∈ (frB x D B Ao V so la mn ah tu wa te jo fr tx pl).map (·.1) := List.mem_map_of_mem (f := (·.1)) h
    rw [e] at h2
    have h3 : S "error" ∉ [S "script", S "deck", S "buffer", S "amalgam", S "undoing", S "sort", S "last", S "many", S "ahead", S "turn", S "way", S "text", S "joins", S "is_fresh", S "texts", S "place"] := by decide +kernel
    exact h3 h2
  · rw [List.mem_singleton] at h; subst h; cases ha
theorem frB_put {x D B Ao V : Addr} {so la mn ah : AV} {tu wa te jo fr tx pl : Option AV} {a : AV} : VPut (S "error") a (fr2 x D B Ao V so la mn ah tu wa te jo fr tx pl) (frB x D B Ao V so la mn ah tu wa te jo fr tx pl ++ [(S "error", some a)]) :=
  (.tail (.tail (.tail (.tail (.tail (.tail (.tail (.tail (.tail (.tail (.tail (.tail (.tail (.tail (.tail (.tail .head))))))))))))))))
theorem law7_ {ad : Ad} {L x D Ao V dV EQ AH TX : Addr} {As Bs : List (List Row)} {Ts : List (List Int)} {xs : List AV} {m : Mach} {vs1 : List (PySem.Str × Option AV)} {Φ : Out → Led → Prop} (Rr : Rm 20 A) (hfr : A.frames = some [envL L]) (hS : UndoS ad x D Ao V dV EQ AH TX As Ts Bs pn vs1 m own) (hX : TxtOk TX xs Ts own)
    (hBl : Bs.length = As.length) (hpn : 0 < As.length → pn = .int 0) (hsz : (flat Bs).length ≤ 3 * (flat As).length) (hfl : (flat As).length ≤ 131)
    (h : ∀ vs2 m', UndoS ad x D Ao V dV EQ AH TX As Ts Bs (.int 0) vs2 m' own → wpX g A E (envL L) (lawRest 9) (Z ((L, .frame (sScope (stAt 76)) vs2) :: pre) m' own) Φ) :
    wpX g A E (envL L) (lawRest 8) (Z ((L, .frame (sScope (stAt 76)) vs1) :: pre) m own) Φ := by
  obtain ⟨so, la, mn, tu, wa, te, jo, fr, pl, tB, rfl, hU, hC, hB⟩ := hS.ex
  obtain ⟨Ro, es, hE, hV, hni, hmap, hes, hkeys, hend⟩ := hU.ex
  have hrl : Ro.length ≤ 530 := by
    have h1 := congrArg List.length hmap
    rw [List.length_map, List.length_map, flat_append, List.length_append] at h1
    have := (bdry_len Ro).1
    lia
  have hTX := hX.1
  have hTl : Ts.length = As.length + 1 := hC.len
  have hxl := hX.2.1
  have hpk : (if inRow (decide (1 < ((xs.length : Nat) : Int))) pn es (trimB (bdry Ro) (bdry Ro).length) = true then pn else .int (trimB (bdry Ro) (bdry Ro).length : Nat)) = .int 0 := by
    rcases Nat.eq_zero_or_pos As.length with h0 | h0
    · have hA : As = [] := List.length_eq_zero_iff.mp h0
      have hBn : Bs = [] := List.length_eq_zero_iff.mp (by lia)
      subst hA; subst hBn
      have hb0 : bdry Ro = [] := by simpa [flat] using hmap
      rw [hb0, if_neg (by rw [decide_eq_false (by lia)]; unfold inRow; cases pn <;> simp)]
      rfl
    · rw [hpn h0, decide_eq_true (by lia)]
      rw [if_pos (by unfold inRow; simp)]
  conv => arg 5; whnf
  refine wX_try_sig (vs := fr2 x D ad.B Ao V so la mn (.ref AH) tu wa te jo fr (some (.ref TX)) pl) (l := []) (vsx := fun e => frB x D ad.B Ao V so la mn (.ref AH) tu wa te jo fr (some (.ref TX)) pl ++ [(S "error", some (.ref e))])
    (fun led2 => ∃ m', led2 = pre ++ (W m' ++ own) ∧ EdS ad tB (bdry Ro) m' own ∧ VS V dV EQ (.int 0) es m') hfr (by kernel_rfl) (fun e => ?_) (fun e => frB_back) (fun E' hE' => ?_) (fun led2 A' e dx hP => ?_) (fun led2 hP => ?_)
  · exact frB_put
  · refine tX_expr (by kernel_rfl) (by kernel_rfl) (wE_call G_undo keep_undo Z_fr (by kernel_rfl) (PL.use' (as := [.ref V, .ref ad.B, .int 1, .bool (decide (1 < ((xs.length : Nat) : Int)))]) (by k_subL) (wpK_C ?_)) (by kernel_rfl) (by kernel_rfl))
    refine undo_fail (t := tB) (Ro := Ro) (es := es) (l := [envL L]) (Rm.less Rr (by decide)) hE hV hni (by lia) hpk hfr (EnvsOk.push (fun _ h => by cases h) (fun h => by rw [F_law.kind] at h; cases h) (.head _)) fun m' h1 h2 h3 h4 => ?_
    exact hE' _ ⟨m', rfl, h3, h4⟩
  · have hn : PE g A' (envL L) ((L, .frame (sScope (stAt 76)) (frB x D ad.B Ao V so la mn (.ref AH) tu wa te jo fr (some (.ref TX)) pl ++ [(S "error", some (.ref e))])) :: (e, .prop (SigAt dx)) :: (dx, .prop (Sd2 (.str (S "user-error")))) :: led2) (.Name (S "error") { line := 631, col := 11, endLine := 631, endCol := 16 }) (.ref e) := PE_name (.head _) (List.mem_append_right _ (.head _))
    refine tX_ifF (c := S "user-error" != S "user-error") (PT_cmp (PE_sig hn (.tail _ (.head _)) (.tail _ (.tail _ (.head _)))) PE_str .sne (by kernel_rfl)) (by simp) ?_
    exact wX_nil (wX_nil ⟨rfl, rfl⟩)
  · obtain ⟨m', rfl, h3, h4⟩ := hP
    refine h _ m' ⟨⟨so, la, mn, tu, wa, te, jo, fr, pl, tB, rfl, ⟨⟨bdry Ro, es, h3, h4, .int, by rw [bdry2]; exact hmap, hes, hkeys, fun hb => ?_⟩⟩, hC, hB⟩⟩
    rw [bdry_at (atB_ends (hend hb))]; exact hend hb
end
section
variable {g : Gx} {A : Around} {E : Value → Shared → Prop} {pre own : Led} {T dT CL B dB M dM MD LL R dR U dU RL Ao dA V dV EQ D D0 D1 : Addr} {xs rows big cells : List AV} {gs ge pt zv tk ct sv mn n : Int} {pb nt pn il : AV} {so : PySem.Str} {eq : List (Int × Int)} {gg : Gp} {bb : Bf} {uu : Option Un} {aa : Am} {vv : Ug} {dd : Dk}
theorem law8_ {ad : Ad} {L x D Ao V dV EQ AH TX : Addr} {As Bs : List (List Row)} {Ts : List (List Int)} {xs : List AV} {m : Mach} {vs1 : List (PySem.Str × Option AV)} {Φ : Out → Led → Prop} (Rr : Rm 20 A) (hS : UndoS ad x D Ao V dV EQ AH TX As Ts Bs pn vs1 m own) (hX : TxtOk TX xs Ts own)
    (hBl : Bs.length = As.length) (hsz : (flat Bs).length ≤ 393) (hfl : (flat As).length ≤ 131) (hTl : Ts.length ≤ 33) (h : ∀ led, Φ (.ret (.bool true)) led) :
    wpX g A E (envL L) (lawRest 9) (Z ((L, .frame (sScope (stAt 76)) vs1) :: pre) m own) Φ := by
  have hs : lawRest 9 = .For (.Name (S "place") (forHd (lawRest 9)).1) (forHd (lawRest 9)).2.1 (undoB 9) [] (forHd (lawRest 9)).2.2.2 :: lawRest 10 := by kernel_rfl
  rw [hs]; clear hs
  have hAl : Ts.length = As.length + 1 := by obtain ⟨_, _, _, _, _, _, _, _, _, _, _, _, hC, _⟩ := hS.ex; exact hC.len
  have hTX := hX.1
  have hxl := hX.2.1
  obtain ⟨so, la, mn, tu, wa, te, jo, fr, pl, tB0, rfl, hU0, hC0, hB0⟩ := id hS.ex
  generalize hN : As.length = N at *
  have hb1 : ((xs.length : Nat) : Int) = 1 + (N : Int) := by lia
  refine tX_forR (a := 1) (b := 1 + (N : Int)) (c := 1) (n := N) Rr.handled (fun i vs1 m1 own1 => ∃ Bs pn, Bs.length = N - i ∧ TxtOk TX xs Ts own1 ∧ UndoS ad x D Ao V dV EQ AH TX As Ts Bs pn vs1 m1 own1 ∧ (flat Bs).length ≤ 393)
    (fun _ => by kernel_rfl) (small_up (by lia) (by lia) (by lia)) range_up ?_ ?_ ?_ ?_
  · intro Φ' hq
    conv => arg 5; whnf
    refine wE_typ B_range Z_fr (by kernel_rfl) (PL.use' (as := [.int 1, .int (xs.length : Nat)]) (by k_subL) (wK_range2 fun q => ?_)) (by kernel_rfl) (by kernel_rfl)
    rw [hb1]
    exact hq q
  · exact ⟨Bs, pn, by lia, hX, hS, hsz⟩
  · rintro i vs1 m1 own1 p hi ⟨Bs1, pn1, hBl1, hX1, ⟨so1, la1, mn1, tu1, wa1, te1, jo1, fr1, pl1, tA, rfl, hU, hC1, hB⟩, hsz1⟩
    obtain ⟨Bs, B, rfl⟩ : ∃ Bs B, Bs1 = Bs ++ [B] := by
      rcases List.eq_nil_or_concat Bs1 with h | ⟨a, b, h⟩
      · rw [h] at hBl1; simp at hBl1; lia
      · exact ⟨a, b, by rw [h, List.concat_eq_append]⟩
    rw [List.length_append, List.length_singleton] at hBl1 hB
    have hfB : (flat (Bs ++ [B])).length = (flat Bs).length + (B.length + 1) := by rw [flat_append, flat_one, List.length_append, List.length_append, List.length_singleton]
    have hfAB : (flat (As ++ (Bs ++ [B]))).length = (flat As).length + (flat (Bs ++ [B])).length := by rw [flat_append, List.length_append]
    refine ⟨fr2 x D ad.B Ao V so1 la1 mn1 (.ref AH) tu1 wa1 te1 jo1 fr1 (some (.ref TX)) (some (.int (1 + (i : Int) * 1))), by k_updF, ?_⟩
    rw [show 1 + (i : Int) * 1 = ((i + 1 : Nat) : Int) from by lia]
    conv => arg 5; whnf
    obtain ⟨tB, htB⟩ : ∃ tB, Ts[As.length - Bs.length]? = some tB := ⟨_, List.getElem?_eq_getElem (by lia)⟩
    refine tX_expr (by kernel_rfl) (by kernel_rfl) (wE_call G_undo_redo keep_undo_redo Z_fr (by kernel_rfl) (PL.use' (as := [.ref V, .ref ad.B, .int 1]) (by k_subL) (wpK_C ?_)) (by kernel_rfl) (by kernel_rfl))
    refine redo_step_ (Rm.less Rr (by decide)) hC1 hU htB (by rw [show As.length - Bs.length - 1 = As.length - (Bs.length + 1) from by lia]; exact hB) (by lia) fun w pn2 m2 own2 hm ha hd hC2 hU2 => ?_
    obtain ⟨Ro2, hE2⟩ := hU2.eds
    have hk : Ts[i + 1]? = some tB := by rw [show i + 1 = As.length - Bs.length from by lia]; exact htB
    refine same_text2_ (k := i + 1) (Rm.less Rr (by decide)) hE2 (hX1.more hm) hk fun own3 hm3 => ?_
    exact wX_nil ⟨.inl rfl, _, _, _, rfl, Bs, _, by lia, (hX1.more hm).more hm3, ⟨⟨_, _, _, _, _, _, _, _, _, tB, rfl, hU2.more hm3, hC2, htB⟩⟩, by lia⟩
  · rintro vs1 m1 own1 -
    conv => arg 5; whnf
    exact wX_ret (PE.use PE_bool (h _))
theorem law_ {x : Addr} {us : List Value} {ns : List Int} {Φ : AV → Led → Prop} (Rr : Rm 21 A) (hfr : A.frames = some []) (hm : g.hb.IsList x us.toArray) (ab : AbL us (ns.map .int)) (hb : ns.length ≤ 1000) (h : ∀ led, Φ (.bool true) led) :
    wpC g A E (.ref f_law) [.ref x] [] Φ := by
  refine enterE F_law Rr rfl fun L => ?_
  have R' : Rm 20 (A.deeper (envL L)) := Rr.deeper _
  have hfr' : (A.deeper (envL L)).frames = some [envL L] := Around.frames_deeper hfr
  generalize A.deeper (envX (S "law") (sScope (stAt 76)) L f_law (.ref 856) []) = A' at *
  generalize (fun e s' => wpAny (model pw g.w) A' (leaving (envX (S "law") (sScope (stAt 76)) L f_law (.ref 856) []) e) (fun _ s'' => E e s'') (fun e' s'' => E e' s'') s') = E'
  show wpX g A' E' (envL L) (sBody (stAt 76)) [(L, .frame (sScope (stAt 76)) (fr0 x none none none none))] (Ret Φ)
  refine law1_ R' hm ab hb fun z D D0 D1 bs cs B dB T dT CL M dM MD LL Ao dA V dV EQ hcs => ?_
  refine law2_ R' ⟨bs, cs, 0, rfl, hcs⟩ fun z2 gg' t tk' ct' dd' own' hG ht hD' => ?_
  refine law3_ R' hG ht fun AH m own1 R dR U dU hE h1 h2 h3 => ?_
  refine law4_ R' hE h1 h2 (by rw [h3]; exact hD') ht fun n vs1 l hn hS => ?_
  refine law5_ R' hn hS fun TX xs Ts t2 Ro m2 own2 pre so la mn tu wa te jo fr hE2 hV2 hTX hxl hxt hRun hTs hr hTl => ?_
  obtain ⟨Xs, Ts0, hRun, hbd, rfl⟩ := hRun
  have hC := hRun.chains fun u hu => Nat.le_trans (hTs u hu) (by decide)
  refine law6_ R' hE2 hV2 ⟨hTX, hxl, hxt⟩ hC hbd (by rw [List.getElem?_append_right (by rw [hRun.len]; exact Nat.le_refl _), hRun.len, Nat.sub_self]; rfl) hr hTl fun Bs pn vs2 m3 own3 hBl hX hS2 hpn hsz hfl => ?_
  refine law7_ R' hfr' hS2 hX hBl hpn hsz hfl fun vs3 m4 hS3 => ?_
  exact law8_ R' hS3 hX hBl (by lia) hfl hTl fun led => ⟨_, _, rfl, List.Sublist.refl _, h _⟩
end
section
variable {g : Gx} {A : Around} {E : Value → Shared → Prop} {pre own : Led} {T dT CL B dB M dM MD LL R dR U dU RL Ao dA V dV EQ D D0 D1 : Addr} {xs rows big cells : List AV} {gs ge pt zv tk ct sv mn n : Int} {pb nt pn il : AV} {so : PySem.Str} {eq : List (Int × Int)} {gg : Gp} {bb : Bf} {uu : Option Un} {aa : Am} {vv : Ug} {dd : Dk}
end
theorem law_def : (defOf q (S "law")).isSome = true := by kernel_rfl
theorem law_name : ((defOf q (S "law")).get law_def).1.name = S "law" := by kernel_rfl
theorem loose_eq : looseW q loose = loose := by kernel_rfl
theorem ints_ab {R : WRecords} {cl : PySem.Str → Option Addr} {h : Heap} {ns : List Int} : ∀ {vs : List Value} {as : List Addr}, ReadsAllW R cl h vs (ns.map .int) as → AbL vs (ns.map .int) := by
  induction ns with
  | nil => intro vs as r; cases r; exact .nil
  | cons n ns ih =>
    intro vs as r
    cases r with
    | cons r1 r2 =>
      obtain ⟨t, rfl, -⟩ := readsW_int_inv r1
      exact .cons ⟨t, rfl⟩ (ih r2)
theorem pre_len {ns : List Int} (h : WTm.holds PySem.Challenge.rw_pq0297_01.row.records PySem.Challenge.rw_pq0297_01.row.pre { args := [.list (ns.map .int)] } = true) : ns.length ≤ 1000 := by
  have e : PySem.Challenge.rw_pq0297_01.row.pre = .and (.not (.lt (.lit (.int 63)) (.len (.arg 0)))) (.lit (.bool true)) := by rfl
  rw [e] at h
  by_cases hc : 63 < ns.length
  · have hd : decide ((63 : Int) < ((ns.length : Nat) : Int)) = true := decide_eq_true (by lia)
    simp only [WTm.holds, WTm.value, less?, Num.less?, List.getElem?_cons_zero, List.length_map, hd, Option.map_some] at h
    cases h
  · lia
theorem post_val {a b : List WData} : WTm.value PySem.Challenge.rw_pq0297_01.row.records PySem.Challenge.rw_pq0297_01.row.post { args := a, res := some (.bool true), after := b } = some (.bool true) := by
  have e : PySem.Challenge.rw_pq0297_01.row.post = .eq .res (.lit (.bool true)) := by rfl
  rw [e]
  simp [WTm.value, same]
theorem holds_ : PySem.Challenge.rw_pq0297_01.Holds := by
  refine top_ (d := ((defOf q (S "law")).get law_def).1) (kwd := ((defOf q (S "law")).get law_def).2) (Option.some_get law_def).symm (by kernel_rfl) (by kernel_rfl) ?_
  intro w s₀ s₁ mg mb G Y fa o pm cd doc dV kV ho hd hcd hD hmg hg args vals as hpre hlay hrd hwl hlo
  have KX : (KK w.params).In s₁.heap := Y
  refine Ground.open G ?_
  intro T B D TE TW
  obtain ⟨hsh, hpr⟩ := pre_splitW hpre
  obtain ⟨d, r, rfl, hd1, hr1⟩ := hasAllW_cons (e := .list .int) (es := []) hsh
  obtain rfl := hasAllW_nil hr1
  obtain ⟨xs, rfl, hit⟩ := hasW_list hd1
  obtain ⟨ns, rfl⟩ := items_int hit
  have hlen := pre_len hpr
  rw [loose_eq] at T
  let g : Gx := ⟨w, s₁.heap, s₁.os, ExcName.means s₀.heap, mg, mb, KX, T⟩
  have hfa : mg (S "law") = some (.ref f_law) := mg_of g.X g.T.g (G_law w.params)
  rw [law_name, hfa] at hmg
  obtain rfl : f_law = fa := by cases hmg; rfl
  cases hrd with
  | cons r1 r2 =>
    cases r2
    cases r1 with
    | @list a o1 vs n xs1 as1 h1 h2 h3 h4 =>
      refine enter_call ?_
      have hS : St g s₁ [] := ⟨fun _ _ e => e, Nat.le_refl _, (fun _ h => nomatch h), List.nodup_nil, (fun _ h => nomatch h), rfl, hg⟩
      have hL : g.hb.IsList a vs.toList.toArray := ⟨o1, h1, h2, n, by rw [h3, Array.toArray_toList]⟩
      have hC := law_ (g := g) (A := callerA) (E := fun _ _ => False) (Φ := fun v _ => v = .bool true) ⟨rfl, by decide +kernel, by decide +kernel⟩ rfl hL (ints_ab h4) hlen (fun _ => rfl)
      refine codeAny_mono (hC [.ref a] (.cons ⟨0, rfl⟩ .nil) s₁ hS) fun r s' z => ?_
      rcases r with e | (v | _ | _ | _)
      · exact z.elim
      · exact z.elim
      · exact z.elim
      · exact z.elim
      · obtain ⟨b, l, ab, S', rfl⟩ := z
        obtain ⟨tk, rfl⟩ := ab
        have hp : PySem.Challenge.rw_pq0297_01.row.toRowW.claim.post [.list (ns.map .int)] (.bool true) [.list (ns.map .int)] = true := postW_of (r := PySem.Challenge.rw_pq0297_01.row.toRowW) (X := true) (by rfl) post_val rfl
        exact GoodW.toG ⟨.inl ⟨.bool true, .bool true, [], rfl, fun _ => rfl, .bool true, hp, fun _ => ⟨List.nodup_nil, fun _ h => nomatch h⟩⟩, S'.keep, S'.os_, S'.gens⟩
section
end
end Mine
set_option Elab.async false
theorem PySem.Challenge.cw_pq0297_01_holds : PySem.Challenge.rw_pq0297_01.Holds :=
  Mine.holds_
