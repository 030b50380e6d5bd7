import PyProof.Rows.All
import Wide.All
import OpenK.AllK
import Wide.FinOn
import KE.KStateDown
import KE.KIsAll
import KE.KTryMore
import Lean
import HandS.ForMost
import HandS.ForExc
import HandS.More
import HandS.Defaults
import HandS.IsInst
import HandS.ExcIs
import HandS.Head0
import HandS.Head1
import HandS.Head2
import HandS.HeadEnd
import HandS.HeadHook1
import HandS.HeadHook2
import HandS.HeadHook3
import HandS.HeadHook4
import PySem.Challenge.RW_allparts_k54_a_desk_refuses
import HandS.Evl
import HandS.Walk
import KE.IntTextLaws
import HandS.Text
import KE.GoesComp
import KE.GoesRaise
import HandS.Zip
import KE.GoesMore
import KE.GoesEnum
import KE.GoesZip
import HandS.SetTxt0
import HandS.Strs
import HandS.ExcOwn
import HandS.HotCalls
import HandS.CallSlots
import PyProof.Rows.StrJoinRep
/-! ## Facts -/
set_option Elab.async false
set_option linter.all false
set_option maxRecDepth 100000
set_option maxHeartbeats 4000000
namespace Ap
open PySem PySem.Spec PyProof.Rows L2
/-! ### the text by places -/
def top (i : Nat) : Stmt := PySem.Challenge.pw_allparts_k54_a_desk_refuses.main.body.getD i (.Pass ⟨0, 0, 0, 0⟩)
abbrev s_is_signs : Stmt := top 5
abbrev s_is_word : Stmt := top 6
abbrev s_signs_in : Stmt := top 7
abbrev s_look_at_stand : Stmt := top 28
abbrev s_longest : Stmt := top 30
abbrev s_words : Stmt := top 31
abbrev s_ask_stand : Stmt := top 45
abbrev s_parted : Stmt := top 47
abbrev s_shared : Stmt := top 58
abbrev s_show_word : Stmt := top 65
abbrev s_read_word : Stmt := top 66
abbrev s_show_words : Stmt := top 67
abbrev s_show_book : Stmt := top 68
abbrev s_show_line : Stmt := top 69
abbrev s_show_table : Stmt := top 70
abbrev s_number_in : Stmt := top 71
abbrev s_number_by : Stmt := top 75
abbrev s_looked : Stmt := top 76
abbrev s_law_cell_at : Stmt := top 81
abbrev s_law_mixed : Stmt := top 82
abbrev s_law_text : Stmt := top 83
abbrev s_law_book : Stmt := top 84
abbrev s_law_no_row : Stmt := top 85
abbrev s_law_no_word : Stmt := top 86
abbrev s_law_no_number : Stmt := top 87
abbrev s_law_by_stages : Stmt := top 88
abbrev s_law_row : Stmt := top 89
abbrev s_law_kinds : Stmt := top 90
abbrev s_law_refused : Stmt := top 91
abbrev s_law : Stmt := top 92
abbrev s_Knot_init : Stmt := inClass (top 20) 0
abbrev s_Machine_init : Stmt := inClass (top 21) 0
abbrev s_Machine_begin : Stmt := inClass (top 21) 1
abbrev s_Machine_grow : Stmt := inClass (top 21) 2
abbrev s_Machine_put : Stmt := inClass (top 21) 3
abbrev s_Machine_parted : Stmt := inClass (top 21) 4
abbrev s_Machine_book : Stmt := inClass (top 21) 5
abbrev s_Machine_ordered : Stmt := inClass (top 21) 6
abbrev s_Machine_table : Stmt := inClass (top 21) 7
abbrev s_Desk_init : Stmt := inClass (top 79) 0
abbrev s_Desk_say : Stmt := inClass (top 79) 1
abbrev s_Desk_alone : Stmt := inClass (top 79) 2
abbrev s_Desk_of_numbers : Stmt := inClass (top 79) 4
/-! ### what the top binds -/
def loose0 : List PySem.Str := ["SIGNS", "LONGEST_WORD", "MOST_TEXTS", "MOST_SIGNS", "is_signs", "is_word", "signs_in", "places", "PartError", "NoBook", "NoText", "TooMany", "NoStand"]
def loose1 : List PySem.Str := ["NoRow", "NoWord", "NoNumber", "NoTable", "Knot", "Machine", "lacking", "way_of", "walk", "stand_of", "look_at_stand", "came_from", "longest"]
def loose2 : List PySem.Str := ["words", "shortest", "from_longest", "own_places", "places_by", "unlike", "walks_from", "way_by", "way_by_order", "part_at", "number_of", "ask_stand", "rests_at"]
def loose3 : List PySem.Str := ["parted", "way_by_pieces", "reach", "pieces", "texts_by", "table_of", "longest_of", "least_end", "shared", "often", "once", "FIGURES", "EMPTY"]
def loose4 : List PySem.Str := ["NOTHING", "show_word", "read_word", "show_words", "show_book", "show_line", "show_table", "number_in", "MOST_FIGURES", "ROWS", "number_by", "looked", "shown"]
def loose5 : List PySem.Str := ["shown_word", "Desk", "_law_cell_at", "_law_mixed", "_law_text", "_law_book", "_law_no_row", "_law_no_word", "_law_no_number", "_law_by_stages", "_law_row", "_law_kinds", "_law_refused"]
def loose : List PySem.Str := loose0 ++ loose1 ++ loose2 ++ loose3 ++ loose4 ++ loose5
/-! ### the defs -/
def d_is_signs : He.DefD := ⟨("is_signs", none), "is_signs", "is_signs", defArgs s_is_signs, defBody s_is_signs, defScope s_is_signs, [], []⟩
def d_is_word : He.DefD := ⟨("is_word", none), "is_word", "is_word", defArgs s_is_word, defBody s_is_word, defScope s_is_word, [], []⟩
def d_signs_in : He.DefD := ⟨("signs_in", none), "signs_in", "signs_in", defArgs s_signs_in, defBody s_signs_in, defScope s_signs_in, [], []⟩
def d_look_at_stand : He.DefD := ⟨("look_at_stand", none), "look_at_stand", "look_at_stand", defArgs s_look_at_stand, defBody s_look_at_stand, defScope s_look_at_stand, [], []⟩
def d_longest : He.DefD := ⟨("longest", none), "longest", "longest", defArgs s_longest, defBody s_longest, defScope s_longest, [], []⟩
def d_words : He.DefD := ⟨("words", none), "words", "words", defArgs s_words, defBody s_words, defScope s_words, [], []⟩
def d_ask_stand : He.DefD := ⟨("ask_stand", none), "ask_stand", "ask_stand", defArgs s_ask_stand, defBody s_ask_stand, defScope s_ask_stand, [], []⟩
def d_parted : He.DefD := ⟨("parted", none), "parted", "parted", defArgs s_parted, defBody s_parted, defScope s_parted, [], []⟩
def d_shared : He.DefD := ⟨("shared", none), "shared", "shared", defArgs s_shared, defBody s_shared, defScope s_shared, [], []⟩
def d_show_word : He.DefD := ⟨("show_word", none), "show_word", "show_word", defArgs s_show_word, defBody s_show_word, defScope s_show_word, [], []⟩
def d_read_word : He.DefD := ⟨("read_word", none), "read_word", "read_word", defArgs s_read_word, defBody s_read_word, defScope s_read_word, [], []⟩
def d_show_words : He.DefD := ⟨("show_words", none), "show_words", "show_words", defArgs s_show_words, defBody s_show_words, defScope s_show_words, [], []⟩
def d_show_book : He.DefD := ⟨("show_book", none), "show_book", "show_book", defArgs s_show_book, defBody s_show_book, defScope s_show_book, [], []⟩
def d_show_line : He.DefD := ⟨("show_line", none), "show_line", "show_line", defArgs s_show_line, defBody s_show_line, defScope s_show_line, [], []⟩
def d_show_table : He.DefD := ⟨("show_table", none), "show_table", "show_table", defArgs s_show_table, defBody s_show_table, defScope s_show_table, [], []⟩
def d_number_in : He.DefD := ⟨("number_in", none), "number_in", "number_in", defArgs s_number_in, defBody s_number_in, defScope s_number_in, [], []⟩
def d_number_by : He.DefD := ⟨("number_by", none), "number_by", "number_by", defArgs s_number_by, defBody s_number_by, defScope s_number_by, [], []⟩
def d_looked : He.DefD := ⟨("looked", none), "looked", "looked", defArgs s_looked, defBody s_looked, defScope s_looked, [], []⟩
def d_law_cell_at : He.DefD := ⟨("_law_cell_at", none), "_law_cell_at", "_law_cell_at", defArgs s_law_cell_at, defBody s_law_cell_at, defScope s_law_cell_at, [], []⟩
def d_law_mixed : He.DefD := ⟨("_law_mixed", none), "_law_mixed", "_law_mixed", defArgs s_law_mixed, defBody s_law_mixed, defScope s_law_mixed, [], []⟩
def d_law_text : He.DefD := ⟨("_law_text", none), "_law_text", "_law_text", defArgs s_law_text, defBody s_law_text, defScope s_law_text, [], []⟩
def d_law_book : He.DefD := ⟨("_law_book", none), "_law_book", "_law_book", defArgs s_law_book, defBody s_law_book, defScope s_law_book, [], []⟩
def d_law_no_row : He.DefD := ⟨("_law_no_row", none), "_law_no_row", "_law_no_row", defArgs s_law_no_row, defBody s_law_no_row, defScope s_law_no_row, [], []⟩
def d_law_no_word : He.DefD := ⟨("_law_no_word", none), "_law_no_word", "_law_no_word", defArgs s_law_no_word, defBody s_law_no_word, defScope s_law_no_word, [], []⟩
def d_law_no_number : He.DefD := ⟨("_law_no_number", none), "_law_no_number", "_law_no_number", defArgs s_law_no_number, defBody s_law_no_number, defScope s_law_no_number, [], []⟩
def d_law_by_stages : He.DefD := ⟨("_law_by_stages", none), "_law_by_stages", "_law_by_stages", defArgs s_law_by_stages, defBody s_law_by_stages, defScope s_law_by_stages, [], []⟩
def d_law_row : He.DefD := ⟨("_law_row", none), "_law_row", "_law_row", defArgs s_law_row, defBody s_law_row, defScope s_law_row, [], []⟩
def d_law_kinds : He.DefD := ⟨("_law_kinds", none), "_law_kinds", "_law_kinds", defArgs s_law_kinds, defBody s_law_kinds, defScope s_law_kinds, [], []⟩
def d_law_refused : He.DefD := ⟨("_law_refused", none), "_law_refused", "_law_refused", defArgs s_law_refused, defBody s_law_refused, defScope s_law_refused, [], []⟩
def d_law : He.DefD := ⟨("law", none), "law", "law", defArgs s_law, defBody s_law, defScope s_law, [], []⟩
def d_Knot_init : He.DefD := ⟨("Knot", some "__init__"), "__init__", "Knot.__init__", defArgs s_Knot_init, defBody s_Knot_init, defScope s_Knot_init, [], []⟩
def d_Machine_init : He.DefD := ⟨("Machine", some "__init__"), "__init__", "Machine.__init__", defArgs s_Machine_init, defBody s_Machine_init, defScope s_Machine_init, [.non], []⟩
def d_Machine_begin : He.DefD := ⟨("Machine", some "begin"), "begin", "Machine.begin", defArgs s_Machine_begin, defBody s_Machine_begin, defScope s_Machine_begin, [], []⟩
def d_Machine_grow : He.DefD := ⟨("Machine", some "grow"), "grow", "Machine.grow", defArgs s_Machine_grow, defBody s_Machine_grow, defScope s_Machine_grow, [], []⟩
def d_Machine_put : He.DefD := ⟨("Machine", some "put"), "put", "Machine.put", defArgs s_Machine_put, defBody s_Machine_put, defScope s_Machine_put, [], []⟩
def d_Machine_parted : He.DefD := ⟨("Machine", some "parted"), "parted", "Machine.parted", defArgs s_Machine_parted, defBody s_Machine_parted, defScope s_Machine_parted, [], []⟩
def d_Machine_book : He.DefD := ⟨("Machine", some "book"), "book", "Machine.book", defArgs s_Machine_book, defBody s_Machine_book, defScope s_Machine_book, [], []⟩
def d_Machine_ordered : He.DefD := ⟨("Machine", some "ordered"), "ordered", "Machine.ordered", defArgs s_Machine_ordered, defBody s_Machine_ordered, defScope s_Machine_ordered, [], []⟩
def d_Machine_table : He.DefD := ⟨("Machine", some "table"), "table", "Machine.table", defArgs s_Machine_table, defBody s_Machine_table, defScope s_Machine_table, [], []⟩
def d_Desk_init : He.DefD := ⟨("Desk", some "__init__"), "__init__", "Desk.__init__", defArgs s_Desk_init, defBody s_Desk_init, defScope s_Desk_init, [], []⟩
def d_Desk_say : He.DefD := ⟨("Desk", some "say"), "say", "Desk.say", defArgs s_Desk_say, defBody s_Desk_say, defScope s_Desk_say, [], []⟩
def d_Desk_alone : He.DefD := ⟨("Desk", some "alone"), "alone", "Desk.alone", defArgs s_Desk_alone, defBody s_Desk_alone, defScope s_Desk_alone, [], []⟩
def d_Desk_of_numbers : He.DefD := ⟨("Desk", some "of_numbers"), "of_numbers", "Desk.of_numbers", defArgs s_Desk_of_numbers, defBody s_Desk_of_numbers, defScope s_Desk_of_numbers, [], []⟩
def fn0 : List He.DefD := [d_is_signs, d_is_word, d_signs_in, d_look_at_stand, d_longest, d_words, d_ask_stand, d_parted, d_shared, d_show_word, d_read_word, d_show_words]
def fn1 : List He.DefD := [d_show_book, d_show_line, d_show_table, d_number_in, d_number_by, d_looked, d_law_cell_at, d_law_mixed, d_law_text, d_law_book, d_law_no_row, d_law_no_word]
def fn2 : List He.DefD := [d_law_no_number, d_law_by_stages, d_law_row, d_law_kinds, d_law_refused, d_law, d_Knot_init, d_Machine_init, d_Machine_begin, d_Machine_grow, d_Machine_put, d_Machine_parted]
def fn3 : List He.DefD := [d_Machine_book, d_Machine_ordered, d_Machine_table, d_Desk_init, d_Desk_say, d_Desk_alone, d_Desk_of_numbers]
def fn : List He.DefD := fn0 ++ fn1 ++ fn2 ++ fn3
def fa0 : List He.Fa := [.glo "is_signs", .glo "is_word", .glo "signs_in", .glo "look_at_stand", .glo "longest", .glo "words", .glo "ask_stand", .glo "parted", .glo "shared", .glo "show_word", .glo "read_word", .glo "show_words"]
def fa1 : List He.Fa := [.glo "show_book", .glo "show_line", .glo "show_table", .glo "number_in", .glo "number_by", .glo "looked", .glo "_law_cell_at", .glo "_law_mixed", .glo "_law_text", .glo "_law_book", .glo "_law_no_row", .glo "_law_no_word"]
def fa2 : List He.Fa := [.glo "_law_no_number", .glo "_law_by_stages", .glo "_law_row", .glo "_law_kinds", .glo "_law_refused", .glo "law", .glo "Knot", .glo "Machine", .glo "Desk", .glo "ROWS", .glo "PartError", .glo "NoBook"]
def fa3 : List He.Fa := [.glo "NoTable", .glo "NoText", .glo "TooMany", .glo "NoStand", .glo "NoRow", .glo "NoWord", .glo "NoNumber", .free "isinstance", .free "all", .free "len", .free "sum", .free "sorted"]
def fa4 : List He.Fa := [.free "set", .free "list", .free "dict", .free "tuple", .free "str", .free "int", .free "range", .free "enumerate", .free "zip", .free "min", .free "max", .free "bool"]
def fa5 : List He.Fa := [.free "ValueError", .int "LONGEST_WORD" 200, .int "MOST_TEXTS" 8, .int "MOST_SIGNS" 120, .int "MOST_FIGURES" 60, .str "SIGNS" "abcdefghijklmnopqrstuvwxyz", .str "FIGURES" "0123456789", .str "EMPTY" "-", .str "NOTHING" ".", .cls "Knot", .mkr "Knot", .cls "Machine"]
def fa6 : List He.Fa := [.mkr "Machine", .cls "Desk", .mkr "Desk", .noat "Knot" "long", .noat "Knot" "link", .noat "Knot" "ways", .noat "Machine" "texts", .noat "Machine" "knots", .noat "Machine" "at", .noat "Desk" "machine", .meth "Machine" "begin", .meth "Machine" "grow"]
def fa7 : List He.Fa := [.meth "Machine" "put", .meth "Machine" "parted", .meth "Machine" "book", .meth "Machine" "ordered", .meth "Machine" "table", .meth "Desk" "say", .meth "Desk" "alone", .meth "Desk" "of_numbers", .exc "NoText", .exm "NoText" "PartError" true, .exc "TooMany", .exm "TooMany" "PartError" true]
def fa8 : List He.Fa := [.exc "NoStand", .exm "NoStand" "PartError" true, .exc "NoRow", .exm "NoRow" "PartError" true, .exc "NoWord", .exm "NoWord" "PartError" true, .exc "NoNumber", .exm "NoNumber" "PartError" true]
def fa : List He.Fa := fa0 ++ fa1 ++ fa2 ++ fa3 ++ fa4 ++ fa5 ++ fa6 ++ fa7 ++ fa8
/-! ### the table ROWS -/
def rowKeys0 : List Str := ["begin", "book", "stands", "table", "unlike", "once", "grow", "find", "count"]
def rowKeys1 : List Str := ["stand", "words", "part", "number", "often", "lacking", "pieces", "parted"]
def rowKeys : List Str := rowKeys0 ++ rowKeys1
def rows0 : List (Str × List Str) := [("begin", []), ("book", []), ("stands", []), ("table", []), ("unlike", []), ("once", []), ("grow", ["number", "word"]), ("find", ["word"]), ("count", ["word"])]
def rows1 : List (Str × List Str) := [("stand", ["word"]), ("words", ["number"]), ("part", ["number"]), ("number", ["word"]), ("often", ["times"]), ("lacking", ["letters"]), ("pieces", ["word"]), ("parted", ["number", "number"])]
def rows : List (Str × List Str) := rows0 ++ rows1
def ts : List He.Tab := [(fun K => He.ga K "ROWS", rowKeys)]
/-- where the table's value stands -/
def rowAt (K : PySem.W.Frag) (x : Str) : Addr := match PySem.W.nsIn K (He.ga K "ROWS") x with
  | some (some (.ref a)) => a
  | _ => 0
def tupAtB (K : PySem.W.Frag) (a : Addr) (vs : List V) : Bool := match K.lookup a with
  | some ⟨.type c, _, .seq its _, _⟩ => decide (c = "tuple") && (decide (its.size ≤ sizeLine) && He.relAll vs its.toList)
  | _ => false
theorem tupAtB_ok {K : PySem.W.Frag} {a : Addr} {vs : List V} (h : tupAtB K a vs = true) (H : Hp) : SqT K H a vs := by
  unfold tupAtB at h
  cases q : K.lookup a with
  | none =>
    rw [q] at h
    cases h
  | some o =>
    obtain ⟨oc, od, dt, osl⟩ := o
    rw [q] at h
    cases oc with
    | type c =>
      cases dt with
      | seq its n =>
        obtain ⟨h1, h2⟩ := He.ba (show (decide (c = "tuple") && (decide (its.size ≤ sizeLine) && He.relAll vs its.toList)) = true from h)
        obtain ⟨h3, h4⟩ := He.ba h2
        exact .inr ⟨_, its, n, q, congrArg Value.type (of_decide_eq_true h1), rfl, of_decide_eq_true h3, He.relAll_ok h4⟩
      | _ => cases h
    | _ => cases dt <;> cases h
def rowB (K : PySem.W.Frag) (p : Str × List Str) : Bool := He.eqO (PySem.W.nsIn K (He.ga K "ROWS") p.1) (some (some (.ref (rowAt K p.1)))) && tupAtB K (rowAt K p.1) (p.2.map V.str)
/-! ### the errors' classes -/
inductive Er where
  | row | word | number | text | many | stand
  deriving DecidableEq
def Er.cls : Er → Str
  | .row => "NoRow" | .word => "NoWord" | .number => "NoNumber" | .text => "NoText" | .many => "TooMany" | .stand => "NoStand"
def ers : List Er := [.row, .word, .number, .text, .many, .stand]
/-- the class of an error -/
abbrev ea (K : PySem.W.Frag) (e : Er) : Addr := He.ga K e.cls
def excCB (K : PySem.W.Frag) (D : Addr) : Bool := He.eqO (PySem.W.findIn K (.ref D) "__getattribute__") (some (some (.builtin "BaseException.__getattribute__"))) && (He.eqO (PySem.W.findIn K (.ref D) "__getattr__") (some none) &&
  (decide (PySem.W.subIn K (.ref D) (.type "BaseException") = some true) && (PySem.W.hasDictIn K D && (He.eqO (PySem.W.findIn K (.ref D) "__class__") (some (some (.builtin "object.__class__"))) &&
  (He.eqO (PySem.W.specialIn K (.builtin "object.__class__") "__get__") (some (some (.builtin "getset_descriptor.__get__"))) && (decide (PySem.W.takesIn K (.builtin "object.__class__") = some true) && decide (PySem.W.mroIn K D (.type "object") = some true)))))))
theorem excCB_ok {K : PySem.W.Frag} {D : Addr} (h : excCB K D = true) : ExcC K D := by
  unfold excCB at h
  obtain ⟨h1, h⟩ := He.ba h
  obtain ⟨h2, h⟩ := He.ba h
  obtain ⟨h3, h⟩ := He.ba h
  obtain ⟨h4, h⟩ := He.ba h
  obtain ⟨h5, h⟩ := He.ba h
  obtain ⟨h6, h⟩ := He.ba h
  obtain ⟨h7, h8⟩ := He.ba h
  exact ⟨He.eqO_ok h1, He.eqO_ok h2, of_decide_eq_true h3, h4, He.eqO_ok h5, He.eqO_ok h6, of_decide_eq_true h7, of_decide_eq_true h8⟩
def kitB2 (K : PySem.W.Frag) (d : Er) : Bool := (ers.all fun e => decide (PySem.W.kitOne K (.ref (ea K d)) (.ref (ea K e)) = some (decide (d = e)))) && (decide (PySem.W.kitOne K (.ref (ea K d)) (.type "ValueError") = some true) &&
  decide (PySem.W.kitAny K (.ref (ea K d)) [.ref (He.ga K "NoBook"), .ref (He.ga K "NoTable")] = some false))
def exB (K : PySem.W.Frag) : Bool := (rows.all fun p => rowB K p) && ((ers.all fun e => excCB K (ea K e)) && (ers.all fun e => kitB2 K e))
/-! ### the run -/
abbrev R : PySem.W.OpenRow := PySem.W.OpenLaw.row PySem.Challenge.rw_allparts_k54_a_desk_refuses
abbrev hk : PySem.W.Hook := He.hookX 6 fa fn ts [] exB
def ob (s : PySem.W.SharedT) : He.AlX := He.obsX 6 fa fn ts [] exB (HandSHeadRun.getT s)
theorem ob_eq (s : PySem.W.SharedT) : ob s = hk.obs s.abs := He.obsX_eq (HandSHeadRun.getT_eq s)
/-! ### the facts, by names -/
/-- a def's function object -/
def fo (K : PySem.W.Frag) (p : Str × Option Str) : FuncData := match K.lookup (He.fAd K p) with
  | some ⟨_, _, .func fd, _⟩ => fd
  | _ => default
/-- what the walk leans on -/
structure Tx (K : PySem.W.Frag) (mg : Str → Option Value) (w : World) : Prop where
  src : ∃ h : Heap, K.In h ∧ h.Ns mainGlobals mg ∧ He.SaysX fa fn ts [] exB w h K
section
variable {K : PySem.W.Frag} {mg : Str → Option Value} {w : World}
theorem Tx.fact (T : Tx K mg w) (i : Nat) {f : He.Fa} (e : fa[i]? = some f) : f.ok K = true := by
  obtain ⟨h, _, _, c⟩ := T.src
  exact c.t.d.fact i e
theorem Tx.glo (T : Tx K mg w) (i : Nat) {x : Str} (e : fa[i]? = some (.glo x)) : mg x = some (.ref (He.ga K x)) := by
  obtain ⟨h, X, G, c⟩ := T.src
  exact He.glo_ok X G (c.t.d.fact i e)
theorem Tx.free (T : Tx K mg w) (i : Nat) {x : Str} (e : fa[i]? = some (.free x)) : mg x = none := by
  obtain ⟨h, X, G, c⟩ := T.src
  exact He.free_ok X G (c.t.d.fact i e)
theorem Tx.int (T : Tx K mg w) (i : Nat) {x : Str} {n : Int} (e : fa[i]? = some (.int x n)) : ∃ t, mg x = some (.int n t) := by
  obtain ⟨h, X, G, c⟩ := T.src
  exact He.int_ok X G (c.t.d.fact i e)
theorem Tx.str (T : Tx K mg w) (i : Nat) {x z : Str} (e : fa[i]? = some (.str x z)) : ∃ t, mg x = some (.str z t) := by
  obtain ⟨h, X, G, c⟩ := T.src
  exact He.str_ok X G (c.t.d.fact i e)
theorem Tx.def_ (T : Tx K mg w) (i : Nat) {d : He.DefD} (e : fn[i]? = some d) : FunD K d.name d.qual d.params d.body d.scope (d.dvs K) (d.kws K) (He.fAd K d.at_) (fo K d.at_) := by
  obtain ⟨h, _, _, c⟩ := T.src
  obtain ⟨fd, F⟩ := c.t.d.def_ i e
  have e2 : fo K d.at_ = fd := by
    obtain ⟨oc, od, dV, kV, doc, pm, an, cdv, ct, osl, e1, lk, _⟩ := F.ex
    unfold fo
    rw [lk]
  rw [e2]
  exact F
theorem Tx.more (T : Tx K mg w) : exB K = true := by
  obtain ⟨h, _, _, c⟩ := T.src
  exact c.more
theorem Tx.rowT (T : Tx K mg w) {p : Str × List Str} (hp : p ∈ rows) : PySem.W.nsIn K (He.ga K "ROWS") p.1 = some (some (.ref (rowAt K p.1))) ∧ ∀ H, SqT K H (rowAt K p.1) (p.2.map V.str) := by
  have h1 := List.all_eq_true.mp (He.ba T.more).1 p hp
  obtain ⟨h2, h3⟩ := He.ba h1
  exact ⟨He.eqO_ok h2, tupAtB_ok h3⟩
theorem Tx.rowsD (T : Tx K mg w) : ∃ es n, KDict K w (He.ga K "ROWS") es n := by
  obtain ⟨h, _, _, c⟩ := T.src
  exact c.t.tab 0 rfl
theorem Tx.rowsKeys (T : Tx K mg w) : He.dicW K (He.ga K "ROWS") = some (He.keysIn w.params rowKeys) := by
  obtain ⟨h, _, _, c⟩ := T.src
  have e : ts.map (fun t => He.dicW K (t.1 K)) = ts.map fun t => some (He.keysIn w.params t.2) := congrArg (fun z : He.AlT => z.2) c.t
  exact List.head_eq_of_cons_eq e
theorem Tx.excC (T : Tx K mg w) (e : Er) : ExcC K (ea K e) := excCB_ok (List.all_eq_true.mp (He.ba (He.ba T.more).2).1 e (by cases e <;> decide))
theorem Tx.kit (T : Tx K mg w) (d : Er) : (∀ e, PySem.W.kitOne K (.ref (ea K d)) (.ref (ea K e)) = some (decide (d = e))) ∧ PySem.W.kitOne K (.ref (ea K d)) (.type "ValueError") = some true ∧
    PySem.W.kitAny K (.ref (ea K d)) [.ref (He.ga K "NoBook"), .ref (He.ga K "NoTable")] = some false := by
  have h := List.all_eq_true.mp (He.ba (He.ba T.more).2).2 d (by cases d <;> decide)
  obtain ⟨h1, h2⟩ := He.ba h
  obtain ⟨h3, h4⟩ := He.ba h2
  exact ⟨fun e => of_decide_eq_true (List.all_eq_true.mp h1 e (by cases e <;> decide)), of_decide_eq_true h3, of_decide_eq_true h4⟩
theorem Tx.g_is_signs (T : Tx K mg w) : mg "is_signs" = some (.ref (He.ga K "is_signs")) := T.glo 0 rfl
theorem Tx.g_is_word (T : Tx K mg w) : mg "is_word" = some (.ref (He.ga K "is_word")) := T.glo 1 rfl
theorem Tx.g_signs_in (T : Tx K mg w) : mg "signs_in" = some (.ref (He.ga K "signs_in")) := T.glo 2 rfl
theorem Tx.g_look_at_stand (T : Tx K mg w) : mg "look_at_stand" = some (.ref (He.ga K "look_at_stand")) := T.glo 3 rfl
theorem Tx.g_longest (T : Tx K mg w) : mg "longest" = some (.ref (He.ga K "longest")) := T.glo 4 rfl
theorem Tx.g_words (T : Tx K mg w) : mg "words" = some (.ref (He.ga K "words")) := T.glo 5 rfl
theorem Tx.g_ask_stand (T : Tx K mg w) : mg "ask_stand" = some (.ref (He.ga K "ask_stand")) := T.glo 6 rfl
theorem Tx.g_parted (T : Tx K mg w) : mg "parted" = some (.ref (He.ga K "parted")) := T.glo 7 rfl
theorem Tx.g_shared (T : Tx K mg w) : mg "shared" = some (.ref (He.ga K "shared")) := T.glo 8 rfl
theorem Tx.g_show_word (T : Tx K mg w) : mg "show_word" = some (.ref (He.ga K "show_word")) := T.glo 9 rfl
theorem Tx.g_read_word (T : Tx K mg w) : mg "read_word" = some (.ref (He.ga K "read_word")) := T.glo 10 rfl
theorem Tx.g_show_words (T : Tx K mg w) : mg "show_words" = some (.ref (He.ga K "show_words")) := T.glo 11 rfl
theorem Tx.g_show_book (T : Tx K mg w) : mg "show_book" = some (.ref (He.ga K "show_book")) := T.glo 12 rfl
theorem Tx.g_show_line (T : Tx K mg w) : mg "show_line" = some (.ref (He.ga K "show_line")) := T.glo 13 rfl
theorem Tx.g_show_table (T : Tx K mg w) : mg "show_table" = some (.ref (He.ga K "show_table")) := T.glo 14 rfl
theorem Tx.g_number_in (T : Tx K mg w) : mg "number_in" = some (.ref (He.ga K "number_in")) := T.glo 15 rfl
theorem Tx.g_number_by (T : Tx K mg w) : mg "number_by" = some (.ref (He.ga K "number_by")) := T.glo 16 rfl
theorem Tx.g_looked (T : Tx K mg w) : mg "looked" = some (.ref (He.ga K "looked")) := T.glo 17 rfl
theorem Tx.g_law_cell_at (T : Tx K mg w) : mg "_law_cell_at" = some (.ref (He.ga K "_law_cell_at")) := T.glo 18 rfl
theorem Tx.g_law_mixed (T : Tx K mg w) : mg "_law_mixed" = some (.ref (He.ga K "_law_mixed")) := T.glo 19 rfl
theorem Tx.g_law_text (T : Tx K mg w) : mg "_law_text" = some (.ref (He.ga K "_law_text")) := T.glo 20 rfl
theorem Tx.g_law_book (T : Tx K mg w) : mg "_law_book" = some (.ref (He.ga K "_law_book")) := T.glo 21 rfl
theorem Tx.g_law_no_row (T : Tx K mg w) : mg "_law_no_row" = some (.ref (He.ga K "_law_no_row")) := T.glo 22 rfl
theorem Tx.g_law_no_word (T : Tx K mg w) : mg "_law_no_word" = some (.ref (He.ga K "_law_no_word")) := T.glo 23 rfl
theorem Tx.g_law_no_number (T : Tx K mg w) : mg "_law_no_number" = some (.ref (He.ga K "_law_no_number")) := T.glo 24 rfl
theorem Tx.g_law_by_stages (T : Tx K mg w) : mg "_law_by_stages" = some (.ref (He.ga K "_law_by_stages")) := T.glo 25 rfl
theorem Tx.g_law_row (T : Tx K mg w) : mg "_law_row" = some (.ref (He.ga K "_law_row")) := T.glo 26 rfl
theorem Tx.g_law_kinds (T : Tx K mg w) : mg "_law_kinds" = some (.ref (He.ga K "_law_kinds")) := T.glo 27 rfl
theorem Tx.g_law_refused (T : Tx K mg w) : mg "_law_refused" = some (.ref (He.ga K "_law_refused")) := T.glo 28 rfl
theorem Tx.g_law (T : Tx K mg w) : mg "law" = some (.ref (He.ga K "law")) := T.glo 29 rfl
theorem Tx.g_Knot (T : Tx K mg w) : mg "Knot" = some (.ref (He.ga K "Knot")) := T.glo 30 rfl
theorem Tx.g_Machine (T : Tx K mg w) : mg "Machine" = some (.ref (He.ga K "Machine")) := T.glo 31 rfl
theorem Tx.g_Desk (T : Tx K mg w) : mg "Desk" = some (.ref (He.ga K "Desk")) := T.glo 32 rfl
theorem Tx.g_ROWS (T : Tx K mg w) : mg "ROWS" = some (.ref (He.ga K "ROWS")) := T.glo 33 rfl
theorem Tx.g_PartError (T : Tx K mg w) : mg "PartError" = some (.ref (He.ga K "PartError")) := T.glo 34 rfl
theorem Tx.g_NoBook (T : Tx K mg w) : mg "NoBook" = some (.ref (He.ga K "NoBook")) := T.glo 35 rfl
theorem Tx.g_NoTable (T : Tx K mg w) : mg "NoTable" = some (.ref (He.ga K "NoTable")) := T.glo 36 rfl
theorem Tx.g_NoText (T : Tx K mg w) : mg "NoText" = some (.ref (He.ga K "NoText")) := T.glo 37 rfl
theorem Tx.g_TooMany (T : Tx K mg w) : mg "TooMany" = some (.ref (He.ga K "TooMany")) := T.glo 38 rfl
theorem Tx.g_NoStand (T : Tx K mg w) : mg "NoStand" = some (.ref (He.ga K "NoStand")) := T.glo 39 rfl
theorem Tx.g_NoRow (T : Tx K mg w) : mg "NoRow" = some (.ref (He.ga K "NoRow")) := T.glo 40 rfl
theorem Tx.g_NoWord (T : Tx K mg w) : mg "NoWord" = some (.ref (He.ga K "NoWord")) := T.glo 41 rfl
theorem Tx.g_NoNumber (T : Tx K mg w) : mg "NoNumber" = some (.ref (He.ga K "NoNumber")) := T.glo 42 rfl
theorem Tx.f_isinstance (T : Tx K mg w) : mg "isinstance" = none := T.free 43 rfl
theorem Tx.f_all (T : Tx K mg w) : mg "all" = none := T.free 44 rfl
theorem Tx.f_len (T : Tx K mg w) : mg "len" = none := T.free 45 rfl
theorem Tx.f_sum (T : Tx K mg w) : mg "sum" = none := T.free 46 rfl
theorem Tx.f_sorted (T : Tx K mg w) : mg "sorted" = none := T.free 47 rfl
theorem Tx.f_set (T : Tx K mg w) : mg "set" = none := T.free 48 rfl
theorem Tx.f_list (T : Tx K mg w) : mg "list" = none := T.free 49 rfl
theorem Tx.f_dict (T : Tx K mg w) : mg "dict" = none := T.free 50 rfl
theorem Tx.f_tuple (T : Tx K mg w) : mg "tuple" = none := T.free 51 rfl
theorem Tx.f_str (T : Tx K mg w) : mg "str" = none := T.free 52 rfl
theorem Tx.f_int (T : Tx K mg w) : mg "int" = none := T.free 53 rfl
theorem Tx.f_range (T : Tx K mg w) : mg "range" = none := T.free 54 rfl
theorem Tx.f_enumerate (T : Tx K mg w) : mg "enumerate" = none := T.free 55 rfl
theorem Tx.f_zip (T : Tx K mg w) : mg "zip" = none := T.free 56 rfl
theorem Tx.f_min (T : Tx K mg w) : mg "min" = none := T.free 57 rfl
theorem Tx.f_max (T : Tx K mg w) : mg "max" = none := T.free 58 rfl
theorem Tx.f_bool (T : Tx K mg w) : mg "bool" = none := T.free 59 rfl
theorem Tx.f_ValueError (T : Tx K mg w) : mg "ValueError" = none := T.free 60 rfl
theorem Tx.i_LONGEST_WORD (T : Tx K mg w) : ∃ t, mg "LONGEST_WORD" = some (.int 200 t) := T.int 61 rfl
theorem Tx.i_MOST_TEXTS (T : Tx K mg w) : ∃ t, mg "MOST_TEXTS" = some (.int 8 t) := T.int 62 rfl
theorem Tx.i_MOST_SIGNS (T : Tx K mg w) : ∃ t, mg "MOST_SIGNS" = some (.int 120 t) := T.int 63 rfl
theorem Tx.i_MOST_FIGURES (T : Tx K mg w) : ∃ t, mg "MOST_FIGURES" = some (.int 60 t) := T.int 64 rfl
theorem Tx.z_SIGNS (T : Tx K mg w) : ∃ t, mg "SIGNS" = some (.str "abcdefghijklmnopqrstuvwxyz" t) := T.str 65 rfl
theorem Tx.z_FIGURES (T : Tx K mg w) : ∃ t, mg "FIGURES" = some (.str "0123456789" t) := T.str 66 rfl
theorem Tx.z_EMPTY (T : Tx K mg w) : ∃ t, mg "EMPTY" = some (.str "-" t) := T.str 67 rfl
theorem Tx.z_NOTHING (T : Tx K mg w) : ∃ t, mg "NOTHING" = some (.str "." t) := T.str 68 rfl
theorem Tx.c_Knot (T : Tx K mg w) : Cls K (He.ga K "Knot") := He.cls_ok (T.fact 69 rfl)
theorem Tx.m_Knot (T : Tx K mg w) : Mk K (He.ga K "Knot") (He.fAd K ("Knot", some "__init__")) := He.mkr_ok (T.fact 70 rfl)
theorem Tx.c_Machine (T : Tx K mg w) : Cls K (He.ga K "Machine") := He.cls_ok (T.fact 71 rfl)
theorem Tx.m_Machine (T : Tx K mg w) : Mk K (He.ga K "Machine") (He.fAd K ("Machine", some "__init__")) := He.mkr_ok (T.fact 72 rfl)
theorem Tx.c_Desk (T : Tx K mg w) : Cls K (He.ga K "Desk") := He.cls_ok (T.fact 73 rfl)
theorem Tx.m_Desk (T : Tx K mg w) : Mk K (He.ga K "Desk") (He.fAd K ("Desk", some "__init__")) := He.mkr_ok (T.fact 74 rfl)
theorem Tx.n_Knot_long (T : Tx K mg w) : NoAttr K (He.ga K "Knot") "long" := He.noat_ok (T.fact 75 rfl)
theorem Tx.n_Knot_link (T : Tx K mg w) : NoAttr K (He.ga K "Knot") "link" := He.noat_ok (T.fact 76 rfl)
theorem Tx.n_Knot_ways (T : Tx K mg w) : NoAttr K (He.ga K "Knot") "ways" := He.noat_ok (T.fact 77 rfl)
theorem Tx.n_Machine_texts (T : Tx K mg w) : NoAttr K (He.ga K "Machine") "texts" := He.noat_ok (T.fact 78 rfl)
theorem Tx.n_Machine_knots (T : Tx K mg w) : NoAttr K (He.ga K "Machine") "knots" := He.noat_ok (T.fact 79 rfl)
theorem Tx.n_Machine_at (T : Tx K mg w) : NoAttr K (He.ga K "Machine") "at" := He.noat_ok (T.fact 80 rfl)
theorem Tx.n_Desk_machine (T : Tx K mg w) : NoAttr K (He.ga K "Desk") "machine" := He.noat_ok (T.fact 81 rfl)
theorem Tx.t_Machine_begin (T : Tx K mg w) : Meth K (He.ga K "Machine") "begin" (He.fAd K ("Machine", some "begin")) := He.meth_ok (T.fact 82 rfl)
theorem Tx.t_Machine_grow (T : Tx K mg w) : Meth K (He.ga K "Machine") "grow" (He.fAd K ("Machine", some "grow")) := He.meth_ok (T.fact 83 rfl)
theorem Tx.t_Machine_put (T : Tx K mg w) : Meth K (He.ga K "Machine") "put" (He.fAd K ("Machine", some "put")) := He.meth_ok (T.fact 84 rfl)
theorem Tx.t_Machine_parted (T : Tx K mg w) : Meth K (He.ga K "Machine") "parted" (He.fAd K ("Machine", some "parted")) := He.meth_ok (T.fact 85 rfl)
theorem Tx.t_Machine_book (T : Tx K mg w) : Meth K (He.ga K "Machine") "book" (He.fAd K ("Machine", some "book")) := He.meth_ok (T.fact 86 rfl)
theorem Tx.t_Machine_ordered (T : Tx K mg w) : Meth K (He.ga K "Machine") "ordered" (He.fAd K ("Machine", some "ordered")) := He.meth_ok (T.fact 87 rfl)
theorem Tx.t_Machine_table (T : Tx K mg w) : Meth K (He.ga K "Machine") "table" (He.fAd K ("Machine", some "table")) := He.meth_ok (T.fact 88 rfl)
theorem Tx.t_Desk_say (T : Tx K mg w) : Meth K (He.ga K "Desk") "say" (He.fAd K ("Desk", some "say")) := He.meth_ok (T.fact 89 rfl)
theorem Tx.t_Desk_alone (T : Tx K mg w) : Meth K (He.ga K "Desk") "alone" (He.fAd K ("Desk", some "alone")) := He.meth_ok (T.fact 90 rfl)
theorem Tx.t_Desk_of_numbers (T : Tx K mg w) : Meth K (He.ga K "Desk") "of_numbers" (He.fAd K ("Desk", some "of_numbers")) := He.meth_ok (T.fact 91 rfl)
theorem Tx.exc (T : Tx K mg w) (e : Er) : mg e.cls = some (.ref (ea K e)) ∧ PySem.W.excIn K (ea K e) He.veBase "ValueError.__new__" = true ∧ PySem.W.keepIn K (.ref (ea K e)) = true ∧ PySem.W.subIn K (.ref (ea K e)) (.type "BaseException") = some true ∧ PySem.W.typeIn K (.ref (ea K e)) = some (.type "type") ∧ PySem.W.exmOne K (.ref (ea K e)) (.ref (He.ga K "PartError")) = some true :=
  match e with
  | .row => ⟨T.g_NoRow, (He.exc_ok (T.fact 98 rfl)).1, (He.exc_ok (T.fact 98 rfl)).2.1, (He.exc_ok (T.fact 98 rfl)).2.2.1, (He.exc_ok (T.fact 98 rfl)).2.2.2, He.exm_ok (T.fact 99 rfl)⟩
  | .word => ⟨T.g_NoWord, (He.exc_ok (T.fact 100 rfl)).1, (He.exc_ok (T.fact 100 rfl)).2.1, (He.exc_ok (T.fact 100 rfl)).2.2.1, (He.exc_ok (T.fact 100 rfl)).2.2.2, He.exm_ok (T.fact 101 rfl)⟩
  | .number => ⟨T.g_NoNumber, (He.exc_ok (T.fact 102 rfl)).1, (He.exc_ok (T.fact 102 rfl)).2.1, (He.exc_ok (T.fact 102 rfl)).2.2.1, (He.exc_ok (T.fact 102 rfl)).2.2.2, He.exm_ok (T.fact 103 rfl)⟩
  | .text => ⟨T.g_NoText, (He.exc_ok (T.fact 92 rfl)).1, (He.exc_ok (T.fact 92 rfl)).2.1, (He.exc_ok (T.fact 92 rfl)).2.2.1, (He.exc_ok (T.fact 92 rfl)).2.2.2, He.exm_ok (T.fact 93 rfl)⟩
  | .many => ⟨T.g_TooMany, (He.exc_ok (T.fact 94 rfl)).1, (He.exc_ok (T.fact 94 rfl)).2.1, (He.exc_ok (T.fact 94 rfl)).2.2.1, (He.exc_ok (T.fact 94 rfl)).2.2.2, He.exm_ok (T.fact 95 rfl)⟩
  | .stand => ⟨T.g_NoStand, (He.exc_ok (T.fact 96 rfl)).1, (He.exc_ok (T.fact 96 rfl)).2.1, (He.exc_ok (T.fact 96 rfl)).2.2.1, (He.exc_ok (T.fact 96 rfl)).2.2.2, He.exm_ok (T.fact 97 rfl)⟩
theorem Tx.h_is_signs (T : Tx K mg w) : FunD K "is_signs" "is_signs" (defArgs s_is_signs) (defBody s_is_signs) (defScope s_is_signs) [] [] (He.fAd K ("is_signs", none)) (fo K ("is_signs", none)) := T.def_ 0 (d := d_is_signs) rfl
theorem Tx.h_is_word (T : Tx K mg w) : FunD K "is_word" "is_word" (defArgs s_is_word) (defBody s_is_word) (defScope s_is_word) [] [] (He.fAd K ("is_word", none)) (fo K ("is_word", none)) := T.def_ 1 (d := d_is_word) rfl
theorem Tx.h_signs_in (T : Tx K mg w) : FunD K "signs_in" "signs_in" (defArgs s_signs_in) (defBody s_signs_in) (defScope s_signs_in) [] [] (He.fAd K ("signs_in", none)) (fo K ("signs_in", none)) := T.def_ 2 (d := d_signs_in) rfl
theorem Tx.h_look_at_stand (T : Tx K mg w) : FunD K "look_at_stand" "look_at_stand" (defArgs s_look_at_stand) (defBody s_look_at_stand) (defScope s_look_at_stand) [] [] (He.fAd K ("look_at_stand", none)) (fo K ("look_at_stand", none)) := T.def_ 3 (d := d_look_at_stand) rfl
theorem Tx.h_longest (T : Tx K mg w) : FunD K "longest" "longest" (defArgs s_longest) (defBody s_longest) (defScope s_longest) [] [] (He.fAd K ("longest", none)) (fo K ("longest", none)) := T.def_ 4 (d := d_longest) rfl
theorem Tx.h_words (T : Tx K mg w) : FunD K "words" "words" (defArgs s_words) (defBody s_words) (defScope s_words) [] [] (He.fAd K ("words", none)) (fo K ("words", none)) := T.def_ 5 (d := d_words) rfl
theorem Tx.h_ask_stand (T : Tx K mg w) : FunD K "ask_stand" "ask_stand" (defArgs s_ask_stand) (defBody s_ask_stand) (defScope s_ask_stand) [] [] (He.fAd K ("ask_stand", none)) (fo K ("ask_stand", none)) := T.def_ 6 (d := d_ask_stand) rfl
theorem Tx.h_parted (T : Tx K mg w) : FunD K "parted" "parted" (defArgs s_parted) (defBody s_parted) (defScope s_parted) [] [] (He.fAd K ("parted", none)) (fo K ("parted", none)) := T.def_ 7 (d := d_parted) rfl
theorem Tx.h_shared (T : Tx K mg w) : FunD K "shared" "shared" (defArgs s_shared) (defBody s_shared) (defScope s_shared) [] [] (He.fAd K ("shared", none)) (fo K ("shared", none)) := T.def_ 8 (d := d_shared) rfl
theorem Tx.h_show_word (T : Tx K mg w) : FunD K "show_word" "show_word" (defArgs s_show_word) (defBody s_show_word) (defScope s_show_word) [] [] (He.fAd K ("show_word", none)) (fo K ("show_word", none)) := T.def_ 9 (d := d_show_word) rfl
theorem Tx.h_read_word (T : Tx K mg w) : FunD K "read_word" "read_word" (defArgs s_read_word) (defBody s_read_word) (defScope s_read_word) [] [] (He.fAd K ("read_word", none)) (fo K ("read_word", none)) := T.def_ 10 (d := d_read_word) rfl
theorem Tx.h_show_words (T : Tx K mg w) : FunD K "show_words" "show_words" (defArgs s_show_words) (defBody s_show_words) (defScope s_show_words) [] [] (He.fAd K ("show_words", none)) (fo K ("show_words", none)) := T.def_ 11 (d := d_show_words) rfl
theorem Tx.h_show_book (T : Tx K mg w) : FunD K "show_book" "show_book" (defArgs s_show_book) (defBody s_show_book) (defScope s_show_book) [] [] (He.fAd K ("show_book", none)) (fo K ("show_book", none)) := T.def_ 12 (d := d_show_book) rfl
theorem Tx.h_show_line (T : Tx K mg w) : FunD K "show_line" "show_line" (defArgs s_show_line) (defBody s_show_line) (defScope s_show_line) [] [] (He.fAd K ("show_line", none)) (fo K ("show_line", none)) := T.def_ 13 (d := d_show_line) rfl
theorem Tx.h_show_table (T : Tx K mg w) : FunD K "show_table" "show_table" (defArgs s_show_table) (defBody s_show_table) (defScope s_show_table) [] [] (He.fAd K ("show_table", none)) (fo K ("show_table", none)) := T.def_ 14 (d := d_show_table) rfl
theorem Tx.h_number_in (T : Tx K mg w) : FunD K "number_in" "number_in" (defArgs s_number_in) (defBody s_number_in) (defScope s_number_in) [] [] (He.fAd K ("number_in", none)) (fo K ("number_in", none)) := T.def_ 15 (d := d_number_in) rfl
theorem Tx.h_number_by (T : Tx K mg w) : FunD K "number_by" "number_by" (defArgs s_number_by) (defBody s_number_by) (defScope s_number_by) [] [] (He.fAd K ("number_by", none)) (fo K ("number_by", none)) := T.def_ 16 (d := d_number_by) rfl
theorem Tx.h_looked (T : Tx K mg w) : FunD K "looked" "looked" (defArgs s_looked) (defBody s_looked) (defScope s_looked) [] [] (He.fAd K ("looked", none)) (fo K ("looked", none)) := T.def_ 17 (d := d_looked) rfl
theorem Tx.h_law_cell_at (T : Tx K mg w) : FunD K "_law_cell_at" "_law_cell_at" (defArgs s_law_cell_at) (defBody s_law_cell_at) (defScope s_law_cell_at) [] [] (He.fAd K ("_law_cell_at", none)) (fo K ("_law_cell_at", none)) := T.def_ 18 (d := d_law_cell_at) rfl
theorem Tx.h_law_mixed (T : Tx K mg w) : FunD K "_law_mixed" "_law_mixed" (defArgs s_law_mixed) (defBody s_law_mixed) (defScope s_law_mixed) [] [] (He.fAd K ("_law_mixed", none)) (fo K ("_law_mixed", none)) := T.def_ 19 (d := d_law_mixed) rfl
theorem Tx.h_law_text (T : Tx K mg w) : FunD K "_law_text" "_law_text" (defArgs s_law_text) (defBody s_law_text) (defScope s_law_text) [] [] (He.fAd K ("_law_text", none)) (fo K ("_law_text", none)) := T.def_ 20 (d := d_law_text) rfl
theorem Tx.h_law_book (T : Tx K mg w) : FunD K "_law_book" "_law_book" (defArgs s_law_book) (defBody s_law_book) (defScope s_law_book) [] [] (He.fAd K ("_law_book", none)) (fo K ("_law_book", none)) := T.def_ 21 (d := d_law_book) rfl
theorem Tx.h_law_no_row (T : Tx K mg w) : FunD K "_law_no_row" "_law_no_row" (defArgs s_law_no_row) (defBody s_law_no_row) (defScope s_law_no_row) [] [] (He.fAd K ("_law_no_row", none)) (fo K ("_law_no_row", none)) := T.def_ 22 (d := d_law_no_row) rfl
theorem Tx.h_law_no_word (T : Tx K mg w) : FunD K "_law_no_word" "_law_no_word" (defArgs s_law_no_word) (defBody s_law_no_word) (defScope s_law_no_word) [] [] (He.fAd K ("_law_no_word", none)) (fo K ("_law_no_word", none)) := T.def_ 23 (d := d_law_no_word) rfl
theorem Tx.h_law_no_number (T : Tx K mg w) : FunD K "_law_no_number" "_law_no_number" (defArgs s_law_no_number) (defBody s_law_no_number) (defScope s_law_no_number) [] [] (He.fAd K ("_law_no_number", none)) (fo K ("_law_no_number", none)) := T.def_ 24 (d := d_law_no_number) rfl
theorem Tx.h_law_by_stages (T : Tx K mg w) : FunD K "_law_by_stages" "_law_by_stages" (defArgs s_law_by_stages) (defBody s_law_by_stages) (defScope s_law_by_stages) [] [] (He.fAd K ("_law_by_stages", none)) (fo K ("_law_by_stages", none)) := T.def_ 25 (d := d_law_by_stages) rfl
theorem Tx.h_law_row (T : Tx K mg w) : FunD K "_law_row" "_law_row" (defArgs s_law_row) (defBody s_law_row) (defScope s_law_row) [] [] (He.fAd K ("_law_row", none)) (fo K ("_law_row", none)) := T.def_ 26 (d := d_law_row) rfl
theorem Tx.h_law_kinds (T : Tx K mg w) : FunD K "_law_kinds" "_law_kinds" (defArgs s_law_kinds) (defBody s_law_kinds) (defScope s_law_kinds) [] [] (He.fAd K ("_law_kinds", none)) (fo K ("_law_kinds", none)) := T.def_ 27 (d := d_law_kinds) rfl
theorem Tx.h_law_refused (T : Tx K mg w) : FunD K "_law_refused" "_law_refused" (defArgs s_law_refused) (defBody s_law_refused) (defScope s_law_refused) [] [] (He.fAd K ("_law_refused", none)) (fo K ("_law_refused", none)) := T.def_ 28 (d := d_law_refused) rfl
theorem Tx.h_law (T : Tx K mg w) : FunD K "law" "law" (defArgs s_law) (defBody s_law) (defScope s_law) [] [] (He.fAd K ("law", none)) (fo K ("law", none)) := T.def_ 29 (d := d_law) rfl
theorem Tx.h_Knot_init (T : Tx K mg w) : FunD K "__init__" "Knot.__init__" (defArgs s_Knot_init) (defBody s_Knot_init) (defScope s_Knot_init) [] [] (He.fAd K ("Knot", some "__init__")) (fo K ("Knot", some "__init__")) := T.def_ 30 (d := d_Knot_init) rfl
theorem Tx.h_Machine_init (T : Tx K mg w) : FunD K "__init__" "Machine.__init__" (defArgs s_Machine_init) (defBody s_Machine_init) (defScope s_Machine_init) [.non] [] (He.fAd K ("Machine", some "__init__")) (fo K ("Machine", some "__init__")) := T.def_ 31 (d := d_Machine_init) rfl
theorem Tx.h_Machine_begin (T : Tx K mg w) : FunD K "begin" "Machine.begin" (defArgs s_Machine_begin) (defBody s_Machine_begin) (defScope s_Machine_begin) [] [] (He.fAd K ("Machine", some "begin")) (fo K ("Machine", some "begin")) := T.def_ 32 (d := d_Machine_begin) rfl
theorem Tx.h_Machine_grow (T : Tx K mg w) : FunD K "grow" "Machine.grow" (defArgs s_Machine_grow) (defBody s_Machine_grow) (defScope s_Machine_grow) [] [] (He.fAd K ("Machine", some "grow")) (fo K ("Machine", some "grow")) := T.def_ 33 (d := d_Machine_grow) rfl
theorem Tx.h_Machine_put (T : Tx K mg w) : FunD K "put" "Machine.put" (defArgs s_Machine_put) (defBody s_Machine_put) (defScope s_Machine_put) [] [] (He.fAd K ("Machine", some "put")) (fo K ("Machine", some "put")) := T.def_ 34 (d := d_Machine_put) rfl
theorem Tx.h_Machine_parted (T : Tx K mg w) : FunD K "parted" "Machine.parted" (defArgs s_Machine_parted) (defBody s_Machine_parted) (defScope s_Machine_parted) [] [] (He.fAd K ("Machine", some "parted")) (fo K ("Machine", some "parted")) := T.def_ 35 (d := d_Machine_parted) rfl
theorem Tx.h_Machine_book (T : Tx K mg w) : FunD K "book" "Machine.book" (defArgs s_Machine_book) (defBody s_Machine_book) (defScope s_Machine_book) [] [] (He.fAd K ("Machine", some "book")) (fo K ("Machine", some "book")) := T.def_ 36 (d := d_Machine_book) rfl
theorem Tx.h_Machine_ordered (T : Tx K mg w) : FunD K "ordered" "Machine.ordered" (defArgs s_Machine_ordered) (defBody s_Machine_ordered) (defScope s_Machine_ordered) [] [] (He.fAd K ("Machine", some "ordered")) (fo K ("Machine", some "ordered")) := T.def_ 37 (d := d_Machine_ordered) rfl
theorem Tx.h_Machine_table (T : Tx K mg w) : FunD K "table" "Machine.table" (defArgs s_Machine_table) (defBody s_Machine_table) (defScope s_Machine_table) [] [] (He.fAd K ("Machine", some "table")) (fo K ("Machine", some "table")) := T.def_ 38 (d := d_Machine_table) rfl
theorem Tx.h_Desk_init (T : Tx K mg w) : FunD K "__init__" "Desk.__init__" (defArgs s_Desk_init) (defBody s_Desk_init) (defScope s_Desk_init) [] [] (He.fAd K ("Desk", some "__init__")) (fo K ("Desk", some "__init__")) := T.def_ 39 (d := d_Desk_init) rfl
theorem Tx.h_Desk_say (T : Tx K mg w) : FunD K "say" "Desk.say" (defArgs s_Desk_say) (defBody s_Desk_say) (defScope s_Desk_say) [] [] (He.fAd K ("Desk", some "say")) (fo K ("Desk", some "say")) := T.def_ 40 (d := d_Desk_say) rfl
theorem Tx.h_Desk_alone (T : Tx K mg w) : FunD K "alone" "Desk.alone" (defArgs s_Desk_alone) (defBody s_Desk_alone) (defScope s_Desk_alone) [] [] (He.fAd K ("Desk", some "alone")) (fo K ("Desk", some "alone")) := T.def_ 41 (d := d_Desk_alone) rfl
theorem Tx.h_Desk_of_numbers (T : Tx K mg w) : FunD K "of_numbers" "Desk.of_numbers" (defArgs s_Desk_of_numbers) (defBody s_Desk_of_numbers) (defScope s_Desk_of_numbers) [] [] (He.fAd K ("Desk", some "of_numbers")) (fo K ("Desk", some "of_numbers")) := T.def_ 42 (d := d_Desk_of_numbers) rfl
end
end Ap

/-! ## FactsRun -/
set_option Elab.async false
set_option linter.all false
set_option maxRecDepth 100000
set_option maxHeartbeats 0
namespace Ap
open PySem PySem.Spec PyProof.Rows L2
theorem runF (w : World) : HandSHeadRun.RunEq R (PySem.W.view R.prog [92]) hk ob 8000 loose (w.withFollow "special-get-raises" false) := by
  intro os
  kernel_rfl
theorem runT (w : World) : HandSHeadRun.RunEq R (PySem.W.view R.prog [92]) hk ob 8000 loose (w.withFollow "special-get-raises" true) := by
  intro os
  kernel_rfl
theorem run (w : World) : HandSHeadRun.RunEq R (PySem.W.view R.prog [92]) hk ob 8000 loose w := PySem.W.byRow2 "special-get-raises" runF runT w
end Ap

/-! ## Aut -/
/-! The machine's stands, as plain functions: long (lg), link (lk), ways (wy). -/
namespace Ap
variable {α : Type}

/-- b is an ancestor (or itself) of a by links -/
inductive Up (lk : Nat → Option Nat) : Nat → Nat → Prop where
  | refl (a : Nat) : Up lk a a
  | step {a b p : Nat} : lk a = some b → Up lk b p → Up lk a p

theorem Up.trans {lk : Nat → Option Nat} {a b c : Nat} (h : Up lk a b) (k : Up lk b c) : Up lk a c := by
  induction h with
  | refl _ => exact k
  | step e _ ih => exact .step e (ih k)
theorem Up.cmp {lk : Nat → Option Nat} {a p q : Nat} (h : Up lk a p) (k : Up lk a q) : Up lk p q ∨ Up lk q p := by
  induction h with
  | refl _ => exact .inl k
  | step e h ih =>
    cases k with
    | refl _ => exact .inr (.step e h)
    | step e' k' =>
      rw [e] at e'
      cases e'
      exact ih k'

/-- what holds of the stands but what is told of fr, a stand whose link is not yet set (st: the stand where the climb stopped) -/
structure OkX (n : Nat) (lg : Nat → Nat) (lk : Nat → Option Nat) (wy : Nat → α → Option Nat) (fr : Option (Nat × Nat × α)) : Prop where
  pos : 0 < n
  lk0 : lk 0 = none
  lg0 : lg 0 = 0
  L : ∀ k, k < n → k ≠ 0 → ∃ l, lk k = some l ∧ l < n ∧ lg l < lg k
  R : ∀ p c q, wy p c = some q → p < n ∧ q < n
  E : ∀ p c q, wy p c = some q → lg p + 1 ≤ lg q
  P : ∀ k, k < n → k ≠ 0 → ∃ p c, wy p c = some k ∧ lg k = lg p + 1
  S0 : ∀ c q, wy 0 c = some q → lk q = some 0
  S : ∀ p c q p', wy p c = some q → (∀ x, fr = some x → q ≠ x.1) → lk p = some p' → ∃ q', wy p' c = some q' ∧ (q' = q ∨ (lk q = some q' ∧ lg q' = lg p' + 1))
  J : ∀ p1 p2 c1 c2 q, wy p1 c1 = some q → wy p2 c2 = some q → c1 = c2 ∧ (Up lk p1 p2 ∨ Up lk p2 p1)
  F : ∀ f a c, fr = some (f, a, c) → f < n ∧ a < n ∧ (∀ d, wy f d = none) ∧ (∀ k, lk k ≠ some f) ∧ (∀ p d, wy p d = some f → d = c ∧ ∃ p', lk p = some p' ∧ (wy p' c = some f ∨ p' = a)) ∧
    lk f = some 0 ∧ lg a + 1 < lg f ∧ (∃ q, wy a c = some q ∧ q ≠ f) ∧ f ≠ 0

abbrev Ok (n : Nat) (lg : Nat → Nat) (lk : Nat → Option Nat) (wy : Nat → α → Option Nat) : Prop := OkX n lg lk wy none

section
variable {n : Nat} {lg : Nat → Nat} {lk : Nat → Option Nat} {wy : Nat → α → Option Nat} {fr : Option (Nat × Nat × α)}

theorem OkX.up_lt (h : OkX n lg lk wy fr) {a p : Nat} (u : Up lk a p) (ha : a < n) : p < n ∧ (p = a ∨ lg p < lg a) := by
  induction u with
  | refl _ => exact ⟨ha, .inl rfl⟩
  | @step a b p e u ih =>
    have h0 : a ≠ 0 := by
      intro z
      rw [z, h.lk0] at e
      cases e
    obtain ⟨l, e1, e2, e3⟩ := h.L a ha h0
    rw [e] at e1
    cases e1
    obtain ⟨i1, i2⟩ := ih e2
    refine ⟨i1, .inr ?_⟩
    rcases i2 with i2 | i2
    · rw [i2]; exact e3
    · omega
theorem OkX.up_le (h : OkX n lg lk wy fr) {a p : Nat} (u : Up lk a p) (ha : a < n) : lg p ≤ lg a := by
  rcases (h.up_lt u ha).2 with e | e
  · rw [e]; exact Nat.le_refl _
  · omega

/-- the link of what a way leads to is no longer than where the way begins -/
theorem OkX.I (h : OkX n lg lk wy fr) : ∀ (m p : Nat) (c : α) (q : Nat), lg p ≤ m → wy p c = some q → (∀ x, fr = some x → q ≠ x.1) → ∃ l, lk q = some l ∧ lg l ≤ lg p := by
  intro m
  induction m with
  | zero =>
    intro p c q hm e hx
    by_cases hp : p = 0
    · rw [hp] at e
      exact ⟨0, h.S0 c q e, by rw [h.lg0]; exact Nat.zero_le _⟩
    · obtain ⟨l, _, _, e3⟩ := h.L p (h.R p c q e).1 hp
      omega
  | succ m ih =>
    intro p c q hm e hx
    by_cases hp : p = 0
    · rw [hp] at e
      exact ⟨0, h.S0 c q e, by rw [h.lg0]; exact Nat.zero_le _⟩
    · obtain ⟨l, e1, _, e3⟩ := h.L p (h.R p c q e).1 hp
      obtain ⟨q', e4, e5⟩ := h.S p c q l e hx e1
      rcases e5 with e5 | ⟨e5, e6⟩
      · subst e5
        obtain ⟨l', z1, z2⟩ := ih l c q' (by omega) e4 hx
        exact ⟨l', z1, by omega⟩
      · exact ⟨q', e5, by omega⟩

/-- once a chain's ways by c no longer lead to t, they lead to shorter stands -/
theorem OkX.gone (h : OkX n lg lk wy fr) {c : α} {t : Nat} (ht : ∀ x, fr = some x → t ≠ x.1) : ∀ {a p : Nat}, Up lk a p → a < n → ∀ {q : Nat}, wy a c = some q → (∀ x, fr = some x → q ≠ x.1) → lg q < lg t → wy p c ≠ some t := by
  intro a p u
  induction u with
  | refl a =>
    intro ha q e _ hl z
    rw [e] at z
    cases z
    exact absurd hl (Nat.lt_irrefl _)
  | @step a b p e u ih =>
    intro ha q e2 hx hl
    have h0 : a ≠ 0 := by
      intro z
      rw [z, h.lk0] at e
      cases e
    obtain ⟨l, e1, e1', _⟩ := h.L a ha h0
    rw [e] at e1
    cases e1
    obtain ⟨q', e4, e5⟩ := h.S a c q b e2 hx e
    rcases e5 with e5 | ⟨e5, e6⟩
    · subst e5
      exact ih e1' e4 hx hl
    · have hq0 : q ≠ 0 := by
        intro z
        rw [z, h.lk0] at e5
        cases e5
      obtain ⟨l', z1, z2, z3⟩ := h.L q (h.R a c q e2).2 hq0
      rw [e5] at z1
      cases z1
      by_cases hf : ∃ x, fr = some x ∧ q' = x.1
      · obtain ⟨x, hx1, hx2⟩ := hf
        have := (h.F x.1 x.2.1 x.2.2 hx1).2.2.2.1 q
        rw [e5, hx2] at this
        exact absurd rfl this
      · exact ih e1' e4 (fun x hx1 hx2 => hf ⟨x, hx1, hx2⟩) (by omega)
end

/-! ### parting -/
/-- links of the parted machine: t's link is f, f's is t's old one -/
def lkP (lk : Nat → Option Nat) (t f : Nat) : Nat → Option Nat := fun k => if k = f then lk t else if k = t then some f else lk k
def lgP (lg : Nat → Nat) (f v : Nat) : Nat → Nat := fun k => if k = f then v else lg k
section
variable {n : Nat} {lg : Nat → Nat} {lk : Nat → Option Nat} {wy wy' : Nat → α → Option Nat} {fr : Option (Nat × Nat × α)}

theorem up_lkP {t f : Nat} (hf : ∀ k, k ≠ t → lk k ≠ some f) (ht : t ≠ f) {x y : Nat} (u : Up lk x y) (hx : x ≠ f) (hn : ∀ k, Up lk x k → k ≠ f) : Up (lkP lk t f) x y := by
  induction u with
  | refl a => exact .refl a
  | @step a b p e u ih =>
    have hb : b ≠ f := hn b (.step e (.refl b))
    have r := ih hb fun k hk => hn k (.step e hk)
    by_cases ha : a = t
    · subst ha
      refine .step (b := f) ?_ (.step (b := b) ?_ r)
      · unfold lkP
        rw [if_neg hx, if_pos rfl]
      · unfold lkP
        rw [if_pos rfl]
        exact e
    · refine .step (b := b) ?_ r
      unfold lkP
      rw [if_neg hx, if_neg ha]
      exact e

/-- the machine parted at a's way by c to t: f = n is the new stand; wy': the ways by c of a's chain that led to t lead to f -/
theorem OkX.part (h : OkX n lg lk wy fr) {a t : Nat} {c : α} (ha : a < n) (hat : wy a c = some t) (hne : lg t ≠ lg a + 1) (htf : ∀ x, fr = some x → t ≠ x.1) (hac : ∀ x, fr = some x → a = x.2.1 ∧ c = x.2.2)
    (hf1 : ∀ d, wy n d = none)
    (hw1 : ∀ p, Up lk a p → wy p c = some t → wy' p c = some n)
    (hw2 : ∀ p d, p ≠ n → ¬ (d = c ∧ Up lk a p ∧ wy p c = some t) → wy' p d = wy p d)
    (hw3 : ∀ d, wy' n d = wy t d) :
    OkX (n + 1) (lgP lg n (lg a + 1)) (lkP lk t n) wy' fr ∧ wy' a c = some n ∧ lgP lg n (lg a + 1) n = lg a + 1 := by
  have htn : t < n := (h.R a c t hat).2
  have hEt : lg a + 1 < lg t := by
    have := h.E a c t hat
    omega
  have ht0 : t ≠ 0 := by
    intro z
    rw [z, h.lg0] at hEt
    omega
  obtain ⟨l, hl, hln, hlt⟩ := h.L t htn ht0
  have hla : lg l ≤ lg a := by
    obtain ⟨l', e1, e2⟩ := h.I (lg a) a c t (Nat.le_refl _) hat htf
    rw [hl] at e1
    cases e1
    exact e2
  have gN : lgP lg n (lg a + 1) n = lg a + 1 := by unfold lgP; rw [if_pos rfl]
  have gO : ∀ k, k < n → lgP lg n (lg a + 1) k = lg k := fun k hk => by unfold lgP; rw [if_neg (Nat.ne_of_lt hk)]
  have kN : lkP lk t n n = some l := by unfold lkP; rw [if_pos rfl]; exact hl
  have kT : lkP lk t n t = some n := by unfold lkP; rw [if_neg (Nat.ne_of_lt htn), if_pos rfl]
  have kO : ∀ k, k < n → k ≠ t → lkP lk t n k = lk k := fun k hk hk' => by unfold lkP; rw [if_neg (Nat.ne_of_lt hk), if_neg hk']
  -- nobody in range links to n
  have noN : ∀ k, k < n → lk k ≠ some n := fun k hk e => by
    by_cases k0 : k = 0
    · rw [k0, h.lk0] at e
      cases e
    · obtain ⟨l', e1, e2, _⟩ := h.L k hk k0
      rw [e] at e1
      cases e1
      exact absurd e2 (Nat.lt_irrefl _)
  -- Up is kept
  have upK : ∀ x y, x < n → Up lk x y → Up (lkP lk t n) x y := fun x y hx u => by
    have : ∀ {x y : Nat}, Up lk x y → x < n → Up (lkP lk t n) x y := by
      intro x y u
      induction u with
      | refl a => intro _; exact .refl a
      | @step a b p e u ih =>
        intro hx
        have hb : b < n := (h.up_lt (.step e (.refl b)) hx).1
        have r := ih hb
        by_cases hat' : a = t
        · subst hat'
          rw [hl] at e
          cases e
          exact .step kT (.step kN r)
        · exact .step (by rw [kO a hx hat']; exact e) r
    exact this u hx
  -- sources: B, those that are moved
  have inB : ∀ p d q, wy' p d = some q → p ≠ n → (wy p d = some q ∧ ¬ (d = c ∧ Up lk a p ∧ wy p c = some t)) ∨ (d = c ∧ q = n ∧ Up lk a p ∧ wy p c = some t) := fun p d q e hp => by
    by_cases hB : d = c ∧ Up lk a p ∧ wy p c = some t
    · obtain ⟨rfl, u, et⟩ := hB
      have z := hw1 p u et
      rw [e] at z
      cases z
      exact .inr ⟨rfl, rfl, u, et⟩
    · refine .inl ⟨?_, hB⟩
      rw [← hw2 p d hp hB]
      exact e
  have toT : ∀ p d, wy' p d = some t → p ≠ n → wy p d = some t ∧ d = c ∧ ∃ b, lk p = some b ∧ Up lk b a := fun p d e hp => by
    rcases inB p d t e hp with ⟨e1, e2⟩ | ⟨_, e2, _⟩
    · obtain ⟨hd, hu⟩ := h.J p a d c t e1 hat
      refine ⟨e1, hd, ?_⟩
      rcases hu with hu | hu
      · cases hu with
        | refl _ => exact absurd ⟨hd, .refl _, hat⟩ e2
        | step e3 u3 => exact ⟨_, e3, u3⟩
      · rw [hd] at e1
        exact absurd ⟨hd, hu, e1⟩ e2
    · exact absurd e2 (Nat.ne_of_lt htn)
  have notTself : ∀ d, wy t d ≠ some t := fun d e => by
    have := h.E t d t e
    omega
  have wnN : ∀ p d q, wy p d = some q → p ≠ n := fun p d q e z => by
    rw [z, hf1] at e
    cases e
  refine ⟨⟨Nat.succ_pos n, ?_, ?_, ?_, ?_, ?_, ?_, ?_, ?_, ?_, ?_⟩, hw1 a (.refl a) hat, gN⟩
  · rw [kO 0 h.pos (Ne.symm ht0)]; exact h.lk0
  · rw [gO 0 h.pos]; exact h.lg0
  · -- L
    intro k hk k0
    by_cases hkn : k = n
    · subst hkn
      exact ⟨l, kN, Nat.lt_succ_of_lt hln, by rw [gN, gO l hln]; omega⟩
    · have hk' : k < n := by omega
      by_cases hkt : k = t
      · subst hkt
        exact ⟨n, kT, Nat.lt_succ_self n, by rw [gN, gO k hk']; exact hEt⟩
      · obtain ⟨l', e1, e2, e3⟩ := h.L k hk' k0
        exact ⟨l', by rw [kO k hk' hkt]; exact e1, Nat.lt_succ_of_lt e2, by rw [gO l' e2, gO k hk']; exact e3⟩
  · -- R
    intro p d q e
    by_cases hp : p = n
    · subst hp
      rw [hw3] at e
      exact ⟨Nat.lt_succ_self _, Nat.lt_succ_of_lt (h.R t d q e).2⟩
    · rcases inB p d q e hp with ⟨e1, _⟩ | ⟨_, e2, _, e4⟩
      · exact ⟨Nat.lt_succ_of_lt (h.R p d q e1).1, Nat.lt_succ_of_lt (h.R p d q e1).2⟩
      · exact ⟨Nat.lt_succ_of_lt (h.R p c t e4).1, by rw [e2]; exact Nat.lt_succ_self n⟩
  · -- E
    intro p d q e
    by_cases hp : p = n
    · subst hp
      rw [hw3] at e
      have hq := (h.R t d q e).2
      have := h.E t d q e
      rw [gN, gO q hq]
      omega
    · rcases inB p d q e hp with ⟨e1, _⟩ | ⟨_, e2, u, e4⟩
      · rw [gO p (h.R p d q e1).1, gO q (h.R p d q e1).2]
        exact h.E p d q e1
      · rw [e2, gN, gO p (h.R p c t e4).1]
        have := h.up_le u ha
        omega
  · -- P
    intro k hk k0
    by_cases hkn : k = n
    · subst hkn
      exact ⟨a, c, hw1 a (.refl a) hat, by rw [gN, gO a ha]⟩
    · have hk' : k < n := by omega
      obtain ⟨p, d, e1, e2⟩ := h.P k hk' k0
      have hp := (h.R p d k e1).1
      refine ⟨p, d, ?_, by rw [gO k hk', gO p hp]; exact e2⟩
      rw [hw2 p d (Nat.ne_of_lt hp)]
      · exact e1
      · rintro ⟨rfl, u, et⟩
        rw [e1] at et
        cases et
        have := h.up_le u ha
        omega
  · -- S0
    intro d q e
    rcases inB 0 d q e (Nat.ne_of_lt h.pos) with ⟨e1, e1'⟩ | ⟨_, e2, u, e4⟩
    · have hq := (h.R 0 d q e1).2
      by_cases hqt : q = t
      · subst hqt
        obtain ⟨_, _, b, e5, _⟩ := toT 0 d e (Nat.ne_of_lt h.pos)
        rw [h.lk0] at e5
        cases e5
      · rw [kO q hq hqt]
        exact h.S0 d q e1
    · rw [e2, kN]
      rw [← hl]
      exact h.S0 c t e4
  · -- S
    intro p d q p' e hx hp'
    by_cases hp : p = n
    · -- from the new stand
      subst hp
      rw [kN] at hp'
      cases hp'
      rw [hw3] at e
      have hq := (h.R t d q e).2
      have hqt : q ≠ t := fun z => notTself d (by rw [← z]; rw [← z] at e; exact e)
      obtain ⟨q', e1, e2⟩ := h.S t d q l e hx hl
      have nB : ¬ (d = c ∧ Up lk a l ∧ wy l c = some t) := by
        rintro ⟨rfl, u, et⟩
        rw [e1] at et
        cases et
        rcases e2 with e2 | ⟨_, e3⟩
        · exact hqt e2.symm
        · omega
      refine ⟨q', by rw [hw2 l d (Nat.ne_of_lt hln) nB]; exact e1, ?_⟩
      rcases e2 with e2 | ⟨e2, e3⟩
      · exact .inl e2
      · exact .inr ⟨by rw [kO q hq hqt]; exact e2, by rw [gO q' (h.R l d q' e1).2, gO l hln]; exact e3⟩
    · by_cases hpt : p = t
      · -- from t
        subst hpt
        rw [kT] at hp'
        cases hp'
        rcases inB p d q e hp with ⟨e1, _⟩ | ⟨_, e2, u, e4⟩
        · exact ⟨q, by rw [hw3]; exact e1, .inl rfl⟩
        · exact absurd e4 (notTself c)
      · rcases inB p d q e hp with ⟨e1, nB⟩ | ⟨rfl, e2, u, e4⟩
        · have hpn := (h.R p d q e1).1
          have hq := (h.R p d q e1).2
          rw [kO p hpn hpt] at hp'
          have hp'n : p' < n := (h.up_lt (.step hp' (.refl p')) hpn).1
          by_cases hqt : q = t
          · -- to t
            subst hqt
            obtain ⟨_, rfl, b, e5, u5⟩ := toT p d e hp
            rw [hp'] at e5
            cases e5
            by_cases hpa : p' = a
            · subst hpa
              exact ⟨n, hw1 p' (.refl _) hat, .inr ⟨kT, by rw [gN, gO p' ha]⟩⟩
            · obtain ⟨q', z1, z2⟩ := h.S p d q p' e1 hx hp'
              -- p' is strictly below a: its way by c leads to t still
              have nUp : ¬ Up lk a p' := fun u6 => by
                have q1 := h.up_lt u6 ha
                have q2 := h.up_lt u5 hp'n
                rcases q1.2 with w1 | w1
                · exact hpa w1
                · rcases q2.2 with w2 | w2
                  · exact hpa w2.symm
                  · omega
              rcases z2 with z2 | ⟨z2, z3⟩
              · refine ⟨q', ?_, .inl z2⟩
                rw [hw2 p' d (Nat.ne_of_lt hp'n) fun z => nUp z.2.1]
                exact z1
              · -- a's way would lead to something shorter
                exfalso
                have hq' : lg q' < lg q := by
                  rw [hl] at z2
                  cases z2
                  exact hlt
                have hq'f : ∀ x, fr = some x → q' ≠ x.1 := fun x hx1 hx2 => by
                  have := (h.F x.1 x.2.1 x.2.2 hx1).2.2.2.1 q
                  rw [z2, hx2] at this
                  exact absurd rfl this
                exact h.gone htf u5 hp'n z1 hq'f hq' hat
          · obtain ⟨q', z1, z2⟩ := h.S p d q p' e1 hx hp'
            have nB' : ¬ (d = c ∧ Up lk a p' ∧ wy p' c = some t) := by
              rintro ⟨rfl, u, et⟩
              rw [z1] at et
              cases et
              rcases z2 with z2 | ⟨_, z3⟩
              · exact hqt z2.symm
              · have := h.up_le u ha
                omega
            refine ⟨q', by rw [hw2 p' d (Nat.ne_of_lt hp'n) nB']; exact z1, ?_⟩
            rcases z2 with z2 | ⟨z2, z3⟩
            · exact .inl z2
            · exact .inr ⟨by rw [kO q hq hqt]; exact z2, by rw [gO q' (h.R p' d q' z1).2, gO p' hp'n]; exact z3⟩
        · -- moved to n
          subst e2
          have hpn := (h.R p d t e4).1
          rw [kO p hpn hpt] at hp'
          have hp'n : p' < q := (h.up_lt (.step hp' (.refl p')) hpn).1
          obtain ⟨q', z1, z2⟩ := h.S p d t p' e4 htf hp'
          have uP' : Up lk a p' := u.trans (.step hp' (.refl p'))
          rcases z2 with z2 | ⟨z2, z3⟩
          · subst z2
            exact ⟨q, hw1 p' uP' z1, .inl rfl⟩
          · have hq't : q' ≠ t := fun z => by
              rw [hl, z] at z2
              cases z2
              omega
            refine ⟨q', ?_, .inr ⟨by rw [kN, ← hl]; exact z2, by rw [gO q' (h.R p' d q' z1).2, gO p' hp'n]; exact z3⟩⟩
            rw [hw2 p' d (Nat.ne_of_lt hp'n)]
            · exact z1
            · rintro ⟨_, _, et⟩
              rw [z1] at et
              cases et
              exact hq't rfl
  · -- J
    have one : ∀ p d q, wy p d = some q → wy' n d = some q → ∀ p2 d2, wy p2 d2 = some q → wy t d = some q → d = d2 ∧ (Up (lkP lk t n) n p2 ∨ Up (lkP lk t n) p2 n) := fun p d q _ _ p2 d2 e2 et => by
      obtain ⟨hd, hu⟩ := h.J t p2 d d2 q et e2
      refine ⟨hd, ?_⟩
      rcases hu with hu | hu
      · cases hu with
        | refl _ => exact .inr (.step kT (.refl n))
        | step e3 u3 =>
          rw [hl] at e3
          cases e3
          exact .inl (.step kN (upK _ _ hln u3))
      · exact .inr ((upK _ _ (h.R p2 d2 q e2).1 hu).trans (.step kT (.refl n)))
    -- an old stand's way in wy', seen in wy
    have old : ∀ p d q, p ≠ n → q ≠ n → wy' p d = some q → wy p d = some q := fun p d q hp hq e => by
      rcases inB p d q e hp with ⟨e1, _⟩ | ⟨_, e2, _⟩
      · exact e1
      · exact absurd e2 hq
    intro p1 p2 d1 d2 q e1 e2
    by_cases hqn : q = n
    · subst hqn
      have mv : ∀ p d, wy' p d = some q → p ≠ q ∧ d = c ∧ Up lk a p ∧ wy p c = some t := fun p d e => by
        by_cases hp : p = q
        · subst hp
          rw [hw3] at e
          exact absurd (h.R t d p e).2 (Nat.lt_irrefl _)
        · rcases inB p d q e hp with ⟨e3, _⟩ | ⟨e3, _, e4, e5⟩
          · exact absurd (h.R p d q e3).2 (Nat.lt_irrefl _)
          · exact ⟨hp, e3, e4, e5⟩
      obtain ⟨_, x1, x2, x3⟩ := mv p1 d1 e1
      obtain ⟨_, y1, y2, y3⟩ := mv p2 d2 e2
      refine ⟨x1.trans y1.symm, ?_⟩
      rcases x2.cmp y2 with z | z
      · exact .inl (upK _ _ (h.R p1 c t x3).1 z)
      · exact .inr (upK _ _ (h.R p2 c t y3).1 z)
    · by_cases h1 : p1 = n
      · by_cases h2 : p2 = n
        · subst h1
          subst h2
          rw [hw3] at e1 e2
          exact ⟨(h.J t t d1 d2 q e1 e2).1, .inl (.refl _)⟩
        · have o2 := old p2 d2 q h2 hqn e2
          rw [h1] at e1 ⊢
          have e1' := e1
          rw [hw3] at e1'
          exact one t d1 q e1' e1 p2 d2 o2 e1'
      · have o1 := old p1 d1 q h1 hqn e1
        by_cases h2 : p2 = n
        · rw [h2] at e2 ⊢
          have e2' := e2
          rw [hw3] at e2'
          obtain ⟨z1, z2⟩ := one t d2 q e2' e2 p1 d1 o1 e2'
          exact ⟨z1.symm, z2.symm⟩
        · have o2 := old p2 d2 q h2 hqn e2
          obtain ⟨z1, z2⟩ := h.J p1 p2 d1 d2 q o1 o2
          refine ⟨z1, ?_⟩
          rcases z2 with z2 | z2
          · exact .inl (upK _ _ (h.R p1 d1 q o1).1 z2)
          · exact .inr (upK _ _ (h.R p2 d2 q o2).1 z2)
  · -- F
    intro f a' c' e
    obtain ⟨rfl, rfl⟩ : a = a' ∧ c = c' := hac (f, a', c') e
    obtain ⟨f1, f2, f3, f4, f5, f6, f7, ⟨q, f8, f8'⟩, f9⟩ := h.F f a c e
    have htf' : t ≠ f := htf (f, a, c) e
    have hfn : f ≠ n := Nat.ne_of_lt f1
    refine ⟨Nat.lt_succ_of_lt f1, Nat.lt_succ_of_lt f2, fun d => ?_, fun k z => ?_, fun p d z => ?_, by rw [kO f f1 (Ne.symm htf')]; exact f6, by rw [gO a ha, gO f f1]; exact f7, ⟨n, hw1 a (.refl a) hat, Ne.symm hfn⟩, f9⟩
    · rw [hw2 f d hfn]
      · exact f3 d
      · rintro ⟨rfl, _, et⟩
        rw [f3] at et
        cases et
    · by_cases hk : k = n
      · rw [hk, kN] at z
        cases z
        exact f4 t hl
      · by_cases hk' : k = t
        · rw [hk', kT] at z
          cases z
          exact hfn rfl
        · have : lkP lk t n k = lk k := by unfold lkP; rw [if_neg hk, if_neg hk']
          rw [this] at z
          exact f4 k z
    · by_cases hp : p = n
      · subst hp
        rw [hw3] at z
        obtain ⟨rfl, p', z1, z2⟩ := f5 t d z
        rw [hl] at z1
        cases z1
        refine ⟨rfl, l, kN, ?_⟩
        rcases z2 with z2 | z2
        · refine .inl ?_
          rw [hw2 l d (Nat.ne_of_lt hln)]
          · exact z2
          · rintro ⟨_, _, et⟩
            rw [z2] at et
            cases et
            exact htf' rfl
        · exact .inr z2
      · rcases inB p d f z hp with ⟨z1, _⟩ | ⟨_, z2, _⟩
        · obtain ⟨rfl, p', y1, y2⟩ := f5 p d z1
          by_cases hpt : p = t
          · subst hpt
            refine ⟨rfl, n, kT, .inl ?_⟩
            rw [hw3]
            exact z1
          · have hpn := (h.R p d f z1).1
            have hp'n : p' < n := (h.up_lt (.step y1 (.refl p')) hpn).1
            refine ⟨rfl, p', by rw [kO p hpn hpt]; exact y1, ?_⟩
            rcases y2 with y2 | y2
            · refine .inl ?_
              rw [hw2 p' d (Nat.ne_of_lt hp'n)]
              · exact y2
              · rintro ⟨_, _, et⟩
                rw [y2] at et
                cases et
                exact htf' rfl
            · exact .inr y2
        · exact absurd z2 hfn
end
end Ap

/-! ## Aut2 -/
namespace Ap
variable {α : Type}

/-- a chain gone up from a0: vs are the stands passed, st where it stands; good: what is asked of a stand that is passed -/
inductive Climb (lk : Nat → Option Nat) (good : Nat → Prop) (a0 : Nat) : List Nat → Option Nat → Prop where
  | start : Climb lk good a0 [] (some a0)
  | step {vs : List Nat} {a : Nat} : Climb lk good a0 vs (some a) → good a → Climb lk good a0 (a :: vs) (lk a)

section
variable {lk : Nat → Option Nat} {good : Nat → Prop} {a0 : Nat}
theorem Climb.at_up {vs : List Nat} {st : Option Nat} (h : Climb lk good a0 vs st) : (∀ v ∈ vs, Up lk a0 v ∧ good v) ∧ ∀ a, st = some a → Up lk a0 a := by
  induction h with
  | start => exact ⟨fun v hv => (by cases hv), fun a e => by cases e; exact .refl _⟩
  | @step vs a h g ih =>
    obtain ⟨i1, i2⟩ := ih
    have u := i2 a rfl
    refine ⟨fun v hv => ?_, fun b e => u.trans (.step e (.refl b))⟩
    rcases List.mem_cons.mp hv with e | hv
    · rw [e]; exact ⟨u, g⟩
    · exact i1 v hv
theorem Climb.all {vs : List Nat} {st : Option Nat} (h : Climb lk good a0 vs st) : ∀ p, Up lk a0 p → p ∈ vs ∨ ∃ a, st = some a ∧ Up lk a p := by
  induction h with
  | start => exact fun p u => .inr ⟨a0, rfl, u⟩
  | @step vs a h g ih =>
    intro p u
    rcases ih p u with z | ⟨b, e, u2⟩
    · exact .inl (List.mem_cons_of_mem _ z)
    · cases e
      cases u2 with
      | refl _ => exact .inl List.mem_cons_self
      | step e2 u3 => exact .inr ⟨_, e2, u3⟩
theorem Climb.last {vs : List Nat} {st : Option Nat} (h : Climb lk good a0 vs st) : (vs = [] ∧ st = some a0) ∨ ∃ v r, vs = v :: r ∧ st = lk v := by
  cases h with
  | start => exact .inl ⟨rfl, rfl⟩
  | step h g => exact .inr ⟨_, _, rfl, rfl⟩
variable {n : Nat} {lg : Nat → Nat} {wy : Nat → α → Option Nat} {fr : Option (Nat × Nat × α)}
theorem Climb.lower (h : OkX n lg lk wy fr) (ha : a0 < n) {vs : List Nat} {st : Option Nat} (c : Climb lk good a0 vs st) : (∀ v ∈ vs, v < n) ∧ ∀ a, st = some a → a < n ∧ ∀ v ∈ vs, lg a < lg v := by
  induction c with
  | start => exact ⟨fun v hv => (by cases hv), fun a e => by cases e; exact ⟨ha, fun v hv => by cases hv⟩⟩
  | @step vs a c g ih =>
    obtain ⟨i1, i2⟩ := ih
    obtain ⟨j1, j2⟩ := i2 a rfl
    refine ⟨fun v hv => ?_, fun b e => ?_⟩
    · rcases List.mem_cons.mp hv with e | hv
      · rw [e]; exact j1
      · exact i1 v hv
    · have a0' : a ≠ 0 := fun z => by
        rw [z, h.lk0] at e
        cases e
      obtain ⟨l, e1, e2, e3⟩ := h.L a j1 a0'
      rw [e] at e1
      cases e1
      refine ⟨e2, fun v hv => ?_⟩
      rcases List.mem_cons.mp hv with z | hv
      · rw [z]; exact e3
      · have := j2 v hv
        omega
theorem Climb.root (h : OkX n lg lk wy fr) (ha : a0 < n) {vs : List Nat} (c : Climb lk good a0 vs none) : 0 ∈ vs := by
  rcases c.last with ⟨_, e⟩ | ⟨v, r, e1, e2⟩
  · cases e
  · have hv := (c.lower h ha).1 v (by rw [e1]; exact List.mem_cons_self)
    by_cases v0 : v = 0
    · rw [e1, ← v0]; exact List.mem_cons_self
    · obtain ⟨l, e3, _⟩ := h.L v hv v0
      rw [e3] at e2
      cases e2
end

section
variable {n : Nat} {lg : Nat → Nat} {lk : Nat → Option Nat} {wy wy' : Nat → α → Option Nat} {fr : Option (Nat × Nat × α)}
/-- the loop of parting has passed just those whose way led to t -/
theorem OkX.passed (h : OkX n lg lk wy fr) {a t : Nat} {c : α} (ha : a < n) (hat : wy a c = some t) (htf : ∀ x, fr = some x → t ≠ x.1) {vs : List Nat} {st : Option Nat}
    (k : Climb lk (fun p => wy p c = some t) a vs st) (hx : ∀ b, st = some b → wy b c ≠ some t) : ∀ p, p ∈ vs ↔ (Up lk a p ∧ wy p c = some t) := by
  intro p
  refine ⟨fun hp => k.at_up.1 p hp, fun ⟨u, e⟩ => ?_⟩
  rcases k.all p u with z | ⟨b, e2, u2⟩
  · exact z
  · exfalso
    have hb := ((k.lower h ha).2 b e2).1
    rcases k.last with ⟨_, e3⟩ | ⟨v, r, e3, e4⟩
    · have e4 : some b = some a := e2.symm.trans e3
      have e5 : b = a := Option.some.inj e4
      exact hx b e2 (by rw [e5]; exact hat)
    · have hv := k.at_up.1 v (by rw [e3]; exact List.mem_cons_self)
      rw [e2] at e4
      obtain ⟨q', z1, z2⟩ := h.S v c t b hv.2 htf e4.symm
      rcases z2 with z2 | ⟨z2, z3⟩
      · rw [z2] at z1
        exact hx b e2 z1
      · have ht := (h.R a c t hat).2
        have t0 : t ≠ 0 := fun z => by
          rw [z, h.lk0] at z2
          cases z2
        obtain ⟨l, y1, y2, y3⟩ := h.L t ht t0
        rw [z2] at y1
        cases y1
        have hq'f : ∀ x, fr = some x → q' ≠ x.1 := fun x hx1 hx2 => by
          have := (h.F x.1 x.2.1 x.2.2 hx1).2.2.2.1 t
          rw [z2, hx2] at this
          exact absurd rfl this
        exact h.gone htf u2 hb z1 hq'f y3 e

/-- a chain's ways by c: where one is there, those above have one too -/
theorem OkX.onward (h : OkX n lg lk wy none) {c : α} : ∀ {a p : Nat}, Up lk a p → a < n → wy a c ≠ none → wy p c ≠ none := by
  intro a p u
  induction u with
  | refl a => exact fun _ z => z
  | @step a b p e u ih =>
    intro ha z
    obtain ⟨q, hq⟩ := Option.ne_none_iff_exists'.mp z
    obtain ⟨q', z1, _⟩ := h.S a c q b hq (fun x hx => by cases hx) e
    have hb := (h.up_lt (.step e (.refl b)) ha).1
    exact ih hb (by rw [z1]; exact fun y => by cases y)

/-- a new stand n, to which the ways by c of a0's chain lead as far as they had none -/
def lkN (lk : Nat → Option Nat) (f l : Nat) : Nat → Option Nat := fun k => if k = f then some l else lk k
theorem OkX.grow (h : OkX n lg lk wy none) {a0 : Nat} {c : α} (ha : a0 < n) (h0 : wy a0 c = none) (hf1 : ∀ d, wy n d = none) {vs : List Nat} {st : Option Nat}
    (k : Climb lk (fun p => wy p c = none) a0 vs st) (hx : ∀ b, st = some b → wy b c ≠ none) (hfar : ∀ k, n ≤ k → lk k ≠ some n)
    (hw1 : ∀ p, p ∈ vs → wy' p c = some n) (hw2 : ∀ p d, ¬ (d = c ∧ p ∈ vs) → wy' p d = wy p d) :
    OkX (n + 1) (lgP lg n (lg a0 + 1)) (lkN lk n 0) wy' (st.map fun a => (n, a, c)) ∧ ∀ b, st = some b → wy' b c = wy b c ∧ b < n := by
  have gN : lgP lg n (lg a0 + 1) n = lg a0 + 1 := by unfold lgP; rw [if_pos rfl]
  have gO : ∀ k, k < n → lgP lg n (lg a0 + 1) k = lg k := fun k hk => by unfold lgP; rw [if_neg (Nat.ne_of_lt hk)]
  have kN : lkN lk n 0 n = some 0 := by unfold lkN; rw [if_pos rfl]
  have kO : ∀ k, k < n → lkN lk n 0 k = lk k := fun k hk => by unfold lkN; rw [if_neg (Nat.ne_of_lt hk)]
  have vlt := (k.lower h ha).1
  have vup := k.at_up.1
  have stb : ∀ b, st = some b → b < n ∧ ∀ v ∈ vs, lg b < lg v := (k.lower h ha).2
  have a0vs : a0 ∈ vs := by
    rcases k.all a0 (.refl a0) with z | ⟨b, e, u⟩
    · exact z
    · rcases k.last with ⟨_, e2⟩ | ⟨v, r, e2, e3⟩
      · rw [e] at e2
        cases e2
        exact absurd h0 (hx _ e)
      · have q1 := (h.up_lt (k.at_up.2 b e) ha).2
        have q2 := (h.up_lt u (stb b e).1).2
        have hv := vup v (by rw [e2]; exact List.mem_cons_self)
        have q3 := (stb b e).2 v (by rw [e2]; exact List.mem_cons_self)
        have q4 := h.up_le hv.1 ha
        rcases q2 with q2 | q2
        · rw [q2] at q4; omega
        · have q5 : lg b ≤ lg a0 := by
            rcases q1 with q1 | q1
            · rw [q1]; exact Nat.le_refl _
            · omega
          omega
  have nvs : ∀ b, st = some b → b ∉ vs := fun b e z => by
    have := (stb b e).2 b z
    omega
  have inV : ∀ p d q, wy' p d = some q → (wy p d = some q ∧ ¬ (d = c ∧ p ∈ vs)) ∨ (d = c ∧ p ∈ vs ∧ q = n) := fun p d q e => by
    by_cases hv : d = c ∧ p ∈ vs
    · obtain ⟨rfl, hv⟩ := hv
      rw [hw1 p hv] at e
      cases e
      exact .inr ⟨rfl, hv, rfl⟩
    · rw [hw2 p d hv] at e
      exact .inl ⟨e, hv⟩
  have upK : ∀ {x y : Nat}, Up lk x y → x < n → Up (lkN lk n 0) x y := by
    intro x y u
    induction u with
    | refl a => intro _; exact .refl a
    | @step a b p e u ih =>
      intro hx
      exact .step (by rw [kO a hx]; exact e) (ih (h.up_lt (.step e (.refl b)) hx).1)
  have vs0 : ∀ p ∈ vs, ∀ b, lk p = some b → b ∈ vs ∨ st = some b := fun p hp b e => by
    rcases k.all b ((vup p hp).1.trans (.step e (.refl b))) with z | ⟨a, z1, z2⟩
    · exact .inl z
    · -- b is above a = st; but b is the link of a passed one: b = a
      rcases k.last with ⟨y, _⟩ | ⟨v, r, y1, y2⟩
      · rw [y] at hp; cases hp
      · rw [z1] at y2
        have hv := vup v (by rw [y1]; exact List.mem_cons_self)
        have vN := vlt v (by rw [y1]; exact List.mem_cons_self)
        -- p is below v or v: a is above p strictly
        have pa : Up lk b a := by
          rcases (vup p hp).1.cmp ((vup v (by rw [y1]; exact List.mem_cons_self)).1.trans (.step y2.symm (.refl a))) with w | w
          · cases w with
            | refl _ =>
              have := (stb p z1).2 p hp
              omega
            | step w1 w2 =>
              rw [e] at w1
              cases w1
              exact w2
          · have q1 := h.up_le w (stb a z1).1
            have q2 := (stb a z1).2 p hp
            omega
        have l1 := (h.up_lt pa (h.up_lt (.step e (.refl b)) (vlt p hp)).1).2
        have l2 := (h.up_lt z2 (stb a z1).1).2
        rcases l1 with l1 | l1
        · exact .inr (by rw [← l1]; exact z1)
        · rcases l2 with l2 | l2
          · exact .inr (by rw [l2]; exact z1)
          · omega
  have n0 : n ≠ 0 := Nat.ne_of_gt h.pos
  refine ⟨⟨Nat.succ_pos n, by rw [kO 0 h.pos]; exact h.lk0, by rw [gO 0 h.pos]; exact h.lg0, ?_, ?_, ?_, ?_, ?_, ?_, ?_, ?_⟩, fun b e => ⟨hw2 b c fun z => nvs b e z.2, (stb b e).1⟩⟩
  · intro k' hk k0
    by_cases hkn : k' = n
    · subst hkn
      exact ⟨0, kN, Nat.succ_pos _, by rw [gN, gO 0 h.pos, h.lg0]; omega⟩
    · have hk' : k' < n := by omega
      obtain ⟨l, e1, e2, e3⟩ := h.L k' hk' k0
      exact ⟨l, by rw [kO k' hk']; exact e1, Nat.lt_succ_of_lt e2, by rw [gO l e2, gO k' hk']; exact e3⟩
  · intro p d q e
    rcases inV p d q e with ⟨e1, _⟩ | ⟨_, e2, e3⟩
    · exact ⟨Nat.lt_succ_of_lt (h.R p d q e1).1, Nat.lt_succ_of_lt (h.R p d q e1).2⟩
    · exact ⟨Nat.lt_succ_of_lt (vlt p e2), by rw [e3]; exact Nat.lt_succ_self n⟩
  · intro p d q e
    rcases inV p d q e with ⟨e1, _⟩ | ⟨_, e2, e3⟩
    · rw [gO p (h.R p d q e1).1, gO q (h.R p d q e1).2]
      exact h.E p d q e1
    · rw [e3, gN, gO p (vlt p e2)]
      have := h.up_le (vup p e2).1 ha
      omega
  · intro k' hk k0
    by_cases hkn : k' = n
    · subst hkn
      exact ⟨a0, c, hw1 a0 a0vs, by rw [gN, gO a0 ha]⟩
    · have hk' : k' < n := by omega
      obtain ⟨p, d, e1, e2⟩ := h.P k' hk' k0
      refine ⟨p, d, ?_, by rw [gO k' hk', gO p (h.R p d k' e1).1]; exact e2⟩
      rw [hw2 p d]
      · exact e1
      · rintro ⟨rfl, hv⟩
        rw [(vup p hv).2] at e1
        cases e1
  · intro d q e
    rcases inV 0 d q e with ⟨e1, _⟩ | ⟨_, e2, e3⟩
    · rw [kO q (h.R 0 d q e1).2]
      exact h.S0 d q e1
    · rw [e3]
      exact kN
  · -- S
    intro p d q p' e hx' hp'
    rcases inV p d q e with ⟨e1, nv⟩ | ⟨e2, e3, e4⟩
    · have hp := (h.R p d q e1).1
      have hq := (h.R p d q e1).2
      rw [kO p hp] at hp'
      have hp'n := (h.up_lt (.step hp' (.refl p')) hp).1
      obtain ⟨q', z1, z2⟩ := h.S p d q p' e1 (fun x hx => by cases hx) hp'
      refine ⟨q', ?_, ?_⟩
      · rw [hw2 p' d]
        · exact z1
        · rintro ⟨rfl, hv⟩
          rw [(vup p' hv).2] at z1
          cases z1
      · rcases z2 with z2 | ⟨z2, z3⟩
        · exact .inl z2
        · exact .inr ⟨by rw [kO q hq]; exact z2, by rw [gO q' (h.R p' d q' z1).2, gO p' hp'n]; exact z3⟩
    · -- to the new stand: only where the climb came to the root
      subst e2 e4
      cases hst : st with
      | some b =>
        rw [hst] at hx'
        exact absurd rfl (hx' (q, b, d) rfl)
      | none =>
        rw [kO p (vlt p e3)] at hp'
        rcases vs0 p e3 p' hp' with z | z
        · exact ⟨q, hw1 p' z, .inl rfl⟩
        · rw [hst] at z
          cases z
  · -- J
    intro p1 p2 d1 d2 q e1 e2
    rcases inV p1 d1 q e1 with ⟨x1, _⟩ | ⟨x1, x2, x3⟩
    · rcases inV p2 d2 q e2 with ⟨y1, _⟩ | ⟨_, _, y3⟩
      · obtain ⟨z1, z2⟩ := h.J p1 p2 d1 d2 q x1 y1
        refine ⟨z1, ?_⟩
        rcases z2 with z2 | z2
        · exact .inl (upK z2 (h.R p1 d1 q x1).1)
        · exact .inr (upK z2 (h.R p2 d2 q y1).1)
      · have := (h.R p1 d1 q x1).2
        omega
    · rcases inV p2 d2 q e2 with ⟨y1, _⟩ | ⟨y1, y2, _⟩
      · have := (h.R p2 d2 q y1).2
        omega
      · refine ⟨x1.trans y1.symm, ?_⟩
        rcases (vup p1 x2).1.cmp (vup p2 y2).1 with z | z
        · exact .inl (upK z (vlt p1 x2))
        · exact .inr (upK z (vlt p2 y2))
  · -- F
    intro f a c' e
    cases hst : st with
    | none =>
      rw [hst] at e
      cases e
    | some b =>
      rw [hst] at e
      cases e
      have hb := stb a hst
      refine ⟨Nat.lt_succ_self _, Nat.lt_succ_of_lt hb.1, fun d => ?_, fun k' z => ?_, fun p d z => ?_, kN, ?_, ?_, n0⟩
      · rw [hw2 _ d fun z => absurd (vlt _ z.2) (Nat.lt_irrefl _)]
        exact hf1 d
      · by_cases hk : k' = n
        · rw [hk, kN] at z
          cases z
          exact n0 rfl
        · have z' : lk k' = some n := by
            unfold lkN at z
            rw [if_neg hk] at z
            exact z
          by_cases hk' : k' < n
          · by_cases k0 : k' = 0
            · rw [k0, h.lk0] at z'
              cases z'
            · obtain ⟨l, e1, e2, _⟩ := h.L k' hk' k0
              rw [z'] at e1
              cases e1
              exact absurd e2 (Nat.lt_irrefl _)
          · exact hfar k' (Nat.le_of_not_lt hk') z'
      · rcases inV p d _ z with ⟨z1, _⟩ | ⟨z1, z2, _⟩
        · exact absurd (h.R p d _ z1).2 (Nat.lt_irrefl _)
        · refine ⟨z1, ?_⟩
          rcases k.last with ⟨y, _⟩ | _
          · rw [y] at z2; cases z2
          · by_cases p0 : p = 0
            · -- the root is above all: the climb would have ended
              exfalso
              have := hb.2 p z2
              rw [p0, h.lg0] at this
              omega
            · obtain ⟨l, e1, e2, e3⟩ := h.L p (vlt p z2) p0
              refine ⟨l, by rw [kO p (vlt p z2)]; exact e1, ?_⟩
              rcases vs0 p z2 l e1 with w | w
              · exact .inl (hw1 l w)
              · rw [hst] at w
                cases w
                exact .inr rfl
      · rw [gO a hb.1, gN]
        have := hb.2 a0 a0vs
        omega
      · obtain ⟨q, hq⟩ := Option.ne_none_iff_exists'.mp (hx a hst)
        refine ⟨q, ?_, fun z => ?_⟩
        · rw [hw2 a c fun z => nvs a hst z.2]
          exact hq
        · have := (h.R a c q hq).2
          omega
/-- the new stand's link is set -/
theorem OkX.finish {f a r : Nat} {c : α} (h : OkX n lg lk wy (some (f, a, c))) (hr : wy a c = some r) (hl : lg r = lg a + 1) : OkX n lg (lkN lk f r) wy none := by
  obtain ⟨f1, f2, f3, f4, f5, f6, f7, f8, f9⟩ := h.F f a c rfl
  have kN : lkN lk f r f = some r := by unfold lkN; rw [if_pos rfl]
  have kO : ∀ k, k ≠ f → lkN lk f r k = lk k := fun k hk => by unfold lkN; rw [if_neg hk]
  have rn := (h.R a c r hr).2
  have upK : ∀ {x y : Nat}, Up lk x y → x ≠ f → Up (lkN lk f r) x y := by
    intro x y u
    induction u with
    | refl a => intro _; exact .refl a
    | @step a b p e u ih =>
      intro hx
      exact .step (by rw [kO a hx]; exact e) (ih fun z => f4 a (by rw [e, z]))
  have src : ∀ p d q, wy p d = some q → p ≠ f := fun p d q e z => by
    rw [z, f3] at e
    cases e
  have r' : r ≠ f := fun z => by
    rw [z] at hl
    omega
  refine ⟨h.pos, by rw [kO 0 (Ne.symm f9)]; exact h.lk0, h.lg0, ?_, h.R, h.E, h.P, ?_, ?_, ?_, fun x y z e => by cases e⟩
  · intro k hk k0
    by_cases hkf : k = f
    · subst hkf
      exact ⟨r, kN, rn, by omega⟩
    · rw [kO k hkf]
      exact h.L k hk k0
  · intro d q e
    by_cases hq : q = f
    · subst hq
      obtain ⟨_, p', e1, _⟩ := f5 0 d e
      rw [h.lk0] at e1
      cases e1
    · rw [kO q hq]
      exact h.S0 d q e
  · intro p d q p' e _ hp'
    rw [kO p (src p d q e)] at hp'
    by_cases hq : q = f
    · subst hq
      obtain ⟨rfl, p2, e1, e2⟩ := f5 p d e
      rw [hp'] at e1
      cases e1
      rcases e2 with e2 | e2
      · exact ⟨q, e2, .inl rfl⟩
      · subst e2
        exact ⟨r, hr, .inr ⟨kN, hl⟩⟩
    · rw [kO q hq]
      exact h.S p d q p' e (fun x hx => by cases hx; exact hq) hp'
  · intro p1 p2 d1 d2 q e1 e2
    obtain ⟨z1, z2⟩ := h.J p1 p2 d1 d2 q e1 e2
    refine ⟨z1, ?_⟩
    rcases z2 with z2 | z2
    · exact .inl (upK z2 (src p1 d1 q e1))
    · exact .inr (upK z2 (src p2 d2 q e2))
/-- one stand alone -/
theorem ok_one {lg : Nat → Nat} {lk : Nat → Option Nat} {wy : Nat → α → Option Nat} (h1 : lk 0 = none) (h2 : lg 0 = 0) (h3 : ∀ p c, wy p c = none) : OkX 1 lg lk wy none := by
  have no : ∀ {p : Nat} {c : α} {q : Nat} {P : Prop}, wy p c = some q → P := fun {p c q P} e => by
    rw [h3] at e
    cases e
  exact ⟨Nat.one_pos, h1, h2, fun k hk k0 => absurd hk (by omega), fun p c q e => no e, fun p c q e => no e, fun k hk k0 => absurd hk (by omega), fun c q e => no e, fun p c q p' e => no e,
    fun p1 p2 c1 c2 q e => no e, fun f a c e => nomatch e⟩
/-- every stand but 0 is come to from 0 by ways: what is closed under ways and holds 0 holds all -/
theorem OkX.reach (h : OkX n lg lk wy fr) (A : Nat → Prop) (a0 : A 0) (hA : ∀ p c q, A p → wy p c = some q → A q) : ∀ k, k < n → A k := by
  have : ∀ m k, lg k ≤ m → k < n → A k := by
    intro m
    induction m with
    | zero =>
      intro k hk hn
      by_cases k0 : k = 0
      · rw [k0]; exact a0
      · obtain ⟨p, c, e1, e2⟩ := h.P k hn k0
        omega
    | succ m ih =>
      intro k hk hn
      by_cases k0 : k = 0
      · rw [k0]; exact a0
      · obtain ⟨p, c, e1, e2⟩ := h.P k hn k0
        exact hA p c k (ih p (by omega) (h.R p c k e1).1) e1
  exact fun k hn => this (lg k) k (Nat.le_refl _) hn
end
end Ap

/-! ## Lib -/
set_option Elab.async false
set_option linter.all false
set_option maxRecDepth 100000
set_option maxHeartbeats 4000000
namespace Ap
open PySem PySem.Spec PyProof.Rows L2
abbrev St := L2.St
abbrev Er.E (K : PySem.W.Frag) (e : Er) : Value := .ref (ea K e)
/-! ### built-in names -/
theorem b_isinstance : bootBuiltins "isinstance" = some (.builtin "isinstance") := by decide +kernel
theorem b_all : bootBuiltins "all" = some (.builtin "all") := by decide +kernel
theorem b_len : bootBuiltins "len" = some (.builtin "len") := by decide +kernel
theorem b_sum : bootBuiltins "sum" = some (.builtin "sum") := by decide +kernel
theorem b_sorted : bootBuiltins "sorted" = some (.builtin "sorted") := by decide +kernel
theorem b_min : bootBuiltins "min" = some (.builtin "min") := by decide +kernel
theorem b_max : bootBuiltins "max" = some (.builtin "max") := by decide +kernel
theorem b_set : bootBuiltins "set" = some (.type "set") := by decide +kernel
theorem b_list : bootBuiltins "list" = some (.type "list") := by decide +kernel
theorem b_dict : bootBuiltins "dict" = some (.type "dict") := by decide +kernel
theorem b_tuple : bootBuiltins "tuple" = some (.type "tuple") := by decide +kernel
theorem b_str : bootBuiltins "str" = some (.type "str") := by decide +kernel
theorem b_int : bootBuiltins "int" = some (.type "int") := by decide +kernel
theorem b_bool : bootBuiltins "bool" = some (.type "bool") := by decide +kernel
theorem b_ValueError : bootBuiltins "ValueError" = some (.type "ValueError") := by decide +kernel
/-! ### comprehensions whose elements leave what is tracked -/
open Evl (Ev Ex)
section
variable {J : It} {n : Nat} {G : Hp → Prop} {Y : Nat → Hp → V → Hp → Prop}
theorem lc_mapN (w : Walk J n G Y) {te : TE} {j : Nat} {vs : List Nat} {σ : St} {H1 : Hp} {D : Addr} {Qd : Hp → Prop} (f : Nat → V) (hz : n ≤ 1000000) (hD : H1 D = none)
    (hw : ∀ x, wipe ((wipe σ vs).set j (some x)) vs = wipe σ vs) (hG : ∀ H, Ex H1 H → G H)
    (hY : ∀ i x H H', i < n → Ex H1 H → Y i H x H' → H' = H ∧ Ev te ((wipe σ vs).set j (some x)) H (f i))
    (hd : ∀ H, Ex H1 H → H D = some (.lst ((List.range n).map f)) → Qd H) :
    ∃ W : Nat → Nat → Hp → Prop, (∃ m, W 0 m (upd H1 D (.lst []))) ∧ ∀ i m H, W i m H →
      (J.stop i H ∧ Qd H) ∨ (J.go i H ∧ ∃ Nx : Hp → Prop, (∀ H', Nx H' → ∃ m', m' < m ∧ W (i + 1) m' H') ∧ ∀ x H', J.yld i H x H' → gName j x (wipe σ vs) H' fun σ2 H2 => wipe σ2 vs = wipe σ vs ∧ tYes σ2 H2 fun b H3 =>
        if b = true then te σ2 H3 fun y H4 => ∃ acc, H4 D = some (.lst acc) ∧ acc.length < sizeLine ∧ Nx (upd H4 D (.lst (acc ++ [y]))) else Nx H3) := by
  refine lc_it w (fun i H => Ex H1 H ∧ H D = some (.lst ((List.range i).map f))) ⟨Ex.new hD, upd_same⟩ (fun i H _ p => hG H p.1) ?_ (fun H p => hd H p.1 p.2)
  rintro i x H H' hi ⟨p1, p2⟩ y
  obtain ⟨e1, e2⟩ := hY i x H H' hi p1 y
  subst e1
  refine ⟨hw x, ?_⟩
  show te _ H' fun y H4 => ∃ acc, H4 D = some (.lst acc) ∧ acc.length < sizeLine ∧ (Ex H1 (upd H4 D (.lst (acc ++ [y]))) ∧ upd H4 D (.lst (acc ++ [y])) D = some (.lst ((List.range (i + 1)).map f)))
  refine e2 H' (Ex.refl _) _ fun H4 e4 => ⟨_, e4 D _ p2, ?_, Ex.mut (p1.trans e4) hD, ?_⟩
  · rw [List.length_map, List.length_range]
    exact Nat.lt_of_lt_of_le hi (Nat.le_trans hz (by rw [sizeLine_eq]; decide))
  · rw [upd_same, List.range_succ, List.map_append]
    rfl
end
theorem range_get {n : Nat} {α : Type} (l : List α) (d : α) (hl : l.length = n) : (List.range n).map (fun i => l.getD i d) = l := by
  subst hl
  apply List.ext_getElem
  · simp
  · intro i h1 h2
    simp [List.getD_eq_getElem?_getD, h2]
theorem range_get_map {n : Nat} {α β : Type} (l : List α) (d : α) (f : α → β) (hl : l.length = n) : (List.range n).map (fun i => f (l.getD i d)) = l.map f := by
  rw [← range_get l d hl, List.map_map]
  rw [range_get l d hl]
  rfl
end Ap
namespace Ap
open PySem PySem.Spec PyProof.Rows L2 Evl
section
variable {K : PySem.W.Frag} {σ : L2.St} {H H' : Hp} {ta tb tc te : TE} {x y v z : V} {r r' : R2}
/-- a < b < c -/
theorem ev_chain {a b : Bool} (ha : Ev ta σ H x) (hb : Ev tb σ H y) (hr : RV r x y H (.bl a)) (hc : a = true → Ev tc σ H z) (hr' : a = true → RV r' y z H (.bl b)) : Ev (tChain r r' ta tb tc) σ H (.bl (a && b)) := fun H1 e Q q =>
  ha H1 e _ fun H2 e2 => hb H2 (e.trans e2) _ fun H3 e3 => hr H3 ((e.trans e2).trans e3) _ fun H4 e4 => ⟨a, rfl, by
    have e14 := (e2.trans e3).trans e4
    cases a with
    | true =>
      show tc σ H4 fun w' H5 => r' y w' H5 Q
      exact hc rfl H4 (e.trans e14) _ fun H5 e5 => hr' rfl H5 ((e.trans e14).trans e5) Q fun H6 e6 => q H6 ((e14.trans e5).trans e6)
    | false =>
      show Q (.bl false) H4
      exact q H4 e14⟩
theorem rc_lenS {z : Str} (hz : z.length ≤ 1000000) : RC (fun xs H Q => ∃ z, xs = [.str z] ∧ z.length ≤ sizeLine ∧ Q (.int z.length) H) [.str z] H (.int (z.length : Int)) :=
  fun H1 _ _ q => ⟨z, rfl, Nat.le_trans hz (by decide), q H1 (Ex.refl H1)⟩
theorem ev_lenS {z : Str} (h : Ev ta σ H (.str z)) (hz : z.length ≤ 1000000) : Ev (tCB (fun xs H Q => ∃ z, xs = [.str z] ∧ z.length ≤ sizeLine ∧ Q (.int z.length) H) (tCons ta tNil)) σ H (.int (z.length : Int)) :=
  ev_cb (ea_cons h ea_nil) (rc_lenS hz)
/-- a call whose promise gives v -/
theorem ev_callE {sp : Sp} {dvs vs : List V} {E : XK} {tA : TA} (h : EvA tA σ H vs) (hs : ∀ H1, Ex H H1 → ∀ Q : VK, (∀ H2, Ex H1 H2 → Q v H2) → sp (vs ++ dvs) H1 Q E) : Ev (tCall sp dvs E tA) σ H v := fun H1 e Q q =>
  h H1 e _ fun H2 e2 => hs H2 (e.trans e2) Q fun H3 e3 => q H3 (e2.trans e3)
theorem ev_isi {c : V} {t u : Value} {b : Bool} (h : Ev ta σ H x) (hc : Ev tb σ H c) (k : ClsV c u) (ty : ∀ H1, Ex H H1 → TyX K H1 x t) (e : PySem.W.kitOne K t u = some b) : Ev (tCB (rIsi K) (tCons ta (tCons tb tNil))) σ H (.bl b) :=
  ev_cb (ea_cons h (ea_cons hc ea_nil)) fun H1 e1 _ q => ⟨x, c, t, u, b, rfl, k, ty H1 e1, e, q H1 (Ex.refl H1)⟩
end
section
variable {X : Cx}
/-- raise X('..'), X one of the errors -/
theorem pmk_er {w : World} (e : Er) (T : Tx X.K X.mg w) {x : Str} (hx : x = e.cls) {m : Str} {j : Nat} {p p2 pos : Pos} (hg : Gl X x) : PMk X (.Call (.Name x p) [.Constant (.str m) j p2] [] pos) (fun _ H Q => Q (.ref (ea X.K e)) none H) := by
  obtain ⟨h1, h2, h3, h4, h5, h6⟩ := T.exc e
  subst hx
  exact pmk_own PySem.F.excBase_ValueError h2 h1 h3 (raises_own h4 h5) hg (by cases e <;> decide)
end
end Ap

/-! ## D1 -/
set_option Elab.async false
set_option linter.all false
set_option maxRecDepth 100000
set_option maxHeartbeats 4000000
namespace Ap
open PySem PySem.Spec PyProof.Rows L2 Evl
section
variable {P : Program} {w : World} {K : PySem.W.Frag} {mg : Str → Option Value} {base : Heap}
/-! ### books.is_signs, is_word, signs_in -/
def sg : Str := "abcdefghijklmnopqrstuvwxyz"
def isSign (c : Nat) : Bool := decide (c ∈ sg.cps.toList)
def isSigns (z : Str) : Bool := z.cps.toList.all isSign
def isWord (z : Str) : Bool := isSigns z && decide (z.length ≤ 200)
def spIsSigns : Sp := fun vs H Q _ => ∃ z : Str, vs = [.str z] ∧ z.length ≤ 1000000 ∧ ∀ H', Ex H H' → Q (.bl (isSigns z)) H'
def spIsWord : Sp := fun vs H Q _ => ∃ z : Str, vs = [.str z] ∧ z.length ≤ 1000000 ∧ ∀ H', Ex H H' → Q (.bl (isWord z)) H'
theorem scIsSigns : FnScope ["thing", "sign"] ["thing"] (defScope s_is_signs) := ⟨rfl, rfl, rfl, by decide +kernel, rfl, by decide +kernel, by decide +kernel⟩
theorem scIsWord : FnScope ["thing"] ["thing"] (defScope s_is_word) := ⟨rfl, rfl, rfl, by decide +kernel, rfl, by decide +kernel, by decide +kernel⟩
theorem ok_is_signs (T : Tx K mg w) : FnOk P w K mg base CX0 1 (He.fAd K ("is_signs", none)) (fo K ("is_signs", none)) ["thing"] spIsSigns := by
  obtain ⟨tk, eS⟩ := T.z_SIGNS
  refine T.h_is_signs.ok scIsSigns (fun vs H Q E h => ?_) (fun cdv A outer s H vs Q E hr h => ?_)
  · obtain ⟨z, rfl, _⟩ := h
    rfl
  · obtain ⟨z, rfl, hz, k⟩ := h
    refine ⟨_, PSs.nox (pss_one (ps_ret (pe_and (pe_callB call_isi (by rfl) T.f_isinstance b_isinstance (pa_cons (pv 0) (pa_cons (pe_bltn (v := .ty "str") (by rfl) T.f_str b_str rfl) pa_nil)))
      (pe_one (pe_callB (cr_all rfl) (by rfl) T.f_all b_all (pa_cons
        (pe_lc (own := [("sign", 1)]) (g := gName 1) (tt := tYes) rfl scIsSigns.nd (pi_str (pv 0)) (blkOk_by (N := ["thing", "sign"]) (sc := defScope s_is_signs) (by decide +kernel)) (fun _ _ _ _ _ => pg_name (i := 1) scIsSigns.nd rfl (Or.inl rfl)) (fun _ _ _ _ _ => pts_nil)
          (fun _ _ _ _ _ => pe_cmpR op_in_sign (pv 1) (pe_glob (v := .str sg) (by rfl) eS ⟨tk, rfl⟩) (by rfl))) pa_nil)))))), ?_⟩
    refine ⟨_, rfl, _, _, _, _, true, rfl, .ty "str", .base (.str z), kit_ty (by decide +kernel), true, rfl, iteT ?_⟩
    refine ⟨_, rfl, z, rfl, fun D hD => lc_mapN walk_str (fun i => .bl (isSign (z.cps.toList.getD i 0))) (by exact hz) hD (fun x => rfl) (fun _ _ => trivial) ?_ ?_⟩
    · rintro i x H1 H2 hi e ⟨rfl, c, hc, rfl⟩
      refine ⟨rfl, fun H3 e3 Q' q' => ⟨_, rfl, _, _, rfl, rfl, ?_⟩⟩
      have ec : z.cps.toList.getD i 0 = c := by
        rw [List.getD_eq_getElem?_getD, Array.getElem?_toList, hc]
        rfl
      rw [ec] at q'
      exact q' H3 (Ex.refl _)
    · intro H' e hH
      refine ⟨D, z.cps.toList.map isSign, rfl, SqL.of ?_, ?_⟩
      · rw [hH, List.map_map, range_get_map (n := z.cps.size) z.cps.toList 0 (fun c => V.bl (isSign c)) (by simp)]
        rfl
      · rw [List.all_map]
        exact k H' e
theorem ok_is_word (T : Tx K mg w) : FnOk P w K mg base CX0 2 (He.fAd K ("is_word", none)) (fo K ("is_word", none)) ["thing"] spIsWord := by
  obtain ⟨tk, eL⟩ := T.i_LONGEST_WORD
  have G := ok_is_signs (P := P) (base := base) T
  have b : Binds K (fo K ("is_signs", none)) ["thing"] [] := T.h_is_signs.bindsN fun _ _ _ _ _ _ us hl => match us, hl with | [_], _ => rfl
  refine T.h_is_word.ok scIsWord (fun vs H Q E h => ?_) (fun cdv A outer s H vs Q E hr h => ?_)
  · obtain ⟨z, rfl, _⟩ := h
    rfl
  · obtain ⟨z, rfl, hz, k⟩ := h
    refine ⟨_, PSs.nox (pss_one (ps_ret (pe_and (pe_call G hr (by rfl) T.g_is_signs T.h_is_signs.kp b .nil pass0 (pa_cons (pv 0) pa_nil))
      (pe_one (pe_cmpR op_le (pe_callB call_len_str (by rfl) T.f_len b_len (pa_cons (pv 0) pa_nil)) (pe_glob (v := .int 200) (by rfl) eL ⟨tk, rfl⟩) (nomark _)))))), ?_⟩
    refine s_ret (ev_andV (ev_callE (v := .bl (isSigns z)) (ea_cons (ev_var rfl) ea_nil) fun H1 _ Q' q' => ⟨z, rfl, hz, q'⟩) fun _ => ev_op (ev_lenS (ev_var rfl) hz) ev_c rv_I0) ?_
    intro H1 e
    have : decide ((z.length : Int) ≤ 200) = decide (z.length ≤ 200) := by
      rw [decide_eq_decide]; omega
    show Q (.bl (isSigns z && decide ((z.length : Int) ≤ 200))) H1
    rw [this]
    exact k H1 e
/-- how many signs -/
def total (ts : List Str) : Nat := (ts.map (·.length)).sum
def spSignsIn (K : PySem.W.Frag) : Sp := fun vs H Q _ => ∃ (a : Addr) (ts : List Str), vs = [.ref a] ∧ SqL K H a (ts.map .str) ∧ ts.length ≤ 1000 ∧ (∀ t ∈ ts, t.length ≤ 1000000) ∧ ∀ H', Ex H H' → Q (.int (total ts : Nat)) H'
theorem scSignsIn : FnScope ["book", "text"] ["book"] (defScope s_signs_in) := ⟨rfl, rfl, rfl, by decide +kernel, rfl, by decide +kernel, by decide +kernel⟩
theorem sum_ints : ∀ ts : List Str, (ts.map fun t : Str => (t.length : Int)).sum = (total ts : Nat)
  | [] => rfl
  | t :: ts => by
    have ih := sum_ints ts
    unfold total at ih ⊢
    rw [List.map_cons, List.map_cons, List.sum_cons, List.sum_cons, ih]
    omega
theorem ok_signs_in (T : Tx K mg w) : FnOk P w K mg base CX0 1 (He.fAd K ("signs_in", none)) (fo K ("signs_in", none)) ["book"] (spSignsIn K) := by
  refine T.h_signs_in.ok scSignsIn (fun vs H Q E h => ?_) (fun cdv A outer s H vs Q E hr h => ?_)
  · obtain ⟨a, ts, rfl, _⟩ := h
    rfl
  · obtain ⟨a, ts, rfl, hS, hn, hz, k⟩ := h
    refine ⟨_, PSs.nox (pss_one (ps_ret (pe_callB (cr_sum rfl) (by rfl) T.f_sum b_sum (pa_cons
        (pe_lc (own := [("text", 1)]) (g := gName 1) (tt := tYes) rfl scSignsIn.nd (pi_list (pv 0)) (blkOk_by (N := ["book", "text"]) (sc := defScope s_signs_in) (by decide +kernel)) (fun _ _ _ _ _ => pg_name (i := 1) scSignsIn.nd rfl (Or.inl rfl)) (fun _ _ _ _ _ => pts_nil)
          (fun _ _ _ _ _ => pe_callB call_len_str (by rfl) T.f_len b_len (pa_cons (pv 1) pa_nil))) pa_nil)))), ?_⟩
    refine ⟨_, rfl, a, rfl, ⟨_, hS⟩, fun D hD => lc_mapN (walk_list (xs := ts.map .str)) (fun i => .int ((ts.getD i Str.empty).length : Int)) (by rw [List.length_map]; omega) hD (fun x => rfl) (fun _ e => ex_l e hS) ?_ ?_⟩
    · rintro i x H1 H2 hi e ⟨rfl, hx⟩
      rw [List.length_map] at hi
      rw [List.getElem?_map, List.getElem?_eq_getElem hi] at hx
      cases hx
      refine ⟨rfl, ?_⟩
      have ec : ts.getD i Str.empty = ts[i] := by simp [List.getD_eq_getElem?_getD, hi]
      rw [ec]
      exact ev_lenS (ev_var rfl) (hz _ (List.getElem_mem hi))
    · intro H' e hH
      refine ⟨D, ts.map fun t => (t.length : Int), rfl, SqL.of ?_, ?_⟩
      · rw [hH, List.map_map, range_get_map (n := (ts.map V.str).length) ts Str.empty (fun t => V.int (t.length : Int)) (by simp)]
        rfl
      · rw [sum_ints]
        exact k H' e
/-! ### texts.show_word, read_word -/
def emp : Str := ""
def dash : Str := "-"
def dot : Str := "."
def showWord (z : Str) : Str := if z = emp then dash else z
def readWord (z : Str) : Option Str := if z = dash then some emp else if z = emp ∨ isWord z = false then none else some z
def oS : Option Str → V
  | none => .non
  | some z => .str z
def spShowWord : Sp := fun vs H Q _ => ∃ z : Str, vs = [.str z] ∧ ∀ H', Ex H H' → Q (.str (showWord z)) H'
def spReadWord : Sp := fun vs H Q _ => ∃ z : Str, vs = [.str z] ∧ z.length ≤ 1000000 ∧ ∀ H', Ex H H' → Q (oS (readWord z)) H'
theorem scShowWord : FnScope ["word"] ["word"] (defScope s_show_word) := ⟨rfl, rfl, rfl, by decide +kernel, rfl, by decide +kernel, by decide +kernel⟩
theorem scReadWord : FnScope ["text"] ["text"] (defScope s_read_word) := ⟨rfl, rfl, rfl, by decide +kernel, rfl, by decide +kernel, by decide +kernel⟩
theorem dec_str {a b : Str} : decide (V.str a = V.str b) = decide (a = b) := decide_eq_decide.mpr ⟨fun h => V.str.inj h, fun h => by rw [h]⟩
theorem et_eqS {σ : L2.St} {H : Hp} {ta tb : TE} {a b : Str} (ha : Ev ta σ H (.str a)) (hb : Ev tb σ H (.str b)) : EvT (tTest (tOp rEq ta tb)) σ H (decide (a = b)) := et_is (et_test (ev_op ha hb (rv_eq rfl))) dec_str
theorem ok_show_word (T : Tx K mg w) : FnOk P w K mg base CX0 1 (He.fAd K ("show_word", none)) (fo K ("show_word", none)) ["word"] spShowWord := by
  obtain ⟨tk, eE⟩ := T.z_EMPTY
  refine T.h_show_word.ok scShowWord (fun vs H Q E h => ?_) (fun cdv A outer s H vs Q E hr h => ?_)
  · obtain ⟨z, rfl, _⟩ := h
    rfl
  · obtain ⟨z, rfl, k⟩ := h
    refine ⟨_, PSs.nox (pss_cons (ps_if (pt_cmpR op_eq (pv 0) pe_str (nomark _)) (pss_one (ps_ret (pe_glob (v := .str dash) (by rfl) eE ⟨tk, rfl⟩))) pss_nil) (pss_one (ps_ret (pv 0)))), ?_⟩
    refine q_when (et_eqS (b := emp) (ev_var rfl) ev_c) (fun hb H1 e => s_ret ev_c fun H2 e2 => ?_) (fun hb H1 e => s_ret (ev_var rfl) fun H2 e2 => ?_)
    · have := k H2 (e.trans e2)
      unfold showWord at this
      rw [if_pos (of_decide_eq_true hb)] at this
      exact this
    · have := k H2 (e.trans e2)
      unfold showWord at this
      rw [if_neg (of_decide_eq_false hb)] at this
      exact this
theorem ok_read_word (T : Tx K mg w) : FnOk P w K mg base CX0 3 (He.fAd K ("read_word", none)) (fo K ("read_word", none)) ["text"] spReadWord := by
  obtain ⟨tk, eE⟩ := T.z_EMPTY
  have G := ok_is_word (P := P) (base := base) T
  have b : Binds K (fo K ("is_word", none)) ["thing"] [] := T.h_is_word.bindsN fun _ _ _ _ _ _ us hl => match us, hl with | [_], _ => rfl
  refine T.h_read_word.ok scReadWord (fun vs H Q E h => ?_) (fun cdv A outer s H vs Q E hr h => ?_)
  · obtain ⟨z, rfl, _⟩ := h
    rfl
  · obtain ⟨z, rfl, hz, k⟩ := h
    refine ⟨_, PSs.nox (pss_cons (ps_if (pt_cmpR op_eq (pv 0) (pe_glob (v := .str dash) (by rfl) eE ⟨tk, rfl⟩) (nomark _)) (pss_one (ps_ret pe_str)) pss_nil)
      (pss_cons (ps_if (PW.pt (pw_or (pt_cmpR op_eq (pv 0) pe_str (nomark _)) (pw_or1 (pt_not (pt_val (pe_call G hr (by rfl) T.g_is_word T.h_is_word.kp b .nil pass0 (pa_cons (pv 0) pa_nil))))))) (pss_one (ps_ret pe_non)) pss_nil) (pss_one (ps_ret (pv 0))))), ?_⟩
    refine q_when (et_eqS (b := dash) (ev_var rfl) ev_c) (fun hb H1 e => s_ret (v := .str emp) ev_c fun H2 e2 => ?_) (fun hb H1 e => ?_)
    · have := k H2 (e.trans e2)
      unfold readWord at this
      rw [if_pos (of_decide_eq_true hb)] at this
      exact this
    · refine q_when (et_or (et_eqS (b := emp) (ev_var rfl) ev_c) fun _ => et_not (et_B (ev_callE (v := .bl (isWord z)) (ea_cons (ev_var rfl) ea_nil) fun H1 _ Q' q' => ⟨z, rfl, hz, q'⟩))) (fun hc H2 e2 => s_ret (v := .non) ev_c fun H3 e3 => ?_) (fun hc H2 e2 => s_ret (ev_var rfl) fun H3 e3 => ?_)
      · have := k H3 ((e.trans e2).trans e3)
        unfold readWord at this
        rw [if_neg (of_decide_eq_false hb), if_pos (by simpa using hc)] at this
        exact this
      · have := k H3 ((e.trans e2).trans e3)
        unfold readWord at this
        rw [if_neg (of_decide_eq_false hb), if_neg (by simpa using hc)] at this
        exact this
end
end Ap

/-! ## D2 -/
set_option Elab.async false
set_option linter.all false
set_option maxRecDepth 100000
set_option maxHeartbeats 4000000
namespace Ap
open PySem PySem.Spec PyProof.Rows L2 Evl
section
variable {P : Program} {w : World} {K : PySem.W.Frag} {mg : Str → Option Value} {base : Heap}
/-! ### texts.number_in, desk.number_by -/
def fgs : Str := "0123456789"
def isFig (c : Nat) : Bool := decide (c ∈ fgs.cps.toList)
def readNum (z : Str) (figs : Nat) : Option Nat :=
  if (!(decide (1 ≤ z.length) && decide (z.length ≤ figs)) || (decide (z.cps.toList.getD 0 0 = 48) && decide (1 < z.length))) = true then none
  else if z.cps.toList.all isFig = true then some (PySem.NumText.digitsVal z.cps.toList) else none
def oN : Option Nat → V
  | none => .non
  | some n => .int (n : Nat)
def spNumberIn : Sp := fun vs H Q _ => ∃ (z : Str) (f : Nat), vs = [.str z, .int (f : Nat)] ∧ f ≤ 600 ∧ z.length ≤ 100000 ∧ ∀ H', Ex H H' → Q (oN (readNum z f)) H'
theorem scNumberIn : FnScope ["word", "figures", "sign"] ["word", "figures"] (defScope s_number_in) := ⟨rfl, rfl, rfl, by decide +kernel, rfl, by decide +kernel, by decide +kernel⟩
theorem fig_of {c : Nat} (h : isFig c = true) : 48 ≤ c ∧ c ≤ 57 := by
  have e : fgs.cps.toList = [48, 49, 50, 51, 52, 53, 54, 55, 56, 57] := by decide +kernel
  unfold isFig at h
  rw [e] at h
  have h2 := of_decide_eq_true h
  simp only [List.mem_cons, List.not_mem_nil, or_false] at h2
  omega
theorem zero_sign : (("0" : Str)) = ⟨#[48]⟩ := by decide +kernel
theorem sign_eq {a b : Nat} : ((⟨#[a]⟩ : Str) = ⟨#[b]⟩) ↔ a = b := by
  constructor
  · intro h
    injection h with h
    injection h with h
    injection h
  · intro h
    rw [h]
theorem ok_number_in (T : Tx K mg w) : FnOk P w K mg base CX0 1 (He.fAd K ("number_in", none)) (fo K ("number_in", none)) ["word", "figures"] spNumberIn := by
  obtain ⟨tk, eF⟩ := T.z_FIGURES
  refine T.h_number_in.ok scNumberIn (fun vs H Q E h => ?_) (fun cdv A outer s H vs Q E hr h => ?_)
  · obtain ⟨z, f, rfl, _⟩ := h
    rfl
  · obtain ⟨z, f, rfl, hf, hz, k⟩ := h
    refine ⟨_, PSs.nox (pss_cons (ps_if (PW.pt (pw_or (pt_not (pt_chain op_le op_le pe_int (pe_callB call_len_str (by rfl) T.f_len b_len (pa_cons (pv 0) pa_nil)) (pv 1)))
        (pw_or1 (PW.pt (pw_and (pt_cmpR op_eq (pe_ix ix_str (pv 0) pe_int (fun _ _ => rfl)) pe_str (nomark _)) (pw_and1 (pt_cmpR op_gt (pe_callB call_len_str (by rfl) T.f_len b_len (pa_cons (pv 0) pa_nil)) pe_int (nomark _)))))))) (pss_one (ps_ret pe_non)) pss_nil)
      (pss_cons (ps_for PassesOwn.never rfl (pi_str (pv 0)) (pg_name (i := 2) scNumberIn.nd rfl (Or.inl rfl)) (pss_one (ps_if (pt_cmpR op_notIn_sign (pv 2) (pe_glob (v := .str fgs) (by rfl) eF ⟨tk, rfl⟩) (by rfl)) (pss_one (ps_ret pe_non)) pss_nil)))
      (pss_one (ps_ret (pe_callTy call_int_str (by rfl) T.f_int b_int (pa_cons (pv 0) pa_nil)))))), ?_⟩
    have hz6 : z.length ≤ 1000000 := by omega
    have eA : decide ((1 : Int) ≤ (z.length : Int)) = decide (1 ≤ z.length) := decide_eq_decide.mpr (by omega)
    have eB : decide ((z.length : Int) ≤ (f : Int)) = decide (z.length ≤ f) := decide_eq_decide.mpr (by omega)
    have eC : decide ((1 : Int) < (z.length : Int)) = decide (1 < z.length) := decide_eq_decide.mpr (by omega)
    refine q_when (b := !(decide (1 ≤ z.length) && decide (z.length ≤ f)) || (decide (z.cps.toList.getD 0 0 = 48) && decide (1 < z.length))) ?_ (fun hb H1 e1 => s_ret (v := .non) ev_c fun H2 e2 => ?_) (fun hb H1 e1 => ?_)
    · refine et_or (et_not (et_test ?_)) (fun h1 => et_and ?_ fun _ => ?_)
      · exact ev_is (ev_chain ev_c (ev_lenS (ev_var rfl) hz6) rv_I0 (fun _ => ev_var rfl) (fun _ => rv_I0)) (by rw [eA, eB])
      · have h3 : 0 < z.length := by
          simp at h1
          omega
        have h4 : z.cps.toList[0]? = some (z.cps.toList.getD 0 0) := by
          have : 0 < z.cps.toList.length := by rw [Array.length_toList]; exact h3
          rw [List.getD_eq_getElem?_getD, List.getElem?_eq_getElem this]
          rfl
        refine et_is (et_test (ev_op (ev_op (ev_var rfl) ev_c (rv_ixS hz (atI_nat (j := 0) h4))) ev_c (rv_eq rfl))) ?_
        rw [dec_str]
        exact decide_eq_decide.mpr (by rw [zero_sign]; exact sign_eq)
      · exact et_is (et_test (ev_op (ev_lenS (ev_var rfl) hz6) ev_c rv_I0)) (by show decide _ = _; rw [← eC])
    · have := k H2 (e1.trans e2)
      unfold readNum at this
      rw [if_pos hb] at this
      exact this
    · refine ⟨_, rfl, z, rfl, for_it walk_str (fun i σ H' => ∃ v : Option V, σ = [some (.str z), some (.int (f : Nat)), v] ∧ Ex H H' ∧ ∀ j, j < i → isFig (z.cps.toList.getD j 0) = true) ⟨none, rfl, e1, fun j hj => absurd hj (by omega)⟩ (fun _ _ _ _ _ => trivial) ?_ ?_⟩
      · rintro i x σ H2 H3 hi ⟨v, rfl, e2, hall⟩ ⟨rfl, c, hc, rfl⟩
        have ec : z.cps.toList.getD i 0 = c := by
          rw [List.getD_eq_getElem?_getD, Array.getElem?_toList, hc]
          rfl
        refine s_when (b := !isFig c) (fun H4 _ Q' q' => ⟨_, rfl, c, fgs, rfl, rfl, _, rfl, q' H4 (Ex.refl _)⟩) (fun hb2 H4 e4 => s_ret (v := .non) ev_c fun H5 e5 => ?_) (fun hb2 H4 e4 => ?_)
        · have := k H5 ((e2.trans e4).trans e5)
          unfold readNum at this
          rw [if_neg (by rw [hb]; exact Bool.false_ne_true), if_neg] at this
          · exact this
          · intro hh
            have := List.all_eq_true.mp hh c (List.mem_of_getElem? (by rw [Array.getElem?_toList]; exact hc))
            rw [this] at hb2
            cases hb2
        · refine ⟨_, rfl, e2.trans e4, fun j hj => ?_⟩
          by_cases hji : j = i
          · rw [hji, ec]
            simpa using hb2
          · exact hall j (by omega)
      · rintro σ H2 ⟨v, rfl, e2, hall⟩
        have hd : z.cps.toList.all isFig = true := List.all_eq_true.mpr fun c hc => by
          obtain ⟨j, hj, e⟩ := List.getElem_of_mem hc
          have := hall j (by simpa using hj)
          rw [List.getD_eq_getElem?_getD, List.getElem?_eq_getElem hj] at this
          rw [← e]
          exact this
        have h1 : 1 ≤ z.length ∧ z.length ≤ f := by
          simp at hb
          omega
        refine ⟨_, rfl, z, _, rfl, PySem.intText_digits (fun c hc => fig_of (List.all_eq_true.mp hd c hc)) (fun hnil => ?_) (by omega), by omega, ?_⟩
        · have : z.cps.toList.length = 0 := by rw [hnil]; rfl
          have h2 : z.length = z.cps.toList.length := by simp [Str.length]
          omega
        · have := k H2 e2
          unfold readNum at this
          rw [if_neg (by rw [hb]; exact Bool.false_ne_true), if_pos hd] at this
          exact this
end
end Ap

/-! ## D3 -/
set_option Elab.async false
set_option linter.all false
set_option maxRecDepth 100000
set_option maxHeartbeats 4000000
namespace Ap
open PySem PySem.Spec PyProof.Rows L2 Evl
section
variable {P : Program} {w : World} {K : PySem.W.Frag} {mg : Str → Option Value} {base : Heap}
/-! ### desk.number_by -/
def spNumberBy (K : PySem.W.Frag) : Sp := fun vs H Q E => ∃ (z : Str), vs = [.str z] ∧ z.length ≤ 100000 ∧ (∀ n, readNum z 60 = some n → ∀ H', Ex H H' → Q (.int (n : Nat)) H') ∧ (readNum z 60 = none → ∀ H', Ex H H' → E (.ref (ea K .number)) none H')
theorem scNumberBy : FnScope ["word", "number"] ["word"] (defScope s_number_by) := ⟨rfl, rfl, rfl, by decide +kernel, rfl, by decide +kernel, by decide +kernel⟩
theorem oN_non (o : Option Nat) : decide (oN o = V.non) = o.isNone := by
  cases o with
  | none => rfl
  | some n => exact decide_eq_false (fun h => nomatch h)
theorem oS_non (o : Option Str) : decide (oS o = V.non) = o.isNone := by
  cases o with
  | none => rfl
  | some n => exact decide_eq_false (fun h => nomatch h)
theorem ev_isN {σ : L2.St} {H : Hp} {ta : TE} {x : V} (h : Ev ta σ H x) : Ev (tIsN ta) σ H (.bl (decide (x = .non))) := fun H1 e Q q => h H1 e _ fun H2 e2 => q H2 e2
theorem ev_notN {σ : L2.St} {H : Hp} {ta : TE} {x : V} (h : Ev ta σ H x) : Ev (tNotN ta) σ H (.bl (!decide (x = .non))) := fun H1 e Q q => h H1 e _ fun H2 e2 => q H2 e2
theorem ok_number_by (T : Tx K mg w) : FnOk P w K mg base (L2.CX P w) 2 (He.fAd K ("number_by", none)) (fo K ("number_by", none)) ["word"] (spNumberBy K) := by
  obtain ⟨tk, eF⟩ := T.i_MOST_FIGURES
  have G := ok_number_in (P := P) (base := base) T
  have b : Binds K (fo K ("number_in", none)) ["word", "figures"] [] := T.h_number_in.bindsN fun _ _ _ _ _ _ us hl => match us, hl with | [_, _], _ => rfl
  refine T.h_number_by.ok scNumberBy (fun vs H Q E h => ?_) (fun cdv A outer s H vs Q E hr h => ?_)
  · obtain ⟨z, rfl, _⟩ := h
    rfl
  · obtain ⟨z, rfl, hz, k1, k2⟩ := h
    refine ⟨_, pss_cons (ps_set (i := 1) scNumberBy.nd rfl (Or.inl rfl) (pe_call G hr (by rfl) T.g_number_in T.h_number_in.kp b .nil pass0 (pa_cons (pv 0) (pa_cons (pe_glob (v := .int 60) (by rfl) eF ⟨tk, rfl⟩) pa_nil))))
      (pss_cons (ps_if (pt_cmp (pc_isN (pv 1))) (pss_one (ps_raise rfl (takes_of rfl rfl rfl rfl) (pmk_er .number T rfl rfl))) pss_nil) (pss_one (ps_ret (pv 1)))), ?_⟩
    refine q_asg (v := oN (readNum z 60)) (ev_callE (ea_cons (ev_var rfl) (ea_cons ev_c ea_nil)) fun H1 _ Q' q' => ⟨z, 60, rfl, by decide, hz, q'⟩) fun H1 e1 => ?_
    refine q_when (b := (readNum z 60).isNone) (et_is (et_B (ev_isN (ev_var rfl))) (oN_non _)) (fun hb H2 e2 => ?_) (fun hb H2 e2 => ?_)
    · exact k2 (Option.isNone_iff_eq_none.mp hb) H2 (e1.trans e2)
    · cases e : readNum z 60 with
      | none => rw [e] at hb; cases hb
      | some n =>
        refine s_ret (v := .int (n : Nat)) (ev_var rfl) fun H3 e3 => k1 n e H3 ((e1.trans e2).trans e3)
/-! ### walks.look_at_stand, parted.ask_stand -/
/-- what a stand's number must be -/
def spAsk (K : PySem.W.Frag) : Sp := fun vs H Q E => ∃ (a : Addr) (xs : List V) (i : Nat), vs = [.ref a, .int (i : Nat)] ∧ SqL K H a xs ∧ (i < xs.length → ∀ H', Ex H H' → Q .non H') ∧ (xs.length ≤ i → ∀ H', Ex H H' → E (.ref (ea K .stand)) none H')
theorem scLook : FnScope ["table", "stand"] ["table", "stand"] (defScope s_look_at_stand) := ⟨rfl, rfl, rfl, by decide +kernel, rfl, by decide +kernel, by decide +kernel⟩
theorem scAsk : FnScope ["table", "stand"] ["table", "stand"] (defScope s_ask_stand) := ⟨rfl, rfl, rfl, by decide +kernel, rfl, by decide +kernel, by decide +kernel⟩
/-- not an int, or a bool, or out of bounds: of an int, only the last -/
theorem et_ask {σ : L2.St} {H : Hp} {ti tb tc : TT} {b : Bool} (h1 : EvT ti σ H true) (h2 : EvT tb σ H false) (h3 : EvT tc σ H b) : EvT (tOr (tNot ti) (tOr tb (tNot tc))) σ H (!b) :=
  et_is (et_or (et_not h1) fun _ => et_or h2 fun _ => et_not h3) (by cases b <;> rfl)
theorem ok_look (T : Tx K mg w) : FnOk P w K mg base (L2.CX P w) 1 (He.fAd K ("look_at_stand", none)) (fo K ("look_at_stand", none)) ["table", "stand"] (spAsk K) := by
  refine T.h_look_at_stand.ok scLook (fun vs H Q E h => ?_) (fun cdv A outer s H vs Q E hr h => ?_)
  · obtain ⟨a, xs, i, rfl, _⟩ := h
    rfl
  · obtain ⟨a, xs, i, rfl, hS, k1, k2⟩ := h
    refine ⟨_, pss_one (ps_if (PW.pt (pw_or (pt_not (pt_val (pe_callB call_isi (by rfl) T.f_isinstance b_isinstance (pa_cons (pv 1) (pa_cons (pe_bltn (v := .ty "int") (by rfl) T.f_int b_int rfl) pa_nil)))))
      (pw_or (pt_val (pe_callB call_isi (by rfl) T.f_isinstance b_isinstance (pa_cons (pv 1) (pa_cons (pe_bltn (v := .ty "bool") (by rfl) T.f_bool b_bool rfl) pa_nil))))
      (pw_or1 (pt_not (pt_chain op_le op_lt pe_int (pv 1) (pe_callB call_len_seq (by rfl) T.f_len b_len (pa_cons (pv 0) pa_nil))))))))
      (pss_one (ps_raise rfl (takes_of rfl rfl rfl rfl) (pmk_er .stand T rfl rfl))) pss_nil), ?_⟩
    have h0 : decide ((0 : Int) ≤ (i : Int)) = true := decide_eq_true (Int.natCast_nonneg i)
    refine s_when (et_ask (b := decide ((i : Int) < (xs.length : Int))) (et_B (ev_isi (ev_var rfl) ev_c (.ty "int") (fun _ _ => .base (.int _)) (kit_ty (by decide +kernel)))) (et_B (ev_isi (ev_var rfl) ev_c (.ty "bool") (fun _ _ => .base (.int _)) (kit_ty (by decide +kernel))))
      (et_is (et_test (ev_chain ev_c (ev_var rfl) (rv_I0 (g := fun i j => .bl (decide (i ≤ j)))) (fun _ => ev_len (ev_var rfl) hS) (fun _ => rv_I0))) (by rw [h0]; exact Bool.true_and _))) (fun hb H1 e1 => ?_) (fun hb H1 e1 => ?_)
    · exact k2 (by simp at hb; omega) H1 e1
    · exact k1 (by simp at hb; omega) H1 e1
theorem ok_ask (T : Tx K mg w) : FnOk P w K mg base (L2.CX P w) 1 (He.fAd K ("ask_stand", none)) (fo K ("ask_stand", none)) ["table", "stand"] (spAsk K) := by
  refine T.h_ask_stand.ok scAsk (fun vs H Q E h => ?_) (fun cdv A outer s H vs Q E hr h => ?_)
  · obtain ⟨a, xs, i, rfl, _⟩ := h
    rfl
  · obtain ⟨a, xs, i, rfl, hS, k1, k2⟩ := h
    refine ⟨_, pss_one (ps_if (PW.pt (pw_or (pt_not (pt_val (pe_callB call_isi (by rfl) T.f_isinstance b_isinstance (pa_cons (pv 1) (pa_cons (pe_bltn (v := .ty "int") (by rfl) T.f_int b_int rfl) pa_nil)))))
      (pw_or (pt_val (pe_callB call_isi (by rfl) T.f_isinstance b_isinstance (pa_cons (pv 1) (pa_cons (pe_bltn (v := .ty "bool") (by rfl) T.f_bool b_bool rfl) pa_nil))))
      (pw_or1 (pt_not (pt_chain op_le op_lt pe_int (pv 1) (pe_callB call_len_seq (by rfl) T.f_len b_len (pa_cons (pv 0) pa_nil))))))))
      (pss_one (ps_raise rfl (takes_of rfl rfl rfl rfl) (pmk_er .stand T rfl rfl))) pss_nil), ?_⟩
    have h0 : decide ((0 : Int) ≤ (i : Int)) = true := decide_eq_true (Int.natCast_nonneg i)
    refine s_when (et_ask (b := decide ((i : Int) < (xs.length : Int))) (et_B (ev_isi (ev_var rfl) ev_c (.ty "int") (fun _ _ => .base (.int _)) (kit_ty (by decide +kernel)))) (et_B (ev_isi (ev_var rfl) ev_c (.ty "bool") (fun _ _ => .base (.int _)) (kit_ty (by decide +kernel))))
      (et_is (et_test (ev_chain ev_c (ev_var rfl) (rv_I0 (g := fun i j => .bl (decide (i ≤ j)))) (fun _ => ev_len (ev_var rfl) hS) (fun _ => rv_I0))) (by rw [h0]; exact Bool.true_and _))) (fun hb H1 e1 => ?_) (fun hb H1 e1 => ?_)
    · exact k2 (by simp at hb; omega) H1 e1
    · exact k1 (by simp at hb; omega) H1 e1
/-! ### walks.longest, words; parted.parted: refused -/
/-- only what is refused is promised -/
def spStand1 (K : PySem.W.Frag) : Sp := fun vs H Q E => ∃ (a : Addr) (xs : List V) (i : Nat), vs = [.ref a, .int (i : Nat)] ∧ SqL K H a xs ∧ xs.length ≤ i ∧ ∀ H', Ex H H' → E (.ref (ea K .stand)) none H'
theorem scLongest : FnScope ["table", "stand", "before", "word", "sign"] ["table", "stand"] (defScope s_longest) := ⟨rfl, rfl, rfl, by decide +kernel, rfl, by decide +kernel, by decide +kernel⟩
theorem ok_longest (T : Tx K mg w) : FnOk P w K mg base (L2.CX P w) 2 (He.fAd K ("longest", none)) (fo K ("longest", none)) ["table", "stand"] (spStand1 K) := by
  have G := ok_look (P := P) (base := base) T
  have b : Binds K (fo K ("look_at_stand", none)) ["table", "stand"] [] := T.h_look_at_stand.bindsN fun _ _ _ _ _ _ us hl => match us, hl with | [_, _], _ => rfl
  refine T.h_longest.ok scLongest (fun vs H Q E h => ?_) (fun cdv A outer s H vs Q E hr h => ?_)
  · obtain ⟨a, xs, i, rfl, _⟩ := h
    rfl
  · obtain ⟨a, xs, i, rfl, hS, hi, k2⟩ := h
    refine ⟨_, pss_cons (ps_expr (pe_call (E := E) G hr (by rfl) T.g_look_at_stand T.h_look_at_stand.kp b .nil (passes_call (takes_of rfl rfl rfl rfl) fun _ _ _ _ h => h) (pa_cons (pv 0) (pa_cons (pv 1) pa_nil)))) pss_never, ?_⟩
    exact ⟨_, rfl, _, rfl, a, xs, i, rfl, hS, fun hlt => absurd hlt (by omega), fun _ => k2⟩
theorem scWords : FnScope ["table", "stand", "long", "size"] ["table", "stand"] (defScope s_words) := ⟨rfl, rfl, rfl, by decide +kernel, rfl, by decide +kernel, by decide +kernel⟩
theorem ok_words (T : Tx K mg w) : FnOk P w K mg base (L2.CX P w) 3 (He.fAd K ("words", none)) (fo K ("words", none)) ["table", "stand"] (spStand1 K) := by
  have G := ok_longest (P := P) (base := base) T
  have b : Binds K (fo K ("longest", none)) ["table", "stand"] [] := T.h_longest.bindsN fun _ _ _ _ _ _ us hl => match us, hl with | [_, _], _ => rfl
  refine T.h_words.ok scWords (fun vs H Q E h => ?_) (fun cdv A outer s H vs Q E hr h => ?_)
  · obtain ⟨a, xs, i, rfl, _⟩ := h
    rfl
  · obtain ⟨a, xs, i, rfl, hS, hi, k2⟩ := h
    refine ⟨_, pss_cons (ps_set (i := 2) scWords.nd rfl (Or.inr rfl) (pe_call (E := E) G hr (by rfl) T.g_longest T.h_longest.kp b .nil (passes_call (takes_of rfl rfl rfl rfl) fun _ _ _ _ h => h) (pa_cons (pv 0) (pa_cons (pv 1) pa_nil)))) pss_never, ?_⟩
    exact ⟨_, rfl, _, rfl, a, xs, i, rfl, hS, hi, k2⟩
end
end Ap

/-! ## M0 -/
set_option Elab.async false
set_option linter.all false
set_option maxRecDepth 100000
set_option maxHeartbeats 4000000
namespace Ap
open PySem PySem.Spec PyProof.Rows L2 Evl
/-! ### the machine's state, plain -/
structure Kn where
  long : Nat
  link : Option Nat
  ways : List (Str × Nat)
structure MS where
  texts : List Str
  knots : List Kn
  ats : List Nat
def wayOf : List (Str × Nat) → Str → Option Nat
  | [], _ => none
  | p :: r, z => if p.1 = z then some p.2 else wayOf r z
def putW (ws : List (Str × Nat)) (z : Str) (t : Nat) : List (Str × Nat) :=
  if (ws.any fun p => decide (p.1 = z)) = true then ws.map fun p => if p.1 = z then (p.1, t) else p else ws ++ [(z, t)]
theorem wayOf_cons (p : Str × Nat) (r : List (Str × Nat)) (z : Str) : wayOf (p :: r) z = if p.1 = z then some p.2 else wayOf r z := rfl
theorem wayOf_any (z : Str) : ∀ ws : List (Str × Nat), (ws.any fun p => decide (p.1 = z)) = (wayOf ws z).isSome
  | [] => rfl
  | p :: r => by
    have ih := wayOf_any z r
    rw [List.any_cons, wayOf_cons, ih]
    by_cases h : p.1 = z
    · simp [h]
    · simp [h]
theorem wayOf_map (z j : Str) (t : Nat) : ∀ ws : List (Str × Nat), wayOf (ws.map fun p => if p.1 = z then (p.1, t) else p) j = (wayOf ws j).map fun x => if j = z then t else x
  | [] => rfl
  | p :: r => by
    have ih := wayOf_map z j t r
    rw [List.map_cons, wayOf_cons, wayOf_cons, ih]
    by_cases h : p.1 = z
    · by_cases k : p.1 = j
      · have : j = z := k.symm.trans h
        simp [h, k, this]
      · have : ¬ z = j := fun e => k (h.trans e)
        simp [h, this]
    · by_cases k : p.1 = j
      · have : ¬ j = z := fun e => h (k.trans e)
        simp [h, k, this]
      · simp [h, k]
theorem wayOf_snoc (z j : Str) (t : Nat) : ∀ ws : List (Str × Nat), wayOf ws z = none → wayOf (ws ++ [(z, t)]) j = if j = z then some t else wayOf ws j
  | [], _ => by
    show (if z = j then some t else none) = if j = z then some t else none
    by_cases k : j = z
    · rw [if_pos k, if_pos k.symm]
    · rw [if_neg k, if_neg fun e => k e.symm]
  | p :: r, e => by
    have hp : ¬ p.1 = z := fun q => by
      rw [wayOf_cons, if_pos q] at e
      cases e
    rw [wayOf_cons, if_neg hp] at e
    have ih := wayOf_snoc z j t r e
    rw [List.cons_append, wayOf_cons, wayOf_cons, ih]
    by_cases k : p.1 = j
    · have : ¬ j = z := fun q => hp (k.trans q)
      simp [k, this]
    · simp [k]
theorem wayOf_put (ws : List (Str × Nat)) (z j : Str) (t : Nat) : wayOf (putW ws z t) j = if j = z then some t else wayOf ws j := by
  unfold putW
  by_cases h : (ws.any fun p => decide (p.1 = z)) = true
  · rw [if_pos h, wayOf_map]
    rw [wayOf_any] at h
    by_cases k : j = z
    · subst k
      obtain ⟨x, hx⟩ := Option.isSome_iff_exists.mp h
      simp [hx]
    · rw [if_neg k]
      simp [k]
  · rw [if_neg h]
    refine wayOf_snoc z j t ws ?_
    rw [wayOf_any] at h
    simpa using h
theorem putW_len (ws : List (Str × Nat)) (z : Str) (t : Nat) : (putW ws z t).length ≤ ws.length + 1 ∧ ((wayOf ws z).isSome = true → (putW ws z t).length = ws.length) := by
  unfold putW
  rw [← wayOf_any]
  by_cases h : (ws.any fun p => decide (p.1 = z)) = true
  · rw [if_pos h]; simp
  · rw [if_neg h]
    refine ⟨by simp, fun k => absurd k h⟩
/-! ### as a dict of the heap -/
def kvW (ws : List (Str × Nat)) : List (Key × V) := ws.map fun p => (Sum.inr p.1, V.int (p.2 : Nat))
theorem kvW_len (ws : List (Str × Nat)) : (kvW ws).length = ws.length := List.length_map ..
theorem kvW_val (z : Str) : ∀ ws : List (Str × Nat), valV (kvW ws) (Sum.inr z) = (wayOf ws z).map fun t => V.int (t : Nat)
  | [] => rfl
  | p :: r => by
    have ih := kvW_val z r
    rw [wayOf_cons]
    by_cases h : p.1 = z
    · rw [show kvW (p :: r) = (Sum.inr p.1, V.int (p.2 : Nat)) :: kvW r from rfl, valV_pos (by rw [← h]), if_pos h]
      rfl
    · rw [show kvW (p :: r) = (Sum.inr p.1, V.int (p.2 : Nat)) :: kvW r from rfl, valV_neg (fun e => h (Sum.inr.inj e)), ih, if_neg h]
theorem kvW_put (ws : List (Str × Nat)) (z : Str) (t : Nat) : putK (kvW ws) (Sum.inr z) (V.int (t : Nat)) = kvW (putW ws z t) := by
  have ha : ((kvW ws).any fun kv => decide (kv.1 = Sum.inr z)) = ws.any fun p => decide (p.1 = z) := by
    unfold kvW
    rw [List.any_map]
    congr 1
    funext p
    show decide ((Sum.inr p.1 : Key) = Sum.inr z) = decide (p.1 = z)
    rw [key_rr]
  unfold putK putW
  rw [ha]
  by_cases h : (ws.any fun p => decide (p.1 = z)) = true
  · rw [if_pos h, if_pos h]
    unfold kvW
    rw [List.map_map, List.map_map]
    refine List.map_congr_left fun p _ => ?_
    show (if (Sum.inr p.1 : Key) = Sum.inr z then ((Sum.inr p.1 : Key), V.int (t : Nat)) else (Sum.inr p.1, V.int (p.2 : Nat))) = _
    by_cases k : p.1 = z
    · simp [k]
    · have : ¬ (Sum.inr p.1 : Key) = Sum.inr z := fun e => k (Sum.inr.inj e)
      simp [k]
  · rw [if_neg h, if_neg h]
    unfold kvW
    rw [List.map_append]
    rfl
def knF (k : Kn) (wa : Addr) : List (Str × V) := [("long", .int (k.long : Nat)), ("link", oN k.link), ("ways", .ref wa)]
/-- where a machine lies: its own dict, its three lists, its knots (object, own dict, ways) -/
structure Lay where
  dm : Addr
  tA : Addr
  kA : Addr
  aA : Addr
  ks : List (Addr × Addr × Addr)
def Lay.mF (L : Lay) : List (Str × V) := [("texts", .ref L.tA), ("knots", .ref L.kA), ("at", .ref L.aA)]
structure RepL (K : PySem.W.Frag) (H0 H : Hp) (m : Addr) (L : Lay) (S : MS) : Prop where
  ex : Ex H0 H
  hm : H m = some (.ins (He.ga K "Machine") L.dm L.mF)
  ht : H L.tA = some (.lst (S.texts.map V.str))
  hk : H L.kA = some (.lst (L.ks.map fun k => V.ref k.1))
  ha : H L.aA = some (.lst (S.ats.map fun n => V.int (n : Nat)))
  len : L.ks.length = S.knots.length
  kn : ∀ (i : Nat) (x : Addr × Addr × Addr) (k : Kn), L.ks[i]? = some x → S.knots[i]? = some k → H x.1 = some (.ins (He.ga K "Knot") x.2.1 (knF k x.2.2)) ∧ H x.2.2 = some (.dK (kvW k.ways))
  d1 : L.tA ≠ L.kA
  d2 : L.tA ≠ L.aA
  d3 : L.kA ≠ L.aA
  inj : ∀ (i j : Nat) (x y : Addr × Addr × Addr), L.ks[i]? = some x → L.ks[j]? = some y → x.1 = y.1 ∨ x.2.2 = y.2.2 → i = j
  nm : H0 m = none
  nt : H0 L.tA = none
  nk : H0 L.kA = none
  na : H0 L.aA = none
  ns : ∀ (i : Nat) (x : Addr × Addr × Addr), L.ks[i]? = some x → H0 x.1 = none ∧ H0 x.2.2 = none
def Rep (K : PySem.W.Frag) (H0 H : Hp) (m : Addr) (S : MS) : Prop := ∃ L, RepL K H0 H m L S
section
variable {K : PySem.W.Frag} {H0 H H1 : Hp} {m : Addr} {L : Lay} {S : MS}
theorem RepL.stay (r : RepL K H0 H m L S) (e : Ex H H1) : RepL K H0 H1 m L S :=
  ⟨r.ex.trans e, e _ _ r.hm, e _ _ r.ht, e _ _ r.hk, e _ _ r.ha, r.len, fun i x k a b => ⟨e _ _ (r.kn i x k a b).1, e _ _ (r.kn i x k a b).2⟩, r.d1, r.d2, r.d3, r.inj, r.nm, r.nt, r.nk, r.na, r.ns⟩
theorem RepL.less {B : Hp} (r : RepL K B H m L S) (e : Ex H0 B) : RepL K H0 H m L S :=
  ⟨e.trans r.ex, r.hm, r.ht, r.hk, r.ha, r.len, r.kn, r.d1, r.d2, r.d3, r.inj, fresh_back e r.nm, fresh_back e r.nt, fresh_back e r.nk, fresh_back e r.na, fun i x h => ⟨fresh_back e (r.ns i x h).1, fresh_back e (r.ns i x h).2⟩⟩
/-- a new base: what H0 knows and more that is none of the machine's -/
theorem RepL.base {B : Hp} (r : RepL K H0 H m L S) (e : Ex B H) (h : ∀ a, B a ≠ none → H0 a ≠ none ∨ (a ≠ m ∧ a ≠ L.tA ∧ a ≠ L.kA ∧ a ≠ L.aA ∧ ∀ (i : Nat) (x : Addr × Addr × Addr), L.ks[i]? = some x → a ≠ x.1 ∧ a ≠ x.2.2)) : RepL K B H m L S := by
  have no : ∀ {a : Addr}, H0 a = none → (∀ b, B b ≠ none → b = a → H0 b ≠ none ∨ False) → B a = none := fun {a} h0 q => by
    cases z : B a with
    | none => rfl
    | some o =>
      rcases q a (by rw [z]; exact fun y => nomatch y) rfl with y | y
      · exact absurd h0 y
      · exact y.elim
  refine ⟨e, r.hm, r.ht, r.hk, r.ha, r.len, r.kn, r.d1, r.d2, r.d3, r.inj, no r.nm fun b hb z => ?_, no r.nt fun b hb z => ?_, no r.nk fun b hb z => ?_, no r.na fun b hb z => ?_, fun i x hx => ⟨no (r.ns i x hx).1 fun b hb z => ?_, no (r.ns i x hx).2 fun b hb z => ?_⟩⟩
  · exact (h b hb).imp id fun y => y.1 z
  · exact (h b hb).imp id fun y => y.2.1 z
  · exact (h b hb).imp id fun y => y.2.2.1 z
  · exact (h b hb).imp id fun y => y.2.2.2.1 z
  · exact (h b hb).imp id fun y => (y.2.2.2.2 i x hx).1 z
  · exact (h b hb).imp id fun y => (y.2.2.2.2 i x hx).2 z
theorem RepL.knot (r : RepL K H0 H m L S) {i : Nat} {k : Kn} (h : S.knots[i]? = some k) : ∃ x, L.ks[i]? = some x ∧ H x.1 = some (.ins (He.ga K "Knot") x.2.1 (knF k x.2.2)) ∧ H x.2.2 = some (.dK (kvW k.ways)) := by
  have hi : i < L.ks.length := by
    rw [r.len]
    exact (List.getElem?_eq_some_iff.mp h).1
  exact ⟨L.ks[i], List.getElem?_eq_getElem hi, r.kn i _ k (List.getElem?_eq_getElem hi) h⟩
/-- none of the machine's is what H did not know -/
theorem RepL.off (r : RepL K H0 H m L S) {a : Addr} (h : H a = none) : a ≠ m ∧ a ≠ L.tA ∧ a ≠ L.kA ∧ a ≠ L.aA ∧ ∀ (i : Nat) (x : Addr × Addr × Addr), L.ks[i]? = some x → a ≠ x.1 ∧ a ≠ x.2.2 := by
  refine ⟨(ne_of_none r.hm h).symm, (ne_of_none r.ht h).symm, (ne_of_none r.hk h).symm, (ne_of_none r.ha h).symm, fun i x hx => ?_⟩
  have hi : i < S.knots.length := by
    rw [← r.len]
    exact (List.getElem?_eq_some_iff.mp hx).1
  obtain ⟨a1, a2⟩ := r.kn i x _ hx (List.getElem?_eq_getElem hi)
  exact ⟨(ne_of_none a1 h).symm, (ne_of_none a2 h).symm⟩
theorem Rep.stay (r : Rep K H0 H m S) (e : Ex H H1) : Rep K H0 H1 m S := r.imp fun _ r => r.stay e
theorem Rep.less {B : Hp} (r : Rep K B H m S) (e : Ex H0 B) : Rep K H0 H m S := r.imp fun _ r => r.less e
/-- an object that came since goes to the base -/
theorem Rep.add (r : Rep K H0 H m S) (e : Ex H H1) {p : Addr} {o : HO} (hp : H p = none) (h1 : H1 p = some o) : Rep K (upd H0 p o) H1 m S := by
  obtain ⟨L, r⟩ := r
  refine ⟨L, (r.stay e).base (fun a u h => ?_) fun a h => ?_⟩
  · by_cases z : a = p
    · subst z
      rw [upd_same] at h
      rw [← h]; exact h1
    · rw [upd_ne z] at h
      exact e _ _ (r.ex _ _ h)
  · by_cases z : a = p
    · subst z
      exact .inr (r.off hp)
    · rw [upd_ne z] at h
      exact .inl h
theorem Rep.drop {p : Addr} {o : HO} (r : Rep K (upd H0 p o) H m S) (h : H0 p = none) : Rep K H0 H m S := r.less (Ex.new h)
theorem RepL.mTy (r : RepL K H0 H m L S) : ∃ dx fs, H m = some (.ins (He.ga K "Machine") dx fs) := ⟨_, _, r.hm⟩
/-! ### changes -/
theorem hop {H : Hp} {a b : Addr} {u v o : HO} (h : H a = some u) (hb : H b = some v) (d : u ≠ v) : upd H b o a = some u := by rw [upd_ne (ne_of h hb d)]; exact h
theorem RepL.setText (r : RepL K H0 H m L S) (ts : List Str) : RepL K H0 (upd H L.tA (.lst (ts.map V.str))) m L { S with texts := ts } := by
  refine ⟨r.ex.mut r.nt, hop r.hm r.ht (fun h => nomatch h), upd_same, ?_, ?_, r.len, fun i x k a b => ?_, r.d1, r.d2, r.d3, r.inj, r.nm, r.nt, r.nk, r.na, r.ns⟩
  · rw [upd_ne r.d1.symm]; exact r.hk
  · rw [upd_ne r.d2.symm]; exact r.ha
  · obtain ⟨q1, q2⟩ := r.kn i x k a b
    exact ⟨hop q1 r.ht (fun h => nomatch h), hop q2 r.ht (fun h => nomatch h)⟩
theorem RepL.setAts (r : RepL K H0 H m L S) (as : List Nat) : RepL K H0 (upd H L.aA (.lst (as.map fun n => V.int (n : Nat)))) m L { S with ats := as } := by
  refine ⟨r.ex.mut r.na, hop r.hm r.ha (fun h => nomatch h), ?_, ?_, upd_same, r.len, fun i x k a b => ?_, r.d1, r.d2, r.d3, r.inj, r.nm, r.nt, r.nk, r.na, r.ns⟩
  · rw [upd_ne r.d2]; exact r.ht
  · rw [upd_ne r.d3]; exact r.hk
  · obtain ⟨q1, q2⟩ := r.kn i x k a b
    exact ⟨hop q1 r.ha (fun h => nomatch h), hop q2 r.ha (fun h => nomatch h)⟩
theorem RepL.setWays (r : RepL K H0 H m L S) {i : Nat} {k : Kn} {x : Addr × Addr × Addr} (hk : S.knots[i]? = some k) (hx : L.ks[i]? = some x) (ws : List (Str × Nat)) :
    RepL K H0 (upd H x.2.2 (.dK (kvW ws))) m L { S with knots := S.knots.set i { k with ways := ws } } := by
  obtain ⟨q1, q2⟩ := r.kn i x k hx hk
  refine ⟨r.ex.mut (r.ns i x hx).2, hop r.hm q2 (fun h => nomatch h), hop r.ht q2 (fun h => nomatch h), hop r.hk q2 (fun h => nomatch h), hop r.ha q2 (fun h => nomatch h), ?_, fun j y k' a b => ?_, r.d1, r.d2, r.d3, r.inj, r.nm, r.nt, r.nk, r.na, r.ns⟩
  · show L.ks.length = (S.knots.set i _).length
    rw [List.length_set]; exact r.len
  · have b : (S.knots.set i { k with ways := ws })[j]? = some k' := b
    by_cases z : j = i
    · subst z
      rw [hx] at a
      cases a
      rw [List.getElem?_set_self (List.getElem?_eq_some_iff.mp hk).1] at b
      cases b
      exact ⟨hop q1 q2 (fun h => nomatch h), upd_same⟩
    · rw [List.getElem?_set_ne (Ne.symm z)] at b
      obtain ⟨w1, w2⟩ := r.kn j y k' a b
      refine ⟨hop w1 q2 (fun h => nomatch h), ?_⟩
      rw [upd_ne fun e => z (r.inj j i y x a hx (.inr e))]
      exact w2
theorem RepL.setLink (r : RepL K H0 H m L S) {i : Nat} {k : Kn} {x : Addr × Addr × Addr} (hk : S.knots[i]? = some k) (hx : L.ks[i]? = some x) (l : Option Nat) :
    RepL K H0 (upd H x.1 (.ins (He.ga K "Knot") x.2.1 (knF { k with link := l } x.2.2))) m L { S with knots := S.knots.set i { k with link := l } } := by
  obtain ⟨q1, q2⟩ := r.kn i x k hx hk
  have hmx : m ≠ x.1 := fun e => by
    have := r.hm
    rw [e, q1] at this
    injection this with this
    injection this with _ _ t
    injection t with t _
    injection t with t _
    exact absurd t (by decide)
  refine ⟨r.ex.mut (r.ns i x hx).1, by rw [upd_ne hmx]; exact r.hm, hop r.ht q1 (fun h => nomatch h), hop r.hk q1 (fun h => nomatch h), hop r.ha q1 (fun h => nomatch h), ?_, fun j y k' a b => ?_, r.d1, r.d2, r.d3, r.inj, r.nm, r.nt, r.nk, r.na, r.ns⟩
  · show L.ks.length = (S.knots.set i _).length
    rw [List.length_set]; exact r.len
  · have b : (S.knots.set i { k with link := l })[j]? = some k' := b
    by_cases z : j = i
    · subst z
      rw [hx] at a
      cases a
      rw [List.getElem?_set_self (List.getElem?_eq_some_iff.mp hk).1] at b
      cases b
      exact ⟨upd_same, hop q2 q1 (fun h => nomatch h)⟩
    · rw [List.getElem?_set_ne (Ne.symm z)] at b
      obtain ⟨w1, w2⟩ := r.kn j y k' a b
      refine ⟨?_, hop w2 q1 (fun h => nomatch h)⟩
      rw [upd_ne fun e => z (r.inj j i y x a hx (.inl e))]
      exact w1
/-- a knot made since, taken into the list -/
theorem RepL.push (r : RepL K H0 H m L S) (e : Ex H H1) {x : Addr × Addr × Addr} {k : Kn} (h1 : H1 x.1 = some (.ins (He.ga K "Knot") x.2.1 (knF k x.2.2))) (h2 : H1 x.2.2 = some (.dK (kvW k.ways))) (n1 : H x.1 = none) (n2 : H x.2.2 = none) :
    RepL K H0 (upd H1 L.kA (.lst ((L.ks ++ [x]).map fun k => V.ref k.1))) m { L with ks := L.ks ++ [x] } { S with knots := S.knots ++ [k] } := by
  have r1 := r.stay e
  obtain ⟨_, _, _, _, o1⟩ := r.off n1
  obtain ⟨_, _, _, _, o2⟩ := r.off n2
  refine ⟨r1.ex.mut r1.nk, hop r1.hm r1.hk (fun h => nomatch h), ?_, upd_same, ?_, ?_, fun i y k' a b => ?_, r.d1, r.d2, r.d3, fun i j y z a b c => ?_, r.nm, r.nt, r.nk, r.na, fun i y a => ?_⟩
  · rw [upd_ne r.d1]; exact r1.ht
  · rw [upd_ne r.d3.symm]; exact r1.ha
  · show (L.ks ++ [x]).length = (S.knots ++ [k]).length
    rw [List.length_append, List.length_append, r.len]; rfl
  · have a : (L.ks ++ [x])[i]? = some y := a
    have b : (S.knots ++ [k])[i]? = some k' := b
    by_cases hi : i < L.ks.length
    · rw [List.getElem?_append_left hi] at a
      rw [List.getElem?_append_left (by rw [← r.len]; exact hi)] at b
      obtain ⟨q1, q2⟩ := r1.kn i y k' a b
      exact ⟨hop q1 r1.hk (fun h => nomatch h), hop q2 r1.hk (fun h => nomatch h)⟩
    · have hi2 : i < (L.ks ++ [x]).length := (List.getElem?_eq_some_iff.mp a).1
      have ei : i = L.ks.length := by
        rw [List.length_append, List.length_singleton] at hi2
        omega
      subst ei
      rw [List.getElem?_concat_length] at a
      rw [r.len, List.getElem?_concat_length] at b
      cases a
      cases b
      exact ⟨hop h1 r1.hk (fun h => nomatch h), hop h2 r1.hk (fun h => nomatch h)⟩
  · have a : (L.ks ++ [x])[i]? = some y := a
    have b : (L.ks ++ [x])[j]? = some z := b
    have cases_ : ∀ {i : Nat} {y : Addr × Addr × Addr}, (L.ks ++ [x])[i]? = some y → (i < L.ks.length ∧ L.ks[i]? = some y) ∨ (i = L.ks.length ∧ y = x) := fun {i y} a => by
      by_cases hi : i < L.ks.length
      · rw [List.getElem?_append_left hi] at a
        exact .inl ⟨hi, a⟩
      · have hi2 : i < (L.ks ++ [x]).length := (List.getElem?_eq_some_iff.mp a).1
        have ei : i = L.ks.length := by
          rw [List.length_append, List.length_singleton] at hi2
          omega
        subst ei
        rw [List.getElem?_concat_length] at a
        cases a
        exact .inr ⟨rfl, rfl⟩
    rcases cases_ a with ⟨a1, a2⟩ | ⟨a1, a2⟩ <;> rcases cases_ b with ⟨b1, b2⟩ | ⟨b1, b2⟩
    · exact r.inj i j y z a2 b2 c
    · subst b2
      rcases c with c | c
      · exact absurd c.symm (o1 i y a2).1
      · exact absurd c.symm (o2 i y a2).2
    · subst a2
      rcases c with c | c
      · exact absurd c (o1 j z b2).1
      · exact absurd c (o2 j z b2).2
    · rw [a1, b1]
  · have a : (L.ks ++ [x])[i]? = some y := a
    by_cases hi : i < L.ks.length
    · rw [List.getElem?_append_left hi] at a
      exact r.ns i y a
    · have hi2 : i < (L.ks ++ [x]).length := (List.getElem?_eq_some_iff.mp a).1
      have ei : i = L.ks.length := by
        rw [List.length_append, List.length_singleton] at hi2
        omega
      subst ei
      rw [List.getElem?_concat_length] at a
      cases a
      exact ⟨fresh_back r.ex n1, fresh_back r.ex n2⟩
end
/-! ### the state as functions -/
def lgS (k : List Kn) (i : Nat) : Nat := (k[i]?.map (·.long)).getD 0
def lkS (k : List Kn) (i : Nat) : Option Nat := k[i]?.bind (·.link)
def wyS (k : List Kn) (i : Nat) (z : Str) : Option Nat := k[i]?.bind fun x => wayOf x.ways z
section
variable {ks : List Kn} {i : Nat} {k : Kn}
theorem lgS_at (h : ks[i]? = some k) : lgS ks i = k.long := by unfold lgS; rw [h]; rfl
theorem lkS_at (h : ks[i]? = some k) : lkS ks i = k.link := by unfold lkS; rw [h]; rfl
theorem wyS_at (h : ks[i]? = some k) {z : Str} : wyS ks i z = wayOf k.ways z := by unfold wyS; rw [h]; rfl
theorem wyS_far (h : ks.length ≤ i) {z : Str} : wyS ks i z = none := by unfold wyS; rw [List.getElem?_eq_none h]; rfl
theorem lkS_far (h : ks.length ≤ i) : lkS ks i = none := by unfold lkS; rw [List.getElem?_eq_none h]; rfl
theorem lgS_ways (h : ks[i]? = some k) (ws : List (Str × Nat)) : lgS (ks.set i { k with ways := ws }) = lgS ks := by
  funext j
  unfold lgS
  by_cases z : j = i
  · subst z
    rw [List.getElem?_set_self (List.getElem?_eq_some_iff.mp h).1, h]
    rfl
  · rw [List.getElem?_set_ne (Ne.symm z)]
theorem lkS_ways (h : ks[i]? = some k) (ws : List (Str × Nat)) : lkS (ks.set i { k with ways := ws }) = lkS ks := by
  funext j
  unfold lkS
  by_cases z : j = i
  · subst z
    rw [List.getElem?_set_self (List.getElem?_eq_some_iff.mp h).1, h]
    rfl
  · rw [List.getElem?_set_ne (Ne.symm z)]
theorem wyS_ways (h : ks[i]? = some k) (ws : List (Str × Nat)) (j : Nat) (d : Str) : wyS (ks.set i { k with ways := ws }) j d = if j = i then wayOf ws d else wyS ks j d := by
  unfold wyS
  by_cases z : j = i
  · subst z
    rw [List.getElem?_set_self (List.getElem?_eq_some_iff.mp h).1, if_pos rfl]
    rfl
  · rw [List.getElem?_set_ne (Ne.symm z), if_neg z]
theorem lgS_link (h : ks[i]? = some k) (l : Option Nat) : lgS (ks.set i { k with link := l }) = lgS ks := by
  funext j
  unfold lgS
  by_cases z : j = i
  · subst z
    rw [List.getElem?_set_self (List.getElem?_eq_some_iff.mp h).1, h]
    rfl
  · rw [List.getElem?_set_ne (Ne.symm z)]
theorem wyS_link (h : ks[i]? = some k) (l : Option Nat) : wyS (ks.set i { k with link := l }) = wyS ks := by
  funext j
  unfold wyS
  by_cases z : j = i
  · subst z
    rw [List.getElem?_set_self (List.getElem?_eq_some_iff.mp h).1, h]
    rfl
  · rw [List.getElem?_set_ne (Ne.symm z)]
theorem lkS_link (h : ks[i]? = some k) (l : Option Nat) (j : Nat) : lkS (ks.set i { k with link := l }) j = if j = i then l else lkS ks j := by
  unfold lkS
  by_cases z : j = i
  · subst z
    rw [List.getElem?_set_self (List.getElem?_eq_some_iff.mp h).1, if_pos rfl]
    rfl
  · rw [List.getElem?_set_ne (Ne.symm z), if_neg z]
theorem get_push (ks : List Kn) (k : Kn) (j : Nat) : (ks ++ [k])[j]? = if j = ks.length then some k else ks[j]? := by
  by_cases z : j = ks.length
  · subst z
    rw [List.getElem?_concat_length, if_pos rfl]
  · rw [if_neg z]
    by_cases h : j < ks.length
    · rw [List.getElem?_append_left h]
    · rw [List.getElem?_eq_none (by rw [List.length_append, List.length_singleton]; omega), List.getElem?_eq_none (by omega)]
theorem lgS_push (ks : List Kn) (k : Kn) : lgS (ks ++ [k]) = lgP (lgS ks) ks.length k.long := by
  funext j
  unfold lgS lgP
  rw [get_push]
  by_cases z : j = ks.length
  · rw [if_pos z, if_pos z]; rfl
  · rw [if_neg z, if_neg z]
theorem lkS_push (ks : List Kn) (k : Kn) (j : Nat) : lkS (ks ++ [k]) j = if j = ks.length then k.link else lkS ks j := by
  unfold lkS
  rw [get_push]
  by_cases z : j = ks.length
  · rw [if_pos z, if_pos z]; rfl
  · rw [if_neg z, if_neg z]
theorem wyS_push (ks : List Kn) (k : Kn) (j : Nat) (d : Str) : wyS (ks ++ [k]) j d = if j = ks.length then wayOf k.ways d else wyS ks j d := by
  unfold wyS
  rw [get_push]
  by_cases z : j = ks.length
  · rw [if_pos z, if_pos z]; rfl
  · rw [if_neg z, if_neg z]
end
/-- no more ways than B, each by a sign -/
abbrev WOk (ws : List (Str × Nat)) (B : Nat) : Prop := ws.length ≤ B ∧ ∀ p ∈ ws, p.1.length ≤ 1
theorem wayOf_key : ∀ {ws : List (Str × Nat)} {z : Str} {t : Nat}, wayOf ws z = some t → (z, t) ∈ ws
  | [], _, _, h => nomatch h
  | p :: r, z, t, h => by
    rw [wayOf_cons] at h
    by_cases e : p.1 = z
    · rw [if_pos e] at h
      cases h
      rw [← e]
      exact List.mem_cons_self
    · rw [if_neg e] at h
      exact List.mem_cons_of_mem _ (wayOf_key h)
theorem putW_keys {ws : List (Str × Nat)} {z : Str} {t : Nat} (h : ∀ p ∈ ws, p.1.length ≤ 1) (hz : z.length ≤ 1) : ∀ p ∈ putW ws z t, p.1.length ≤ 1 := fun p hp => by
  unfold putW at hp
  by_cases e : (ws.any fun p => decide (p.1 = z)) = true
  · rw [if_pos e] at hp
    obtain ⟨q, hq, rfl⟩ := List.mem_map.mp hp
    by_cases e2 : q.1 = z
    · rw [if_pos e2]; exact h q hq
    · rw [if_neg e2]; exact h q hq
  · rw [if_neg e] at hp
    rcases List.mem_append.mp hp with hp | hp
    · exact h p hp
    · rw [List.mem_singleton.mp hp]; exact hz
/-- no knot has more ways than B -/
def WaysLe (ks : List Kn) (B : Nat) : Prop := ∀ (i : Nat) (k : Kn), ks[i]? = some k → WOk k.ways B
theorem WaysLe.set {ks : List Kn} {B : Nat} {i : Nat} {k : Kn} (h : WaysLe ks B) (hk : WOk k.ways B) : WaysLe (ks.set i k) B := fun j x e => by
  by_cases z : j = i
  · subst z
    rw [List.getElem?_set_self (by have := (List.getElem?_eq_some_iff.mp e).1; rw [List.length_set] at this; exact this)] at e
    cases e
    exact hk
  · rw [List.getElem?_set_ne (Ne.symm z)] at e
    exact h j x e
theorem WaysLe.push {ks : List Kn} {B : Nat} {k : Kn} (h : WaysLe ks B) (hk : WOk k.ways B) : WaysLe (ks ++ [k]) B := fun j x e => by
  rw [get_push] at e
  by_cases z : j = ks.length
  · rw [if_pos z] at e
    cases e
    exact hk
  · rw [if_neg z] at e
    exact h j x e
theorem WaysLe.mono {ks : List Kn} {B C : Nat} (h : WaysLe ks B) (hb : B ≤ C) : WaysLe ks C := fun i k e => ⟨Nat.le_trans (h i k e).1 hb, (h i k e).2⟩
end Ap

/-! ## M1 -/
set_option Elab.async false
set_option linter.all false
set_option maxRecDepth 100000
set_option maxHeartbeats 4000000
namespace Ap
open PySem PySem.Spec PyProof.Rows L2 Evl
theorem uns {k : Nat} {A : Around} (r : Room k A) : A.units + 1 < cLine := by have := r.units; omega
section
variable {P : Program} {w : World} {K : PySem.W.Frag} {mg : Str → Option Value} {base : Heap}
variable {σ : L2.St} {H H0 : Hp} {m : Addr} {L : Lay} {S : MS} {ta tb : TE}
/-! ### readings of the machine's parts -/
theorem ev_fld {f : Str} {a C dx : Addr} {fs : List (Str × V)} {v : V} (h : Ev ta σ H (.ref a)) (hi : H a = some (.ins C dx fs)) (c : Cls K C) (n : NoAttr K C f) (l : fs.lookup f = some v) : Ev (tFld K ta f) σ H v := fun H1 e Q q =>
  h H1 e _ fun H2 e2 => ⟨a, C, dx, fs, v, rfl, (e.trans e2) _ _ hi, c, n, l, q H2 e2⟩
theorem ev_texts (T : Tx K mg w) (r : RepL K H0 H m L S) (h : Ev ta σ H (.ref m)) : Ev (tFld K ta "texts") σ H (.ref L.tA) := ev_fld h r.hm T.c_Machine T.n_Machine_texts rfl
theorem ev_knots (T : Tx K mg w) (r : RepL K H0 H m L S) (h : Ev ta σ H (.ref m)) : Ev (tFld K ta "knots") σ H (.ref L.kA) := ev_fld h r.hm T.c_Machine T.n_Machine_knots rfl
theorem ev_ats (T : Tx K mg w) (r : RepL K H0 H m L S) (h : Ev ta σ H (.ref m)) : Ev (tFld K ta "at") σ H (.ref L.aA) := ev_fld h r.hm T.c_Machine T.n_Machine_at rfl
theorem ev_knot (T : Tx K mg w) (r : RepL K H0 H m L S) (h : Ev ta σ H (.ref m)) {i : Nat} (hi : Ev tb σ H (.int (i : Nat))) {x : Addr × Addr × Addr} (hx : L.ks[i]? = some x) : Ev (tOp (rIxL K) (tFld K ta "knots") tb) σ H (.ref x.1) :=
  ev_op (ev_knots T r h) hi (rv_ixL (SqL.of r.hk) (atI_nat (by rw [List.getElem?_map, hx]; rfl)))
theorem ev_long (T : Tx K mg w) {k : Kn} {a d wa : Addr} (hk : H a = some (.ins (He.ga K "Knot") d (knF k wa))) (h : Ev ta σ H (.ref a)) : Ev (tFld K ta "long") σ H (.int (k.long : Nat)) := ev_fld h hk T.c_Knot T.n_Knot_long rfl
theorem ev_link (T : Tx K mg w) {k : Kn} {a d wa : Addr} (hk : H a = some (.ins (He.ga K "Knot") d (knF k wa))) (h : Ev ta σ H (.ref a)) : Ev (tFld K ta "link") σ H (oN k.link) := ev_fld h hk T.c_Knot T.n_Knot_link rfl
theorem ev_ways (T : Tx K mg w) {k : Kn} {a d wa : Addr} (hk : H a = some (.ins (He.ga K "Knot") d (knF k wa))) (h : Ev ta σ H (.ref a)) : Ev (tFld K ta "ways") σ H (.ref wa) := ev_fld h hk T.c_Knot T.n_Knot_ways rfl
theorem ev_dget {a : Addr} {ws : List (Str × Nat)} {z : Str} {t : Nat} (ha : Ev ta σ H (.ref a)) (hz : Ev tb σ H (.str z)) (hd : H a = some (.dK (kvW ws))) (ht : wayOf ws z = some t) : Ev (tDGet ta tb) σ H (.int (t : Nat)) := fun H1 e Q q =>
  ha H1 e _ fun H2 e2 => hz H2 (e.trans e2) _ fun H3 e3 => ⟨a, .int (t : Nat), rfl, by
    have := DGet.k (k := Sum.inr z) (((e.trans e2).trans e3) _ _ hd)
    rw [kvW_val, ht] at this
    exact this, q H3 (e2.trans e3)⟩
theorem ev_din {a : Addr} {ws : List (Str × Nat)} {z : Str} (hz : Ev tb σ H (.str z)) (ha : Ev ta σ H (.ref a)) (hd : H a = some (.dK (kvW ws))) : Ev (tDIn tb ta) σ H (.bl (wayOf ws z).isSome) := fun H1 e Q q =>
  hz H1 e _ fun H2 e2 => ha H2 (e.trans e2) _ fun H3 e3 => ⟨a, (wayOf ws z).map fun t => V.int (t : Nat), rfl, by
    have := DGet.k (k := Sum.inr z) (((e.trans e2).trans e3) _ _ hd)
    rw [kvW_val] at this
    exact this, by
    rw [Option.isSome_map]
    exact q H3 (e2.trans e3)⟩
theorem ev_dni {a : Addr} {ws : List (Str × Nat)} {z : Str} (hz : Ev tb σ H (.str z)) (ha : Ev ta σ H (.ref a)) (hd : H a = some (.dK (kvW ws))) : Ev (tDNotIn tb ta) σ H (.bl (!(wayOf ws z).isSome)) := fun H1 e Q q =>
  hz H1 e _ fun H2 e2 => ha H2 (e.trans e2) _ fun H3 e3 => ⟨a, (wayOf ws z).map fun t => V.int (t : Nat), rfl, by
    have := DGet.k (k := Sum.inr z) (((e.trans e2).trans e3) _ _ hd)
    rw [kvW_val] at this
    exact this, by
    rw [Option.isSome_map]
    exact q H3 (e2.trans e3)⟩
theorem ev_dgetN {a : Addr} {ws : List (Str × Nat)} {z : Str} (ha : Ev ta σ H (.ref a)) (hz : Ev tb σ H (.str z)) (hd : H a = some (.dK (kvW ws))) : Ev (tDGet1 ta tb) σ H (oN (wayOf ws z)) := fun H1 e Q q =>
  ha H1 e _ fun H2 e2 => ⟨a, rfl, .inl ⟨_, .inl ((e.trans e2) _ _ hd)⟩, hz H2 (e.trans e2) _ fun H3 e3 => ⟨_, DGet.k (k := Sum.inr z) (((e.trans e2).trans e3) _ _ hd), by
    rw [kvW_val]
    have : ((wayOf ws z).map fun t => V.int (t : Nat)).getD .non = oN (wayOf ws z) := by cases wayOf ws z <;> rfl
    rw [this]
    exact q H3 (e2.trans e3)⟩⟩
theorem s_dput {D : Ends} {tv : TE} {a : Addr} {ws : List (Str × Nat)} {z : Str} {t : Nat} (hv : Ev tv σ H (.int (t : Nat))) (ha : Ev ta σ H (.ref a)) (hz : Ev tb σ H (.str z)) (hd : H a = some (.dK (kvW ws))) (hl : ws.length < 1000000)
    (k : ∀ H1, Ex H H1 → D.nx σ (upd H1 a (.dK (kvW (putW ws z t))))) : sDPut ta tb tv D σ H :=
  hv H (Ex.refl H) _ fun H1 e1 => ha H1 e1 _ fun H2 e2 => hz H2 (e1.trans e2) _ fun H3 e3 => ⟨a, _, rfl, DPut.k (k := Sum.inr z) (((e1.trans e2).trans e3) _ _ hd) (by rw [kvW_len]; exact Nat.lt_of_lt_of_le hl (by rw [sizeLine_eq]; decide)), by
    rw [kvW_put]
    exact k H3 ((e1.trans e2).trans e3)⟩
theorem q_dput {D : Ends} {tz : TS} {tv : TE} {a : Addr} {ws : List (Str × Nat)} {z : Str} {t : Nat} (hv : Ev tv σ H (.int (t : Nat))) (ha : Ev ta σ H (.ref a)) (hz : Ev tb σ H (.str z)) (hd : H a = some (.dK (kvW ws))) (hl : ws.length < 1000000)
    (k : ∀ H1, Ex H H1 → tz D σ (upd H1 a (.dK (kvW (putW ws z t))))) : tSeq (sDPut ta tb tv) tz D σ H := s_dput (D := { D with nx := tz D }) hv ha hz hd hl k
theorem q_fld {D : Ends} {tz : TS} {tv : TE} {f : Str} {a C dx : Addr} {fs : List (Str × V)} {v : V} (hv : Ev tv σ H v) (ha : Ev ta σ H (.ref a)) (hi : H a = some (.ins C dx fs)) (c : Cls K C) (n : NoAttr K C f) (hl : fs.length < 1000)
    (k : ∀ H1, Ex H H1 → tz D σ (upd H1 a (.ins C dx (putF f v fs)))) : tSeq (sFld K ta tv f) tz D σ H :=
  hv H (Ex.refl H) _ fun H1 e1 => ha H1 e1 _ fun H2 e2 => ⟨a, C, dx, fs, rfl, (e1.trans e2) _ _ hi, c, n, hl, k H2 (e1.trans e2)⟩
theorem s_fld {D : Ends} {tv : TE} {f : Str} {a C dx : Addr} {fs : List (Str × V)} {v : V} (hv : Ev tv σ H v) (ha : Ev ta σ H (.ref a)) (hi : H a = some (.ins C dx fs)) (c : Cls K C) (n : NoAttr K C f) (hl : fs.length < 1000)
    (k : ∀ H1, Ex H H1 → D.nx σ (upd H1 a (.ins C dx (putF f v fs)))) : sFld K ta tv f D σ H :=
  hv H (Ex.refl H) _ fun H1 e1 => ha H1 e1 _ fun H2 e2 => ⟨a, C, dx, fs, rfl, (e1.trans e2) _ _ hi, c, n, hl, k H2 (e1.trans e2)⟩
/-! ### Knot.__init__ -/
def spKnot (K : PySem.W.Frag) : Sp := fun vs H Q _ => ∃ (a dx : Addr) (k : Kn) (wa : Addr), vs = [.ref a, .int (k.long : Nat), oN k.link, .ref wa] ∧ H a = some (.ins (He.ga K "Knot") dx []) ∧ Q .non (upd H a (.ins (He.ga K "Knot") dx (knF k wa)))
theorem scKnot : FnScope ["self", "long", "link", "ways"] ["self", "long", "link", "ways"] (defScope s_Knot_init) := ⟨rfl, rfl, rfl, by decide +kernel, rfl, by decide +kernel, by decide +kernel⟩
theorem ok_knot (T : Tx K mg w) : FnOk P w K mg base CX0 1 (He.fAd K ("Knot", some "__init__")) (fo K ("Knot", some "__init__")) ["self", "long", "link", "ways"] (spKnot K) := by
  refine T.h_Knot_init.ok scKnot (fun vs H Q E h => ?_) (fun cdv A outer s H vs Q E hr h => ?_)
  · obtain ⟨a, dx, k, wa, rfl, _⟩ := h
    rfl
  · obtain ⟨a, dx, k, wa, rfl, hi, q⟩ := h
    refine ⟨_, PSs.nox (pss_cons (ps_fld (pv 0) (pv 1) rfl) (pss_cons (ps_fld (pv 0) (pv 2) rfl) (pss_one (ps_fld (pv 0) (pv 3) rfl)))), ?_⟩
    refine ⟨_, rfl, _, rfl, a, _, dx, [], rfl, hi, T.c_Knot, T.n_Knot_long, by decide, ?_⟩
    refine ⟨_, rfl, _, rfl, a, _, dx, _, rfl, upd_same, T.c_Knot, T.n_Knot_link, (by show 1 < 1000; decide), ?_⟩
    refine ⟨_, rfl, _, rfl, a, _, dx, _, rfl, upd_same, T.c_Knot, T.n_Knot_ways, (by show 2 < 1000; decide), ?_⟩
    rw [upd_upd, upd_upd]
    exact q
theorem b_knot (T : Tx K mg w) : Binds K (fo K ("Knot", some "__init__")) ["self", "long", "link", "ways"] [] := T.h_Knot_init.bindsN fun _ _ _ _ _ _ us hl => match us, hl with | [_, _, _, _], _ => rfl
/-- Knot(..): a new knot at x -/
theorem mk_knot {tA : TA} {E : XK} {k : Kn} {wa : Addr} {Q : VK} (h : EvA tA σ H [.int (k.long : Nat), oN k.link, .ref wa])
    (q : ∀ x dx H1, H x = none → Ex H H1 → H1 x = some (.ins (He.ga K "Knot") dx (knF k wa)) → Q (.ref x) H1) : tMake (He.ga K "Knot") (spKnot K) [] E tA σ H Q :=
  h H (Ex.refl H) _ fun H1 e1 x dx hx hdx ne => ⟨x, dx, k, wa, rfl, upd_same, rfl, by
    rw [upd_upd]
    exact q x dx _ (fresh_back e1 hx) (e1.trans ((Ex.new hdx).trans (Ex.new (by rw [upd_ne ne.symm]; exact hx)))) upd_same⟩
/-! ### Machine.__init__, without a book -/
def S0 : MS := ⟨[], [⟨0, none, []⟩], []⟩
def spMach (K : PySem.W.Frag) : Sp := fun vs H Q _ => ∃ (H0 : Hp) (a dx : Addr), vs = [.ref a, .non] ∧ H a = some (.ins (He.ga K "Machine") dx []) ∧ Ex H0 H ∧ H0 a = none ∧ ∀ H', Rep K H0 H' a S0 → Q .non H'
theorem scMach : FnScope ["self", "book", "text"] ["self", "book"] (defScope s_Machine_init) := ⟨rfl, rfl, rfl, by decide +kernel, rfl, by decide +kernel, by decide +kernel⟩
theorem ok_mach (T : Tx K mg w) : FnOk P w K mg base CX0 3 (He.fAd K ("Machine", some "__init__")) (fo K ("Machine", some "__init__")) ["self", "book"] (spMach K) := by
  have G := ok_knot (P := P) (base := base) T
  refine T.h_Machine_init.ok scMach (fun vs H Q E h => ?_) (fun cdv A outer s H vs Q E hr h => ?_)
  · obtain ⟨H0, a, dx, rfl, _⟩ := h
    rfl
  · obtain ⟨H0, a, dx, rfl, hi, e0, n0, q⟩ := h
    refine ⟨_, PSs.nox (pss_cons (ps_fld (pv 0) (pe_lst pa_nil) rfl) (pss_cons (ps_fld (pv 0) (pe_lst (pa_cons (pe_make T.m_Knot G (hr.mono (by decide)) (by rfl) T.g_Knot (b_knot T) .nil pass0 (pa_cons pe_int (pa_cons pe_non (pa_cons pe_dnewK pa_nil)))) pa_nil)) rfl)
      (pss_cons (ps_fld (pv 0) (pe_lst pa_nil) rfl) (pss_one (ps_if (pt_cmp (pc_notN (pv 1))) pss_never pss_nil))))), ?_⟩
    -- self.texts = []
    refine ⟨Nat.zero_le _, fun tA hT => ?_⟩
    have nta : a ≠ tA := ne_of_none hi hT
    refine ⟨_, rfl, a, _, dx, [], rfl, by rw [upd_ne nta]; exact hi, T.c_Machine, T.n_Machine_texts, by decide, ?_⟩
    generalize hH1 : upd (upd H tA (.lst [])) a (.ins (He.ga K "Machine") dx (putF "texts" (.ref tA) [])) = H1
    have a1 : H1 a = some (.ins (He.ga K "Machine") dx [("texts", .ref tA)]) := by rw [← hH1, upd_same]; rfl
    have t1 : H1 tA = some (.lst []) := by rw [← hH1, upd_ne nta.symm, upd_same]
    have e1 : Ex H0 H1 := by rw [← hH1]; exact (e0.trans (Ex.new hT)).mut n0
    have t0 : H0 tA = none := fresh_back e0 hT
    -- self.knots = [Knot(0, None, {})]
    refine fun wA hW => ?_
    intro x kd hx hkd ne
    have nwx : wA ≠ x := fun z => by rw [← z, upd_same] at hx; cases hx
    refine ⟨x, kd, ⟨0, none, []⟩, wA, rfl, upd_same, rfl, Nat.le_of_ble_eq_true rfl, fun kA hK => ?_⟩
    rw [upd_upd] at hK ⊢
    have k1 : upd H1 wA (.dK []) kA = none := by
      have z1 : kA ≠ x := fun z => by rw [z, upd_same] at hK; cases hK
      rw [upd_ne z1] at hK
      have z2 : kA ≠ kd := fun z => by rw [z, upd_same] at hK; cases hK
      rw [upd_ne z2] at hK
      exact hK
    have e2 : Ex H1 (upd (upd (upd H1 wA (.dK [])) kd (.own x)) x (.ins (He.ga K "Knot") kd (knF ⟨0, none, []⟩ wA))) := (Ex.new hW).trans ((Ex.new hkd).trans (Ex.new (by rw [upd_ne ne.symm]; exact hx)))
    generalize hH2 : upd (upd (upd H1 wA (.dK [])) kd (.own x)) x (.ins (He.ga K "Knot") kd (knF ⟨0, none, []⟩ wA)) = H2 at *
    have x2 : H2 x = some (.ins (He.ga K "Knot") kd (knF ⟨0, none, []⟩ wA)) := by rw [← hH2, upd_same]
    have w2 : H2 wA = some (.dK []) := by
      have : wA ≠ kd := fun z => by rw [← z, upd_same] at hkd; cases hkd
      rw [← hH2, upd_ne nwx, upd_ne this, upd_same]
    have x0 : H1 x = none := fresh_back (Ex.new hW) hx
    have nka : a ≠ kA := ne_of_none (e2 _ _ a1) hK
    refine ⟨_, rfl, a, _, dx, _, rfl, by rw [upd_ne nka]; exact e2 _ _ a1, T.c_Machine, T.n_Machine_knots, (by show 1 < 1000; decide), ?_⟩
    have ntk : tA ≠ kA := ne_of_none (e2 _ _ t1) hK
    have nax : a ≠ x := ne_of_none a1 x0
    generalize hH3 : upd (upd H2 kA (.lst [.ref x])) a (.ins (He.ga K "Machine") dx (putF "knots" (.ref kA) [("texts", .ref tA)])) = H3
    have a3 : H3 a = some (.ins (He.ga K "Machine") dx [("texts", .ref tA), ("knots", .ref kA)]) := by rw [← hH3, upd_same]; rfl
    have t3 : H3 tA = some (.lst []) := by rw [← hH3, upd_ne nta.symm, upd_ne ntk]; exact e2 _ _ t1
    have k3 : H3 kA = some (.lst [.ref x]) := by rw [← hH3, upd_ne nka.symm, upd_same]
    have x3 : H3 x = some (.ins (He.ga K "Knot") kd (knF ⟨0, none, []⟩ wA)) := by rw [← hH3, upd_ne nax.symm, upd_ne (ne_of_none x2 hK)]; exact x2
    have w3 : H3 wA = some (.dK []) := by rw [← hH3, upd_ne (ne_of_none a1 hW).symm, upd_ne (ne_of_none w2 hK)]; exact w2
    have e3 : Ex H0 H3 := by rw [← hH3]; exact ((e1.trans e2).trans (Ex.new hK)).mut n0
    -- self.at = []
    refine ⟨Nat.zero_le _, fun aA hA => ?_⟩
    have naa : a ≠ aA := ne_of_none a3 hA
    refine ⟨_, rfl, a, _, dx, _, rfl, by rw [upd_ne naa]; exact a3, T.c_Machine, T.n_Machine_at, (by show 2 < 1000; decide), ?_⟩
    refine ⟨_, rfl, false, rfl, ?_⟩
    show Q .non _
    refine q _ ⟨⟨dx, tA, kA, aA, [(x, kd, wA)]⟩, (e3.trans (Ex.new hA)).mut n0, upd_same, ?_, ?_, ?_, rfl, fun i y k hy hk => ?_, ntk, ne_of_none t3 hA, ne_of_none k3 hA, fun i j y z hy hz _ => ?_, n0, t0, fresh_back (e1.trans e2) hK, fresh_back e3 hA, fun i y hy => ?_⟩
    · rw [upd_ne nta.symm, upd_ne (ne_of_none t3 hA)]; exact t3
    · rw [upd_ne nka.symm, upd_ne (ne_of_none k3 hA)]; exact k3
    · rw [upd_ne naa.symm, upd_same]; rfl
    · match i, hy, hk with
      | 0, hy, hk =>
        cases hy
        cases hk
        refine ⟨?_, ?_⟩
        · rw [upd_ne nax.symm, upd_ne (ne_of_none x3 hA)]; exact x3
        · rw [upd_ne (ne_of_none a1 hW).symm, upd_ne (ne_of_none w3 hA)]; exact w3
    · match i, j, hy, hz with
      | 0, 0, _, _ => rfl
    · match i, hy with
      | 0, hy =>
        cases hy
        exact ⟨fresh_back e1 x0, fresh_back e1 hW⟩
/-! ### Machine.book -/
def spBook (K : PySem.W.Frag) : Sp := fun vs H Q _ => ∃ (H0 : Hp) (m : Addr) (S : MS), vs = [.ref m] ∧ Rep K H0 H m S ∧ ∀ p H', H p = none → Ex H H' → H' p = some (.lst (S.texts.map V.str)) → Q (.ref p) H'
theorem scBook : FnScope ["self"] ["self"] (defScope s_Machine_book) := ⟨rfl, rfl, rfl, by decide +kernel, rfl, by decide +kernel, by decide +kernel⟩
theorem ok_book (T : Tx K mg w) : FnOk P w K mg base CX0 1 (He.fAd K ("Machine", some "book")) (fo K ("Machine", some "book")) ["self"] (spBook K) := by
  refine T.h_Machine_book.ok scBook (fun vs H Q E h => ?_) (fun cdv A outer s H vs Q E hr h => ?_)
  · obtain ⟨H0, m, S, rfl, _⟩ := h
    rfl
  · obtain ⟨H0, m, S, rfl, ⟨L, r⟩, q⟩ := h
    refine ⟨_, PSs.nox (pss_one (ps_ret (pe_callTy call_list_of (by rfl) T.f_list b_list (pa_cons (pe_fld (pv 0) rfl) pa_nil)))), ?_⟩
    refine s_retL (el_list (ev_texts T r (ev_var rfl)) (SqL.of r.ht)) fun p H1 hp e h1 => q p H1 hp e h1
end
end Ap

/-! ## M2 -/
set_option Elab.async false
set_option linter.all false
set_option maxRecDepth 100000
set_option maxHeartbeats 4000000
namespace Ap
open PySem PySem.Spec PyProof.Rows L2 Evl
abbrev OkS (ks : List Kn) (fr : Option (Nat × Nat × Str)) : Prop := OkX ks.length (lgS ks) (lkS ks) (wyS ks) fr
/-- the word by which a climb falls -/
def mea (lg : Nat → Nat) : Option Nat → Nat
  | none => 0
  | some b => lg b + 1
theorem q_appW {K : PySem.W.Frag} {σ : L2.St} {H : Hp} {ta te : TE} {tz : TS} {D : Ends} {l : Addr} {xs : List V} (ho : Ev ta σ H (.ref l)) (hl : H l = some (.lst xs))
    (he : ∀ H1, Ex H H1 → te σ H1 fun y H2 => rAppend (.ref l) [y] H2 fun _ H3 => tz D σ H3) : tSeq (tDrop (tBM K "list" rAppend ta (tCons te tNil))) tz D σ H :=
  ho H (Ex.refl H) _ fun H1 e1 => ⟨.inl ⟨rfl, xs, sq_of (e1 _ _ hl)⟩, he H1 e1⟩
theorem oN_int {x : Option Nat} {t : Nat} : decide (oN x = V.int (t : Nat)) = decide (x = some t) := by
  cases x with
  | none => rfl
  | some n =>
    rw [decide_eq_decide]
    refine ⟨fun h => ?_, fun h => ?_⟩
    · have := V.int.inj h
      rw [show n = t by omega]
    · cases h; rfl
theorem oN_scal {x : Option Nat} {t : Nat} : scal (oN x) (V.int (t : Nat)) = true := by cases x <;> rfl
/-- a plain state with the same frame of lengths and links; ways by c of those seen lead to f -/
structure Led (ks ks1 : List Kn) (c : Str) (f : Nat) (vs : List Nat) : Prop where
  len : ks1.length = ks.length
  lg : lgS ks1 = lgS ks
  lk : lkS ks1 = lkS ks
  hit : ∀ p, p ∈ vs → wyS ks1 p c = some f
  miss : ∀ p d, ¬ (d = c ∧ p ∈ vs) → wyS ks1 p d = wyS ks p d
theorem Led.refl {ks : List Kn} {c : Str} {f : Nat} : Led ks ks c f [] := ⟨rfl, rfl, rfl, (fun p h => nomatch h), fun _ _ _ => rfl⟩
theorem Led.step {ks ks1 : List Kn} {c : Str} {f : Nat} {vs : List Nat} (h : Led ks ks1 c f vs) {b : Nat} {k : Kn} (hb : ks1[b]? = some k) : Led ks (ks1.set b { k with ways := putW k.ways c f }) c f (b :: vs) := by
  refine ⟨by rw [List.length_set]; exact h.len, (lgS_ways hb _).trans h.lg, (lkS_ways hb _).trans h.lk, fun p hp => ?_, fun p d hn => ?_⟩
  · rw [wyS_ways hb]
    by_cases z : p = b
    · rw [if_pos z, wayOf_put, if_pos rfl]
    · rw [if_neg z]
      rcases List.mem_cons.mp hp with e | e
      · exact absurd e z
      · exact h.hit p e
  · rw [wyS_ways hb]
    by_cases z : p = b
    · subst z
      rw [if_pos rfl, wayOf_put]
      have : ¬ d = c := fun e => hn ⟨e, List.mem_cons_self⟩
      rw [if_neg this, ← wyS_at hb]
      exact h.miss p d fun q => this q.1
    · rw [if_neg z]
      exact h.miss p d fun q => hn ⟨q.1, List.mem_cons_of_mem _ q.2⟩
section
variable {P : Program} {w : World} {K : PySem.W.Frag} {mg : Str → Option Value} {base : Heap}
/-! ### Machine.parted -/
def spPart (K : PySem.W.Frag) : Sp := fun vs H Q _ => ∃ (H0 : Hp) (m : Addr) (S : MS) (a : Nat) (c : Str) (t : Nat) (fr : Option (Nat × Nat × Str)) (B : Nat), vs = [.ref m, .int (a : Nat), .str c] ∧ Rep K H0 H m S ∧ OkS S.knots fr ∧
  a < S.knots.length ∧ wyS S.knots a c = some t ∧ (∀ x, fr = some x → t ≠ x.1) ∧ (∀ x, fr = some x → a = x.2.1 ∧ c = x.2.2) ∧ S.knots.length ≤ 10000 ∧ WaysLe S.knots B ∧ B ≤ 10000 ∧
  ∀ H' ks (r : Nat), Rep K H0 H' m { S with knots := ks } → OkS ks fr → r < ks.length → wyS ks a c = some r → lgS ks r = lgS ks a + 1 → ks.length ≤ S.knots.length + 1 → S.knots.length ≤ ks.length → WaysLe ks B → Q (.int (r : Nat)) H'
theorem scPart : FnScope ["self", "at", "sign", "there", "long", "fresh"] ["self", "at", "sign"] (defScope s_Machine_parted) := ⟨rfl, rfl, rfl, by decide +kernel, rfl, by decide +kernel, by decide +kernel⟩
theorem ok_part (T : Tx K mg w) : FnOk P w K mg base CX0 3 (He.fAd K ("Machine", some "parted")) (fo K ("Machine", some "parted")) ["self", "at", "sign"] (spPart K) := by
  have G := ok_knot (P := P) (base := base) T
  refine T.h_Machine_parted.ok scPart (fun vs H Q E h => ?_) (fun cdv A outer s H vs Q E hr h => ?_)
  · obtain ⟨H0, m, S, a, c, t, fr, B, rfl, _⟩ := h
    rfl
  · obtain ⟨H0, m, S, a, c, t, fr, B, rfl, ⟨L, r⟩, ok, ha, hat, htf, hac, hn, hB, hB2, q⟩ := h
    have hu := uns hr
    refine ⟨_, PSs.nox (pss_cons (ps_set (i := 3) scPart.nd rfl (Or.inl rfl) (pe_dget hu (pe_fld (pe_ix ix_list (pe_fld (pv 0) rfl) (pv 1) (fun _ _ => rfl)) rfl) (pv 2) (fun _ _ => rfl)))
      (pss_cons (ps_set (i := 4) scPart.nd rfl (Or.inl rfl) (pe_op op_add (pe_fld (pe_ix ix_list (pe_fld (pv 0) rfl) (pv 1) (fun _ _ => rfl)) rfl) pe_int))
      (pss_cons (ps_if (pt_cmpR op_eq (pe_fld (pe_ix ix_list (pe_fld (pv 0) rfl) (pv 3) (fun _ _ => rfl)) rfl) (pv 4) (nomark _)) (pss_one (ps_ret (pv 3))) pss_nil)
      (pss_cons (ps_set (i := 5) scPart.nd rfl (Or.inl rfl) (pe_callB call_len_seq (by rfl) T.f_len b_len (pa_cons (pe_fld (pv 0) rfl) pa_nil)))
      (pss_cons (ps_expr (pe_bm PySem.F.plainAttrs_list PySem.F.slot_list_append PySem.F.type_list_append mt_append (pe_fld (pv 0) rfl)
        (pa_cons (pe_make T.m_Knot G (hr.mono (by decide)) (by rfl) T.g_Knot (b_knot T) .nil pass0 (pa_cons (pv 4) (pa_cons (pe_fld (pe_ix ix_list (pe_fld (pv 0) rfl) (pv 3) (fun _ _ => rfl)) rfl)
          (pa_cons (pe_callTy call_dictD (by rfl) T.f_dict b_dict (pa_cons (pe_fld (pe_ix ix_list (pe_fld (pv 0) rfl) (pv 3) (fun _ _ => rfl)) rfl) pa_nil)) pa_nil)))) pa_nil)))
      (pss_cons (ps_fld (pe_ix ix_list (pe_fld (pv 0) rfl) (pv 3) (fun _ _ => rfl)) (pv 5) rfl)
      (pss_cons (ps_while PassesOwn.never (PW.pt (pw_and (pt_cmp (pc_notN (pv 1))) (pw_and1 (pt_cmpR op_eq (pe_dget1 hu (pe_fld (pe_ix ix_list (pe_fld (pv 0) rfl) (pv 1) (fun _ _ => rfl)) rfl) (pv 2) ⟨rfl, rfl, rfl, rfl⟩) (pv 3) (nomark _)))))
        (pss_cons (ps_dput hu (pe_fld (pe_ix ix_list (pe_fld (pv 0) rfl) (pv 1) (fun _ _ => rfl)) rfl) (pv 2) (pv 5) rfl)
        (pss_one (ps_set (i := 1) scPart.nd rfl (Or.inl rfl) (pe_fld (pe_ix ix_list (pe_fld (pv 0) rfl) (pv 1) (fun _ _ => rfl)) rfl)))))
      (pss_one (ps_ret (pv 5)))))))))), ?_⟩
    obtain ⟨ka, hka⟩ : ∃ k, S.knots[a]? = some k := ⟨_, List.getElem?_eq_getElem ha⟩
    have htn : t < S.knots.length := (ok.R a c t hat).2
    obtain ⟨kt, hkt⟩ : ∃ k, S.knots[t]? = some k := ⟨_, List.getElem?_eq_getElem htn⟩
    obtain ⟨xa, hxa, a1, a2⟩ := r.knot hka
    obtain ⟨xt, hxt, t1, t2⟩ := r.knot hkt
    have hwa : wayOf ka.ways c = some t := by rw [← wyS_at hka]; exact hat
    have hla : lgS S.knots a = ka.long := lgS_at hka
    have hlt : lgS S.knots t = kt.long := lgS_at hkt
    -- there
    refine q_asg (v := .int (t : Nat)) (ev_dget (ev_ways T a1 (ev_knot T r (ev_var rfl) (ev_var rfl) hxa)) (ev_var rfl) a2 hwa) fun H1 e1 => ?_
    have r1 := r.stay e1
    refine q_asg (v := .int ((ka.long : Nat) + 1 : Int)) (ev_op (ev_long T (e1 _ _ a1) (ev_knot T r1 (ev_var rfl) (ev_var rfl) hxa)) ev_c rv_I0) fun H2 e2 => ?_
    have r2 := r1.stay e2
    have e02 := e1.trans e2
    refine q_when (b := decide (kt.long = ka.long + 1)) (et_is (et_test (ev_op (ev_long T (e02 _ _ t1) (ev_knot T r2 (ev_var rfl) (ev_var rfl) hxt)) (ev_var rfl) (rv_eq rfl))) ?_) (fun hb H3 e3 => ?_) (fun hb H3 e3 => ?_)
    · rw [decide_eq_decide]
      refine ⟨fun h => ?_, fun h => ?_⟩
      · have := V.int.inj h
        omega
      · rw [h]; rfl
    · have hb := of_decide_eq_true hb
      refine s_ret (ev_var rfl) fun H4 e4 => q H4 S.knots t ⟨L, r2.stay (e3.trans e4)⟩ ok htn hat (by rw [hla, hlt]; exact hb) (Nat.le_succ _) (Nat.le_refl _) hB
    have hb := of_decide_eq_false hb
    have r3 := r2.stay e3
    have e03 := e02.trans e3
    refine q_asg (v := .int ((S.knots.length : Nat) : Int)) (ev_is (ev_len (ev_knots T r3 (ev_var rfl)) (SqL.of r3.hk)) (by rw [List.length_map, r.len])) fun H4 e4 => ?_
    have r4 := r3.stay e4
    have e04 := e03.trans e4
    -- self.knots.append(Knot(..))
    refine q_appW (ev_knots T r4 (ev_var rfl)) r4.hk fun H5 e5 => ?_
    have r5 := r4.stay e5
    have e05 := e04.trans e5
    -- the arguments
    refine ⟨_, rfl, ?_⟩
    show tFld K (tOp (rIxL K) (tFld K (tVar 0) "knots") (tVar 3)) "link" _ _ _
    refine ev_link T (e05 _ _ t1) (ev_knot T r5 (ev_var rfl) (ev_var rfl) hxt) H5 (Ex.refl _) _ fun H7 e7 => ?_
    have r7 := r5.stay e7
    have e07 := e05.trans e7
    show tFld K (tOp (rIxL K) (tFld K (tVar 0) "knots") (tVar 3)) "ways" _ _ _
    refine ev_ways T (e07 _ _ t1) (ev_knot T r7 (ev_var rfl) (ev_var rfl) hxt) H7 (Ex.refl _) _ fun H8 e8 => ⟨xt.2.2, _, rfl, .inl ((e07.trans e8) _ _ t2), fun wA hW x dx hx hdx ne => ?_⟩
    have r8 := r7.stay e8
    refine ⟨x, dx, ⟨ka.long + 1, kt.link, kt.ways⟩, wA, rfl, upd_same, rfl, ?_⟩
    rw [upd_upd]
    have nwx : wA ≠ x := fun z => by rw [← z, upd_same] at hx; cases hx
    have nwd : wA ≠ dx := fun z => by rw [← z, upd_same] at hdx; cases hdx
    have ex9 : Ex H8 (upd (upd (upd H8 wA (.dK (kvW kt.ways))) dx (.own x)) x (.ins (He.ga K "Knot") dx (knF ⟨ka.long + 1, kt.link, kt.ways⟩ wA))) := (Ex.new hW).trans ((Ex.new hdx).trans (Ex.new (by rw [upd_ne ne.symm]; exact hx)))
    have hx8 : H8 x = none := fresh_back (Ex.new hW) hx
    have hk9 := ex9 _ _ r8.hk
    have hkl : L.ks.length < sizeLine := Nat.lt_of_le_of_lt (by rw [r.len]; exact hn) (by rw [sizeLine_eq]; decide)
    refine ⟨L.kA, _, _, rfl, rfl, hk9, by rw [List.length_map]; exact hkl, ?_⟩
    have rp := r8.push (x := (x, dx, wA)) (k := ⟨ka.long + 1, kt.link, kt.ways⟩) ex9 upd_same (by show upd _ x _ wA = _; rw [upd_ne nwx, upd_ne nwd, upd_same]) hx8 hW
    generalize hH9 : upd (upd (upd (upd H8 wA (.dK (kvW kt.ways))) dx (.own x)) x (.ins (He.ga K "Knot") dx (knF ⟨ka.long + 1, kt.link, kt.ways⟩ wA))) L.kA (.lst ((L.ks ++ [(x, dx, wA)]).map fun k => V.ref k.1)) = H9 at rp
    have hH9' : upd (upd (upd (upd H8 wA (.dK (kvW kt.ways))) dx (.own x)) x (.ins (He.ga K "Knot") dx (knF ⟨ka.long + 1, kt.link, kt.ways⟩ wA))) L.kA (.lst (L.ks.map (fun k => V.ref k.1) ++ [V.ref x])) = H9 := by rw [← hH9, List.map_append]; rfl
    rw [hH9']
    -- self.knots[there].link = fresh
    have hxt9 : (L.ks ++ [(x, dx, wA)])[t]? = some xt := by rw [List.getElem?_append_left (by rw [r.len]; exact htn)]; exact hxt
    have hkt9 : (S.knots ++ [(⟨ka.long + 1, kt.link, kt.ways⟩ : Kn)])[t]? = some kt := by rw [List.getElem?_append_left htn]; exact hkt
    obtain ⟨t91, t92⟩ := rp.kn t xt kt hxt9 hkt9
    refine q_fld (ev_var rfl) (ev_knot T rp (ev_var rfl) (ev_var rfl) hxt9) t91 T.c_Knot T.n_Knot_link (by show 3 < 1000; decide) fun H10 e10 => ?_
    have rl := (rp.stay e10).setLink (i := t) (k := kt) (x := xt) hkt9 hxt9 (some S.knots.length)
    have hf : putF "link" (V.int ((S.knots.length : Nat) : Int)) (knF kt xt.2.2) = knF { kt with link := some S.knots.length } xt.2.2 := rfl
    rw [hf]
    -- the state as functions
    generalize hks1 : (S.knots ++ [(⟨ka.long + 1, kt.link, kt.ways⟩ : Kn)]).set t { kt with link := some S.knots.length } = ks1 at rl
    have rl : RepL K H0 (upd H10 xt.1 (.ins (He.ga K "Knot") xt.2.1 (knF { kt with link := some S.knots.length } xt.2.2))) m { L with ks := L.ks ++ [(x, dx, wA)] } { S with knots := ks1 } := rl
    have tne : t ≠ S.knots.length := Nat.ne_of_lt htn
    have flg : lgS ks1 = lgP (lgS S.knots) S.knots.length (lgS S.knots a + 1) := by rw [← hks1, lgS_link hkt9, lgS_push, hla]
    have flk : lkS ks1 = lkP (lkS S.knots) t S.knots.length := by
      funext j
      rw [← hks1, lkS_link hkt9, lkS_push]
      unfold lkP
      by_cases z : j = t
      · rw [if_pos z, if_neg (by rw [z]; exact tne), if_pos z]
      · by_cases z2 : j = S.knots.length
        · rw [if_neg z, if_pos z2, if_pos z2, lkS_at hkt]
        · rw [if_neg z, if_neg z2, if_neg z2, if_neg z]
    have fwy : ∀ p d, wyS ks1 p d = if p = S.knots.length then wyS S.knots t d else wyS S.knots p d := fun p d => by
      rw [← hks1, wyS_link hkt9, wyS_push, wyS_at hkt]
    have flen : ks1.length = S.knots.length + 1 := by rw [← hks1, List.length_set, List.length_append]; rfl
    have fB : WaysLe ks1 B := by
      rw [← hks1]
      exact WaysLe.set (k := { kt with link := some S.knots.length }) (WaysLe.push (k := ⟨ka.long + 1, kt.link, kt.ways⟩) hB (hB t kt hkt)) (hB t kt hkt)
    have hEt : lgS S.knots a + 1 < lgS S.knots t := by
      have := ok.E a c t hat
      have : lgS S.knots t ≠ lgS S.knots a + 1 := by rw [hla, hlt]; exact hb
      omega
    have good : ∀ {vs : List Nat} {b : Nat}, Climb (lkS S.knots) (fun p => wyS S.knots p c = some t) a vs (some b) → b < S.knots.length ∧ b ∉ vs ∧ b ≠ t := fun {vs b} k => by
      obtain ⟨l1, l2⟩ := (k.lower ok ha).2 b rfl
      refine ⟨l1, fun hv => absurd (l2 b hv) (Nat.lt_irrefl _), fun z => ?_⟩
      have := ok.up_le (k.at_up.2 b rfl) ha
      rw [z] at this
      omega
    generalize H10 = H10 at *
    generalize hH11 : upd H10 xt.1 (.ins (He.ga K "Knot") xt.2.1 (knF { kt with link := some S.knots.length } xt.2.2)) = H11 at rl
    -- the walk along the links
    refine q_while (fun μ σ' H' => ∃ (vs : List Nat) (st : Option Nat) (ks2 : List Kn), σ' = [some (.ref m), some (oN st), some (.str c), some (.int (t : Nat)), some (.int ((ka.long : Nat) + 1 : Int)), some (.int ((S.knots.length : Nat) : Int))] ∧
        RepL K H0 H' m { L with ks := L.ks ++ [(x, dx, wA)] } { S with knots := ks2 } ∧ Climb (lkS S.knots) (fun p => wyS S.knots p c = some t) a vs st ∧ Led ks1 ks2 c S.knots.length vs ∧ WaysLe ks2 B ∧ μ = mea (lgS S.knots) st) (mea (lgS S.knots) (some a))
      ⟨[], some a, ks1, rfl, rl, .start, Led.refl, fB, rfl⟩ ?_
    rintro μ σ' H' ⟨vs, st, ks2, rfl, rw2, cl, led, hB3, rfl⟩
    have hkw : ∀ b, st = some b → ∃ kb xb, ks2[b]? = some kb ∧ (L.ks ++ [(x, dx, wA)])[b]? = some xb ∧ wayOf kb.ways c = wyS S.knots b c ∧ kb.link = lkS S.knots b := fun b hb => by
      subst hb
      obtain ⟨g1, g2, g3⟩ := good cl
      have hb2 : b < ks2.length := by rw [led.len, flen]; omega
      obtain ⟨kb, hkb⟩ : ∃ k, ks2[b]? = some k := ⟨_, List.getElem?_eq_getElem hb2⟩
      obtain ⟨xb, hxb, _⟩ := rw2.knot hkb
      refine ⟨kb, xb, hkb, hxb, ?_, ?_⟩
      · rw [← wyS_at hkb, led.miss b c (fun z => g2 z.2), fwy, if_neg (Nat.ne_of_lt g1)]
      · rw [← lkS_at hkb, led.lk, flk]
        unfold lkP
        rw [if_neg (Nat.ne_of_lt g1), if_neg g3]
    refine ⟨st.isSome && decide ((st.bind fun b => wyS S.knots b c) = some t), ?_, fun hb H1 e1 => ?_, fun hb H1 e1 => ?_⟩
    · refine et_and (et_is (et_B (ev_notN (ev_var rfl))) (by rw [oN_non]; cases st <;> rfl)) fun hs => ?_
      obtain ⟨b, rfl⟩ := Option.isSome_iff_exists.mp hs
      obtain ⟨kb, xb, h1, h2, h3, h4⟩ := hkw b rfl
      obtain ⟨y1, y2⟩ := rw2.kn b xb kb h2 h1
      refine et_is (et_test (ev_op (ev_dgetN (ev_ways T y1 (ev_knot T rw2 (ev_var rfl) (ev_var rfl) h2)) (ev_var rfl) y2) (ev_var rfl) (rv_eq oN_scal))) ?_
      rw [oN_int, h3]
      rfl
    · -- one more
      rw [Bool.and_eq_true] at hb
      obtain ⟨b, rfl⟩ := Option.isSome_iff_exists.mp hb.1
      have hbt : wyS S.knots b c = some t := of_decide_eq_true hb.2
      obtain ⟨kb, xb, h1, h2, h3, h4⟩ := hkw b rfl
      obtain ⟨g1, g2, g3⟩ := good cl
      have rw3 := rw2.stay e1
      obtain ⟨y1, y2⟩ := rw3.kn b xb kb h2 h1
      refine ⟨_, fun σ2 H2 n => n, ?_⟩
      have hwl : kb.ways.length ≤ B := (hB3 b kb h1).1
      refine q_dput (ev_var rfl) (ev_ways T y1 (ev_knot T rw3 (ev_var rfl) (ev_var rfl) h2)) (ev_var rfl) y2 (by omega) fun H2 e2 => ?_
      have rw4 := (rw3.stay e2).setWays (i := b) (k := kb) (x := xb) h1 h2 (putW kb.ways c S.knots.length)
      have hb4 : (ks2.set b { kb with ways := putW kb.ways c S.knots.length })[b]? = some { kb with ways := putW kb.ways c S.knots.length } := List.getElem?_set_self (by rw [led.len, flen]; omega)
      obtain ⟨z1, z2⟩ := rw4.kn b xb _ h2 hb4
      refine s_asg (v := oN kb.link) (ev_link T z1 (ev_knot T rw4 (ev_var rfl) (ev_var rfl) h2)) fun H3 e3 => ?_
      rw [h4]
      refine ⟨mea (lgS S.knots) (lkS S.knots b), ?_, b :: vs, lkS S.knots b, _, rfl, rw4.stay e3, .step cl hbt, led.step h1, hB3.set ?_, rfl⟩
      · cases e : lkS S.knots b with
        | none => exact Nat.succ_pos _
        | some b' =>
          have b0 : b ≠ 0 := fun z => by rw [z, ok.lk0] at e; cases e
          obtain ⟨l, l1, l2, l3⟩ := ok.L b g1 b0
          rw [e] at l1
          cases l1
          show lgS S.knots b' + 1 < lgS S.knots b + 1
          omega
      · refine ⟨?_, putW_keys (hB3 b kb h1).2 ((hB a ka hka).2 _ (wayOf_key hwa))⟩
        show (putW kb.ways c S.knots.length).length ≤ B
        rw [(putW_len kb.ways c _).2 (by rw [h3, hbt]; rfl)]
        exact hwl
    · -- the end
      have hx : ∀ b, st = some b → wyS S.knots b c ≠ some t := fun b hs hbt => by
        subst hs
        rw [Bool.and_eq_false_iff] at hb
        rcases hb with hb | hb
        · cases hb
        · exact of_decide_eq_false hb hbt
      have pas := ok.passed ha hat htf cl hx
      have vlt : ∀ p, p ∈ vs → p < S.knots.length := (cl.lower ok ha).1
      have fin := ok.part (wy' := wyS ks2) ha hat (by rw [hla, hlt]; exact hb |> fun _ => ‹¬kt.long = ka.long + 1›) htf hac (fun d => wyS_far (Nat.le_refl _))
        (fun p u e => led.hit p ((pas p).mpr ⟨u, e⟩))
        (fun p d hp hnot => by
          rw [led.miss p d fun z => hnot ⟨z.1, (pas p).mp z.2⟩, fwy, if_neg hp])
        (fun d => by
          rw [led.miss _ d fun z => absurd (vlt _ z.2) (Nat.lt_irrefl _), fwy, if_pos rfl])
      rw [← flg, ← flk, ← led.lg, ← led.lk] at fin
      obtain ⟨f1, f2, f3⟩ := fin
      have flen2 : ks2.length = S.knots.length + 1 := led.len.trans flen
      have lga : lgS ks2 a = lgS S.knots a := by
        rw [led.lg, flg]
        unfold lgP
        rw [if_neg (Nat.ne_of_lt ha)]
      refine s_ret (v := .int ((S.knots.length : Nat) : Int)) (ev_var rfl) fun H2 e2 => q H2 ks2 S.knots.length ⟨_, rw2.stay (e1.trans e2)⟩ ?_ ?_ f2 ?_ ?_ ?_ hB3
      · show OkX ks2.length _ _ _ _
        rw [flen2]; exact f1
      · rw [flen2]; exact Nat.lt_succ_self _
      · rw [f3, lga]
      · rw [flen2]; exact Nat.le_refl _
      · rw [flen2]; exact Nat.le_succ _
end
end Ap

/-! ## M3 -/
set_option Elab.async false
set_option linter.all false
set_option maxRecDepth 100000
set_option maxHeartbeats 4000000
namespace Ap
open PySem PySem.Spec PyProof.Rows L2 Evl
/-- the knots in vs may have one way more -/
def WaysUp (ks : List Kn) (B : Nat) (vs : List Nat) : Prop := ∀ (i : Nat) (k : Kn), ks[i]? = some k → k.ways.length ≤ B + 1 ∧ (i ∉ vs → k.ways.length ≤ B) ∧ ∀ p ∈ k.ways, p.1.length ≤ 1
section
variable {P : Program} {w : World} {K : PySem.W.Frag} {mg : Str → Option Value} {base : Heap}
theorem b_part (T : Tx K mg w) : Binds K (fo K ("Machine", some "parted")) ["self", "at", "sign"] [] := T.h_Machine_parted.bindsN fun _ _ _ _ _ _ us hl => match us, hl with | [_, _, _], _ => rfl
/-! ### Machine.put -/
def spPut (K : PySem.W.Frag) : Sp := fun vs H Q _ => ∃ (H0 : Hp) (m : Addr) (S : MS) (a : Nat) (c : Str) (B : Nat), vs = [.ref m, .int (a : Nat), .str c] ∧ Rep K H0 H m S ∧ OkS S.knots none ∧
  a < S.knots.length ∧ S.knots.length ≤ 9000 ∧ WaysLe S.knots B ∧ B ≤ 9000 ∧ c.length ≤ 1 ∧
  ∀ H' ks (r : Nat), Rep K H0 H' m { S with knots := ks } → OkS ks none → r < ks.length → ks.length ≤ S.knots.length + 2 → S.knots.length ≤ ks.length → WaysLe ks (B + 1) → Q (.int (r : Nat)) H'
theorem scPut : FnScope ["self", "at", "sign", "fresh"] ["self", "at", "sign"] (defScope s_Machine_put) := ⟨rfl, rfl, rfl, by decide +kernel, rfl, by decide +kernel, by decide +kernel⟩
theorem ok_put (T : Tx K mg w) : FnOk P w K mg base CX0 4 (He.fAd K ("Machine", some "put")) (fo K ("Machine", some "put")) ["self", "at", "sign"] (spPut K) := by
  have G := ok_knot (P := P) (base := base) T
  have G2 := ok_part (P := P) (base := base) T
  refine T.h_Machine_put.ok scPut (fun vs H Q E h => ?_) (fun cdv A outer s H vs Q E hr h => ?_)
  · obtain ⟨H0, m, S, a, c, B, rfl, _⟩ := h
    rfl
  · obtain ⟨H0, m, S, a, c, B, rfl, ⟨L, r⟩, ok, ha, hn, hB, hB2, hc1, q⟩ := h
    have hu := uns hr
    refine ⟨_, PSs.nox (pss_cons (ps_if (pt_cmp (pc_din hu (pv 2) (pe_fld (pe_ix ix_list (pe_fld (pv 0) rfl) (pv 1) (fun _ _ => rfl)) rfl))) (pss_one (ps_ret (pe_meth (pv 0) T.c_Machine T.t_Machine_parted G2 (hr.mono (by decide)) (b_part T) .nil pass0 (pa_cons (pv 1) (pa_cons (pv 2) pa_nil))))) pss_nil)
      (pss_cons (ps_set (i := 3) scPut.nd rfl (Or.inl rfl) (pe_callB call_len_seq (by rfl) T.f_len b_len (pa_cons (pe_fld (pv 0) rfl) pa_nil)))
      (pss_cons (ps_expr (pe_bm PySem.F.plainAttrs_list PySem.F.slot_list_append PySem.F.type_list_append mt_append (pe_fld (pv 0) rfl)
        (pa_cons (pe_make T.m_Knot G (hr.mono (by decide)) (by rfl) T.g_Knot (b_knot T) .nil pass0 (pa_cons (pe_op op_add (pe_fld (pe_ix ix_list (pe_fld (pv 0) rfl) (pv 1) (fun _ _ => rfl)) rfl) pe_int) (pa_cons pe_int (pa_cons pe_dnewK pa_nil)))) pa_nil)))
      (pss_cons (ps_while PassesOwn.never (PW.pt (pw_and (pt_cmp (pc_notN (pv 1))) (pw_and1 (pt_cmp (pc_dnotin hu (pv 2) (pe_fld (pe_ix ix_list (pe_fld (pv 0) rfl) (pv 1) (fun _ _ => rfl)) rfl))))))
        (pss_cons (ps_dput hu (pe_fld (pe_ix ix_list (pe_fld (pv 0) rfl) (pv 1) (fun _ _ => rfl)) rfl) (pv 2) (pv 3) rfl)
        (pss_one (ps_set (i := 1) scPut.nd rfl (Or.inl rfl) (pe_fld (pe_ix ix_list (pe_fld (pv 0) rfl) (pv 1) (fun _ _ => rfl)) rfl)))))
      (pss_cons (ps_if (pt_cmp (pc_notN (pv 1))) (pss_one (ps_fld (pe_ix ix_list (pe_fld (pv 0) rfl) (pv 3) (fun _ _ => rfl)) (pe_meth (pv 0) T.c_Machine T.t_Machine_parted G2 (hr.mono (by decide)) (b_part T) .nil pass0 (pa_cons (pv 1) (pa_cons (pv 2) pa_nil))) rfl)) pss_nil)
      (pss_one (ps_ret (pv 3)))))))), ?_⟩
    obtain ⟨ka, hka⟩ : ∃ k, S.knots[a]? = some k := ⟨_, List.getElem?_eq_getElem ha⟩
    obtain ⟨xa, hxa, a1, a2⟩ := r.knot hka
    have hla : lgS S.knots a = ka.long := lgS_at hka
    refine q_when (b := (wyS S.knots a c).isSome) (et_is (et_B (ev_din (ev_var rfl) (ev_ways T a1 (ev_knot T r (ev_var rfl) (ev_var rfl) hxa)) a2)) (by rw [wyS_at hka])) (fun hb H1 e1 => ?_) (fun hb H1 e1 => ?_)
    · -- there is one: parted
      obtain ⟨t, hat⟩ := Option.isSome_iff_exists.mp hb
      have r1 := r.stay e1
      refine ⟨_, rfl, m, _, _, rfl, r1.hm, rfl, _, rfl, _, rfl, H0, m, S, a, c, t, none, B, rfl, ⟨L, r1⟩, ok, ha, hat, (fun x hx => nomatch hx), (fun x hx => nomatch hx), by omega, hB, by omega, ?_⟩
      intro H' ks r' h1 h2 h3 _ _ h4 h5 h6
      exact q H' ks r' h1 h2 h3 (by omega) h5 (h6.mono (Nat.le_succ _))
    have hno : wyS S.knots a c = none := by simpa using hb
    have r1 := r.stay e1
    refine q_asg (v := .int ((S.knots.length : Nat) : Int)) (ev_is (ev_len (ev_knots T r1 (ev_var rfl)) (SqL.of r1.hk)) (by rw [List.length_map, r.len])) fun H4 e4 => ?_
    have r4 := r1.stay e4
    have e04 := e1.trans e4
    refine q_appW (ev_knots T r4 (ev_var rfl)) r4.hk fun H5 e5 => ?_
    have r5 := r4.stay e5
    have e05 := e04.trans e5
    have hv : Ev (tOp (rI0 fun i j => V.int (i + j)) (tFld K (tOp (rIxL K) (tFld K (tVar 0) "knots") (tVar 1)) "long") (tC (.int 1))) [some (.ref m), some (.int (a : Nat)), some (.str c), some (.int ((S.knots.length : Nat) : Int))] H5 (.int ((ka.long : Nat) + 1 : Int)) :=
      ev_op (ev_long T (e05 _ _ a1) (ev_knot T r5 (ev_var rfl) (ev_var rfl) hxa)) ev_c rv_I0
    refine hv H5 (Ex.refl _) _ fun H8 e8 wA hW x dx hx hdx ne => ?_
    have r8 := r5.stay e8
    refine ⟨x, dx, ⟨ka.long + 1, some 0, []⟩, wA, rfl, upd_same, rfl, ?_⟩
    rw [upd_upd]
    have nwx : wA ≠ x := fun z => by rw [← z, upd_same] at hx; cases hx
    have nwd : wA ≠ dx := fun z => by rw [← z, upd_same] at hdx; cases hdx
    have ex9 : Ex H8 (upd (upd (upd H8 wA (.dK [])) dx (.own x)) x (.ins (He.ga K "Knot") dx (knF ⟨ka.long + 1, some 0, []⟩ wA))) := (Ex.new hW).trans ((Ex.new hdx).trans (Ex.new (by rw [upd_ne ne.symm]; exact hx)))
    have hx8 : H8 x = none := fresh_back (Ex.new hW) hx
    have hk9 := ex9 _ _ r8.hk
    have hkl : L.ks.length < sizeLine := Nat.lt_of_le_of_lt (by rw [r.len]; exact hn) (by rw [sizeLine_eq]; decide)
    refine ⟨L.kA, _, _, rfl, rfl, hk9, by rw [List.length_map]; exact hkl, ?_⟩
    have rp := r8.push (x := (x, dx, wA)) (k := ⟨ka.long + 1, some 0, []⟩) ex9 upd_same (by show upd _ x _ wA = _; rw [upd_ne nwx, upd_ne nwd, upd_same]; rfl) hx8 hW
    generalize hH9 : upd (upd (upd (upd H8 wA (.dK [])) dx (.own x)) x (.ins (He.ga K "Knot") dx (knF ⟨ka.long + 1, some 0, []⟩ wA))) L.kA (.lst ((L.ks ++ [(x, dx, wA)]).map fun k => V.ref k.1)) = H9 at rp
    have hH9' : upd (upd (upd (upd H8 wA (.dK [])) dx (.own x)) x (.ins (He.ga K "Knot") dx (knF ⟨ka.long + 1, some 0, []⟩ wA))) L.kA (.lst (L.ks.map (fun k => V.ref k.1) ++ [V.ref x])) = H9 := by rw [← hH9, List.map_append]; rfl
    rw [hH9']
    generalize hks1 : (S.knots ++ [(⟨ka.long + 1, some 0, []⟩ : Kn)]) = ks1 at rp
    have rl : RepL K H0 H9 m { L with ks := L.ks ++ [(x, dx, wA)] } { S with knots := ks1 } := rp
    have flg : lgS ks1 = lgP (lgS S.knots) S.knots.length (lgS S.knots a + 1) := by rw [← hks1, lgS_push, hla]
    have flk : lkS ks1 = lkN (lkS S.knots) S.knots.length 0 := by
      funext j
      rw [← hks1, lkS_push]
      unfold lkN
      rfl
    have fwy : ∀ p d, wyS ks1 p d = wyS S.knots p d := fun p d => by
      rw [← hks1, wyS_push]
      by_cases z : p = S.knots.length
      · rw [if_pos z, wyS_far (by rw [z]; exact Nat.le_refl _)]
        rfl
      · rw [if_neg z]
    have flen : ks1.length = S.knots.length + 1 := by rw [← hks1, List.length_append]; rfl
    have fB : WaysUp ks1 B [] := fun i k hk => by
      rw [← hks1] at hk
      have := (hB.push (k := ⟨ka.long + 1, some 0, []⟩) ⟨Nat.zero_le _, fun p hp => nomatch hp⟩) i k hk
      exact ⟨Nat.le_succ_of_le this.1, fun _ => this.1, this.2⟩
    have good : ∀ {vs : List Nat} {b : Nat}, Climb (lkS S.knots) (fun p => wyS S.knots p c = none) a vs (some b) → b < S.knots.length ∧ b ∉ vs := fun {vs b} k => by
      obtain ⟨l1, l2⟩ := (k.lower ok ha).2 b rfl
      exact ⟨l1, fun hv => absurd (l2 b hv) (Nat.lt_irrefl _)⟩
    refine q_while (fun μ σ' H' => ∃ (vs : List Nat) (st : Option Nat) (ks2 : List Kn), σ' = [some (.ref m), some (oN st), some (.str c), some (.int ((S.knots.length : Nat) : Int))] ∧
        RepL K H0 H' m { L with ks := L.ks ++ [(x, dx, wA)] } { S with knots := ks2 } ∧ Climb (lkS S.knots) (fun p => wyS S.knots p c = none) a vs st ∧ Led ks1 ks2 c S.knots.length vs ∧ WaysUp ks2 B vs ∧ μ = mea (lgS S.knots) st) (mea (lgS S.knots) (some a))
      ⟨[], some a, ks1, rfl, rl, .start, Led.refl, fB, rfl⟩ ?_
    rintro μ σ' H' ⟨vs, st, ks2, rfl, rw2, cl, led, hB3, rfl⟩
    have hkw : ∀ b, st = some b → ∃ kb xb, ks2[b]? = some kb ∧ (L.ks ++ [(x, dx, wA)])[b]? = some xb ∧ wayOf kb.ways c = wyS S.knots b c ∧ kb.link = lkS S.knots b := fun b hb => by
      subst hb
      obtain ⟨g1, g2⟩ := good cl
      have hb2 : b < ks2.length := by rw [led.len, flen]; omega
      obtain ⟨kb, hkb⟩ : ∃ k, ks2[b]? = some k := ⟨_, List.getElem?_eq_getElem hb2⟩
      obtain ⟨xb, hxb, _⟩ := rw2.knot hkb
      refine ⟨kb, xb, hkb, hxb, ?_, ?_⟩
      · rw [← wyS_at hkb, led.miss b c (fun z => g2 z.2), fwy]
      · rw [← lkS_at hkb, led.lk, flk]
        unfold lkN
        rw [if_neg (Nat.ne_of_lt g1)]
    refine ⟨st.isSome && !(st.bind fun b => wyS S.knots b c).isSome, ?_, fun hb H1 e1 => ?_, fun hb H1 e1 => ?_⟩
    · refine et_and (et_is (et_B (ev_notN (ev_var rfl))) (by rw [oN_non]; cases st <;> rfl)) fun hs => ?_
      obtain ⟨b, rfl⟩ := Option.isSome_iff_exists.mp hs
      obtain ⟨kb, xb, h1, h2, h3, h4⟩ := hkw b rfl
      obtain ⟨y1, y2⟩ := rw2.kn b xb kb h2 h1
      refine et_is (et_B (ev_dni (ev_var rfl) (ev_ways T y1 (ev_knot T rw2 (ev_var rfl) (ev_var rfl) h2)) y2)) ?_
      rw [h3]
      rfl
    · -- one more
      rw [Bool.and_eq_true] at hb
      obtain ⟨b, rfl⟩ := Option.isSome_iff_exists.mp hb.1
      have hbt : wyS S.knots b c = none := by simpa using hb.2
      obtain ⟨kb, xb, h1, h2, h3, h4⟩ := hkw b rfl
      obtain ⟨g1, g2⟩ := good cl
      have rw3 := rw2.stay e1
      obtain ⟨y1, y2⟩ := rw3.kn b xb kb h2 h1
      refine ⟨_, fun σ2 H2 n => n, ?_⟩
      have hwl : kb.ways.length ≤ B := (hB3 b kb h1).2.1 g2
      refine q_dput (ev_var rfl) (ev_ways T y1 (ev_knot T rw3 (ev_var rfl) (ev_var rfl) h2)) (ev_var rfl) y2 (by omega) fun H2 e2 => ?_
      have rw4 := (rw3.stay e2).setWays (i := b) (k := kb) (x := xb) h1 h2 (putW kb.ways c S.knots.length)
      have hb4 : (ks2.set b { kb with ways := putW kb.ways c S.knots.length })[b]? = some { kb with ways := putW kb.ways c S.knots.length } := List.getElem?_set_self (by rw [led.len, flen]; omega)
      obtain ⟨z1, z2⟩ := rw4.kn b xb _ h2 hb4
      refine s_asg (v := oN kb.link) (ev_link T z1 (ev_knot T rw4 (ev_var rfl) (ev_var rfl) h2)) fun H3 e3 => ?_
      rw [h4]
      refine ⟨mea (lgS S.knots) (lkS S.knots b), ?_, b :: vs, lkS S.knots b, _, rfl, rw4.stay e3, .step cl hbt, led.step h1, fun i k hk => ?_, rfl⟩
      · cases e : lkS S.knots b with
        | none => exact Nat.succ_pos _
        | some b' =>
          have b0 : b ≠ 0 := fun z => by rw [z, ok.lk0] at e; cases e
          obtain ⟨l, l1, l2, l3⟩ := ok.L b g1 b0
          rw [e] at l1
          cases l1
          show lgS S.knots b' + 1 < lgS S.knots b + 1
          omega
      · by_cases z : i = b
        · subst z
          have hk : (ks2.set i { kb with ways := putW kb.ways c S.knots.length })[i]? = some k := hk
          rw [hb4] at hk
          cases hk
          have := (putW_len kb.ways c S.knots.length).1
          exact ⟨by show (putW kb.ways c S.knots.length).length ≤ B + 1; omega, fun y => absurd List.mem_cons_self y, putW_keys (hB3 i kb h1).2.2 hc1⟩
        · have hk : (ks2.set b { kb with ways := putW kb.ways c S.knots.length })[i]? = some k := hk
          rw [List.getElem?_set_ne (Ne.symm z)] at hk
          exact ⟨(hB3 i k hk).1, fun y => (hB3 i k hk).2.1 fun v => y (List.mem_cons_of_mem _ v), (hB3 i k hk).2.2⟩
    · -- the end
      have hx : ∀ b, st = some b → wyS S.knots b c ≠ none := fun b hs hbt => by
        subst hs
        rw [Bool.and_eq_false_iff] at hb
        rcases hb with hb | hb
        · cases hb
        · simp [hbt] at hb
      have fin := ok.grow (wy' := wyS ks2) ha hno (fun d => wyS_far (Nat.le_refl _)) cl hx (fun k hk => by rw [lkS_far hk]; exact fun z => nomatch z) (fun p hp => led.hit p hp) (fun p d hnot => by rw [led.miss p d hnot, fwy])
      rw [← flg, ← flk, ← led.lg, ← led.lk] at fin
      obtain ⟨f1, f2⟩ := fin
      have flen2 : ks2.length = S.knots.length + 1 := led.len.trans flen
      rw [← flen2] at f1
      have rw3 := rw2.stay e1
      have hB4 : WaysLe ks2 (B + 1) := fun i k hk => ⟨(hB3 i k hk).1, (hB3 i k hk).2.2⟩
      cases st with
      | none =>
        refine q_when (b := false) (et_is (et_B (ev_notN (ev_var rfl))) rfl) (fun hb => nomatch hb) fun _ H2 e2 => ?_
        refine s_ret (v := .int ((S.knots.length : Nat) : Int)) (ev_var rfl) fun H3 e3 => q H3 ks2 S.knots.length ⟨_, rw3.stay (e2.trans e3)⟩ f1 (by rw [flen2]; exact Nat.lt_succ_self _) (by rw [flen2]; omega) (by rw [flen2]; omega) hB4
      | some b =>
        obtain ⟨g1, g2⟩ := good cl
        obtain ⟨w1, w2⟩ := f2 b rfl
        obtain ⟨t, ht⟩ := Option.ne_none_iff_exists'.mp (hx b rfl)
        have htn : t < S.knots.length := (ok.R b c t ht).2
        refine q_when (b := true) (et_is (et_B (ev_notN (ev_var rfl))) rfl) (fun _ H2 e2 => ?_) (fun hb => nomatch hb)
        have rw4 := rw3.stay e2
        refine ⟨_, rfl, m, _, _, rfl, rw4.hm, rfl, _, rfl, _, rfl, H0, m, { S with knots := ks2 }, b, c, t, some (S.knots.length, b, c), B + 1, rfl, ⟨_, rw4⟩, f1, by show b < ks2.length; rw [flen2]; omega, w1.trans ht,
          (fun y hy => by cases hy; exact Nat.ne_of_lt htn), (fun y hy => by cases hy; exact ⟨rfl, rfl⟩), by show ks2.length ≤ 10000; rw [flen2]; omega, hB4, by omega, ?_⟩
        intro H5 ks3 r3 p1 p2 p3 p4 p5 p6 p7 p8
        obtain ⟨L5, p1⟩ := p1
        have p6 : ks3.length ≤ ks2.length + 1 := p6
        have p7 : ks2.length ≤ ks3.length := p7
        have hn3 : S.knots.length < ks3.length := by omega
        obtain ⟨kf, hkf⟩ : ∃ k, ks3[S.knots.length]? = some k := ⟨_, List.getElem?_eq_getElem hn3⟩
        obtain ⟨xf, hxf, y1, y2⟩ := p1.knot hkf
        refine ev_knot T p1 (ev_var rfl) (ev_var rfl) hxf H5 (Ex.refl _) _ fun H6 e6 => ?_
        have r6 := p1.stay e6
        refine ⟨xf.1, _, xf.2.1, _, rfl, e6 _ _ y1, T.c_Knot, T.n_Knot_link, (by show 3 < 1000; decide), ?_⟩
        have r7 := r6.setLink (i := S.knots.length) (k := kf) (x := xf) hkf hxf (some r3)
        have hf : putF "link" (V.int ((r3 : Nat) : Int)) (knF kf xf.2.2) = knF { kf with link := some r3 } xf.2.2 := rfl
        rw [hf]
        have o7 := p2.finish p4 p5
        have l7 : lkS (ks3.set S.knots.length { kf with link := some r3 }) = lkN (lkS ks3) S.knots.length r3 := by
          funext j
          rw [lkS_link hkf]
          rfl
        rw [← l7, ← lgS_link hkf (some r3), ← wyS_link hkf (some r3)] at o7
        refine s_ret (v := .int ((S.knots.length : Nat) : Int)) (ev_var rfl) fun H8 e8 => q H8 (ks3.set S.knots.length { kf with link := some r3 }) S.knots.length ⟨_, r7.stay e8⟩ ?_ ?_ ?_ ?_ ?_
        · show OkX (ks3.set S.knots.length { kf with link := some r3 }).length _ _ _ none
          rw [List.length_set]
          exact o7
        · rw [List.length_set]; exact hn3
        · rw [List.length_set]; omega
        · rw [List.length_set]; omega
        · exact WaysLe.set (k := { kf with link := some r3 }) p8 (p8 _ kf hkf)
end
end Ap

/-! ## M4 -/
set_option Elab.async false
set_option linter.all false
set_option maxRecDepth 100000
set_option maxHeartbeats 4000000
namespace Ap
open PySem PySem.Spec PyProof.Rows L2 Evl
/-- what stands of a machine between the rows -/
structure Good (S : MS) : Prop where
  ok : OkS S.knots none
  at_ : S.ats.length = S.texts.length
  lt : ∀ (i a : Nat), S.ats[i]? = some a → a < S.knots.length
  n : S.knots.length ≤ 2 * total S.texts + 1
  ways : WaysLe S.knots (total S.texts)
  few : S.texts.length ≤ 8
  small : total S.texts ≤ 62
  chars : ∀ t ∈ S.texts, PyData.strOk t = true
theorem good0 : Good S0 := by
  refine ⟨ok_one rfl rfl fun p c => ?_, rfl, (fun i a h => nomatch h), Nat.le_of_ble_eq_true rfl, fun i k h => ?_, Nat.zero_le _, Nat.zero_le _, fun t ht => nomatch ht⟩
  · unfold wyS
    match p with
    | 0 => rfl
    | p + 1 => rfl
  · match i, h with
    | 0, h => cases h; exact ⟨Nat.zero_le _, fun p hp => nomatch hp⟩
theorem total_app (a b : List Str) : total (a ++ b) = total a + total b := by
  unfold total
  rw [List.map_append, List.sum_append]
theorem total_le : ∀ {ts : List Str}, ∀ t ∈ ts, t.length ≤ total ts
  | [], t, h => nomatch h
  | x :: r, t, h => by
    have e : total (x :: r) = x.length + total r := by
      unfold total
      rw [List.map_cons, List.sum_cons]
    rw [e]
    rcases List.mem_cons.mp h with h | h
    · rw [h]; omega
    · have := total_le t h
      omega
theorem Good.begin {S : MS} (g : Good S) (h : S.texts.length < 8) : Good { S with texts := S.texts ++ [emp], ats := S.ats ++ [0] } := by
  have ht : total (S.texts ++ [emp]) = total S.texts := total_app _ _
  refine ⟨g.ok, ?_, fun i a e => ?_, ?_, ?_, ?_, ?_, fun t ht => ?_⟩
  · show (S.ats ++ [0]).length = (S.texts ++ [emp]).length
    rw [List.length_append, List.length_append, g.at_]
    rfl
  · have e : (S.ats ++ [0])[i]? = some a := e
    by_cases hi : i < S.ats.length
    · rw [List.getElem?_append_left hi] at e
      exact g.lt i a e
    · have hi2 := (List.getElem?_eq_some_iff.mp e).1
      rw [List.length_append, List.length_singleton] at hi2
      have : i = S.ats.length := by omega
      subst this
      rw [List.getElem?_concat_length] at e
      cases e
      exact g.ok.pos
  · show S.knots.length ≤ 2 * total (S.texts ++ [emp]) + 1
    rw [ht]; exact g.n
  · show WaysLe S.knots (total (S.texts ++ [emp]))
    rw [ht]; exact g.ways
  · show (S.texts ++ [emp]).length ≤ 8
    rw [List.length_append]
    exact h
  · show total (S.texts ++ [emp]) ≤ 62
    rw [ht]; exact g.small
  · rcases List.mem_append.mp ht with h | h
    · exact g.chars t h
    · rw [List.mem_singleton.mp h]; decide +kernel
theorem ok_cat {a b : Str} (ha : PyData.strOk a = true) (hb : PyData.strOk b = true) : PyData.strOk (a ++ b) = true := by
  show ((a.cps ++ b.cps).all fun c => decide (c < 0x110000)) = true
  rw [Array.all_append]
  exact Bool.and_eq_true_iff.mpr ⟨ha, hb⟩
theorem total_set : ∀ (ts : List Str) (i : Nat) (t u : Str), ts[i]? = some t → total (ts.set i u) + t.length = total ts + u.length
  | [], _, _, _, h => nomatch h
  | x :: r, 0, t, u, h => by
    cases h
    unfold total
    rw [List.set_cons_zero, List.map_cons, List.map_cons, List.sum_cons, List.sum_cons]
    omega
  | x :: r, i + 1, t, u, h => by
    have ih := total_set r i t u h
    unfold total at ih ⊢
    rw [List.set_cons_succ, List.map_cons, List.map_cons, List.sum_cons, List.sum_cons]
    omega
theorem app_len (a b : Str) : (a ++ b).length = a.length + b.length := by
  show (a.cps ++ b.cps).size = _
  rw [Array.size_append]
  rfl
section
variable {P : Program} {w : World} {K : PySem.W.Frag} {mg : Str → Option Value} {base : Heap}
/-! ### Machine.begin -/
def spBegin (K : PySem.W.Frag) : Sp := fun vs H Q E => ∃ (H0 : Hp) (m : Addr) (S : MS), vs = [.ref m] ∧ Rep K H0 H m S ∧ S.texts.length ≤ 8 ∧ S.ats.length ≤ 8 ∧ (S.texts.length = 8 → ∀ H', Ex H H' → E (.ref (ea K .many)) none H') ∧
  (S.texts.length < 8 → ∀ H', Rep K H0 H' m { S with texts := S.texts ++ [emp], ats := S.ats ++ [0] } → Q (.int (S.texts.length : Nat)) H')
theorem scBegin : FnScope ["self"] ["self"] (defScope s_Machine_begin) := ⟨rfl, rfl, rfl, by decide +kernel, rfl, by decide +kernel, by decide +kernel⟩
theorem ok_begin (T : Tx K mg w) : FnOk P w K mg base (L2.CX P w) 1 (He.fAd K ("Machine", some "begin")) (fo K ("Machine", some "begin")) ["self"] (spBegin K) := by
  obtain ⟨tk, eM⟩ := T.i_MOST_TEXTS
  refine T.h_Machine_begin.ok scBegin (fun vs H Q E h => ?_) (fun cdv A outer s H vs Q E hr h => ?_)
  · obtain ⟨H0, m, S, rfl, _⟩ := h
    rfl
  · obtain ⟨H0, m, S, rfl, ⟨L, r⟩, h8, h8', k1, k2⟩ := h
    refine ⟨_, pss_cons (ps_if (pt_cmpR op_eq (pe_callB call_len_seq (by rfl) T.f_len b_len (pa_cons (pe_fld (pv 0) rfl) pa_nil)) (pe_glob (v := .int 8) (by rfl) eM ⟨tk, rfl⟩) (nomark _)) (pss_one (ps_raise rfl (takes_of rfl rfl rfl rfl) (pmk_er .many T rfl rfl))) pss_nil)
      (pss_cons (ps_expr (pe_bm PySem.F.plainAttrs_list PySem.F.slot_list_append PySem.F.type_list_append mt_append (pe_fld (pv 0) rfl) (pa_cons pe_str pa_nil)))
      (pss_cons (ps_expr (pe_bm PySem.F.plainAttrs_list PySem.F.slot_list_append PySem.F.type_list_append mt_append (pe_fld (pv 0) rfl) (pa_cons pe_int pa_nil)))
      (pss_one (ps_ret (pe_op op_sub (pe_callB call_len_seq (by rfl) T.f_len b_len (pa_cons (pe_fld (pv 0) rfl) pa_nil)) pe_int))))), ?_⟩
    refine q_when (b := decide (S.texts.length = 8)) (et_is (et_test (ev_op (ev_len (ev_texts T r (ev_var rfl)) (SqL.of r.ht)) ev_c (rv_eq rfl))) ?_) (fun hb H1 e1 => ?_) (fun hb H1 e1 => ?_)
    · rw [decide_eq_decide, List.length_map]
      refine ⟨fun h => ?_, fun h => ?_⟩
      · have := V.int.inj h
        omega
      · rw [h]; rfl
    · exact k1 (of_decide_eq_true hb) H1 e1
    have hb := of_decide_eq_false hb
    have r1 := r.stay e1
    refine q_app r1.ht (ev_texts T r1 (ev_var rfl)) ev_c (by rw [List.length_map]; omega) fun H2 e2 => ?_
    have r2 : RepL K H0 (upd H2 L.tA (.lst (S.texts.map V.str ++ [V.str emp]))) m L { S with texts := S.texts ++ [emp] } := by
      have := (r1.stay e2).setText (S.texts ++ [emp])
      rw [List.map_append] at this
      exact this
    refine q_app (xs := S.ats.map fun n => V.int (n : Nat)) r2.ha (ev_ats T r2 (ev_var rfl)) ev_c (by rw [List.length_map]; omega) fun H3 e3 => ?_
    have r3 : RepL K H0 (upd H3 L.aA (.lst (S.ats.map (fun n => V.int (n : Nat)) ++ [V.int 0]))) m L { S with texts := S.texts ++ [emp], ats := S.ats ++ [0] } := by
      have := (r2.stay e3).setAts (S.ats ++ [0])
      rw [List.map_append] at this
      exact this
    refine s_ret (v := .int (S.texts.length : Nat)) (ev_is (ev_op (ev_len (ev_texts T r3 (ev_var rfl)) (SqL.of r3.ht)) ev_c rv_I0) ?_) fun H4 e4 => k2 (by omega) H4 ⟨L, r3.stay e4⟩
    rw [List.length_map, List.length_append, List.length_singleton]
    congr 1
    omega
theorem b_put (T : Tx K mg w) : Binds K (fo K ("Machine", some "put")) ["self", "at", "sign"] [] := T.h_Machine_put.bindsN fun _ _ _ _ _ _ us hl => match us, hl with | [_, _, _], _ => rfl
/-! ### Machine.grow -/
def spGrow (K : PySem.W.Frag) : Sp := fun vs H Q E => ∃ (H0 : Hp) (m : Addr) (S : MS) (i : Nat) (z : Str), vs = [.ref m, .int (i : Nat), .str z] ∧ Rep K H0 H m S ∧ Good S ∧ z.length ≤ 1000000 ∧ PyData.strOk z = true ∧
  (S.texts.length ≤ i → ∀ H', Ex H H' → E (.ref (ea K .text)) none H') ∧ (i < S.texts.length → 120 < total S.texts + z.length → ∀ H', Ex H H' → E (.ref (ea K .many)) none H') ∧
  (∀ t, S.texts[i]? = some t → 120 < total S.texts + z.length ∨ (total S.texts + z.length ≤ 62 ∧ ∀ H' S', Rep K H0 H' m S' → Good S' → S'.texts = S.texts.set i (t ++ z) → Q .non H'))
theorem scGrow : FnScope ["self", "text", "word", "sign"] ["self", "text", "word"] (defScope s_Machine_grow) := ⟨rfl, rfl, rfl, by decide +kernel, rfl, by decide +kernel, by decide +kernel⟩
theorem ok_grow (T : Tx K mg w) : FnOk P w K mg base (L2.CX P w) 5 (He.fAd K ("Machine", some "grow")) (fo K ("Machine", some "grow")) ["self", "text", "word"] (spGrow K) := by
  obtain ⟨tk, eM⟩ := T.i_MOST_SIGNS
  have G := ok_put (P := P) (base := base) T
  have G2 := ok_signs_in (P := P) (base := base) T
  have b2 : Binds K (fo K ("signs_in", none)) ["book"] [] := T.h_signs_in.bindsN fun _ _ _ _ _ _ us hl => match us, hl with | [_], _ => rfl
  refine T.h_Machine_grow.ok scGrow (fun vs H Q E h => ?_) (fun cdv A outer s H vs Q E hr h => ?_)
  · obtain ⟨H0, m, S, i, z, rfl, _⟩ := h
    rfl
  · obtain ⟨H0, m, S, i, z, rfl, ⟨L, r⟩, g, hz, hzo, k1, k2, k3⟩ := h
    refine ⟨_, pss_cons (ps_if (PW.pt (pw_or (pt_not (pt_val (pe_callB call_isi (by rfl) T.f_isinstance b_isinstance (pa_cons (pv 1) (pa_cons (pe_bltn (v := .ty "int") (by rfl) T.f_int b_int rfl) pa_nil)))))
      (pw_or (pt_val (pe_callB call_isi (by rfl) T.f_isinstance b_isinstance (pa_cons (pv 1) (pa_cons (pe_bltn (v := .ty "bool") (by rfl) T.f_bool b_bool rfl) pa_nil))))
      (pw_or1 (pt_not (pt_chain op_le op_lt pe_int (pv 1) (pe_callB call_len_seq (by rfl) T.f_len b_len (pa_cons (pe_fld (pv 0) rfl) pa_nil))))))))
      (pss_one (ps_raise rfl (takes_of rfl rfl rfl rfl) (pmk_er .text T rfl rfl))) pss_nil)
      (pss_cons (ps_if (pt_cmpR op_gt (pe_op op_add (pe_call G2 (hr.mono (by decide)) (by rfl) T.g_signs_in T.h_signs_in.kp b2 .nil pass0 (pa_cons (pe_fld (pv 0) rfl) pa_nil)) (pe_callB call_len_str (by rfl) T.f_len b_len (pa_cons (pv 2) pa_nil))) (pe_glob (v := .int 120) (by rfl) eM ⟨tk, rfl⟩) (nomark _))
        (pss_one (ps_raise rfl (takes_of rfl rfl rfl rfl) (pmk_er .many T rfl rfl))) pss_nil)
      (pss_cons (ps_asg (pe_op op_add_str (pe_ix ix_list (pe_fld (pv 0) rfl) (pv 1) (fun _ _ => rfl)) (pv 2)) (pg_sub (pe_fld (pv 0) rfl) (pv 1) set_list))
      (pss_one (ps_for (passes_of rfl) rfl (pi_str (pv 2)) (pg_name (i := 3) scGrow.nd rfl (Or.inl rfl))
        (pss_one (ps_asg (pe_meth (pv 0) T.c_Machine T.t_Machine_put G (hr.mono (by decide)) (b_put T) .nil pass0 (pa_cons (pe_ix ix_list (pe_fld (pv 0) rfl) (pv 1) (fun _ _ => rfl)) (pa_cons (pv 3) pa_nil))) (pg_sub (pe_fld (pv 0) rfl) (pv 1) set_list))))))), ?_⟩
    have h0 : decide ((0 : Int) ≤ (i : Int)) = true := decide_eq_true (Int.natCast_nonneg i)
    refine q_when (et_ask (b := decide ((i : Int) < ((S.texts.map V.str).length : Int))) (et_B (ev_isi (ev_var rfl) ev_c (.ty "int") (fun _ _ => .base (.int _)) (kit_ty (by decide +kernel)))) (et_B (ev_isi (ev_var rfl) ev_c (.ty "bool") (fun _ _ => .base (.int _)) (kit_ty (by decide +kernel))))
      (et_is (et_test (ev_chain ev_c (ev_var rfl) (rv_I0 (g := fun i j => .bl (decide (i ≤ j)))) (fun _ => ev_len (ev_texts T r (ev_var rfl)) (SqL.of r.ht)) (fun _ => rv_I0))) (by rw [h0]; exact Bool.true_and _))) (fun hb H1 e1 => ?_) (fun hb H1 e1 => ?_)
    · refine k1 ?_ H1 e1
      rw [List.length_map] at hb
      simp at hb
      omega
    have hi : i < S.texts.length := by
      rw [List.length_map] at hb
      simp at hb
      omega
    obtain ⟨t, ht⟩ : ∃ t, S.texts[i]? = some t := ⟨_, List.getElem?_eq_getElem hi⟩
    have r1 := r.stay e1
    refine q_when (b := decide (120 < total S.texts + z.length)) (et_is (et_test (ev_op (ev_op (ev_callE (v := .int (total S.texts : Nat)) (ea_cons (ev_texts T r1 (ev_var rfl)) ea_nil) fun H3 e3 Q' q' => ⟨L.tA, S.texts, rfl, SqL.of (r1.stay e3).ht, by have := g.few; omega, fun t ht => Nat.le_trans (total_le t ht) (by have := g.small; omega), q'⟩) (ev_lenS (ev_var rfl) hz) rv_I0) ev_c rv_I0)) ?_) (fun hb H2 e2 => ?_) (fun hb H2 e2 => ?_)
    · rw [decide_eq_decide]
      omega
    · exact k2 hi (of_decide_eq_true hb) H2 (e1.trans e2)
    have hb := of_decide_eq_false hb
    obtain h3 | ⟨h62, k3⟩ := k3 t ht
    · exact absurd h3 hb
    have r2 := r1.stay e2
    have htm : t ∈ S.texts := List.mem_of_getElem? ht
    have htl : t.length ≤ 62 := Nat.le_trans (total_le t htm) g.small
    -- self.texts[text] = self.texts[text] + word
    refine q_setL (v := .str (t ++ z)) r2.ht (ev_op (ev_op (ev_texts T r2 (ev_var rfl)) (ev_var rfl) (rv_ixL (SqL.of r2.ht) (atI_nat (by rw [List.getElem?_map, ht]; rfl)))) (ev_var rfl) (rv_val fun H3 e3 Q' q' => ⟨t, z, rfl, rfl, by rw [sizeLine_eq]; omega, q'⟩)) (ev_texts T r2 (ev_var rfl)) (ev_var rfl) (by rw [List.length_map]; exact hi) fun H3 e3 => ?_
    have r3 : RepL K H0 (upd H3 L.tA (.lst ((S.texts.map V.str).set i (.str (t ++ z))))) m L { S with texts := S.texts.set i (t ++ z) } := by
      have := (r2.stay e3).setText (S.texts.set i (t ++ z))
      rw [List.map_set] at this
      exact this
    generalize hH4 : upd H3 L.tA (.lst ((S.texts.map V.str).set i (.str (t ++ z)))) = H4 at r3
    have hai : i < S.ats.length := by rw [g.at_]; exact hi
    -- the signs, one by one
    refine ⟨_, rfl, z, rfl, for_it walk_str (fun j σ' H' => (∃ x, σ' = [some (.ref m), some (.int (i : Nat)), some (.str z), x]) ∧ ∃ ks as, Rep K H0 H' m ⟨S.texts.set i (t ++ z), ks, as⟩ ∧ OkS ks none ∧ as.length = S.ats.length ∧ (∀ (i a : Nat), as[i]? = some a → a < ks.length) ∧
      ks.length ≤ S.knots.length + 2 * j ∧ WaysLe ks (total S.texts + j)) ⟨⟨_, rfl⟩, S.knots, S.ats, ⟨L, r3⟩, g.ok, rfl, g.lt, Nat.le_refl _, g.ways⟩ (fun _ _ _ _ _ => trivial) ?_ ?_⟩
    · rintro j x σ' H' H'' hj ⟨⟨x0, rfl⟩, ks, as, ⟨L5, r5⟩, o5, l5, lt5, n5, w5⟩ ⟨rfl, c, hc, rfl⟩
      have hj : j < z.length := hj
      have hia : i < as.length := by rw [l5]; exact hai
      obtain ⟨a, haa⟩ : ∃ a, as[i]? = some a := ⟨_, List.getElem?_eq_getElem hia⟩
      have hgn := g.n
      refine ⟨_, rfl, m, _, _, rfl, r5.hm, rfl, ?_⟩
      show tOp (rIxL K) (tFld K (tVar 0) "at") (tVar 1) _ _ _
      refine ev_op (ev_ats T r5 (ev_var rfl)) (ev_var rfl) (rv_ixL (SqL.of r5.ha) (atI_nat (v := .int (a : Nat)) (by rw [List.getElem?_map, haa]; rfl))) _ (Ex.refl _) _ fun H6 e6 => ?_
      refine ⟨_, rfl, H0, m, ⟨S.texts.set i (t ++ z), ks, as⟩, a, _, total S.texts + j, rfl, ⟨L5, r5.stay e6⟩, o5, lt5 i a haa, by show ks.length ≤ 9000; omega, w5, by omega, Nat.le_refl 1, ?_⟩
      intro H7 ks7 r7 p1 p2 p3 p4 p5 p6
      obtain ⟨L7, p1⟩ := p1
      have p4 : ks7.length ≤ ks.length + 2 := p4
      have p5 : ks.length ≤ ks7.length := p5
      refine ev_ats T p1 (ev_var rfl) H7 (Ex.refl _) _ fun H8 e8 => ?_
      have r8 := p1.stay e8
      refine ⟨_, rfl, L7.aA, _, _, i, rfl, rfl, r8.ha, ixN_nat (by rw [List.length_map]; exact hia), ?_⟩
      have r9 := r8.setAts (as.set i r7)
      rw [List.map_set] at r9
      refine ⟨⟨_, rfl⟩, ks7, as.set i r7, ⟨L7, r9⟩, p2, by rw [List.length_set]; exact l5, fun i' a' h' => ?_, by omega, p6⟩
      by_cases zz : i' = i
      · subst zz
        rw [List.getElem?_set_self hia] at h'
        cases h'
        exact p3
      · rw [List.getElem?_set_ne (Ne.symm zz)] at h'
        have := lt5 i' a' h'
        omega
    · rintro σ' H' ⟨_, ks, as, r5, o5, l5, lt5, n5, w5⟩
      have hzs : z.cps.size = z.length := rfl
      rw [hzs] at n5 w5
      have ht3 := total_set S.texts i t (t ++ z) ht
      rw [app_len] at ht3
      have e3 : total (S.texts.set i (t ++ z)) = total S.texts + z.length := by omega
      have gn := g.n
      refine k3 H' _ r5 ⟨o5, ?_, lt5, ?_, ?_, ?_, ?_, fun u hu => ?_⟩ rfl
      · show as.length = (S.texts.set i (t ++ z)).length
        rw [List.length_set, l5, g.at_]
      · show ks.length ≤ 2 * total (S.texts.set i (t ++ z)) + 1
        rw [e3]; omega
      · show WaysLe ks (total (S.texts.set i (t ++ z)))
        rw [e3]; exact w5
      · show (S.texts.set i (t ++ z)).length ≤ 8
        rw [List.length_set]; exact g.few
      · show total (S.texts.set i (t ++ z)) ≤ 62
        rw [e3]; exact h62
      · rcases List.mem_or_eq_of_mem_set hu with q | q
        · exact g.chars u q
        · rw [q]; exact ok_cat (g.chars t htm) hzo
end
end Ap

/-! ## M5 -/
set_option Elab.async false
set_option linter.all false
set_option maxRecDepth 100000
set_option maxHeartbeats 4000000
namespace Ap
open PySem PySem.Spec PyProof.Rows L2 Evl
/-! ### texts in their order: one way to lay them -/
theorem str_ext {a b : Str} (h : a.cps.toList = b.cps.toList) : a = b := by
  cases a with
  | mk a => cases b with
    | mk b =>
      have : a = b := Array.toList_inj.mp h
      rw [this]
abbrev sle (a b : Str) : Prop := a.cps.toList ≤ b.cps.toList
theorem rising_pw : ∀ (l : List Str) (p : Str), risingS p l = true → (p :: l).Pairwise sle
  | [], p, _ => List.pairwise_singleton _ _
  | x :: r, p, h => by
    have h : (!ltCps x.cps.toList p.cps.toList && risingS x r) = true := h
    rw [Bool.and_eq_true] at h
    have ih := rising_pw r x h.2
    have hp : sle p x := by
      have := h.1
      rw [ltCps_eq] at this
      exact List.not_lt.mp (by simpa using this)
    refine List.pairwise_cons.mpr ⟨fun y hy => ?_, ih⟩
    rcases List.mem_cons.mp hy with e | e
    · rw [e]; exact hp
    · exact List.le_trans hp ((List.pairwise_cons.mp ih).1 y e)
theorem sorted_pw {l : List Str} (h : sortedS l = true) : l.Pairwise sle := by
  cases l with
  | nil => exact .nil
  | cons x r => exact rising_pw r x h
open Classical in
noncomputable def srt (ks : List Str) : List Str := if h : ∃ ys : List Str, ys.Perm ks ∧ sortedS ys = true then Classical.choose h else ks
theorem srt_eq {ks ys : List Str} (hp : ys.Perm ks) (hs : sortedS ys = true) : srt ks = ys := by
  have h : ∃ ys : List Str, ys.Perm ks ∧ sortedS ys = true := ⟨ys, hp, hs⟩
  unfold srt
  rw [dif_pos h]
  obtain ⟨q1, q2⟩ := Classical.choose_spec h
  exact List.Perm.eq_of_pairwise (le := sle) (fun a b _ _ x y => str_ext (List.le_antisymm x y)) (sorted_pw q2) (sorted_pw hs) (q1.trans hp.symm)
section
variable {X : Cx} {σ : L2.St} {H : Hp} {ta : TE}
/-- sorted(ways): the reading of call_sortedD -/
def rSrt : List V → Hp → VK → Prop := fun xs H Q => ∃ (a : Addr) (kvs : List (Key × V)) (ks : List Str), xs = [.ref a] ∧ Rd H a (.dK kvs) ∧ kvs.map (·.1) = ks.map Sum.inr ∧ ks.length < 64 ∧
    ∀ ys p, ys.Perm ks → sortedS ys = true → H p = none → Q (.ref p) (upd H p (.lst (ys.map V.str)))
theorem call_srt (hc : X.calm = true) : CallR X (.builtin "sorted") rSrt := call_sortedD hc
theorem el_srt {a : Addr} {ws : List (Str × Nat)} (h : Ev ta σ H (.ref a)) (hd : H a = some (.dK (kvW ws))) (hz : ws.length < 64) : EvL (tCB rSrt (tCons ta tNil)) σ H ((srt (ws.map (·.1))).map V.str) := fun H1 e Q q =>
  h H1 e _ fun H2 e2 => ⟨a, kvW ws, ws.map (·.1), rfl, .inl ((e.trans e2) _ _ hd), by unfold kvW; rw [List.map_map, List.map_map]; rfl, by rw [List.length_map]; exact hz, fun ys p hp hs hn => by
    rw [srt_eq hp hs] at q
    exact q p _ (fresh_back e2 hn) (e2.trans (Ex.new hn)) upd_same⟩
end
/-! ### the stands in their order -/
def addW : List Nat → List Nat → List Nat
  | met, [] => met
  | met, t :: r => addW (if t ∈ met then met else met ++ [t]) r
theorem addW_snoc : ∀ (l met : List Nat) (t : Nat), addW met (l ++ [t]) = if t ∈ addW met l then addW met l else addW met l ++ [t]
  | [], _, _ => rfl
  | x :: r, met, t => addW_snoc r _ t
noncomputable def tgt (k : Kn) : List Nat := (srt (k.ways.map (·.1))).map fun z => (wayOf k.ways z).getD 0
noncomputable def tgtS (ks : List Kn) (i : Nat) : List Nat := match ks[i]? with
  | none => []
  | some k => tgt k
noncomputable def ordF (ks : List Kn) : Nat → Nat → List Nat → List Nat
  | 0, _, met => met
  | f + 1, at_, met => match met[at_]? with
    | none => met
    | some i => ordF ks f (at_ + 1) (addW met (tgtS ks i))
noncomputable def ordS (ks : List Kn) : List Nat := ordF ks (ks.length + 1) 0 [0]
theorem srt_mem {ks : List Str} {z : Str} : z ∈ srt ks → z ∈ ks := by
  unfold srt
  by_cases h : ∃ ys : List Str, ys.Perm ks ∧ sortedS ys = true
  · rw [dif_pos h]
    exact (Classical.choose_spec h).1.mem_iff.mp
  · rw [dif_neg h]
    exact id
theorem mem_srt {ks : List Str} {z : Str} : z ∈ ks → z ∈ srt ks := by
  unfold srt
  by_cases h : ∃ ys : List Str, ys.Perm ks ∧ sortedS ys = true
  · rw [dif_pos h]
    exact (Classical.choose_spec h).1.mem_iff.mpr
  · rw [dif_neg h]
    exact id
theorem wayOf_mem {ws : List (Str × Nat)} {z : Str} : z ∈ ws.map (·.1) ↔ (wayOf ws z).isSome = true := by
  rw [← wayOf_any]
  simp
theorem addW_mem : ∀ (l met : List Nat) (t : Nat), t ∈ addW met l ↔ t ∈ met ∨ t ∈ l
  | [], met, t => by simp [addW]
  | x :: r, met, t => by
    have ih := addW_mem r (if x ∈ met then met else met ++ [x]) t
    show t ∈ addW (if x ∈ met then met else met ++ [x]) r ↔ _
    rw [ih]
    by_cases h : x ∈ met
    · rw [if_pos h]
      simp only [List.mem_cons]
      refine ⟨fun q => q.elim .inl fun q => .inr (.inr q), fun q => q.elim .inl fun q => q.elim (fun e => .inl (by rw [e]; exact h)) .inr⟩
    · rw [if_neg h]
      rw [List.mem_append, List.mem_singleton, List.mem_cons]
      exact ⟨fun q => q.elim (fun q => q.elim .inl fun e => .inr (.inl e)) fun q => .inr (.inr q), fun q => q.elim (fun q => .inl (.inl q)) fun q => q.elim (fun e => .inl (.inr e)) .inr⟩
theorem nd1 (a : Nat) : [a].Nodup := List.pairwise_singleton _ _
theorem addW_nodup : ∀ (l met : List Nat), met.Nodup → (addW met l).Nodup
  | [], met, h => h
  | x :: r, met, h => by
    refine addW_nodup r _ ?_
    by_cases hx : x ∈ met
    · rw [if_pos hx]; exact h
    · rw [if_neg hx]
      exact List.nodup_append.mpr ⟨h, nd1 _, fun a ha b hb e => hx (by rw [List.mem_singleton] at hb; rw [← hb, ← e]; exact ha)⟩
theorem addW_pre : ∀ (l met : List Nat), ∃ r, addW met l = met ++ r
  | [], met => ⟨[], (List.append_nil _).symm⟩
  | x :: r, met => by
    obtain ⟨r', h⟩ := addW_pre r (if x ∈ met then met else met ++ [x])
    by_cases hx : x ∈ met
    · rw [if_pos hx] at h
      exact ⟨r', by show addW (if x ∈ met then met else met ++ [x]) r = _; rw [if_pos hx]; exact h⟩
    · rw [if_neg hx] at h
      exact ⟨[x] ++ r', by show addW (if x ∈ met then met else met ++ [x]) r = _; rw [if_neg hx, h, List.append_assoc]⟩
theorem nodup_le : ∀ {n : Nat} {l : List Nat}, l.Nodup → (∀ t ∈ l, t < n) → l.length ≤ n
  | 0, [], _, _ => Nat.le_refl _
  | 0, x :: r, _, h => absurd (h x List.mem_cons_self) (Nat.not_lt_zero _)
  | n + 1, l, hn, h => by
    have h1 : (l.erase n).Nodup := hn.erase n
    have h2 : ∀ t ∈ l.erase n, t < n := fun t ht => by
      have a := h t (List.mem_of_mem_erase ht)
      have b : t ≠ n := fun e => hn.not_mem_erase (by rw [e] at ht; exact ht)
      omega
    have ih := nodup_le h1 h2
    rw [List.length_erase] at ih
    by_cases z : n ∈ l
    · rw [if_pos z] at ih
      omega
    · rw [if_neg z] at ih
      omega
/-- met as far as it is -/
structure Met (ks : List Kn) (at_ : Nat) (met : List Nat) : Prop where
  nd : met.Nodup
  lt : ∀ t ∈ met, t < ks.length
  le : at_ ≤ met.length
  zero : 0 ∈ met
  cl : ∀ (j i : Nat), j < at_ → met[j]? = some i → ∀ t ∈ tgtS ks i, t ∈ met
theorem tgt_way {ks : List Kn} {i t : Nat} : t ∈ tgtS ks i ↔ ∃ c, wyS ks i c = some t := by
  unfold tgtS wyS
  cases e : ks[i]? with
  | none => simp
  | some k =>
    show t ∈ tgt k ↔ ∃ c, wayOf k.ways c = some t
    unfold tgt
    rw [List.mem_map]
    refine ⟨fun ⟨z, h1, h2⟩ => ?_, fun ⟨c, h⟩ => ?_⟩
    · have := wayOf_mem.mp (srt_mem h1)
      obtain ⟨x, hx⟩ := Option.isSome_iff_exists.mp this
      refine ⟨z, ?_⟩
      rw [hx] at h2 ⊢
      rw [← h2]; rfl
    · exact ⟨c, mem_srt (wayOf_mem.mpr (by rw [h]; rfl)), by rw [h]; rfl⟩
theorem Met.step {ks : List Kn} {at_ : Nat} {met : List Nat} (m : Met ks at_ met) {i : Nat} (h : met[at_]? = some i) (hr : ∀ p c q, wyS ks p c = some q → q < ks.length) : Met ks (at_ + 1) (addW met (tgtS ks i)) := by
  obtain ⟨r, hr'⟩ := addW_pre (tgtS ks i) met
  have hl : at_ < met.length := (List.getElem?_eq_some_iff.mp h).1
  refine ⟨addW_nodup _ _ m.nd, fun t ht => ?_, by rw [hr', List.length_append]; omega, (addW_mem _ _ _).mpr (.inl m.zero), fun j i' hj hi t ht => ?_⟩
  · rcases (addW_mem _ _ _).mp ht with q | q
    · exact m.lt t q
    · obtain ⟨c, hc⟩ := tgt_way.mp q
      exact hr _ _ _ hc
  · rw [hr', List.getElem?_append_left (by omega)] at hi
    refine (addW_mem _ _ _).mpr ?_
    by_cases z : j = at_
    · subst z
      rw [h] at hi
      cases hi
      exact .inr ht
    · exact .inl (m.cl j i' (by omega) hi t ht)
theorem ordF_met {ks : List Kn} (hr : ∀ p c q, wyS ks p c = some q → q < ks.length) : ∀ (f at_ : Nat) (met : List Nat), Met ks at_ met → ks.length + 1 ≤ f + at_ → Met ks (ordF ks f at_ met).length (ordF ks f at_ met)
  | 0, at_, met, m, h => by
    have := nodup_le m.nd m.lt
    have := m.le
    omega
  | f + 1, at_, met, m, h => by
    show Met ks (match met[at_]? with | none => met | some i => ordF ks f (at_ + 1) (addW met (tgtS ks i))).length (match met[at_]? with | none => met | some i => ordF ks f (at_ + 1) (addW met (tgtS ks i)))
    cases e : met[at_]? with
    | none =>
      have hl := List.getElem?_eq_none_iff.mp e
      exact ⟨m.nd, m.lt, Nat.le_refl _, m.zero, fun j i hj hi t ht => m.cl j i (Nat.lt_of_lt_of_le hj hl) hi t ht⟩
    | some i => exact ordF_met hr f (at_ + 1) _ (m.step e hr) (by omega)
theorem met0 {ks : List Kn} (h : 0 < ks.length) : Met ks 0 [0] := ⟨nd1 0, fun t ht => by rw [List.mem_singleton] at ht; rw [ht]; exact h, Nat.zero_le _, List.mem_singleton.mpr rfl, fun j i hj => absurd hj (Nat.not_lt_zero _)⟩
theorem ordS_met {ks : List Kn} {fr : Option (Nat × Nat × Str)} (ok : OkS ks fr) : Met ks (ordS ks).length (ordS ks) := ordF_met (fun p c q h => (ok.R p c q h).2) _ _ _ (met0 ok.pos) (Nat.le_refl _)
theorem ordS_all {ks : List Kn} {fr : Option (Nat × Nat × Str)} (ok : OkS ks fr) : ∀ k, k < ks.length → k ∈ ordS ks := by
  have m := ordS_met ok
  refine ok.reach (fun k => k ∈ ordS ks) m.zero fun p c q hp h => ?_
  obtain ⟨j, hj⟩ := List.getElem?_of_mem hp
  exact m.cl j p (List.getElem?_eq_some_iff.mp hj).1 hj q (tgt_way.mpr ⟨c, h⟩)
/-- the dict of what was seen -/
def seenKV (met : List Nat) : List (Key × V) := met.map fun t => (Sum.inl ((t : Nat) : Int), V.bl true)
theorem seen_val (t : Nat) : ∀ met : List Nat, valV (seenKV met) (Sum.inl ((t : Nat) : Int)) = if t ∈ met then some (V.bl true) else none
  | [] => rfl
  | x :: r => by
    have ih := seen_val t r
    by_cases h : x = t
    · subst h
      rw [show seenKV (x :: r) = (Sum.inl ((x : Nat) : Int), V.bl true) :: seenKV r from rfl, valV_pos rfl, if_pos List.mem_cons_self]
    · have hk : ¬ (Sum.inl ((x : Nat) : Int) : Key) = Sum.inl ((t : Nat) : Int) := fun e => h (by have := Sum.inl.inj e; omega)
      rw [show seenKV (x :: r) = (Sum.inl ((x : Nat) : Int), V.bl true) :: seenKV r from rfl, valV_neg hk, ih]
      by_cases q : t ∈ r
      · rw [if_pos q, if_pos (List.mem_cons_of_mem _ q)]
      · rw [if_neg q, if_neg fun z => (List.mem_cons.mp z).elim (fun e => h e.symm) q]
theorem seen_put {t : Nat} {met : List Nat} (h : t ∉ met) : putK (seenKV met) (Sum.inl ((t : Nat) : Int)) (V.bl true) = seenKV (met ++ [t]) := by
  rw [putK_new _ (by rw [seen_val, if_neg h])]
  unfold seenKV
  rw [List.map_append]
  rfl
end Ap

/-! ## M6 -/
set_option Elab.async false
set_option linter.all false
set_option maxRecDepth 100000
set_option maxHeartbeats 4000000
namespace Ap
open PySem PySem.Spec PyProof.Rows L2 Evl
section
variable {P : Program} {w : World} {K : PySem.W.Frag} {mg : Str → Option Value} {base : Heap}
variable {σ : L2.St} {H : Hp} {ta tb : TE}
theorem ev_sni {a : Addr} {met : List Nat} {t : Nat} (hz : Ev tb σ H (.int (t : Nat))) (ha : Ev ta σ H (.ref a)) (hd : H a = some (.dK (seenKV met))) : Ev (tDNotIn tb ta) σ H (.bl (!decide (t ∈ met))) := fun H1 e Q q =>
  hz H1 e _ fun H2 e2 => ha H2 (e.trans e2) _ fun H3 e3 => ⟨a, if t ∈ met then some (V.bl true) else none, rfl, by
    have := DGet.k (k := Sum.inl ((t : Nat) : Int)) (((e.trans e2).trans e3) _ _ hd)
    rw [seen_val] at this
    exact this, by
    have : (if t ∈ met then some (V.bl true) else none).isSome = decide (t ∈ met) := by
      by_cases h : t ∈ met
      · rw [if_pos h, decide_eq_true h]; rfl
      · rw [if_neg h, decide_eq_false h]; rfl
    rw [this]
    exact q H3 (e2.trans e3)⟩
theorem q_sput {D : Ends} {tz : TS} {tv : TE} {a : Addr} {met : List Nat} {t : Nat} (hv : Ev tv σ H (.bl true)) (ha : Ev ta σ H (.ref a)) (hz : Ev tb σ H (.int (t : Nat))) (hd : H a = some (.dK (seenKV met))) (hn : t ∉ met) (hl : met.length < 1000000)
    (k : ∀ H1, Ex H H1 → tz D σ (upd H1 a (.dK (seenKV (met ++ [t]))))) : tSeq (sDPut ta tb tv) tz D σ H :=
  hv H (Ex.refl H) _ fun H1 e1 => ha H1 e1 _ fun H2 e2 => hz H2 (e1.trans e2) _ fun H3 e3 => ⟨a, _, rfl, DPut.k (k := Sum.inl ((t : Nat) : Int)) (((e1.trans e2).trans e3) _ _ hd) (by unfold seenKV; rw [List.length_map]; exact Nat.lt_of_lt_of_le hl (by rw [sizeLine_eq]; decide)), by
    rw [seen_put hn]
    exact k H3 ((e1.trans e2).trans e3)⟩
/-! ### Machine.ordered -/
def natL (l : List Nat) : List V := l.map fun t => V.int (t : Nat)
def spOrd (K : PySem.W.Frag) : Sp := fun vs H Q _ => ∃ (H0 : Hp) (m : Addr) (S : MS), vs = [.ref m] ∧ Rep K H0 H m S ∧ Good S ∧ ∀ p H', H p = none → Ex H H' → H' p = some (.lst (natL (ordS S.knots))) → Q (.ref p) H'
theorem scOrd : FnScope ["self", "met", "seen", "at", "ways", "sign"] ["self"] (defScope s_Machine_ordered) := ⟨rfl, rfl, rfl, by decide +kernel, rfl, by decide +kernel, by decide +kernel⟩
theorem ok_ord (T : Tx K mg w) : FnOk P w K mg base CX0 1 (He.fAd K ("Machine", some "ordered")) (fo K ("Machine", some "ordered")) ["self"] (spOrd K) := by
  refine T.h_Machine_ordered.ok scOrd (fun vs H Q E h => ?_) (fun cdv A outer s H vs Q E hr h => ?_)
  · obtain ⟨H0, m, S, rfl, _⟩ := h
    rfl
  · obtain ⟨H0, m, S, rfl, ⟨L, r⟩, g, q⟩ := h
    have hu := uns hr
    refine ⟨_, PSs.nox (pss_cons (ps_set (i := 1) scOrd.nd rfl (Or.inl rfl) (pe_lst (pa_cons pe_int pa_nil)))
      (pss_cons (ps_set (i := 2) scOrd.nd rfl (Or.inl rfl) (pe_disp (pps_cons pe_int pe_bl pps_nil) rfl rfl (fun h => nomatch h) (by decide)))
      (pss_cons (ps_set (i := 3) scOrd.nd rfl (Or.inl rfl) pe_int)
      (pss_cons (ps_while PassesOwn.never (pt_cmp (pc_lt (pv 3) (pe_callB call_len_seq (by rfl) T.f_len b_len (pa_cons (pv 1) pa_nil))))
        (pss_cons (ps_set (i := 4) scOrd.nd rfl (Or.inl rfl) (pe_fld (pe_ix ix_list (pe_fld (pv 0) rfl) (pe_ix ix_list (pv 1) (pv 3) (fun _ _ => rfl)) (fun _ _ => rfl)) rfl))
        (pss_cons (ps_for PassesOwn.never rfl (pi_list (pe_callB (call_srt rfl) (by rfl) T.f_sorted b_sorted (pa_cons (pv 4) pa_nil))) (pg_name (i := 5) scOrd.nd rfl (Or.inl rfl))
          (pss_one (ps_if (pt_cmp (pc_dnotin hu (pe_dget hu (pv 4) (pv 5) (fun _ _ => rfl)) (pv 2)))
            (pss_cons (ps_dput hu (pv 2) (pe_dget hu (pv 4) (pv 5) (fun _ _ => rfl)) pe_bl rfl)
            (pss_one (ps_expr (pe_bm PySem.F.plainAttrs_list PySem.F.slot_list_append PySem.F.type_list_append mt_append (pv 1) (pa_cons (pe_dget hu (pv 4) (pv 5) (fun _ _ => rfl)) pa_nil))))) pss_nil)))
        (pss_one (ps_set (i := 3) scOrd.nd rfl (Or.inl rfl) (pe_op op_add (pv 3) pe_int))))))
      (pss_one (ps_ret (pv 1))))))), ?_⟩
    have hrng : ∀ p c q, wyS S.knots p c = some q → q < S.knots.length := fun p c q h => (g.ok.R p c q h).2
    have hn : S.knots.length ≤ 200 := by have := g.n; have := g.small; omega
    -- met, seen
    refine q_asgL (el_lst (ea_cons ev_c ea_nil) (by decide)) fun pm H1 hpm e1 h1 => ?_
    refine fun ps hps => ⟨by exact upd_same, [(Sum.inl 0, V.bl true)], rfl, by decide, ?_⟩
    rw [upd_upd]
    have hms : pm ≠ ps := ne_of_none h1 hps
    have e2 : Ex H (upd H1 ps (.dK (mergeK [] [(Sum.inl 0, V.bl true)]))) := e1.trans (Ex.new hps)
    have hm2 : upd H1 ps (.dK (mergeK [] [(Sum.inl 0, V.bl true)])) pm = some (.lst (natL [0])) := by rw [upd_ne hms]; exact h1
    have hs2 : upd H1 ps (.dK (mergeK [] [(Sum.inl 0, V.bl true)])) ps = some (.dK (seenKV [0])) := upd_same
    have hps0 : H ps = none := fresh_back e1 hps
    generalize upd H1 ps (.dK (mergeK [] [(Sum.inl 0, V.bl true)])) = H2 at *
    refine q_asg ev_c fun H3 e3 => ?_
    have hm3 := e3 _ _ hm2
    have hs3 := e3 _ _ hs2
    refine q_while (fun μ σ' H' => ∃ (at_ : Nat) (met : List Nat) (x y : Option V), σ' = [some (.ref m), some (.ref pm), some (.ref ps), some (.int (at_ : Nat)), x, y] ∧ Ex H H' ∧ H' pm = some (.lst (natL met)) ∧ H' ps = some (.dK (seenKV met)) ∧
      Met S.knots at_ met ∧ at_ ≤ S.knots.length ∧ ordF S.knots (S.knots.length + 1 - at_) at_ met = ordS S.knots ∧ μ = S.knots.length + 1 - at_) (S.knots.length + 1)
      ⟨0, [0], none, none, rfl, e2.trans e3, hm3, hs3, met0 g.ok.pos, Nat.zero_le _, rfl, rfl⟩ ?_
    rintro μ σ' H' ⟨at_, met, x, y, rfl, e4, hm4, hs4, M, hal, ho, rfl⟩
    have hml := nodup_le M.nd M.lt
    refine ⟨decide (at_ < met.length), et_is (et_B (b := decide ((at_ : Int) < ((natL met).length : Int))) (fun H1 e1 Q' q' => ⟨_, rfl, _, rfl, pm, _, rfl, .inl (SqL.of (e1 _ _ hm4)), _, _, rfl, rfl, q' H1 (Ex.refl _)⟩)) ?_, fun hb H5 e5 => ?_, fun hb H5 e5 => ?_⟩
    · unfold natL
      rw [List.length_map, decide_eq_decide]
      omega
    · have hb := of_decide_eq_true hb
      obtain ⟨i, hi⟩ : ∃ i, met[at_]? = some i := ⟨_, List.getElem?_eq_getElem hb⟩
      have hin : i < S.knots.length := M.lt i (List.mem_of_getElem? hi)
      obtain ⟨k, hk⟩ : ∃ k, S.knots[i]? = some k := ⟨_, List.getElem?_eq_getElem hin⟩
      have e05 := e4.trans e5
      have r5 := r.stay e05
      obtain ⟨xk, hxk, k1, k2⟩ := r5.knot hk
      have hwl : k.ways.length < 64 := by have := (g.ways i k hk).1; have := g.small; omega
      refine ⟨_, fun σ2 H2 n => n, ?_⟩
      refine q_asg (v := .ref xk.2.2) (ev_ways T k1 (ev_knot T r5 (ev_var rfl) (ev_op (ev_var rfl) (ev_var rfl) (rv_ixL (SqL.of (e5 _ _ hm4)) (atI_nat (v := V.int (i : Nat)) (by unfold natL; rw [List.getElem?_map, hi]; rfl)))) hxk)) fun H6 e6 => ?_
      have e06 := e05.trans e6
      have htgt : tgtS S.knots i = (srt (k.ways.map (·.1))).map fun z => (wayOf k.ways z).getD 0 := by unfold tgtS; rw [hk]; rfl
      generalize hss : srt (k.ways.map (·.1)) = ss at htgt
      have hsm : ∀ z, z ∈ ss → ∃ t, wayOf k.ways z = some t := fun z hz => by
        rw [← hss] at hz
        exact Option.isSome_iff_exists.mp (wayOf_mem.mp (srt_mem hz))
      have hEl : EvL (tCB rSrt (tCons (tVar 4) tNil)) [some (V.ref m), some (V.ref pm), some (V.ref ps), some (V.int (at_ : Nat)), some (V.ref xk.2.2), y] H6 (ss.map V.str) := by
        rw [← hss]
        exact el_srt (ev_var rfl) (e6 _ _ k2) hwl
      refine q_forNLn hEl (fun pl j σ' H' => (∃ y, σ' = [some (.ref m), some (.ref pm), some (.ref ps), some (.int (at_ : Nat)), some (.ref xk.2.2), y]) ∧ Ex H H' ∧ SqL K H' pl (ss.map V.str) ∧ pl ≠ pm ∧ pl ≠ ps ∧ H pl = none ∧
        H' pm = some (.lst (natL (addW met ((tgtS S.knots i).take j)))) ∧ H' ps = some (.dK (seenKV (addW met ((tgtS S.knots i).take j))))) (fun pl H7 hpl e7 h7 => ?_) (fun pl j σ' H' hj p => p.2.2.1) ?_ ?_
      · refine ⟨⟨_, rfl⟩, e06.trans e7, SqL.of h7, fun z => ?_, fun z => ?_, fresh_back e06 hpl, e7 _ _ (e6 _ _ (e5 _ _ hm4)), e7 _ _ (e6 _ _ (e5 _ _ hs4))⟩
        · rw [z, e6 _ _ (e5 _ _ hm4)] at hpl; cases hpl
        · rw [z, e6 _ _ (e5 _ _ hs4)] at hpl; cases hpl
      · rintro pl j x7 σ' H7 hx ⟨⟨y7, rfl⟩, e7, hl7, n1, n2, n0, hm7, hs7⟩
        rw [List.getElem?_map] at hx
        cases hz : ss[j]? with
        | none => rw [hz] at hx; cases hx
        | some z =>
          rw [hz] at hx
          cases hx
          obtain ⟨t, ht⟩ := hsm z (List.mem_of_getElem? hz)
          have htk : (tgtS S.knots i).take (j + 1) = (tgtS S.knots i).take j ++ [t] := by
            have : (tgtS S.knots i)[j]? = some t := by
              rw [htgt, List.getElem?_map, hz]
              show some ((wayOf k.ways z).getD 0) = some t
              rw [ht]; rfl
            rw [List.take_succ, this]; rfl
          have r7 := r.stay e7
          obtain ⟨k71, k72⟩ := r7.kn i xk k hxk hk
          have hev : ∀ {H8 : Hp}, Ex H7 H8 → Ev (tDGet (tVar 4) (tVar 5)) [some (V.ref m), some (V.ref pm), some (V.ref ps), some (V.int (at_ : Nat)), some (V.ref xk.2.2), some (V.str z)] H8 (.int (t : Nat)) := fun e8 => ev_dget (ev_var rfl) (ev_var rfl) (e8 _ _ k72) ht
          have ML : (addW met ((tgtS S.knots i).take j)).length ≤ S.knots.length := by
            refine nodup_le (addW_nodup _ _ M.nd) fun u hu => ?_
            rcases (addW_mem _ _ _).mp hu with a | a
            · exact M.lt u a
            · obtain ⟨c, hc⟩ := tgt_way.mp (List.mem_of_mem_take a)
              exact hrng _ _ _ hc
          rw [htk, addW_snoc]
          refine s_when (et_B (ev_sni (hev (Ex.refl _)) (ev_var rfl) hs7)) (fun hb H8 e8 => ?_) (fun hb H8 e8 => ?_)
          · have hb : t ∉ addW met ((tgtS S.knots i).take j) := by simpa using hb
            rw [if_neg hb]
            refine q_sput (met := addW met ((tgtS S.knots i).take j)) ev_c (ev_var rfl) (hev e8) (e8 _ _ hs7) hb (by omega) fun H9 e9 => ?_
            have e89 := e8.trans e9
            have hps7 := e89 _ _ hs7
            have hpm9 : upd H9 ps (.dK (seenKV (addW met ((tgtS S.knots i).take j) ++ [t]))) pm = some (.lst (natL (addW met ((tgtS S.knots i).take j)))) := by rw [upd_ne hms]; exact e89 _ _ hm7
            have nkp : xk.2.2 ≠ ps := fun z => by
              have := (r.kn i xk k hxk hk).2
              rw [z, hps0] at this
              cases this
            refine s_app hpm9 (ev_var rfl) (v := .int (t : Nat)) (ev_dget (ev_var rfl) (ev_var rfl) (by rw [upd_ne nkp]; exact e89 _ _ k72) ht) (by unfold natL; rw [List.length_map]; omega) fun H10 e10 => ?_
            have hps10 := e10 _ _ (show upd H9 ps (.dK (seenKV (addW met ((tgtS S.knots i).take j) ++ [t]))) ps = _ from upd_same)
            refine ⟨⟨_, rfl⟩, ?_, ?_, n1, n2, n0, ?_, ?_⟩
            · exact (((e7.trans e89).mut hps0).trans e10).mut hpm
            · rcases hl7 with (hl7 | ⟨o, hl7⟩) | hl7
              · refine SqL.of ?_
                rw [upd_ne n1]
                exact e10 _ _ (by rw [upd_ne n2]; exact e89 _ _ hl7)
              · refine .inl (.inr ⟨o, ?_⟩)
                rw [upd_ne n1]
                exact e10 _ _ (by rw [upd_ne n2]; exact e89 _ _ hl7)
              · exact .inr hl7
            · rw [upd_same]
              unfold natL
              rw [List.map_append]
              rfl
            · rw [upd_ne hms.symm]; exact hps10
          · have hb : t ∈ addW met ((tgtS S.knots i).take j) := by simpa using hb
            rw [if_pos hb]
            exact ⟨⟨_, rfl⟩, e7.trans e8, ex_l e8 hl7, n1, n2, n0, e8 _ _ hm7, e8 _ _ hs7⟩
      · rintro pl σ' H7 ⟨⟨y7, rfl⟩, e7, hl7, n1, n2, n0, hm7, hs7⟩
        have hfull : (tgtS S.knots i).take (ss.map V.str).length = tgtS S.knots i := by
          rw [List.length_map]
          have : ss.length = (tgtS S.knots i).length := by rw [htgt, List.length_map]
          rw [this, List.take_length]
        rw [hfull] at hm7 hs7
        refine s_asg (v := .int ((at_ + 1 : Nat) : Int)) (ev_op (ev_var rfl) ev_c rv_I0) fun H8 e8 => ?_
        refine ⟨S.knots.length + 1 - (at_ + 1), by omega, at_ + 1, addW met (tgtS S.knots i), _, _, rfl, e7.trans e8, e8 _ _ hm7, e8 _ _ hs7, M.step hi hrng, by omega, ?_, rfl⟩
        rw [← ho]
        have ef : S.knots.length + 1 - at_ = (S.knots.length + 1 - (at_ + 1)) + 1 := by omega
        rw [ef]
        show _ = match met[at_]? with | none => met | some i => ordF S.knots (S.knots.length + 1 - (at_ + 1)) (at_ + 1) (addW met (tgtS S.knots i))
        rw [hi]
    · have hb := of_decide_eq_false hb
      have hfin : ordS S.knots = met := by
        rw [← ho]
        cases hf : S.knots.length + 1 - at_ with
        | zero => rfl
        | succ f =>
          show (match met[at_]? with | none => met | some i => ordF S.knots f (at_ + 1) (addW met (tgtS S.knots i))) = met
          rw [List.getElem?_eq_none (by omega)]
      refine s_ret (ev_var rfl) fun H6 e6 => q pm H6 hpm (e4.trans (e5.trans e6)) ?_
      rw [hfin]
      exact e6 _ _ (e5 _ _ hm4)
end
end Ap

/-! ## M7 -/
set_option Elab.async false
set_option linter.all false
set_option maxRecDepth 100000
set_option maxHeartbeats 4000000
namespace Ap
open PySem PySem.Spec PyProof.Rows L2 Evl
/-- a ref to a tuple of these -/
def TupR (H : Hp) (v : V) (xs : List V) : Prop := ∃ b, v = .ref b ∧ H b = some (.tup xs)
theorem TupR.stay {H H' : Hp} {v : V} {xs : List V} (h : TupR H v xs) (e : Ex H H') : TupR H' v xs := let ⟨b, h1, h2⟩ := h; ⟨b, h1, e _ _ h2⟩
theorem TupR.upd {H : Hp} {v : V} {xs ys zs : List V} {p : Addr} (h : TupR H v xs) (hp : H p = some (.lst ys)) : TupR (L2.upd H p (.lst zs)) v xs := let ⟨b, h1, h2⟩ := h; ⟨b, h1, by rw [upd_ne (ne_of h2 hp fun z => nomatch z)]; exact h2⟩
theorem Paired.imp' {α β : Type} {F G : α → β → Prop} {l₁ : List α} {l₂ : List β} (h : Paired F l₁ l₂) (k : ∀ a b, F a b → G a b) : Paired G l₁ l₂ := Paired.mapP h k
theorem Paired.snoc {α β : Type} {F : α → β → Prop} : ∀ {l₁ : List α} {l₂ : List β} {a : α} {b : β}, Paired F l₁ l₂ → F a b → Paired F (l₁ ++ [a]) (l₂ ++ [b])
  | _, _, _, _, .nil, h => .cons h .nil
  | _, _, _, _, .cons h1 h2, h => .cons h1 (Paired.snoc h2 h)
section
variable {J : It} {n : Nat} {G : Hp → Prop} {Y : Nat → Hp → V → Hp → Prop}
/-- a comprehension whose elements are new tuples -/
theorem lc_mapT (w : Walk J n G Y) {te : TE} {j : Nat} {vs : List Nat} {σ : St} {H1 : Hp} {D : Addr} {Qd : Hp → Prop} (f : Nat → List V) (hz : n ≤ 1000000) (hD : H1 D = none)
    (hw : ∀ x, wipe ((wipe σ vs).set j (some x)) vs = wipe σ vs) (hG : ∀ H, Ex H1 H → G H)
    (hY : ∀ i x H H', i < n → Ex H1 H → Y i H x H' → H' = H ∧ EvU te ((wipe σ vs).set j (some x)) H (f i))
    (hd : ∀ H acc, Ex H1 H → H D = some (.lst acc) → Paired (TupR H) acc ((List.range n).map f) → Qd H) :
    ∃ W : Nat → Nat → Hp → Prop, (∃ m, W 0 m (upd H1 D (.lst []))) ∧ ∀ i m H, W i m H →
      (J.stop i H ∧ Qd H) ∨ (J.go i H ∧ ∃ Nx : Hp → Prop, (∀ H', Nx H' → ∃ m', m' < m ∧ W (i + 1) m' H') ∧ ∀ x H', J.yld i H x H' → gName j x (wipe σ vs) H' fun σ2 H2 => wipe σ2 vs = wipe σ vs ∧ tYes σ2 H2 fun b H3 =>
        if b = true then te σ2 H3 fun y H4 => ∃ acc, H4 D = some (.lst acc) ∧ acc.length < sizeLine ∧ Nx (upd H4 D (.lst (acc ++ [y]))) else Nx H3) := by
  refine lc_it w (fun i H => Ex H1 H ∧ ∃ acc, H D = some (.lst acc) ∧ acc.length = i ∧ Paired (TupR H) acc ((List.range i).map f)) ⟨Ex.new hD, [], upd_same, rfl, .nil⟩ (fun i H _ p => hG H p.1) ?_ (fun H ⟨p1, acc, p2, _, p3⟩ => hd H acc p1 p2 p3)
  rintro i x H H' hi ⟨p1, acc, p2, pl, p3⟩ y
  obtain ⟨e1, e2⟩ := hY i x H H' hi p1 y
  subst e1
  refine ⟨hw x, ?_⟩
  show te _ H' fun y H4 => ∃ acc, H4 D = some (.lst acc) ∧ acc.length < sizeLine ∧ (Ex H1 (upd H4 D (.lst (acc ++ [y]))) ∧ ∃ acc', upd H4 D (.lst (acc ++ [y])) D = some (.lst acc') ∧ acc'.length = i + 1 ∧ Paired (TupR (upd H4 D (.lst (acc ++ [y])))) acc' ((List.range (i + 1)).map f))
  refine e2 H' (Ex.refl _) _ fun p H4 hp e4 h4 => ⟨acc, e4 D _ p2, ?_, Ex.mut (p1.trans e4) hD, _, upd_same, ?_, ?_⟩
  · rw [pl]
    exact Nat.lt_of_lt_of_le hi (Nat.le_trans hz (by rw [sizeLine_eq]; decide))
  · rw [List.length_append, pl]; rfl
  · rw [List.range_succ, List.map_append]
    exact Paired.snoc (Paired.imp' p3 fun a b h => (h.stay e4).upd (e4 D _ p2)) (TupR.upd ⟨p, rfl, h4⟩ (e4 D _ p2))
end
/-! ### the rows of a table -/
structure Row where
  low : Nat
  high : Nat
  link : Option Nat
  ways : List (Str × Nat)
noncomputable def posS (ks : List Kn) (a : Nat) : Nat := (ordS ks).idxOf a
noncomputable def rowOf (ks : List Kn) (i : Nat) : Row := match ks[i]? with
  | none => ⟨0, 0, none, []⟩
  | some k => ⟨(match k.link with | none => 0 | some l => lgS ks l + 1), k.long, k.link.map (posS ks), (srt (k.ways.map (·.1))).map fun z => (z, posS ks ((wayOf k.ways z).getD 0))⟩
noncomputable def tabS (ks : List Kn) : List Row := (ordS ks).map (rowOf ks)
def wayV (p : Str × Nat) : List V := [.str p.1, .int (p.2 : Nat)]
def RowR (H : Hp) (v : V) (r : Row) : Prop := ∃ p q ws, v = .ref p ∧ H p = some (.tup [.int (r.low : Nat), .int (r.high : Nat), oN r.link, .ref q]) ∧ H q = some (.tup ws) ∧ Paired (TupR H) ws (r.ways.map wayV)
theorem RowR.stay {H H' : Hp} {v : V} {r : Row} (h : RowR H v r) (e : Ex H H') : RowR H' v r := let ⟨p, q, ws, h1, h2, h3, h4⟩ := h; ⟨p, q, ws, h1, e _ _ h2, e _ _ h3, Paired.imp' h4 fun _ _ z => z.stay e⟩
theorem RowR.upd {H : Hp} {v : V} {r : Row} {ys zs : List V} {p : Addr} (h : RowR H v r) (hp : H p = some (.lst ys)) : RowR (L2.upd H p (.lst zs)) v r :=
  let ⟨a, q, ws, h1, h2, h3, h4⟩ := h
  ⟨a, q, ws, h1, by rw [upd_ne (ne_of h2 hp fun z => nomatch z)]; exact h2, by rw [upd_ne (ne_of h3 hp fun z => nomatch z)]; exact h3, Paired.imp' h4 fun _ _ z => z.upd hp⟩
/-! ### the dict of the numbers -/
def numKV (l : List Nat) : List (Key × V) := (List.range l.length).map fun j => (Sum.inl ((l.getD j 0 : Nat) : Int), V.int (j : Nat))
theorem numKV_snoc (l : List Nat) (t : Nat) : numKV (l ++ [t]) = numKV l ++ [(Sum.inl ((t : Nat) : Int), V.int (l.length : Nat))] := by
  unfold numKV
  rw [List.length_append, List.length_singleton, List.range_succ, List.map_append]
  refine congr (congrArg _ (List.map_congr_left fun j hj => ?_)) ?_
  · have hj : j < l.length := List.mem_range.mp hj
    rw [List.getD_eq_getElem?_getD, List.getElem?_append_left hj, List.getD_eq_getElem?_getD]
  · rw [List.map_singleton, List.getD_eq_getElem?_getD, List.getElem?_concat_length]
    rfl
theorem numKV_none {t : Nat} : ∀ {kvs : List (Key × V)}, (∀ p ∈ kvs, p.1 ≠ Sum.inl ((t : Nat) : Int)) → valV kvs (Sum.inl ((t : Nat) : Int)) = none
  | [], _ => rfl
  | p :: r, h => by
    rw [valV_neg (h p List.mem_cons_self)]
    exact numKV_none fun q hq => h q (List.mem_cons_of_mem _ hq)
theorem numKV_free {l : List Nat} {t : Nat} (h : t ∉ l) : valV (numKV l) (Sum.inl ((t : Nat) : Int)) = none := by
  refine numKV_none fun p hp => ?_
  unfold numKV at hp
  obtain ⟨j, hj, rfl⟩ := List.mem_map.mp hp
  have hj : j < l.length := List.mem_range.mp hj
  intro e
  have := Sum.inl.inj e
  refine h ?_
  have e2 : l.getD j 0 = t := by omega
  rw [← e2, List.getD_eq_getElem?_getD, List.getElem?_eq_getElem hj]
  exact List.getElem_mem hj
theorem numKV_put {l : List Nat} {t : Nat} (h : t ∉ l) : putK (numKV l) (Sum.inl ((t : Nat) : Int)) (V.int (l.length : Nat)) = numKV (l ++ [t]) := by
  rw [putK_new _ (numKV_free h), numKV_snoc]
theorem find_app {κ : Type} [DecidableEq κ] {a b : List (κ × V)} {k : κ} (h : (valV a k).isSome = true) : valV (a ++ b) k = valV a k := by
  unfold valV at h ⊢
  rw [List.find?_append]
  cases e : a.find? fun kv => decide (kv.1 = k) with
  | none => rw [e] at h; cases h
  | some x => rfl
theorem numKV_at_len : ∀ (n : Nat) {l : List Nat} {j t : Nat}, l.length = n → l.Nodup → l[j]? = some t → valV (numKV l) (Sum.inl ((t : Nat) : Int)) = some (V.int (j : Nat))
  | 0, l, j, t, e, _, h => by
    rw [List.length_eq_zero_iff.mp e] at h
    cases h
  | n + 1, l, j, t, e, hn, h => by
    obtain ⟨l', x, rfl⟩ : ∃ l' x, l = l' ++ [x] := ⟨l.dropLast, l.getLast (fun z => by rw [z] at e; cases e), (List.dropLast_concat_getLast _).symm⟩
    have el : l'.length = n := by
      rw [List.length_append, List.length_singleton] at e
      omega
    rw [numKV_snoc]
    have hnl : l'.Nodup := (List.nodup_append.mp hn).1
    by_cases hj : j < l'.length
    · rw [List.getElem?_append_left hj] at h
      have := numKV_at_len n el hnl h
      rw [find_app (by rw [this]; rfl), this]
    · have hj2 := (List.getElem?_eq_some_iff.mp h).1
      rw [List.length_append, List.length_singleton] at hj2
      have ej : j = l'.length := by omega
      subst ej
      rw [List.getElem?_concat_length] at h
      cases h
      have hx : t ∉ l' := fun z => (List.nodup_append.mp hn).2.2 t z t (List.mem_singleton.mpr rfl) rfl
      have := valV_snoc (Sum.inl ((t : Nat) : Int)) (Sum.inl ((t : Nat) : Int)) (V.int (l'.length : Nat)) (numKV l') (numKV_free hx)
      rw [this, if_pos rfl]
theorem numKV_at {l : List Nat} {j t : Nat} (hn : l.Nodup) (h : l[j]? = some t) : valV (numKV l) (Sum.inl ((t : Nat) : Int)) = some (V.int (j : Nat)) := numKV_at_len _ rfl hn h
theorem idx_get : ∀ {l : List Nat} {t : Nat}, t ∈ l → l[l.idxOf t]? = some t := fun {l t} h => by
  have := List.idxOf_lt_length_iff.mpr h
  rw [List.getElem?_eq_getElem this, List.getElem_idxOf this]
theorem numKV_pos {l : List Nat} {t : Nat} (hn : l.Nodup) (h : t ∈ l) : valV (numKV l) (Sum.inl ((t : Nat) : Int)) = some (V.int ((l.idxOf t : Nat) : Int)) := numKV_at hn (idx_get h)
end Ap

/-! ## M8 -/
set_option Elab.async false
set_option linter.all false
set_option maxRecDepth 100000
set_option maxHeartbeats 4000000
namespace Ap
open PySem PySem.Spec PyProof.Rows L2 Evl
theorem nodup_at {l : List Nat} (h : l.Nodup) {i j t : Nat} (hi : l[i]? = some t) (hj : l[j]? = some t) : i = j := by
  obtain ⟨a1, a2⟩ := List.getElem?_eq_some_iff.mp hi
  obtain ⟨b1, b2⟩ := List.getElem?_eq_some_iff.mp hj
  rcases Nat.lt_trichotomy i j with c | c | c
  · exact absurd (a2.trans b2.symm) ((List.pairwise_iff_getElem.mp h) i j a1 b1 c)
  · exact c
  · exact absurd (b2.trans a2.symm) ((List.pairwise_iff_getElem.mp h) j i b1 a1 c)
section
variable {P : Program} {w : World} {K : PySem.W.Frag} {mg : Str → Option Value} {base : Heap}
variable {σ : L2.St} {H : Hp} {ta tb : TE}
theorem ev_nget {a : Addr} {l : List Nat} {t : Nat} (ha : Ev ta σ H (.ref a)) (hz : Ev tb σ H (.int (t : Nat))) (hd : H a = some (.dK (numKV l))) (hn : l.Nodup) (ht : t ∈ l) : Ev (tDGet ta tb) σ H (.int ((l.idxOf t : Nat) : Int)) := fun H1 e Q q =>
  ha H1 e _ fun H2 e2 => hz H2 (e.trans e2) _ fun H3 e3 => ⟨a, .int ((l.idxOf t : Nat) : Int), rfl, by
    have := DGet.k (k := Sum.inl ((t : Nat) : Int)) (((e.trans e2).trans e3) _ _ hd)
    rw [numKV_pos hn ht] at this
    exact this, q H3 (e2.trans e3)⟩
/-! ### Machine.table -/
def spTab (K : PySem.W.Frag) : Sp := fun vs H Q _ => ∃ (H0 : Hp) (m : Addr) (S : MS), vs = [.ref m] ∧ Rep K H0 H m S ∧ Good S ∧ ∀ p xs H', H p = none → Ex H H' → H' p = some (.lst xs) → Paired (RowR H') xs (tabS S.knots) → Q (.ref p) H'
theorem scTab : FnScope ["self", "order", "number", "k", "at", "rows", "knot", "ways", "sign"] ["self"] (defScope s_Machine_table) := ⟨rfl, rfl, rfl, by decide +kernel, rfl, by decide +kernel, by decide +kernel⟩
theorem ok_tab (T : Tx K mg w) : FnOk P w K mg base CX0 2 (He.fAd K ("Machine", some "table")) (fo K ("Machine", some "table")) ["self"] (spTab K) := by
  have G := ok_ord (P := P) (base := base) T
  have b : Binds K (fo K ("Machine", some "ordered")) ["self"] [] := T.h_Machine_ordered.bindsN fun _ _ _ _ _ _ us hl => match us, hl with | [_], _ => rfl
  refine T.h_Machine_table.ok scTab (fun vs H Q E h => ?_) (fun cdv A outer s H vs Q E hr h => ?_)
  · obtain ⟨H0, m, S, rfl, _⟩ := h
    rfl
  · obtain ⟨H0, m, S, rfl, ⟨L, r⟩, g, q⟩ := h
    have hu := uns hr
    refine ⟨_, PSs.nox (pss_cons (ps_set (i := 1) scTab.nd rfl (Or.inl rfl) (pe_meth0 (pv 0) T.c_Machine T.t_Machine_ordered G hr b .nil pass0))
      (pss_cons (ps_set (i := 2) scTab.nd rfl (Or.inr rfl) pe_dnewK)
      (pss_cons (ps_for PassesOwn.never rfl (pi_enum (by rfl) T.f_enumerate (pa_cons (pv 1) pa_nil)) (pg_tup rfl (pgs_cons (pg_name (i := 3) scTab.nd rfl (Or.inl rfl)) (pgs_cons (pg_name (i := 4) scTab.nd rfl (Or.inl rfl)) pgs_nil)))
        (pss_one (ps_dput hu (pv 2) (pv 4) (pv 3) rfl)))
      (pss_cons (ps_set (i := 5) scTab.nd rfl (Or.inl rfl) (pe_lst pa_nil))
      (pss_cons (ps_for PassesOwn.never rfl (pi_list (pv 1)) (pg_name (i := 4) scTab.nd rfl (Or.inl rfl))
        (pss_cons (ps_set (i := 6) scTab.nd rfl (Or.inr rfl) (pe_ix ix_list (pe_fld (pv 0) rfl) (pv 4) (fun _ _ => rfl)))
        (pss_cons (ps_set (i := 7) scTab.nd rfl (Or.inl rfl) (pe_callTy call_tuple_of (by rfl) T.f_tuple b_tuple (pa_cons
          (pe_lc (own := [("sign", 8)]) (g := gName 8) (tt := tYes) rfl scTab.nd (pi_list (pe_callB (call_srt rfl) (by rfl) T.f_sorted b_sorted (pa_cons (pe_fld (pv 6) rfl) pa_nil)))
            (blkOk_by (N := ["self", "order", "number", "k", "at", "rows", "knot", "ways", "sign"]) (sc := defScope s_Machine_table) (by decide +kernel)) (fun _ _ _ _ _ => pg_name (i := 8) scTab.nd rfl (Or.inl rfl)) (fun _ _ _ _ _ => pts_nil)
            (fun _ _ _ _ _ => pe_tup (pa_cons (pv 8) (pa_cons (pe_dget hu (pv 2) (pe_dget hu (show PE _ _ (tFld K (tVar 6) "ways") from pe_fld (pv 6) rfl) (pv 8) (fun _ _ => rfl)) (fun _ _ => rfl)) pa_nil)))) pa_nil)))
        (pss_one (ps_if (pt_cmp (pc_isN (pe_fld (pv 6) rfl)))
          (pss_one (ps_expr (pe_bm PySem.F.plainAttrs_list PySem.F.slot_list_append PySem.F.type_list_append mt_append (pv 5) (pa_cons (pe_tup (pa_cons pe_int (pa_cons (pe_fld (pv 6) rfl) (pa_cons pe_non (pa_cons (pv 7) pa_nil))))) pa_nil))))
          (pss_one (ps_expr (pe_bm PySem.F.plainAttrs_list PySem.F.slot_list_append PySem.F.type_list_append mt_append (pv 5) (pa_cons (pe_tup (pa_cons (pe_op op_add (pe_fld (pe_ix ix_list (pe_fld (pv 0) rfl) (pe_fld (pv 6) rfl) (fun _ _ => rfl)) rfl) pe_int)
            (pa_cons (pe_fld (pv 6) rfl) (pa_cons (pe_dget hu (pv 2) (pe_fld (pv 6) rfl) (fun _ _ => rfl)) (pa_cons (pv 7) pa_nil))))) pa_nil)))))))))
      (pss_one (ps_ret (pv 5)))))))), ?_⟩
    have hn : S.knots.length ≤ 200 := by have := g.n; have := g.small; omega
    have M := ordS_met g.ok
    have hol : (ordS S.knots).length ≤ 200 := Nat.le_trans (nodup_le M.nd M.lt) hn
    have hall := ordS_all g.ok
    generalize hO : ordS S.knots = O at M hol hall
    -- order
    refine ⟨_, rfl, m, _, _, rfl, r.hm, rfl, H0, m, S, rfl, ⟨L, r⟩, g, fun po H1 hpo e1 h1 => ?_⟩
    rw [hO] at h1
    -- number
    refine fun pn hpn => ?_
    have e2 : Ex H (upd H1 pn (.dK [])) := e1.trans (Ex.new hpn)
    have hpn0 : H pn = none := fresh_back e1 hpn
    have ho2 : upd H1 pn (.dK []) po = some (.lst (natL O)) := by rw [upd_ne (ne_of_none h1 hpn)]; exact h1
    have hn2 : upd H1 pn (.dK []) pn = some (.dK (numKV [])) := upd_same
    generalize upd H1 pn (.dK []) = H2 at *
    have npo : po ≠ pn := ne_of ho2 hn2 fun z => nomatch z
    refine ⟨_, rfl, po, natL O, rfl, SqL.of ho2, for_it (walk_enum (xs := natL O)) (fun j σ' H' => (∃ x y, σ' = [some (.ref m), some (.ref po), some (.ref pn), x, y, none, none, none, none]) ∧ Ex H H' ∧ H' po = some (.lst (natL O)) ∧ H' pn = some (.dK (numKV (O.take j))))
      ⟨⟨_, _, rfl⟩, e2, ho2, hn2⟩ (fun j σ' H' _ p => SqL.of p.2.2.1) ?_ ?_⟩
    · rintro j x σ' H' H'' hj ⟨⟨x0, y0, rfl⟩, e3, ho3, hn3⟩ ⟨Tp, a, c, rfl, hT, rfl, ha, hc⟩
      unfold natL at hj hc
      rw [List.length_map] at hj
      have hc : (O.map fun t => V.int (t : Nat))[j]? = some c := hc
      rw [List.getElem?_map] at hc
      cases ht : O[j]? with
      | none => rw [ht] at hc; cases hc
      | some t =>
        rw [ht] at hc
        cases hc
        cases ha
        refine ⟨Tp, _, rfl, SqT.of upd_same, rfl, _, _, rfl, _, _, rfl, rfl, ?_⟩
        have eT : Ex H' (upd H' Tp (.tup [.int (j : Nat), .int (t : Nat)])) := Ex.new hT
        have htn : t ∉ O.take j := fun hm => by
          obtain ⟨i, hi⟩ := List.getElem?_of_mem hm
          have hil : i < (O.take j).length := (List.getElem?_eq_some_iff.mp hi).1
          rw [List.length_take] at hil
          rw [List.getElem?_take_of_lt (by omega)] at hi
          have := nodup_at M.nd hi ht
          omega
        have hlj : (O.take j).length = j := by rw [List.length_take]; omega
        refine ⟨_, rfl, _, rfl, _, rfl, pn, _, rfl, DPut.k (k := Sum.inl ((t : Nat) : Int)) (eT _ _ hn3) (by unfold numKV; rw [List.length_map, List.length_range, hlj, sizeLine_eq]; omega), ?_⟩
        have hput := numKV_put htn
        rw [hlj] at hput
        rw [hput]
        refine ⟨⟨_, _, rfl⟩, (e3.trans eT).mut hpn0, by rw [upd_ne npo]; exact eT _ _ ho3, ?_⟩
        rw [upd_same, List.take_succ, ht]
        rfl
    · rintro σ' H3 ⟨⟨x0, y0, rfl⟩, e3, ho3, hn3⟩
      have hfull : O.take (natL O).length = O := by unfold natL; rw [List.length_map, List.take_length]
      rw [hfull] at hn3
      -- rows
      refine q_asgL (el_lst ea_nil (by decide)) fun pr H4 hpr e4 h4 => ?_
      have hpr0 : H pr = none := fresh_back e3 hpr
      have npr : pn ≠ pr := ne_of_none hn3 hpr
      have npr2 : po ≠ pr := ne_of_none ho3 hpr
      refine q_forLn (ev_var rfl) (SqL.of (e4 _ _ ho3)) (fun j σ' H' => (∃ x y z v u, σ' = [some (.ref m), some (.ref po), some (.ref pn), x, y, some (.ref pr), z, v, u]) ∧ Ex H H' ∧ H' po = some (.lst (natL O)) ∧ H' pn = some (.dK (numKV O)) ∧
        ∃ racc, H' pr = some (.lst racc) ∧ racc.length = j ∧ Paired (RowR H') racc ((O.take j).map (rowOf S.knots))) (fun H5 e5 => ?_) (fun j σ' H' _ p => SqL.of p.2.2.1) ?_ ?_
      · exact ⟨⟨_, _, _, _, _, rfl⟩, e3.trans (e4.trans e5), e5 _ _ (e4 _ _ ho3), e5 _ _ (e4 _ _ hn3), [], e5 _ _ h4, rfl, .nil⟩
      · rintro j x σ' H5 hx ⟨⟨x5, y5, z5, v5, u5, rfl⟩, e5, ho5, hn5, racc, hr5, hl5, hp5⟩
        unfold natL at hx
        rw [List.getElem?_map] at hx
        cases ht : O[j]? with
        | none => rw [ht] at hx; cases hx
        | some i =>
          rw [ht] at hx
          cases hx
          have hin : i < S.knots.length := M.lt i (List.mem_of_getElem? ht)
          obtain ⟨k, hk⟩ : ∃ k, S.knots[i]? = some k := ⟨_, List.getElem?_eq_getElem hin⟩
          have r5 := r.stay e5
          obtain ⟨xk, hxk, k1, k2⟩ := r5.knot hk
          have hwl : k.ways.length < 64 := by have := (g.ways i k hk).1; have := g.small; omega
          have hjl : j < 200 := Nat.lt_of_lt_of_le (List.getElem?_eq_some_iff.mp ht).1 hol
          refine q_asg (v := .ref xk.1) (ev_knot T r5 (ev_var rfl) (ev_var rfl) hxk) fun H6 e6 => ?_
          have r6 := r5.stay e6
          -- ways
          show tCB rSrt (tCons (tFld K (tVar 6) "ways") tNil) _ _ _
          refine el_srt (ev_ways T (e6 _ _ k1) (ev_var rfl)) (e6 _ _ k2) hwl _ (Ex.refl _) _ fun pl H7 hpl e7 h7 => ⟨pl, rfl, ⟨_, SqL.of h7⟩, fun D hD => lc_mapT (walk_list (xs := (srt (k.ways.map (·.1))).map V.str)) (fun j => wayV ((srt (k.ways.map (·.1))).getD j emp, posS S.knots ((wayOf k.ways ((srt (k.ways.map (·.1))).getD j emp)).getD 0))) ?_ hD (fun x => rfl) (fun _ e => SqL.of (e _ _ h7)) ?_ ?_⟩
          · have : (srt (k.ways.map (·.1))).length ≤ 1000000 := by
              by_cases hp : ∃ ys : List Str, ys.Perm (k.ways.map (·.1)) ∧ sortedS ys = true
              · unfold srt
                rw [dif_pos hp, (Classical.choose_spec hp).1.length_eq, List.length_map]
                omega
              · unfold srt
                rw [dif_neg hp, List.length_map]
                omega
            rw [List.length_map]
            exact this
          · rintro ii x H8 H9 hii e8 ⟨rfl, hx⟩
            refine ⟨rfl, ?_⟩
            rw [List.getElem?_map] at hx
            cases hz : (srt (k.ways.map (·.1)))[ii]? with
            | none => rw [hz] at hx; cases hx
            | some z =>
              rw [hz] at hx
              cases hx
              have hgd : (srt (k.ways.map (·.1))).getD ii emp = z := by rw [List.getD_eq_getElem?_getD, hz]; rfl
              rw [hgd]
              obtain ⟨t, hwt⟩ := Option.isSome_iff_exists.mp (wayOf_mem.mp (srt_mem (List.mem_of_getElem? hz)))
              have htO : t ∈ O := hall t (g.ok.R i z t (by rw [wyS_at hk]; exact hwt)).2
              have e68 := e6.trans (e7.trans e8)
              have hpos : posS S.knots ((wayOf k.ways z).getD 0) = O.idxOf t := by
                unfold posS
                rw [hO, hwt]
                rfl
              rw [hpos]
              exact eu_tup (ea_cons (ev_var rfl) (ea_cons (ev_nget (ev_var rfl) (ev_dget (ev_ways T (e68 _ _ k1) (ev_var rfl)) (ev_var rfl) (e68 _ _ k2) hwt) (e68 _ _ hn5) M.nd htO) ea_nil)) (by show 2 ≤ 100000; decide)
          · intro H8 acc e8 hacc hpa
            have hways : (List.range ((srt (k.ways.map (·.1))).map V.str).length).map (fun j => wayV ((srt (k.ways.map (·.1))).getD j emp, posS S.knots ((wayOf k.ways ((srt (k.ways.map (·.1))).getD j emp)).getD 0))) = (rowOf S.knots i).ways.map wayV := by
              have e0 : (rowOf S.knots i).ways = (srt (k.ways.map (·.1))).map fun z => (z, posS S.knots ((wayOf k.ways z).getD 0)) := by unfold rowOf; rw [hk]
              rw [e0, List.map_map, range_get_map (n := ((srt (k.ways.map (·.1))).map V.str).length) (srt (k.ways.map (·.1))) emp (fun z => wayV (z, posS S.knots ((wayOf k.ways z).getD 0))) (by simp)]
              rfl
            rw [hways] at hpa
            refine ⟨D, acc, rfl, .inl ⟨SqL.of hacc, fun pt hpt => ?_⟩⟩
            have e58 : Ex H5 H8 := e6.trans (e7.trans e8)
            have eT : Ex H8 (upd H8 pt (.tup acc)) := Ex.new hpt
            have hT : upd H8 pt (.tup acc) pt = some (.tup acc) := upd_same
            have hpa := Paired.imp' hpa fun a b h => h.stay eT
            have e59 : Ex H5 (upd H8 pt (.tup acc)) := e58.trans eT
            generalize upd H8 pt (.tup acc) = H9 at *
            have hk9 := e59 _ _ k1
            have hr9 := e59 _ _ hr5
            have hrz : racc.length < 100000 := by omega
            have fin : ∀ (H10 H11 : Hp) (p : Addr) (row : List V), Ex H9 H10 → Ex H10 H11 → H11 p = some (.tup row) → row = [.int ((rowOf S.knots i).low : Nat), .int ((rowOf S.knots i).high : Nat), oN (rowOf S.knots i).link, .ref pt] →
                Ex H (upd H11 pr (.lst (racc ++ [.ref p]))) ∧ upd H11 pr (.lst (racc ++ [.ref p])) po = some (.lst (natL O)) ∧ upd H11 pr (.lst (racc ++ [.ref p])) pn = some (.dK (numKV O)) ∧
                ∃ racc', upd H11 pr (.lst (racc ++ [.ref p])) pr = some (.lst racc') ∧ racc'.length = j + 1 ∧ Paired (RowR (upd H11 pr (.lst (racc ++ [.ref p])))) racc' ((O.take (j + 1)).map (rowOf S.knots)) := fun H10 H11 p row e10 e11 hp hrow => by
              subst hrow
              have e5x : Ex H5 H11 := e59.trans (e10.trans e11)
              have hr11 := e5x _ _ hr5
              refine ⟨(e5.trans e5x).mut hpr0, by rw [upd_ne npr2]; exact e5x _ _ ho5, by rw [upd_ne npr]; exact e5x _ _ hn5, _, upd_same, by rw [List.length_append, hl5]; rfl, ?_⟩
              rw [List.take_succ, ht]
              show Paired _ _ ((O.take j ++ [i]).map _)
              rw [List.map_append]
              refine Paired.snoc (Paired.imp' hp5 fun a b h => (h.stay e5x).upd hr11) (RowR.upd ?_ hr11)
              exact ⟨p, pt, acc, rfl, hp, e11 _ _ (e10 _ _ hT), Paired.imp' hpa fun a b h => h.stay (e10.trans e11)⟩
            refine s_if (b := k.link.isNone) (et_is (et_B (ev_isN (ev_link T hk9 (ev_var rfl)))) (oN_non _)) (fun hb H10 e10 => ?_) (fun hb H10 e10 => ?_)
            · have hb : k.link = none := Option.isNone_iff_eq_none.mp hb
              refine s_appU (e10 _ _ hr9) (ev_var rfl) (eu_tup (ea_cons ev_c (ea_cons (ev_long T (e10 _ _ hk9) (ev_var rfl)) (ea_cons ev_c (ea_cons (ev_var rfl) ea_nil)))) (by show 4 ≤ 100000; decide)) hrz fun p H11 hp e11 h11 => ⟨⟨_, _, _, _, _, rfl⟩, fin H10 H11 p _ e10 e11 h11 ?_⟩
              unfold rowOf
              rw [hk]
              show _ = [V.int ((match k.link with | none => 0 | some l => lgS S.knots l + 1 : Nat) : Int), V.int ((k.long : Nat) : Int), oN (k.link.map (posS S.knots)), V.ref pt]
              rw [hb]
              rfl
            · cases hl : k.link with
              | none => rw [hl] at hb; cases hb
              | some l =>
                have hi0 : i ≠ 0 := fun z => by
                  have := g.ok.lk0
                  rw [← z, lkS_at hk, hl] at this
                  cases this
                obtain ⟨l', hl', hln, _⟩ := g.ok.L i hin hi0
                rw [lkS_at hk, hl] at hl'
                cases hl'
                obtain ⟨kl, hkl⟩ : ∃ k, S.knots[l]? = some k := ⟨_, List.getElem?_eq_getElem hln⟩
                have r10 := (r5.stay e59).stay e10
                obtain ⟨xl, hxl, l1, l2⟩ := r10.knot hkl
                have hlO : l ∈ O := hall l hln
                have hlink : ∀ {H11 : Hp}, Ex H10 H11 → Ev (tFld K (tVar 6) "link") [some (V.ref m), some (V.ref po), some (V.ref pn), x5, some (V.int (i : Nat)), some (V.ref pr), some (V.ref xk.1), some (V.ref pt), u5] H11 (.int (l : Nat)) := fun e11 => ev_is (ev_link T (e11 _ _ (e10 _ _ hk9)) (ev_var rfl)) (by rw [hl]; rfl)
                refine s_appU (e10 _ _ hr9) (ev_var rfl) (eu_tup (ea_cons (ev_op (ev_long T l1 (ev_knot T r10 (ev_var rfl) (hlink (Ex.refl _)) hxl)) ev_c rv_I0) (ea_cons (ev_long T (e10 _ _ hk9) (ev_var rfl)) (ea_cons (ev_nget (ev_var rfl) (hlink (Ex.refl _)) (e10 _ _ (e59 _ _ hn5)) M.nd hlO) (ea_cons (ev_var rfl) ea_nil)))) (by show 4 ≤ 100000; decide)) hrz fun p H11 hp e11 h11 => ⟨⟨_, _, _, _, _, rfl⟩, fin H10 H11 p _ e10 e11 h11 ?_⟩
                unfold rowOf
                rw [hk]
                show _ = [V.int ((match k.link with | none => 0 | some l => lgS S.knots l + 1 : Nat) : Int), V.int ((k.long : Nat) : Int), oN (k.link.map (posS S.knots)), V.ref pt]
                rw [hl]
                show _ = [V.int ((lgS S.knots l + 1 : Nat) : Int), V.int ((k.long : Nat) : Int), V.int ((posS S.knots l : Nat) : Int), V.ref pt]
                unfold posS
                rw [hO, lgS_at hkl]
                rfl
      · rintro σ' H5 ⟨⟨_, _, _, _, _, rfl⟩, e5, ho5, hn5, racc, hr5, hl5, hp5⟩
        have hfull : O.take (natL O).length = O := by unfold natL; rw [List.length_map, List.take_length]
        rw [hfull] at hp5
        refine s_ret (ev_var rfl) fun H6 e6 => q pr racc H6 hpr0 (e5.trans e6) (e6 _ _ hr5) ?_
        unfold tabS
        rw [hO]
        exact Paired.imp' hp5 fun _ _ h => h.stay e6
end
end Ap

/-! ## N1 -/
set_option Elab.async false
set_option linter.all false
set_option maxRecDepth 100000
set_option maxHeartbeats 4000000
namespace Ap
open PySem PySem.Spec PyProof.Rows L2 Evl
/-! ### lists of texts and bools, compared -/
def datS : V → PyData
  | .str x => .str x
  | .bl b => .bool b
  | .int i => .int i
  | _ => .none
def sb : V → Bool
  | .str z => PyData.strOk z
  | .bl _ => true
  | .int _ => true
  | _ => false
theorem dat_dp {K : PySem.W.Frag} {H : Hp} : ∀ {xs : List V}, xs.all sb = true → DpAll K H xs (xs.map datS)
  | [], _ => .nil
  | x :: r, h => by
    rw [List.all_cons, Bool.and_eq_true] at h
    refine .cons ?_ (dat_dp h.2)
    cases x with
    | str z => exact .str z
    | bl b => exact .bl b
    | int i => exact .int i
    | _ => cases h.1
theorem dat_lay : ∀ {xs : List V}, xs.all sb = true → PyData.canLayAll0 (xs.map datS) = true ∧ PyData.depthAll (xs.map datS) = 0
  | [], _ => ⟨by simp [PyData.canLayAll0], by simp [PyData.depthAll]⟩
  | x :: r, h => by
    rw [List.all_cons, Bool.and_eq_true] at h
    obtain ⟨h1, h2⟩ := dat_lay h.2
    cases x with
    | str z => exact ⟨by simp [PyData.canLayAll0, PyData.canLay0, datS, h1, show PyData.strOk z = true from h.1], by simp [PyData.depthAll, PyData.depth, datS, h2]⟩
    | bl b => exact ⟨by simp [PyData.canLayAll0, PyData.canLay0, datS, h1], by simp [PyData.depthAll, PyData.depth, datS, h2]⟩
    | int i => exact ⟨by simp [PyData.canLayAll0, PyData.canLay0, datS, h1], by simp [PyData.depthAll, PyData.depth, datS, h2]⟩
    | _ => cases h.1
theorem dat_shaped {xs : List V} (h : xs.all sb = true) : SeqAt.shaped (.list (xs.map datS)) = true := by
  obtain ⟨h1, h2⟩ := dat_lay h
  unfold SeqAt.shaped
  rw [Bool.and_eq_true]
  refine ⟨by simp [PyData.canLay0, h1], decide_eq_true ?_⟩
  show PyData.depthAll (xs.map datS) + 1 ≤ 64
  rw [h2]
  decide
theorem eqv_strs : ∀ (xs ys : List Str), PyData.eqvAll ((xs.map V.str).map datS) ((ys.map V.str).map datS) = decide (xs = ys)
  | [], [] => rfl
  | [], _ :: _ => rfl
  | _ :: _, [] => rfl
  | x :: r, y :: s => by
    have ih := eqv_strs r s
    show ((x == y) && PyData.eqvAll ((r.map V.str).map datS) ((s.map V.str).map datS)) = _
    rw [ih]
    by_cases h : x = y
    · subst h
      simp
    · simp [h]
theorem strs_sb {xs : List Str} (h : ∀ x ∈ xs, PyData.strOk x = true) : (xs.map V.str).all sb = true := by
  rw [List.all_map]
  exact List.all_eq_true.mpr h
theorem eqv_nil (xs : List V) : PyData.eqvAll (xs.map datS) [] = xs.isEmpty := by cases xs <;> rfl
section
variable {K : PySem.W.Frag} {σ : L2.St} {H : Hp} {ta tb : TE}
theorem rv_eqL {a b : Addr} {xs ys : List V} (ha : SqL K H a xs) (hb : SqL K H b ys) (sa : xs.all sb = true) (s2 : ys.all sb = true) : RV (rEqD K) (.ref a) (.ref b) H (.bl (PyData.eqvAll (xs.map datS) (ys.map datS))) := fun H1 e Q q =>
  ⟨.list (xs.map datS), .list (ys.map datS), .lst (ex_l e ha) (dat_dp sa), .lst (ex_l e hb) (dat_dp s2), dat_shaped sa, dat_shaped s2, q H1 (Ex.refl _)⟩
/-- xs == [] -/
theorem et_nil {a : Addr} {xs : List V} (h : Ev ta σ H (.ref a)) (ha : SqL K H a xs) (sa : xs.all sb = true) : EvT (tTest (tOp (rEqD K) ta (tLst tNil))) σ H xs.isEmpty :=
  et_is (et_test (ev_opL h (el_lst ea_nil (by decide)) fun p H1 hp e => rv_eqL (ex_l e ha) (SqL.of hp) sa rfl)) (eqv_nil xs)
end
/-! ### texts.show_words, show_book -/
def spc : Str := " "
def colon : Str := ":"
def newl : Str := "\n"
def showWords (ts : List Str) : Str := if ts = [] then dot else Txt.join spc (ts.map showWord)
theorem showWord_len (z : Str) : (showWord z).length ≤ z.length + 1 := by
  unfold showWord
  by_cases h : z = emp
  · rw [if_pos h]
    show 1 ≤ _
    omega
  · rw [if_neg h]; omega
theorem sum_show : ∀ ts : List Str, ((ts.map showWord).map (·.length)).sum ≤ total ts + ts.length
  | [] => Nat.le_refl _
  | t :: r => by
    have ih := sum_show r
    have h := showWord_len t
    unfold total at ih ⊢
    simp only [List.map_cons, List.sum_cons, List.length_cons]
    omega
section
variable {P : Program} {w : World} {K : PySem.W.Frag} {mg : Str → Option Value} {base : Heap}
def spShowWords (K : PySem.W.Frag) : Sp := fun vs H Q _ => ∃ (a : Addr) (ts : List Str), vs = [.ref a] ∧ SqL K H a (ts.map .str) ∧ ts.length ≤ 1000 ∧ total ts ≤ 10000 ∧ (∀ t ∈ ts, PyData.strOk t = true) ∧ ∀ H', Ex H H' → Q (.str (showWords ts)) H'
theorem scShowWords : FnScope ["words", "word"] ["words"] (defScope s_show_words) := ⟨rfl, rfl, rfl, by decide +kernel, rfl, by decide +kernel, by decide +kernel⟩
theorem scShowBook : FnScope ["book"] ["book"] (defScope s_show_book) := ⟨rfl, rfl, rfl, by decide +kernel, rfl, by decide +kernel, by decide +kernel⟩
theorem ok_show_words (T : Tx K mg w) : FnOk P w K mg base CX0 2 (He.fAd K ("show_words", none)) (fo K ("show_words", none)) ["words"] (spShowWords K) := by
  obtain ⟨tk, eN⟩ := T.z_NOTHING
  have G := ok_show_word (P := P) (base := base) T
  have b : Binds K (fo K ("show_word", none)) ["word"] [] := T.h_show_word.bindsN fun _ _ _ _ _ _ us hl => match us, hl with | [_], _ => rfl
  refine T.h_show_words.ok scShowWords (fun vs H Q E h => ?_) (fun cdv A outer s H vs Q E hr h => ?_)
  · obtain ⟨a, ts, rfl, _⟩ := h
    rfl
  · obtain ⟨a, ts, rfl, hS, hn, ht, ho, k⟩ := h
    refine ⟨_, PSs.nox (pss_cons (ps_if (pt_cmpR (op_eqD hr.units) (pv 0) (pe_lst pa_nil) (nomark _)) (pss_one (ps_ret (pe_glob (v := .str dot) (by rfl) eN ⟨tk, rfl⟩))) pss_nil)
      (pss_one (ps_ret (pe_join pe_str (pe_lc (own := [("word", 1)]) (g := gName 1) (tt := tYes) rfl scShowWords.nd (pi_list (pv 0)) (blkOk_by (N := ["words", "word"]) (sc := defScope s_show_words) (by decide +kernel)) (fun _ _ _ _ _ => pg_name (i := 1) scShowWords.nd rfl (Or.inl rfl)) (fun _ _ _ _ _ => pts_nil)
          (fun _ _ _ _ _ => pe_call G hr (by rfl) T.g_show_word T.h_show_word.kp b .nil pass0 (pa_cons (pv 1) pa_nil))))))), ?_⟩
    refine q_when (et_nil (ev_var rfl) hS (strs_sb ho)) (fun hb H1 e => s_ret ev_c fun H2 e2 => ?_) (fun hb H1 e => ?_)
    · have e0 : ts = [] := by
        rw [List.isEmpty_iff] at hb
        exact List.map_eq_nil_iff.mp hb
      have := k H2 (e.trans e2)
      unfold showWords at this
      rw [if_pos e0] at this
      exact this
    · have e0 : ts ≠ [] := fun z => by rw [z] at hb; cases hb
      refine ⟨⟨_, rfl⟩, _, rfl, a, rfl, ⟨_, ex_l e hS⟩, fun D hD => lc_mapN (walk_list (xs := ts.map .str)) (fun i => .str (showWord (ts.getD i Str.empty))) (by rw [List.length_map]; omega) hD (fun x => rfl) (fun _ e1 => ex_l (e.trans e1) hS) ?_ ?_⟩
      · rintro i x H1 H2 hi e ⟨rfl, hx⟩
        rw [List.length_map] at hi
        rw [List.getElem?_map, List.getElem?_eq_getElem hi] at hx
        cases hx
        refine ⟨rfl, ?_⟩
        have ec : ts.getD i Str.empty = ts[i] := by simp [List.getD_eq_getElem?_getD, hi]
        rw [ec]
        exact ev_callE (ea_cons (ev_var rfl) ea_nil) fun H1 _ Q' q' => ⟨_, rfl, q'⟩
      · intro H' e1 hH
        rw [range_get_map (n := (ts.map V.str).length) ts Str.empty (fun t => V.str (showWord t)) (by simp)] at hH
        refine ⟨spc, D, ts.map showWord, rfl, rfl, .inl (SqL.of (by rw [hH, List.map_map]; rfl)), ?_, ?_⟩
        · have := sum_show ts
          rw [List.length_map]
          show _ + ts.length * 1 ≤ _
          omega
        · have := k H' (e.trans e1)
          unfold showWords at this
          rw [if_neg e0] at this
          exact this
theorem ok_show_book (T : Tx K mg w) : FnOk P w K mg base CX0 3 (He.fAd K ("show_book", none)) (fo K ("show_book", none)) ["book"] (spShowWords K) := by
  have G := ok_show_words (P := P) (base := base) T
  have b : Binds K (fo K ("show_words", none)) ["words"] [] := T.h_show_words.bindsN fun _ _ _ _ _ _ us hl => match us, hl with | [_], _ => rfl
  refine T.h_show_book.ok scShowBook (fun vs H Q E h => ?_) (fun cdv A outer s H vs Q E hr h => ?_)
  · obtain ⟨a, ts, rfl, _⟩ := h
    rfl
  · obtain ⟨a, ts, rfl, hS, hn, ht, ho, k⟩ := h
    refine ⟨_, PSs.nox (pss_one (ps_ret (pe_call G hr (by rfl) T.g_show_words T.h_show_words.kp b .nil pass0 (pa_cons (pv 0) pa_nil)))), ?_⟩
    exact ⟨_, rfl, a, ts, rfl, hS, hn, ht, ho, k⟩
/-! ### texts.show_line, show_table -/
abbrev numS (n : Nat) : Str := Str.ofString (toString ((n : Nat) : Int))
theorem numS_len {n k : Nat} (hk : 0 < k) (h : n < 10 ^ k) : (numS n).length ≤ k := by
  rw [TL.len_tl, TL.tl_num]
  exact TL.numL_len hk h
theorem log_nat {n : Nat} (h : n < 2 ^ 1000) : ((n : Nat) : Int).natAbs.log2 < 1920 := by
  rw [Int.natAbs_natCast]
  by_cases z : n = 0
  · rw [z]; decide
  · exact Nat.lt_trans ((Nat.log2_lt z).mpr h) (by decide)
theorem ev_str {σ : L2.St} {H : Hp} {ta : TE} {n : Nat} (h : Ev ta σ H (.int (n : Nat))) (hn : n < 2 ^ 1000) : Ev (tCB (fun xs H Q => ∃ i, xs = [.int i] ∧ i.natAbs.log2 < 1920 ∧ Q (.str (toString i)) H) (tCons ta tNil)) σ H (.str (numS n)) := fun H1 e Q q =>
  h H1 e _ fun H2 e2 => ⟨_, rfl, log_nat hn, q H2 e2⟩
def wayS (p : Str × Nat) : Str := p.1 ++ colon ++ numS p.2
def headS (r : Row) : List Str := [numS r.low, numS r.high, match r.link with | none => dash | some l => numS l]
def showLine (r : Row) : Str := Txt.join spc (headS r ++ r.ways.map wayS)
/-- a row with bounds -/
structure RowSm (r : Row) : Prop where
  a : r.low < 1000
  b : r.high < 1000
  c : ∀ l, r.link = some l → l < 1000
  d : r.ways.length ≤ 100
  e : ∀ p ∈ r.ways, p.1.length ≤ 1 ∧ p.2 < 1000
theorem wayS_len {p : Str × Nat} (h : p.1.length ≤ 1 ∧ p.2 < 1000) : (wayS p).length ≤ 5 := by
  unfold wayS
  rw [app_len, app_len]
  have := numS_len (n := p.2) (k := 3) (by decide) (by omega)
  show p.1.length + 1 + _ ≤ 5
  omega
theorem sum_le_mul {B : Nat} : ∀ {l : List Nat}, (∀ x ∈ l, x ≤ B) → l.sum ≤ l.length * B
  | [], _ => Nat.le_of_eq (by simp)
  | x :: r, h => by
    have ih := sum_le_mul fun y hy => h y (List.mem_cons_of_mem _ hy)
    have := h x List.mem_cons_self
    rw [List.sum_cons, List.length_cons, Nat.add_mul, Nat.one_mul]
    omega
theorem RowSm.parts {r : Row} (h : RowSm r) : ∀ z ∈ headS r ++ r.ways.map wayS, z.length ≤ 5 := fun z hz => by
  rcases List.mem_append.mp hz with hz | hz
  · unfold headS at hz
    rcases List.mem_cons.mp hz with e | hz
    · rw [e]; exact Nat.le_trans (numS_len (k := 3) (by decide) (by have := h.a; omega)) (by decide)
    rcases List.mem_cons.mp hz with e | hz
    · rw [e]; exact Nat.le_trans (numS_len (k := 3) (by decide) (by have := h.b; omega)) (by decide)
    rcases List.mem_cons.mp hz with e | hz
    · rw [e]
      cases hl : r.link with
      | none => exact Nat.le_of_ble_eq_true rfl
      | some l => exact Nat.le_trans (numS_len (k := 3) (by decide) (by have := h.c l hl; omega)) (by decide)
    · cases hz
  · obtain ⟨p, hp, rfl⟩ := List.mem_map.mp hz
    exact wayS_len (h.e p hp)
theorem RowSm.sum {r : Row} (h : RowSm r) : ((headS r ++ r.ways.map wayS).map (·.length)).sum ≤ 515 ∧ (headS r ++ r.ways.map wayS).length ≤ 103 := by
  have hl : (headS r ++ r.ways.map wayS).length ≤ 103 := by
    rw [List.length_append, List.length_map]
    have := h.d
    show 3 + _ ≤ _
    omega
  refine ⟨?_, hl⟩
  have := sum_le_mul (B := 5) (l := (headS r ++ r.ways.map wayS).map (·.length)) fun x hx => by
    obtain ⟨z, hz, rfl⟩ := List.mem_map.mp hx
    exact h.parts z hz
  rw [List.length_map] at this
  omega
theorem RowSm.len {r : Row} (h : RowSm r) : (showLine r).length ≤ 4 * 619 := by
  obtain ⟨h1, h2⟩ := h.sum
  exact len_join_le (n := 618) (show _ + _ ≤ _ by omega) (by decide)
end
end Ap

/-! ## N2 -/
set_option Elab.async false
set_option linter.all false
set_option maxRecDepth 100000
set_option maxHeartbeats 4000000
namespace Ap
open PySem PySem.Spec PyProof.Rows L2 Evl
/-! ### bounds of a table's rows -/
theorem OkX.chain {n : Nat} {lg : Nat → Nat} {lk : Nat → Option Nat} {α : Type} {wy : Nat → α → Option Nat} {fr : Option (Nat × Nat × α)} (h : OkX n lg lk wy fr) : ∀ (m k : Nat), k < n → lg k = m → ∃ l : List Nat, l.length = m + 1 ∧ l.Nodup ∧ ∀ t ∈ l, t < n ∧ lg t ≤ m
  | 0, k, hk, e => ⟨[k], rfl, nd1 k, fun t ht => by rw [List.mem_singleton.mp ht]; exact ⟨hk, Nat.le_of_eq e⟩⟩
  | m + 1, k, hk, e => by
    have k0 : k ≠ 0 := fun z => by rw [z, h.lg0] at e; cases e
    obtain ⟨p, c, hp, hl⟩ := h.P k hk k0
    obtain ⟨l, h1, h2, h3⟩ := h.chain m p (h.R p c k hp).1 (by omega)
    refine ⟨k :: l, by rw [List.length_cons, h1], List.pairwise_cons.mpr ⟨fun t ht z => ?_, h2⟩, fun t ht => ?_⟩
    · have := (h3 t ht).2
      rw [← z, e] at this
      omega
    · rcases List.mem_cons.mp ht with q | q
      · rw [q]; exact ⟨hk, Nat.le_of_eq e⟩
      · exact ⟨(h3 t q).1, Nat.le_succ_of_le (h3 t q).2⟩
theorem OkX.lg_lt {n : Nat} {lg : Nat → Nat} {lk : Nat → Option Nat} {α : Type} {wy : Nat → α → Option Nat} {fr : Option (Nat × Nat × α)} (h : OkX n lg lk wy fr) {k : Nat} (hk : k < n) : lg k < n := by
  obtain ⟨l, h1, h2, h3⟩ := h.chain (lg k) k hk rfl
  have := nodup_le h2 fun t ht => (h3 t ht).1
  omega
theorem srt_len (ks : List Str) : (srt ks).length = ks.length := by
  by_cases hp : ∃ ys : List Str, ys.Perm ks ∧ sortedS ys = true
  · unfold srt
    rw [dif_pos hp, (Classical.choose_spec hp).1.length_eq]
  · unfold srt
    rw [dif_neg hp]
theorem Good.cnt {S : MS} (g : Good S) : S.knots.length ≤ 125 := by have := g.n; have := g.small; omega
theorem Good.ordLen {S : MS} (g : Good S) : (ordS S.knots).length ≤ 125 := by
  have M := ordS_met g.ok
  exact Nat.le_trans (nodup_le M.nd M.lt) g.cnt
theorem pos_le {l : List Nat} {t : Nat} : l.idxOf t ≤ l.length := List.idxOf_le_length
theorem Good.rowSm {S : MS} (g : Good S) {i : Nat} (hi : i < S.knots.length) : RowSm (rowOf S.knots i) := by
  obtain ⟨k, hk⟩ : ∃ k, S.knots[i]? = some k := ⟨_, List.getElem?_eq_getElem hi⟩
  have hc := g.cnt
  have hol := g.ordLen
  have hlg : k.long < S.knots.length := by rw [← lgS_at hk]; exact g.ok.lg_lt hi
  have hpos : ∀ t, posS S.knots t < 1000 := fun t => by
    have : posS S.knots t ≤ (ordS S.knots).length := pos_le
    omega
  have hlk : ∀ l, k.link = some l → l < S.knots.length := fun l e => by
    have hi0 : i ≠ 0 := fun z => by
      have := g.ok.lk0
      rw [← z, lkS_at hk, e] at this
      cases this
    obtain ⟨l', hl', hln, _⟩ := g.ok.L i hi hi0
    rw [lkS_at hk, e] at hl'
    cases hl'
    exact hln
  have e0 : rowOf S.knots i = ⟨(match k.link with | none => 0 | some l => lgS S.knots l + 1), k.long, k.link.map (posS S.knots), (srt (k.ways.map (·.1))).map fun z => (z, posS S.knots ((wayOf k.ways z).getD 0))⟩ := by
    unfold rowOf
    rw [hk] <;> rfl
  rw [e0]
  refine ⟨?_, by show k.long < 1000; omega, fun l e => ?_, ?_, fun p hp => ?_⟩
  · show (match k.link with | none => 0 | some l => lgS S.knots l + 1) < 1000
    cases e : k.link with
    | none => exact Nat.lt_of_lt_of_le Nat.one_pos (by decide)
    | some l =>
      have := g.ok.lg_lt (hlk l e)
      show lgS S.knots l + 1 < 1000
      omega
  · have e : k.link.map (posS S.knots) = some l := e
    cases e2 : k.link with
    | none => rw [e2] at e; cases e
    | some l' =>
      rw [e2] at e
      cases e
      exact hpos l'
  · show ((srt (k.ways.map (·.1))).map _).length ≤ 100
    rw [List.length_map, srt_len, List.length_map]
    have := (g.ways i k hk).1
    have := g.small
    omega
  · obtain ⟨z, hz, rfl⟩ := List.mem_map.mp hp
    refine ⟨?_, hpos _⟩
    obtain ⟨q, hq, e⟩ := List.mem_map.mp (srt_mem hz)
    show z.length ≤ 1
    rw [← e]
    exact (g.ways i k hk).2 q hq
theorem Good.rows {S : MS} (g : Good S) : (tabS S.knots).length ≤ 125 ∧ ∀ r ∈ tabS S.knots, RowSm r := by
  have M := ordS_met g.ok
  refine ⟨by unfold tabS; rw [List.length_map]; exact g.ordLen, fun r hr => ?_⟩
  obtain ⟨i, hi, rfl⟩ := List.mem_map.mp hr
  exact g.rowSm (M.lt i hi)
theorem Paired.get' {α β : Type} {F : α → β → Prop} {l₁ : List α} {l₂ : List β} (h : Paired F l₁ l₂) : ∀ {i : Nat} {a : α}, l₁[i]? = some a → ∃ b, l₂[i]? = some b ∧ F a b := by
  induction h with
  | nil => intro i a h; cases h
  | cons h1 _ ih =>
    intro i a h
    cases i with
    | zero => cases h; exact ⟨_, rfl, h1⟩
    | succ i => exact ih (by simpa using h)
section
variable {P : Program} {w : World} {K : PySem.W.Frag} {mg : Str → Option Value} {base : Heap}
def spShowLine (K : PySem.W.Frag) : Sp := fun vs H Q _ => ∃ (x : V) (r : Row), vs = [x] ∧ RowR H x r ∧ RowSm r ∧ ∀ H', Ex H H' → Q (.str (showLine r)) H'
theorem scShowLine : FnScope ["row", "low", "high", "link", "ways", "words", "sign", "number"] ["row"] (defScope s_show_line) := ⟨rfl, rfl, rfl, by decide +kernel, rfl, by decide +kernel, by decide +kernel⟩
theorem ok_show_line (T : Tx K mg w) : FnOk P w K mg base CX0 1 (He.fAd K ("show_line", none)) (fo K ("show_line", none)) ["row"] (spShowLine K) := by
  obtain ⟨tk, eE⟩ := T.z_EMPTY
  refine T.h_show_line.ok scShowLine (fun vs H Q E h => ?_) (fun cdv A outer s H vs Q E hr h => ?_)
  · obtain ⟨x, r, rfl, _⟩ := h
    rfl
  · obtain ⟨x, r, rfl, ⟨p, q, ws, rfl, hp, hq, hw⟩, sm, k⟩ := h
    refine ⟨_, PSs.nox (pss_cons (ps_asg (pv 0) (pg_tup rfl (pgs_cons (pg_name (i := 1) scShowLine.nd rfl (Or.inl rfl)) (pgs_cons (pg_name (i := 2) scShowLine.nd rfl (Or.inl rfl)) (pgs_cons (pg_name (i := 3) scShowLine.nd rfl (Or.inl rfl)) (pgs_cons (pg_name (i := 4) scShowLine.nd rfl (Or.inl rfl)) pgs_nil))))))
      (pss_cons (ps_set (i := 5) scShowLine.nd rfl (Or.inl rfl) (pe_lst (pa_cons (pe_callTy call_str_int (by rfl) T.f_str b_str (pa_cons (pv 1) pa_nil)) (pa_cons (pe_callTy call_str_int (by rfl) T.f_str b_str (pa_cons (pv 2) pa_nil)) (pa_cons (pe_glob (v := .str dash) (by rfl) eE ⟨tk, rfl⟩) pa_nil)))))
      (pss_cons (ps_if (pt_cmp (pc_notN (pv 3))) (pss_one (ps_asg (pe_callTy call_str_int (by rfl) T.f_str b_str (pa_cons (pv 3) pa_nil)) (pg_sub (pv 5) pe_int set_list))) pss_nil)
      (pss_one (ps_ret (pe_join pe_str (pe_op op_cat (pv 5) (pe_lc (own := [("sign", 6), ("number", 7)]) (tt := tYes) rfl scShowLine.nd (pi_tup (pv 4)) (blkOk_by (N := ["row", "low", "high", "link", "ways", "words", "sign", "number"]) (sc := defScope s_show_line) (by decide +kernel))
          (fun _ _ _ _ _ => (show PG _ _ (gTup K 2 (gCons (gName 6) (gCons (gName 7) gNil))) from pg_tup rfl (pgs_cons (pg_name (i := 6) scShowLine.nd rfl (Or.inl rfl)) (pgs_cons (pg_name (i := 7) scShowLine.nd rfl (Or.inl rfl)) pgs_nil)))) (fun _ _ _ _ _ => pts_nil)
          (fun _ _ _ _ _ => pe_op op_add_str (pe_op op_add_str (pv 6) pe_str) (pe_callTy call_str_int (by rfl) T.f_str b_str (pa_cons (pv 7) pa_nil))))))))))), ?_⟩
    refine ⟨_, rfl, p, _, rfl, SqT.of hp, rfl, _, _, rfl, _, _, rfl, _, _, rfl, _, _, rfl, rfl, ?_⟩
    have sma : r.low < 2 ^ 1000 := Nat.lt_trans sm.a (by decide)
    have smb : r.high < 2 ^ 1000 := Nat.lt_trans sm.b (by decide)
    refine q_asgL (el_lst (ea_cons (ev_str (ev_var rfl) sma) (ea_cons (ev_str (ev_var rfl) smb) (ea_cons ev_c ea_nil))) (by show 3 ≤ 100000; decide)) fun pw H1 hpw e1 h1 => ?_
    have fin : ∀ (H2 : Hp) (hs : List Str), Ex H H2 → H2 pw = some (.lst (hs.map V.str)) → hs = headS r → (tRet (tM1 (fun x xs H Q => ∃ a p, ∃ ys : List Str, x = .str a ∧ xs = [.ref p] ∧ (SqL K H p (ys.map V.str) ∨ SqT K H p (ys.map V.str)) ∧
      (ys.map (·.length)).sum + ys.length * a.length ≤ 16777216 ∧ Q (.str (Txt.join a ys)) H) (tC (.str spc)) (tOp rCat (tVar 5) (tLc (iTup K (tVar 4)) (gTup K 2 (gCons (gName 6) (gCons (gName 7) gNil))) tYes (tOp (fun x y H Q => ∃ i j, x = .str i ∧ y = .str j ∧ i.length + j.length ≤ sizeLine ∧ Q (.str (i ++ j)) H)
        (tOp (fun x y H Q => ∃ i j, x = .str i ∧ y = .str j ∧ i.length + j.length ≤ sizeLine ∧ Q (.str (i ++ j)) H) (tVar 6) (tC (.str colon))) (tCB (fun xs H Q => ∃ i, xs = [.int i] ∧ i.natAbs.log2 < 1920 ∧ Q (.str (toString i)) H) (tCons (tVar 7) tNil))) [6, 7]))))
        { nx := fun _ H' => Q .non H', rt := Q } [some (V.ref p), some (.int (r.low : Nat)), some (.int (r.high : Nat)), some (oN r.link), some (.ref q), some (.ref pw), none, none] H2 := fun H2 hs e2 hpw2 hhs => by
      subst hhs
      refine ⟨⟨_, rfl⟩, _, rfl, _, rfl, q, rfl, ⟨_, SqT.of (e2 _ _ hq)⟩, fun D hD => lc_it (walk_tup (xs := ws)) (fun i H' => Ex H2 H' ∧ H' D = some (.lst ((r.ways.take i).map fun p => V.str (wayS p)))) ⟨Ex.new hD, upd_same⟩ (fun i H' _ pq => SqT.of ((e2.trans pq.1) _ _ hq)) ?_ ?_⟩
      · rintro i x H3 H4 hi ⟨e3, h3⟩ ⟨rfl, hx⟩
        obtain ⟨b, hb, ht⟩ := Paired.get' hw hx
        rw [List.getElem?_map] at hb
        cases hwi : r.ways[i]? with
        | none => rw [hwi] at hb; cases hb
        | some pr =>
          rw [hwi] at hb
          cases hb
          obtain ⟨tb, rfl, htb⟩ := ht.stay (e2.trans e3)
          have hsm := sm.e pr (List.mem_of_getElem? hwi)
          have hn3 := numS_len (n := pr.2) (k := 3) (by decide) (by omega)
          refine ⟨tb, _, rfl, SqT.of htb, rfl, _, _, rfl, _, _, rfl, rfl, rfl, ?_⟩
          refine ⟨_, rfl, _, _, rfl, rfl, ?_, _, rfl, _, rfl, log_nat (Nat.lt_trans hsm.2 (by decide)), _, _, rfl, rfl, ?_, _, h3, ?_, e3.mut hD, ?_⟩
          · show pr.1.length + 1 ≤ sizeLine
            rw [sizeLine_eq]; omega
          · rw [app_len]
            show pr.1.length + 1 + _ ≤ sizeLine
            have : (toString ((pr.2 : Nat) : Int) : Str).length ≤ 3 := hn3
            rw [sizeLine_eq]
            omega
          · rw [List.length_map, List.length_take]
            have := sm.d
            rw [sizeLine_eq]; omega
          · rw [upd_same, List.take_succ, hwi]
            show some (HO.lst _) = some (HO.lst (List.map _ (r.ways.take i ++ [pr])))
            rw [List.map_append]
            rfl
      · rintro H3 ⟨e3, h3⟩
        have hlen : ws.length = r.ways.length := by
          have := Paired.length hw
          rw [List.length_map] at this
          exact this
        rw [hlen, List.take_length] at h3
        have hs3 := sm.sum
        have h3' : H3 D = some (.lst ((r.ways.map wayS).map V.str)) := by rw [h3, List.map_map]; rfl
        refine ⟨pw, D, _, _, rfl, rfl, e3 _ _ hpw2, h3', ?_, fun pc hpc => ⟨spc, pc, headS r ++ r.ways.map wayS, rfl, rfl, .inl (SqL.of ?_), ?_, ?_⟩⟩
        · rw [List.length_map, List.length_map, sizeLine_eq]
          have := hs3.2
          rw [List.length_append] at this
          omega
        · rw [upd_same, List.map_append]
        · obtain ⟨a1, a2⟩ := hs3
          show _ + _ * 1 ≤ _
          omega
        · exact k _ (e2.trans (e3.trans (Ex.new hpc)))
    refine q_if (b := r.link.isSome) (et_is (et_B (ev_notN (ev_var rfl))) (by rw [oN_non]; cases r.link <;> rfl)) (fun hb H2 e2 => ?_) (fun hb H2 e2 => ?_)
    · obtain ⟨l, hl⟩ := Option.isSome_iff_exists.mp hb
      have hll : l < 2 ^ 1000 := Nat.lt_trans (sm.c l hl) (by decide)
      refine s_setL (e2 _ _ h1) (v := .str (numS l)) (ev_str (ev_is (ev_var rfl) (by rw [hl]; rfl)) hll) (ev_var rfl) (j := 2) ev_c (by show 2 < 3; decide) fun H3 e3 => ?_
      refine fin _ [numS r.low, numS r.high, numS l] ((e1.trans (e2.trans e3)).mut hpw) (by rw [upd_same]; rfl) ?_
      unfold headS
      rw [hl]
    · have hl : r.link = none := by
        cases e : r.link with
        | none => rfl
        | some l => rw [e] at hb; cases hb
      refine fin H2 [numS r.low, numS r.high, dash] (e1.trans e2) (e2 _ _ h1) ?_
      unfold headS
      rw [hl]
/-! ### show_table -/
def showTab (rs : List Row) : Str := Txt.join newl (rs.map showLine)
def spShowTab (K : PySem.W.Frag) : Sp := fun vs H Q _ => ∃ (a : Addr) (xs : List V) (rs : List Row), vs = [.ref a] ∧ SqL K H a xs ∧ Paired (RowR H) xs rs ∧ rs.length ≤ 125 ∧ (∀ r ∈ rs, RowSm r) ∧ ∀ H', Ex H H' → Q (.str (showTab rs)) H'
theorem scShowTab : FnScope ["table", "row"] ["table"] (defScope s_show_table) := ⟨rfl, rfl, rfl, by decide +kernel, rfl, by decide +kernel, by decide +kernel⟩
theorem ok_show_table (T : Tx K mg w) : FnOk P w K mg base CX0 2 (He.fAd K ("show_table", none)) (fo K ("show_table", none)) ["table"] (spShowTab K) := by
  have G := ok_show_line (P := P) (base := base) T
  have b : Binds K (fo K ("show_line", none)) ["row"] [] := T.h_show_line.bindsN fun _ _ _ _ _ _ us hl => match us, hl with | [_], _ => rfl
  refine T.h_show_table.ok scShowTab (fun vs H Q E h => ?_) (fun cdv A outer s H vs Q E hr h => ?_)
  · obtain ⟨a, xs, rs, rfl, _⟩ := h
    rfl
  · obtain ⟨a, xs, rs, rfl, hS, hp, hn, hsm, k⟩ := h
    refine ⟨_, PSs.nox (pss_one (ps_ret (pe_join pe_str (pe_lc (own := [("row", 1)]) (g := gName 1) (tt := tYes) rfl scShowTab.nd (pi_list (pv 0)) (blkOk_by (N := ["table", "row"]) (sc := defScope s_show_table) (by decide +kernel)) (fun _ _ _ _ _ => pg_name (i := 1) scShowTab.nd rfl (Or.inl rfl)) (fun _ _ _ _ _ => pts_nil)
          (fun _ _ _ _ _ => pe_call G hr (by rfl) T.g_show_line T.h_show_line.kp b .nil pass0 (pa_cons (pv 1) pa_nil)))))), ?_⟩
    have hlen := Paired.length hp
    refine ⟨⟨_, rfl⟩, _, rfl, a, rfl, ⟨_, hS⟩, fun D hD => lc_mapN (walk_list (xs := xs)) (fun i => .str (showLine (rs.getD i ⟨0, 0, none, []⟩))) (by omega) hD (fun x => rfl) (fun _ e1 => ex_l e1 hS) ?_ ?_⟩
    · rintro i x H1 H2 hi e ⟨rfl, hx⟩
      obtain ⟨r, hr', hx'⟩ := Paired.get' hp hx
      refine ⟨rfl, ?_⟩
      have ec : rs.getD i ⟨0, 0, none, []⟩ = r := by rw [List.getD_eq_getElem?_getD, hr']; rfl
      rw [ec]
      exact ev_callE (ea_cons (ev_var rfl) ea_nil) fun H3 e3 Q' q' => ⟨_, r, rfl, hx'.stay (e.trans e3), hsm r (List.mem_of_getElem? hr'), q'⟩
    · intro H' e1 hH
      rw [range_get_map (n := xs.length) rs ⟨0, 0, none, []⟩ (fun t => V.str (showLine t)) hlen.symm] at hH
      refine ⟨newl, D, rs.map showLine, rfl, rfl, .inl (SqL.of (by rw [hH, List.map_map]; rfl)), ?_, k H' e1⟩
      have := sum_le_mul (B := 4 * 619) (l := (rs.map showLine).map (·.length)) fun x hx => by
        obtain ⟨z, hz, rfl⟩ := List.mem_map.mp hx
        obtain ⟨r, hr', rfl⟩ := List.mem_map.mp hz
        exact (hsm r hr').len
      rw [List.length_map, List.length_map] at this
      rw [List.length_map]
      show _ + rs.length * 1 ≤ _
      omega
end
end Ap

/-! ## RulesX -/
set_option Elab.async false
set_option linter.all false
set_option maxRecDepth 100000
set_option maxHeartbeats 4000000
namespace Ap
open PySem PySem.Spec PyProof.Rows L2
/-! ### a list comprehension whose element may raise out of a call -/
/-- what a call in the block lets out -/
def OutB (X : Cx) (Eb : XK) (u : Value) (s' : Shared) : Prop := ∃ (pins : List (Addr × Obj)) (σ : St) (H : Hp) (s : Shared), Inv X pins σ H s ∧ L2.CX X.prog X.w X.stack H s Eb u s'
abbrev blkX (X : Cx) (s : Shared) (H : Hp) (scope : Scope) (cenv : Env) (fp : List Addr) (Eb : XK) : Cx := (X.blk s H scope cenv fp).wish (OutB (X.blk s H scope cenv fp) Eb)
theorem passB {X : Cx} {s : Shared} {H : Hp} {scope : Scope} {cenv : Env} {fp : List Addr} {Eb : XK} : Passes (L2.CX X.prog X.w) (blkX X s H scope cenv fp Eb) Eb :=
  fun pins σ H' s1 e s' I c => ⟨pins, σ, H', s1, I.unwish, c⟩

theorem frames_sub {base B h : Heap} : ∀ {l : List Env}, h.FunFrames base l → (∀ b o, B.get? b = some o → base.get? b = some o) → h.FunFrames B l
  | [], _, _ => trivial
  | env :: l, h, k => by
    obtain ⟨hk, ⟨L, o, hf, hn, ho, hd⟩, hr⟩ := h
    refine ⟨hk, ⟨L, o, hf, ?_, ho, hd⟩, frames_sub hr k⟩
    cases e : B.get? L with
    | none => rfl
    | some u => rw [k L u e] at hn; cases hn
theorem frames_but {base h h' : Heap} {C : Addr} : ∀ {l : List Env}, h.FunFrames base l → (∀ b, b ≠ C → h'.get? b = h.get? b) → C ∉ frs l → h'.FunFrames base l
  | [], _, _, _ => trivial
  | env :: l, h, k, hC => by
    obtain ⟨hk, ⟨L, o, hf, hn, ho, hd⟩, hr⟩ := h
    have e : frs (env :: l) = L :: frs l := by
      unfold frs
      rw [List.filterMap_cons, hf]
    rw [e] at hC
    refine ⟨hk, ⟨L, o, hf, hn, ?_, hd⟩, frames_but hr k fun z => hC (List.mem_cons_of_mem _ z)⟩
    rw [k L fun z => hC (by rw [← z]; exact List.mem_cons_self)]
    exact ho
theorem none_sub {B B' : Heap} (k : ∀ b o, B'.get? b = some o → B.get? b = some o) {a : Addr} (h : B.get? a = none) : B'.get? a = none := by
  cases e : B'.get? a with
  | none => rfl
  | some u => rw [k a u e] at h; cases h
theorem fly_sub {B B' h : Heap} {l : List Env} {a : Addr} {Z : Obj → Prop} (k : ∀ b o, B'.get? b = some o → B.get? b = some o) (f : HandSPX.FlyingZ B l a Z h) : HandSPX.FlyingZ B' l a Z h := by
  obtain ⟨h1, h2, h3, oe, vs, T, oT, ts, he, hz, hd, q1, hnT, hTe, hT, hdT, q3⟩ := f
  exact ⟨fun b o e => h1 b o (k b o e), none_sub k h2, frames_sub h3 k, oe, vs, T, oT, ts, he, hz, hd, q1, none_sub k hnT, hTe, hT, hdT, q3⟩
section
variable {X : Cx} {pins : List (Addr × Obj)} {σ : St} {H : Hp} {s s' : Shared} {Eb : XK} {W : WX} {C : Addr} {ce : Env}
/-- out of the block: its names at C are let go -/
theorem out_block (hs : X.stack = X.env :: X.outer) (hf : X.env.frame = some X.env.locals) (tk : Takes X W) (hW : ∀ cls d H', Eb cls d H' → W cls d σ H') (hcf : ce.frame = X.env.frame) (hcl : ce.locals = C)
    (I : Inv X pins σ H s) (hC : FpOk X pins H C) (hCn : ∃ m, s.heap.Ns C m) {u : Value} (c : L2.CX X.prog X.w X.stack H s Eb u s') :
    notedBy (model X.prog X.w) X.A ce (CompFails (model X.prog X.w) X.A X.xe ce) u s' := by
  obtain ⟨a, B, H', cls, d, rfl, fl0, hok, ub, na, os, ag, hE⟩ := c
  obtain ⟨c0, c1, c2, c3, c4, c5⟩ := hC
  obtain ⟨m, hm⟩ := hCn
  have cst : C ∉ frs X.stack := fun z => by
    rcases List.mem_cons.mp (I.stkSub C z) with z | z
    · exact c1 z
    · exact c2 z
  have hfr : X.A.frames = some (X.env :: X.outer) := by rw [I.ok.frames, hs]
  -- the ground without C
  obtain ⟨B', b1, b2⟩ := restrict B fun b => decide (b ≠ C)
  have kB : ∀ b o, B'.get? b = some o → B.get? b = some o := fun b o e => by
    by_cases hb : b = C
    · rw [b2 b (by simp [hb])] at e
      cases e
    · rw [← b1 b (decide_eq_true hb)]
      exact e
  have toB : ∀ b o, b ≠ C → B.get? b = some o → B'.get? b = some o := fun b o hb e => by
    rw [b1 b (decide_eq_true hb)]
    exact e
  have bC : B'.get? C = none := b2 C (by simp)
  have fl : HandSPX.FlyingZ B' X.stack a (Zc cls d) s'.heap := fly_sub kB fl0
  have fl' : HandSPX.FlyingZ B' (X.env :: X.outer) a (Zc cls d) s'.heap := by rw [← hs]; exact fl
  -- the block's names stand
  have nsC : s'.heap.Ns C m := by
    obtain ⟨o, es, ep, ho, r⟩ := hm
    exact ⟨o, es, ep, fl0.1 C o (ub.keep C o ho c0 cst), r⟩
  show wpAny _ X.A (noteFrame (.ref a) ce) _ _ s'
  rw [noteFrame_env _ hcf]
  refine HandSPX.looks_onZ Zc.steady hfr hf fl' fun h1 hh up1 => ?_
  have nsC1 : h1.Ns C m := nsC.upToSlots up1
  refine ⟨m, by rw [hcl]; exact nsC1, fun h2 m2 hn2 sb => ?_⟩
  rw [hcl] at sb hn2
  obtain ⟨g1, g2, g3, oe, vs, T, oT, ts, he, hz, hd, q1, hnT, hTe, hT, hdT, q3⟩ := hh
  have dC : ∀ {b : Addr} {o : Obj} {vs : Array Value}, h1.get? b = some o → o.data = .fields vs → b ≠ C := fun {b o vs} e dd z => by
    obtain ⟨o', es, ep, ho, hdd, _⟩ := nsC1
    rw [z, ho] at e
    cases e
    rw [hdd] at dd
    cases dd
  have aC := dC he hd
  have TC := dC hT hdT
  have hh2 : HandSPX.HeldZ B' (X.env :: X.outer) a (Zc cls d) X.env.locals h2 :=
    ⟨fun b o e => (sb.2 b fun z => by rw [z, bC] at e; cases e).trans (g1 b o e), g2, frames_but g3 sb.2 (by rw [← hs]; exact cst), oe, vs, T, oT, ts, (sb.2 a aC).trans he, hz, hd, q1, hnT, hTe, (sb.2 T TC).trans hT, hdT, q3⟩
  unfold PySem.passOn
  refine wpAny_bind (wpAny_field ((sb.2 a aC).trans he) hd q1 ?_)
  rw [if_neg (show ¬ ((Value.ref T == Value.none) = true) from by simp)]
  have fin : wpAny (model X.prog X.w) X.A (setFlight (.ref a) ce.frame) (fun _ s4 => wpAny (model X.prog X.w) X.A (throw (.ref a) : Sem Value) (fun _ _ => False) X.xe s4) X.xe { s' with heap := h2 } := by
    rw [hcf, hf]
    refine HandSPX.setFlight_onZ hh2 fun h3 hh3 up3 => wpAny_throw (tk _ _ ?_)
    -- the state without the exception
    obtain ⟨G, r1, r2⟩ := restrict s'.heap fun b => (B'.get? b).isSome || decide (b ∈ frs X.stack)
    have st : B'.StaysIn s'.heap := fl.1
    have gB : ∀ b o, B'.get? b = some o → G.get? b = some o := fun b o e => by
      rw [r1 b (by simp [e])]
      exact st b o e
    have gF : ∀ b, b ∈ frs X.stack → G.get? b = s'.heap.get? b := fun b hb => r1 b (by simp [hb])
    have og : ∀ b o, G.get? b = some o → s'.heap.get? b = some o ∧ ((B'.get? b).isSome = true ∨ b ∈ frs X.stack) := fun b o e => by
      cases q : ((B'.get? b).isSome || decide (b ∈ frs X.stack)) with
      | false => rw [r2 b q] at e; cases e
      | true =>
        rw [r1 b q] at e
        exact ⟨e, by simpa [Bool.or_eq_true] using q⟩
    have nC : ∀ b o, H' b = some o → b ≠ C := fun b o e z => by
      obtain ⟨oc, _, _, ho, _⟩ := hm
      have := ub.free C oc ho c0
      rw [z, this] at e
      cases e
    have hokB : HOk X.prog X.w H' B' := fun b o e => (hok b o e).stay (fun c u hc q => toB c u (by
      rcases hc with z | z
      · rw [z]; exact nC b o e
      · exact nC c _ z) q) (fun _ q => q) fun _ _ q => q
    refine ⟨a, B', { s with heap := G, gens := s'.gens, drawn := s'.drawn, toks := s'.toks }, pins, σ, H', cls, d, rfl, ?_, fun b o e hb => ?_, ?_, .inr (.inr (by rw [hs]; exact hh3)), na, os, ag, hW _ _ _ hE⟩
    · refine I.call (ch := [C]) ⟨fun b o e n hb hx => gB b o (toB b o (by simpa using hx) (ub.keep b o e n hb)), fun b o e n hb _ => ?_, fun b o e n _ => ub.free b o e n, fun b o e hx => ?_, ub.tups, ub.frzs, ub.tbls⟩ (hokB.kept gB) ag (fun b hb => ?_)
      · obtain ⟨sl, q⟩ := ub.slot b o e hb
        exact ⟨sl, by rw [gF b hb]; exact q⟩
      · by_cases hb : b ∈ frs X.stack
        · obtain ⟨sl, q⟩ := ub.slot b o e hb
          exact ⟨_, by rw [gF b hb]; exact q⟩
        · obtain ⟨o', q⟩ := ub.there b o e hb
          exact ⟨o', gB b o' (toB b o' (by simpa using hx) q)⟩
      · have e : b = C := by simpa using hb
        subst e
        exact ⟨c3, c1, c4, c5⟩
    · obtain ⟨e', h⟩ := og b o e
      rcases h with h | h
      · obtain ⟨o', q⟩ := Option.isSome_iff_exists.mp h
        have z := st b o' q
        rw [e'] at z; cases z
        exact q
      · exact absurd h hb
    · -- up to slots: s' to h1, to h2 (but C), to h3
      intro b o e hnf
      obtain ⟨e', h⟩ := og b o e
      have hbC : b ≠ C := by
        rcases h with h | h
        · intro z
          rw [z, bC] at h
          cases h
        · exact fun z => cst (by rw [← z]; exact h)
      obtain ⟨sl1, e1⟩ := up1 b o e' hnf
      obtain ⟨sl3, e3⟩ := up3 b _ ((sb.2 b hbC).trans e1) hnf
      exact ⟨sl3, e3⟩
  first
    | exact wpAny_bind (wpAny_pure (wpAny_bind fin))
    | exact wpAny_bind fin
end
end Ap

/-! ## RulesY -/
set_option Elab.async false
set_option linter.all false
set_option maxRecDepth 100000
set_option maxHeartbeats 4000000
namespace Ap
open PySem PySem.Spec PyProof.Rows L2
section
variable {X : Cx}
/-- a block's fixed things: where it stands, what it walks -/
structure BlkAt (X : Cx) (pins : List (Addr × Obj)) (σ : St) (fp : List Addr) (s3 : Shared) (H3 : Hp) (ce : Env) : Prop where
  inv : Inv X pins σ H3 s3
  fps : ∀ b ∈ fp, FpOk X pins H3 b ∧ b < s3.heap.objs.size
  loc : ce.locals = s3.heap.objs.size
  frm : ce.frame = X.env.frame
theorem BlkAt.back {pins : List (Addr × Obj)} {σ σ' : St} {fp : List Addr} {s3 s' : Shared} {H3 H' : Hp} {ce : Env} {scope : Scope} {q : List (Addr × Obj)} (B : BlkAt X pins σ fp s3 H3 ce) (I : Inv (X.blk s3 H3 scope ce fp) q σ' H' s') :
    Inv X pins σ H' s' ∧ FpOk X pins H' s3.heap.objs.size ∧ ∃ m, s'.heap.Ns s3.heap.objs.size m := by
  refine ⟨B.inv.call' (ch := fp) I.os I.base I.hok I.bare fun b hb => ?_, ?_, ?_⟩
  · obtain ⟨⟨_, h1, _, h3, h4, h5⟩, _⟩ := B.fps b hb
    exact ⟨h3, h1, h4, h5⟩
  · have z : H' ce.locals = none := I.free
    rw [B.loc] at z
    exact B.inv.fpOk (Nat.le_refl _) z
  · obtain ⟨m, hn, _⟩ := I.loc
    have hn : s'.heap.Ns ce.locals m := hn
    rw [B.loc] at hn
    exact ⟨m, hn⟩
/-- [elt for tg in iter if ..], what the element's call raises leaves the def; use: what the value is for -/
theorem lcX_core {pins : List (Addr × Obj)} {s : Shared} {σ : St} {H : Hp} {Q : VK} {Eb : XK} {elt tg iter : Expr} {ifs : List Expr} {scope : Scope} {own : List (Str × Nat)} {pos pos' : Pos} {wi : TI} {g : TG} {tt : TT} {te : TE} {use : Option (Value → Sem Unit)} {Qf : Value → Shared → Prop}
    (hc : X.calm = true) (hN : X.N.Nodup) (hs0 : X.stack = X.env :: X.outer) (hf0 : X.env.frame = some X.env.locals)
    (tk : Takes X fun cls d _ H' => Eb cls d H') (I : Inv X pins σ H s) (hi : PI X tg iter wi) (ok : BlkOk X.N X.env.scope scope own)
    (hg : ∀ (s : Shared) (H : Hp) (C : Addr) (cl : List (Str × Addr)) (fp : List Addr), PG (blkX X s H scope (compEnvC scope cl C X.env) fp Eb) tg g)
    (ht : ∀ (s : Shared) (H : Hp) (C : Addr) (cl : List (Str × Addr)) (fp : List Addr), PTs (blkX X s H scope (compEnvC scope cl C X.env) fp Eb) ifs tt)
    (he : ∀ (s : Shared) (H : Hp) (C : Addr) (cl : List (Str × Addr)) (fp : List Addr), PE (blkX X s H scope (compEnvC scope cl C X.env) fp Eb) elt te)
    (hs : ∀ x, foldedSetIterable iter X.env x = pure x) (h : tLc wi g tt te (own.map (·.2)) σ H Q)
    (hEnd : ∀ D s' m H' (ce : Env), Inv X pins σ H' s' → Q (.ref D) H' → s'.heap.Ns ce.locals m → FpOk X pins H' ce.locals → compEnds (model X.prog X.w) X.A X.xe use Qf (.ref D) ce (.ok .next) s') :
    wpAny (model X.prog X.w) X.A (comprehension (.ListComp elt [⟨tg, iter, ifs, 0⟩] scope pos) scope X.env pos' (newList []) false (eval iter X.env) use) Qf X.xe s := by
  have closed : ∀ y ∈ scope.names, y.2 = .free → ∃ c, X.env.cells.lookup y.1 = some c := fun y hy e => (ok.free y hy e).elim (fun k => I.ok.has _ (.inl k)) fun k => I.ok.has _ (.inr k)
  refine comprehension_at (use := use) rfl hs (closure_ok closed) ok.kind (fun y hy e => by rw [ok.uniq y hy, e]) (thn (hi.run pins s σ H _ I h) fun xv s1 hx => thn hx fun itv s2 h2 => ?_)
  obtain ⟨it, fp, tn, J, H2, rfl, I2, T, st2, f2, q⟩ := h2
  refine wpAny_newObj_type (newEnv_comp ?_) (Nat.zero_le _)
  have Dn : H2 s2.heap.objs.size = none := I2.hok.fresh (Nat.le_refl _)
  obtain ⟨W, ⟨m0, w0⟩, turn⟩ := q _ Dn
  have kp : ∀ b o, s2.heap.get? b = some o → (s2.heap.push { cls := .type "list", data := .seq ([] : List Value).toArray }).get? b = some o := fun b o e => Heap.get?_push_of_some _ e
  have I3 : Inv X pins σ (upd H2 s2.heap.objs.size (.lst [])) { s2 with heap := s2.heap.push { cls := .type "list", data := .seq ([] : List Value).toArray } } :=
    I2.laid (t' := s2.toks) kp (Nat.le_refl _) ⟨Nat.zero_le _, [], 0, .nil, Heap.get?_push_size _ rfl⟩
  have lt2 : ∀ b ∈ fp, b < s2.heap.objs.size := fun b hb => let ⟨_, e, _⟩ := T.obj _ _ st2 b hb; Heap.lt_size e
  have sz3 : ({ s2 with heap := s2.heap.push { cls := .type "list", data := .seq ([] : List Value).toArray } } : Shared).heap.objs.size = s2.heap.objs.size + 1 := Heap.size_push ..
  have f3 : ∀ b ∈ fp, FpOk X pins (upd H2 s2.heap.objs.size (.lst [])) b ∧ b < ({ s2 with heap := s2.heap.push { cls := .type "list", data := .seq ([] : List Value).toArray } } : Shared).heap.objs.size := fun b hb =>
    ⟨⟨by rw [upd_ne (Nat.ne_of_lt (lt2 b hb))]; exact (f2 b hb).1, (f2 b hb).2⟩, by rw [sz3]; exact Nat.lt_succ_of_lt (lt2 b hb)⟩
  have st3 : tn 0 (s2.heap.push { cls := .type "list", data := .seq ([] : List Value).toArray }) := T.keep _ _ _ st2 fun b _ o e => kp b o e
  generalize hs3 : ({ s2 with heap := s2.heap.push { cls := .type "list", data := .seq ([] : List Value).toArray } } : Shared) = s3 at I3 f3 ⊢
  have st3 : tn 0 s3.heap := by rw [← hs3]; exact st3
  generalize s2.heap.objs.size = D at *
  have I4 := block_start I3 ok hN f3
  have pg := hg s3 (upd H2 D (.lst [])) s3.heap.objs.size (cellsFrom (s3.heap.objs.size + 1) scope.names (cloFrom X.env.cells scope.names [])) fp
  have pt := ht s3 (upd H2 D (.lst [])) s3.heap.objs.size (cellsFrom (s3.heap.objs.size + 1) scope.names (cloFrom X.env.cells scope.names [])) fp
  have pe := he s3 (upd H2 D (.lst [])) s3.heap.objs.size (cellsFrom (s3.heap.objs.size + 1) scope.names (cloFrom X.env.cells scope.names [])) fp
  show codeAny _ _ (.compStart (.ListComp elt [⟨tg, iter, ifs, 0⟩] scope pos) 0 (.ref it) (.ref D) (compEnvC scope (cellsFrom (s3.heap.objs.size + 1) scope.names (cloFrom X.env.cells scope.names [])) s3.heap.objs.size X.env))
    (compEnds (model X.prog X.w) X.A X.xe use Qf (.ref D) (compEnvC scope (cellsFrom (s3.heap.objs.size + 1) scope.names (cloFrom X.env.cells scope.names [])) s3.heap.objs.size X.env)) { s3 with heap := pushCells (s3.heap.push { cls := .type "dict", data := .dict #[] }) scope.names }
  have st4 : tn 0 (pushCells (s3.heap.push { cls := .type "dict", data := .dict #[] }) scope.names) := T.keep _ _ _ st3 fun b _ o e => pushCells_keeps _ _ _ _ (Heap.get?_push_of_some _ e)
  generalize hce : compEnvC scope (cellsFrom (s3.heap.objs.size + 1) scope.names (cloFrom X.env.cells scope.names [])) s3.heap.objs.size X.env = ce at I4 pg pt pe ⊢
  have BA : BlkAt X pins σ fp s3 (upd H2 D (.lst [])) ce := ⟨I3, f3, by subst hce; rfl, by subst hce; rfl⟩
  have nfp : ∀ b ∈ fp, (upd H2 D (.lst [])) b = none := fun b hb => (f3 b hb).1.1
  generalize hH3 : upd H2 D (.lst []) = H3 at *
  generalize hs4 : ({ s3 with heap := pushCells (s3.heap.push { cls := .type "dict", data := .dict #[] }) scope.names } : Shared) = s4 at I4 ⊢
  have st4 : tn 0 s4.heap := by rw [← hs4]; exact st4
  -- what is raised in the block
  have bad : ∀ (u : Value) (s' : Shared), OutB (X.blk s3 H3 scope ce fp) Eb u s' → notedBy (model X.prog X.w) X.A ce (CompFails (model X.prog X.w) X.A X.xe ce) u s' := fun u s' ⟨q, σ', H', s0, I', c⟩ => by
    obtain ⟨b1, b2, b3⟩ := BA.back I'
    exact out_block (W := fun cls d _ H' => Eb cls d H') hs0 hf0 tk (fun _ _ _ h => h) BA.frm BA.loc b1 b2 b3 c
  have still : ∀ {σ' : St} {H' : Hp} {s' : Shared}, Inv (X.blk s3 H3 scope ce fp) [] σ' H' s' → (∀ b ∈ fp, H' b = none) → ∀ b ∈ fp, FpOk (X.blk s3 H3 scope ce fp) [] H' b := fun {σ' H' s'} I' hn b hb =>
    ⟨hn b hb, (I'.ok.exf b hb).1, I'.ok.exfs b hb, .inl hb, fun x c e => (I'.ok.exf b hb).2 x c e, fun p hp => absurd (show p ∈ ([] : List (Addr × Obj)) ++ [] from hp) (by simp)⟩
  have loop : codeAny (model X.prog X.w) X.A (.compLoop (.ListComp elt [⟨tg, iter, ifs, 0⟩] scope pos) 0 (.ref it) (.ref D) ce) (compEnds (model X.prog X.w) X.A X.xe use Qf (.ref D) ce) s4 := by
    refine compLoop_any (fun n s' => ∃ i H', Inv (X.blk s3 H3 scope ce fp) [] (wipe σ (own.map (·.2))) H' s' ∧ tn i s'.heap ∧ (∀ b ∈ fp, H' b = none) ∧ W i n H') ?_ m0 ⟨0, H3, I4, st4, nfp, w0⟩
    rintro n s5 ⟨i, H5, I5, st5, n5, w5⟩
    rcases turn i n H5 w5 with ⟨stop, qq⟩ | ⟨go, Nx, hNx, step⟩
    · refine thnF (T.done (X.blk s3 H3 scope ce fp) rfl rfl rfl hc i [] s5 _ H5 (fun _ _ => False) I5 (still I5 n5) st5 stop) fun r s6 ⟨hr, I6⟩ => ?_
      subst hr
      obtain ⟨b1, ⟨f0, f1, f2', f3', f4, f5⟩, m, hm⟩ := BA.back I6
      exact hEnd D s6 m H5 ce b1 qq (by rw [BA.loc]; exact hm) (by rw [BA.loc]; exact ⟨f0, f1, f2', f3', f4, f5⟩)
    · refine thnF (T.item (X.blk s3 H3 scope ce fp) rfl rfl rfl hc i [] s5 _ H5 (fun _ _ => False) I5 (still I5 n5) st5 go) fun r s6 ⟨u, hr, h6⟩ => ?_
      subst hr
      refine thnF h6 fun _ s7 ⟨x, H7, I7, r7, y7, st7, n7⟩ => ?_
      have I7' := I7.pinned (still I7 n7) (T.obj _ _ st7)
      refine wpAny_mono (pg.run _ s7 _ H7 x u _ (I7'.wish _) r7 (step x H7 y7)) (fun _ s8 ⟨σ8, H8, I8, hw8, q8⟩ => ?_) bad
      refine wpAny_mono (pt.run _ s8 σ8 H8 _ I8 q8) (fun b s9 ⟨H9, I9, q9⟩ => ?_) bad
      have fin : ∀ {s' : Shared} {H' : Hp}, Inv (X.blk s3 H3 scope ce fp) ([] ++ pinsAt fp s7.heap) σ8 H' s' → Nx H' → ∃ m, m < n ∧ ∃ i H', Inv (X.blk s3 H3 scope ce fp) [] (wipe σ (own.map (·.2))) H' s' ∧ tn i s'.heap ∧ (∀ b ∈ fp, H' b = none) ∧ W i m H' := fun {s' H'} I' nx => by
        obtain ⟨m', hm, w'⟩ := hNx H' nx
        have stay : ∀ b ∈ fp, ∀ o, s7.heap.get? b = some o → s'.heap.get? b = some o ∧ H' b = none := fun b hb o e => by
          obtain ⟨z1, z2, _⟩ := I'.pin (b, o) (List.mem_append_right _ (List.mem_append_right _ (mem_pinsAt hb e)))
          exact ⟨z1, z2⟩
        have len8 : (wipe σ (own.map (·.2))).length = σ8.length := by rw [← hw8, wipe_length]
        refine ⟨m', hm, i + 1, H', (I'.unpinned (pins := [])).weak len8 (fun j v e => ?_), T.keep _ _ _ st7 fun b hb o e => (stay b hb o e).1, fun b hb => ?_, w'⟩
        · rw [← hw8] at e
          exact (wipe_some e).1
        · obtain ⟨o, e, _⟩ := T.obj _ _ st7 b hb
          exact (stay b hb o e).2
      cases b with
      | false => exact fin I9.unwish q9
      | true =>
        refine wpAny_mono (pe.run _ s9 σ8 H9 _ I9 q9) (fun z s10 ⟨yv, H10, I10, r10, acc, hD10, hz10, nx⟩ => ?_) bad
        exact app_ok (X := X.blk s3 H3 scope ce fp) I10.unwish hD10 hz10 r10 fun s11 I11 => fin I11 nx
  exact codeAny_compStart_list loop (T.self X.A 0 _ _ _ st4 loop)
theorem pe_lcX {Eb : XK} {elt tg iter : Expr} {ifs : List Expr} {scope : Scope} {own : List (Str × Nat)} {pos : Pos} {wi : TI} {g : TG} {tt : TT} {te : TE} (hc : X.calm = true) (hN : X.N.Nodup) (hs0 : X.stack = X.env :: X.outer) (hf0 : X.env.frame = some X.env.locals)
    (tk : Takes X fun cls d _ H' => Eb cls d H') (hi : PI X tg iter wi) (ok : BlkOk X.N X.env.scope scope own)
    (hg : ∀ (s : Shared) (H : Hp) (C : Addr) (cl : List (Str × Addr)) (fp : List Addr), PG (blkX X s H scope (compEnvC scope cl C X.env) fp Eb) tg g)
    (ht : ∀ (s : Shared) (H : Hp) (C : Addr) (cl : List (Str × Addr)) (fp : List Addr), PTs (blkX X s H scope (compEnvC scope cl C X.env) fp Eb) ifs tt)
    (he : ∀ (s : Shared) (H : Hp) (C : Addr) (cl : List (Str × Addr)) (fp : List Addr), PE (blkX X s H scope (compEnvC scope cl C X.env) fp Eb) elt te)
    (hs : ∀ x, foldedSetIterable iter X.env x = pure x := by intro _; rfl) :
    PE X (.ListComp elt [⟨tg, iter, ifs, 0⟩] scope pos) (tLc wi g tt te (own.map (·.2))) := by
  refine ⟨fun pins s σ H Q I h => ?_⟩
  rw [eval_ListComp]
  refine lcX_core hc hN hs0 hf0 tk I hi ok hg ht he hs h fun D s' m H' ce I' q hn f => ⟨m, hn, fun h'' sb => ?_⟩
  obtain ⟨f0, f1, f2, f3, f4, f5⟩ := f
  exact ⟨.ref D, H', I'.turned (t' := s'.toks) (fun b o hb e => (sb.2 b hb).trans e) f0 f1 f3 f4 f5, rfl, q⟩
/-- name = [..] on one line, the name a plain local -/
theorem ps_setLcX {Eb : XK} {i : Nat} {y : Str} {py : Pos} {elt tg iter : Expr} {ifs : List Expr} {scope : Scope} {own : List (Str × Nat)} {pos spos : Pos} {wi : TI} {g : TG} {tt : TT} {te : TE} (hc : X.calm = true) (hN : X.N.Nodup) (hs0 : X.stack = X.env :: X.outer) (hf0 : X.env.frame = some X.env.locals)
    (hy : X.N[i]? = some y) (hyl : X.env.scope.names.lookup y = some .local) (hsw : swapsWith (.ListComp elt [⟨tg, iter, ifs, 0⟩] scope pos) (some (.Name y py)) spos.line X.env = pure true)
    (tk : Takes X fun cls d _ H' => Eb cls d H') (hi : PI X tg iter wi) (ok : BlkOk X.N X.env.scope scope own)
    (hg : ∀ (s : Shared) (H : Hp) (C : Addr) (cl : List (Str × Addr)) (fp : List Addr), PG (blkX X s H scope (compEnvC scope cl C X.env) fp Eb) tg g)
    (ht : ∀ (s : Shared) (H : Hp) (C : Addr) (cl : List (Str × Addr)) (fp : List Addr), PTs (blkX X s H scope (compEnvC scope cl C X.env) fp Eb) ifs tt)
    (he : ∀ (s : Shared) (H : Hp) (C : Addr) (cl : List (Str × Addr)) (fp : List Addr), PE (blkX X s H scope (compEnvC scope cl C X.env) fp Eb) elt te)
    (hs : ∀ x, foldedSetIterable iter X.env x = pure x := by intro _; rfl) :
    PS X (.Assign [.Name y py] (.ListComp elt [⟨tg, iter, ifs, 0⟩] scope pos) spos) (tAsg (tLc wi g tt te (own.map (·.2))) (gName i)) := by
  refine ⟨fun pins s σ H D I h => ?_⟩
  have h : tLc wi g tt te (own.map (·.2)) σ H (fun x H1 => gName i x σ H1 D.nx) := h
  rw [exec_Assign_Name_used _ _ _ _ hsw]
  refine wpAny_bind (wpAny_standAt (wpAny_bind ?_))
  show wpAny _ X.A (do let _ ← comprehension (.ListComp elt [⟨tg, iter, ifs, 0⟩] scope pos) scope X.env (firstIterPos [⟨tg, iter, ifs, 0⟩] pos) (newList []) false (eval iter X.env) (some (assign (.Name y py) X.env))) _ _ s
  refine wpAny_bind (thn (lcX_core (use := some (assign (.Name y py) X.env)) (Qf := fun _ s' => SP X pins D .next s') hc hN hs0 hf0 tk I hi ok hg ht he hs h fun L s' m H' ce I' q hn f => ?_) fun _ s' hq => wpAny_pure (wpAny_pure hq))
  obtain ⟨f0, f1, f2, f3, f4, f5⟩ := f
  show wpAny _ _ (assign (.Name y py) X.env (.ref L)) _ _ _
  refine wpAny_assign_Name (store_ok2 (v := V.ref L) I' hN hy (.inl hyl) rfl (fun s2 I2 ⟨a, sb, ha⟩ => ?_) (.inr hyl))
  have apart : ce.locals ≠ a := fun z => ha.elim (fun e => f1 (z.trans e)) fun e => f4 y a e z.symm
  exact ⟨m, hn.sameBut sb apart, fun h3 sb3 => ⟨_, H', I2.turned (t' := s2.toks) (fun b o hb e => (sb3.2 b hb).trans e) f0 f1 f3 f4 f5, q⟩⟩
end
end Ap

/-! ## RulesZ -/
set_option Elab.async false
set_option linter.all false
set_option maxRecDepth 100000
set_option maxHeartbeats 4000000
namespace Ap
open PySem PySem.Spec PyProof.Rows L2
/-- the tuple at a and the list at b, the items in new pairs -/
def ItzM (K : PySem.W.Frag) (a b : Addr) : It :=
  ⟨fun i H => ∃ (xs ys : List V) (x y : V), SqT K H a xs ∧ SqL K H b ys ∧ xs[i]? = some x ∧ ys[i]? = some y,
    fun i H v H' => ∃ T x y, v = .ref T ∧ H T = none ∧ H' = upd H T (.tup [x, y]) ∧ (∀ xs, SqT K H a xs → xs[i]? = some x) ∧ ∀ ys, SqL K H b ys → ys[i]? = some y,
    fun i H => ∃ xs ys : List V, SqT K H a xs ∧ SqL K H b ys ∧ i ≤ xs.length ∧ i ≤ ys.length ∧ (i = xs.length ∨ i = ys.length)⟩
theorem turn_zipM {P : Program} {w : World} {K : PySem.W.Frag} {elts : List Expr} {kk : Nat} {tpos : Pos} {a b z TI TO i1 i2 : Addr} (S : ZipSep2 z TI TO i1 i2 [i1, a] [i2, b]) (na : a ≠ i1) (nb : b ≠ i2) (i1z : i1 ≠ z) (i2z : i2 ≠ z) (o12 : i1 ≠ TO) (o22 : i2 ≠ TO) :
    Turn P w K (.Tuple elts kk tpos) (ItzM K a b) [z, TI, TO, i1, i2] z (fun i h => IsZip h z TI TO .none ∧ IsTupOf2 h TI (.ref i1) (.ref i2) ∧ (∃ x y, IsTupOf2 h TO x y) ∧ h.IsTupleIter i1 a i ∧ h.IsListIter i2 b i) where
  mem := by simp
  obj := fun i h st c hc => by
    obtain ⟨hz, hTI, ⟨x, y, hTO⟩, ⟨o1, e1, _, d1⟩, ⟨o2, e2, _, d2⟩⟩ := st
    have e' : c = z ∨ c = TI ∨ c = TO ∨ c = i1 ∨ c = i2 := by simpa using hc
    rcases e' with q | q | q | q | q
    · rw [q]; exact ⟨_, hz, fun v q => nomatch q⟩
    · rw [q]; exact ⟨_, hTI, fun v q => nomatch q⟩
    · rw [q]; exact ⟨_, hTO, fun v q => nomatch q⟩
    · rw [q]; exact ⟨o1, e1, fun v q => by rw [d1] at q; cases q⟩
    · rw [q]; exact ⟨o2, e2, fun v q => by rw [d2] at q; cases q⟩
  keep := fun i h h' st k => by
    obtain ⟨hz, hTI, ⟨x, y, hTO⟩, h1, h2⟩ := st
    exact ⟨k z (by simp) _ hz, k TI (by simp) _ hTI, ⟨x, y, k TO (by simp) _ hTO⟩, h1.at fun o q => k i1 (by simp) o q, h2.at fun o q => k i2 (by simp) o q⟩
  item := by
    intro X hP hw hK hc i pins s σ H E I hf st hg
    subst hP hw hK
    obtain ⟨hz, hTI, ⟨x0, y0, hTO⟩, h1, h2⟩ := st
    obtain ⟨xs, ys, x, y, hqx, hqy, hx, hy⟩ := hg
    obtain ⟨its, rv, p, _⟩ := I.tuple hqx
    obtain ⟨its2, rv2, p2, _⟩ := I.list hqy
    obtain ⟨u, hu, ru⟩ := rv.get hx
    obtain ⟨u2, hu2, ru2⟩ := rv2.get hy
    have hzl : z < s.heap.objs.size := Heap.lt_size hz
    have l1 : i < its.toArray.size := by simpa using (List.getElem?_eq_some_iff.mp hu).1
    have l2 : i < its2.toArray.size := by simpa using (List.getElem?_eq_some_iff.mp hu2).1
    have hin : X.A.in1.handled = none := I.ok.hd hc
    have D1 := Draws.tuple (prog := X.prog) (w := X.w) (A := X.A.in1) hin i1 a na its.toArray
    have D2 := Draws.list (prog := X.prog) (w := X.w) (A := X.A.in1) hin i2 b nb its2.toArray
    refine wpAny_pyNext_zipD2_item S D1 D2 hz hTI hTO ⟨h1, p⟩ ⟨h2, p2.isList⟩ l1 l2 fun x1 x2 h' tk y1 y2 z' TO' d1 d2 hT hsz hk => ?_
    have ex1 : x1 = u := by
      have q : its.toArray[i]? = some x1 := y1
      rw [List.getElem?_toArray, hu] at q
      exact (Option.some.inj q).symm
    have ex2 : x2 = u2 := by
      have q : its2.toArray[i]? = some x2 := y2
      rw [List.getElem?_toArray, hu2] at q
      exact (Option.some.inj q).symm
    subst ex1 ex2
    refine ⟨_, rfl, wpAny_letOwnedTupleGo_zip (s := { s with heap := h', toks := tk }) z' fun h'' z'' sb => ?_⟩
    have hT2 : h''.get? s.heap.objs.size = some { cls := .type "tuple", data := .seq #[x1, x2] } := (sb.2 _ (Nat.ne_of_gt hzl)).trans hT
    have new : ObjOk X.prog X.w (upd H s.heap.objs.size (.tup [x, y])) h'' s.heap.objs.size (.tup [x, y]) :=
      ⟨by show 2 ≤ sizeLine; decide, [x1, x2], .cons ru (.cons ru2 .nil), ⟨_, hT2, rfl, _, rfl⟩⟩
    have I1 : Inv X pins σ (upd H s.heap.objs.size (.tup [x, y])) { s with heap := h'', toks := tk } :=
      I.turnedNew (t' := tk) (ch := [z, TI, TO, i1, i2]) (fun c o hb q => (sb.2 c (fun q' => hb (by simp [q']))).trans (hk c o (fun q' => hb (by simp [q'])) (fun q' => hb (by simp [q'])) (fun q' => hb (by simp [q'])) (fun q' => hb (by simp [q'])) q)) hf (Nat.le_refl _) new
    refine ⟨.ref s.heap.objs.size, _, I1, rfl, ⟨_, x, y, rfl, I.hok.fresh (Nat.le_refl _), rfl, fun l hl => by rw [I.tuple_inj hl hqx]; exact hx, fun l hl => by rw [I.list_inj hl hqy]; exact hy⟩, ⟨z'', ?_, ⟨x1, x2, ?_⟩, ?_, ?_⟩, fun c hcm => ?_⟩
    · exact (sb.2 _ S.TIz).trans (hk _ _ S.TIz S.TITO S.TIi1 S.TIi2 hTI)
    · exact (sb.2 _ S.TOz).trans TO'
    · exact d1.1.at fun o q => (sb.2 _ i1z).trans q
    · exact d2.1.at fun o q => (sb.2 _ i2z).trans q
    · have hlt : c < s.heap.objs.size := by
        have e' : c = z ∨ c = TI ∨ c = TO ∨ c = i1 ∨ c = i2 := by simpa using hcm
        rcases e' with q | q | q | q | q
        · rw [q]; exact hzl
        · rw [q]; exact Heap.lt_size hTI
        · rw [q]; exact Heap.lt_size hTO
        · rw [q]; obtain ⟨_, e1, _⟩ := h1; exact Heap.lt_size e1
        · rw [q]; obtain ⟨_, e2, _⟩ := h2; exact Heap.lt_size e2
      rw [upd_ne (Nat.ne_of_lt hlt)]
      exact (hf c hcm).1
  done := by
    intro X hP hw hK hc i pins s σ H E I hf st hg
    subst hP hw hK
    obtain ⟨hz, hTI, ⟨x0, y0, hTO⟩, h1, h2⟩ := st
    obtain ⟨xs, ys, hqx, hqy, b1, b2, hend⟩ := hg
    obtain ⟨its, rv, p, _⟩ := I.tuple hqx
    obtain ⟨its2, rv2, p2, _⟩ := I.list hqy
    have l1 := rv.length
    have l2 := rv2.length
    have hin : X.A.in1.handled = none := I.ok.hd hc
    have D1 := Draws.tuple (prog := X.prog) (w := X.w) (A := X.A.in1) hin i1 a na its.toArray
    have D2 := Draws.list (prog := X.prog) (w := X.w) (A := X.A.in1) hin i2 b nb its2.toArray
    refine wpAny_pyNext_zipD2_end S D1 D2 hz hTI hTO ⟨h1, p⟩ ⟨h2, p2.isList⟩ (by rw [List.size_toArray]; omega) (by rw [List.size_toArray]; omega) (by rw [List.size_toArray, List.size_toArray]; omega) fun h' tk hk => ?_
    exact ⟨rfl, I.turnedL (t' := tk) (ch := [z, TI, TO, i1, i2]) (fun c o hb q =>
      hk c o (fun q' => hb (by simp [q'])) (fun q' => hb (by simp [q'])) (fun q' => hb (by simp [q'])) (fun q' => hb (by simp [q'])) q) hf⟩
  self := fun A i s Q E st h => wpAny_pyIter_zip st.1 h
def iZipM (K : PySem.W.Frag) (ta : TA) : TI := fun σ H R => ta σ H fun vs H1 => ∃ a b xs ys, vs = [.ref a, .ref b] ∧ SqT K H1 a xs ∧ SqL K H1 b ys ∧ R (ItzM K a b) H1
theorem pi_zipM {X : Cx} {e e2 : Expr} {ta : TA} {p pos tpos : Pos} {elts : List Expr} {kk : Nat} (hg : Gl X "zip") (hm : X.mg "zip" = none) (ha : PA X [e, e2] ta)
    (hs : starEach [e, e2] X.env = (false, eval e X.env) :: starEach [e2] X.env := by rfl) (hpl : (backTo pos (starEach [e2] X.env)).any (·.1) = false := by rfl) :
    PI X (.Tuple elts kk tpos) (.Call (.Name "zip" p) [e, e2] [] pos) (iZipM X.K ta) := by
  refine ⟨fun pins s σ H R I h => ?_⟩
  refine Call_ (ld_blt I hg hm PyProof.Rows.boot_zip (PyProof.Rows.callWith_type1 (thn (ha.run pos pins s σ H _ I h) fun us s1 ⟨vs, H1, I1, r1, q1⟩ => ?_) hs hpl))
  obtain ⟨a, b, xs, ys, ex, hqx, hqy, q⟩ := q1
  subst ex
  cases r1 with
  | cons r rr =>
    cases rr with
    | cons r' rr =>
      cases rr
      cases r
      cases r'
      have fresh5 : ∀ c, c ∈ [s1.heap.objs.size + 4, s1.heap.objs.size + 2, s1.heap.objs.size + 3, s1.heap.objs.size, s1.heap.objs.size + 1] → FpOk X pins H1 c := fun c hcm => by
        have e' : c = s1.heap.objs.size + 4 ∨ c = s1.heap.objs.size + 2 ∨ c = s1.heap.objs.size + 3 ∨ c = s1.heap.objs.size ∨ c = s1.heap.objs.size + 1 := by simpa using hcm
        have hle : s1.heap.objs.size ≤ c := by
          rcases e' with z | z | z | z | z
          · rw [z]; exact Nat.le_add_right _ _
          · rw [z]; exact Nat.le_add_right _ _
          · rw [z]; exact Nat.le_add_right _ _
          · rw [z]; exact Nat.le_refl _
          · rw [z]; exact Nat.le_add_right _ _
        exact I1.fpOk hle (I1.hok.fresh hle)
      obtain ⟨its, rv, p1, _⟩ := I1.tuple hqx
      obtain ⟨its2, rv2, p2, _⟩ := I1.list hqy
      obtain ⟨o1, ho1, _⟩ := id p1
      have la : a < s1.heap.objs.size := Heap.lt_size ho1
      have lb : b < s1.heap.objs.size := p2.lt
      refine zip_begins2 (begins_tuple a its.toArray) (begins_list b its2.toArray) p1 p2.isList fun h' hz hTI hTO h1 h2 hsz hk => wpAny_pyIter_zip hz ?_
      have I2 : Inv X pins σ H1 { s1 with heap := h' } := I1.kept (t' := s1.toks) hk
      refine ⟨s1.heap.objs.size + 4, [s1.heap.objs.size + 4, s1.heap.objs.size + 2, s1.heap.objs.size + 3, s1.heap.objs.size, s1.heap.objs.size + 1], _, _, H1, rfl, I2,
        turn_zipM (zip_sep2 (fp1 := [a]) (fp2 := [b]) (fun c hc => by rw [List.mem_singleton.mp hc]; exact la) (fun c hc => by rw [List.mem_singleton.mp hc]; exact lb)) (Nat.ne_of_lt la) (Nat.ne_of_lt (Nat.lt_succ_of_lt lb)) (show (s1.heap.objs.size : Nat) ≠ s1.heap.objs.size + 4 by omega) (show (s1.heap.objs.size + 1 : Nat) ≠ s1.heap.objs.size + 4 by omega) (show (s1.heap.objs.size : Nat) ≠ s1.heap.objs.size + 3 by omega) (show (s1.heap.objs.size + 1 : Nat) ≠ s1.heap.objs.size + 3 by omega),
        ⟨hz, hTI, ⟨_, _, hTO⟩, ⟨_, h1, rfl, rfl⟩, ⟨_, h2, rfl, rfl⟩⟩, fresh5, q⟩
section
variable {K : PySem.W.Frag} {a b : Addr} {xs ys : List V}
theorem walk_zipM {n : Nat} (h1 : xs.length = n) (h2 : ys.length = n) : Walk (ItzM K a b) n (fun H => SqT K H a xs ∧ SqL K H b ys) (YPair (fun i => xs[i]?) (fun i => ys[i]?)) where
  goes := fun i H hi ⟨q1, q2⟩ => ⟨xs, ys, _, _, q1, q2, List.getElem?_eq_getElem (by omega), List.getElem?_eq_getElem (by omega)⟩
  stops := fun H ⟨q1, q2⟩ => ⟨xs, ys, q1, q2, by omega, by omega, .inl h1.symm⟩
  yields := fun i H v H' hi ⟨q1, q2⟩ ⟨T, x, y, hv, hT, hH, f1, f2⟩ => ⟨T, x, y, hv, hT, hH, f1 _ q1, f2 _ q2⟩
end
end Ap

/-! ## RulesS -/
set_option Elab.async false
set_option linter.all false
set_option maxRecDepth 100000
set_option maxHeartbeats 4000000
namespace Ap
open PySem PySem.Spec PyProof.Rows L2 PySem.Froz
/-! ### a set of texts whose order can be walked -/
theorem addTx_keep {h : Int} {v : Value} {D : SD} (r : Ris D.2.2.place.toList) : Ris (addTx h v D).2.2.place.toList ∧ (addTx h v D).2.2.led = D.2.2.led := by
  obtain ⟨es, ep, t⟩ := D
  have r1 := layNew_ris t es h v r
  have l1 := layNew_led t es h v
  unfold addTx
  generalize layNew t es h v = Z at r1 l1 ⊢
  obtain ⟨es1, t1, wd, gv⟩ := Z
  have r2 : Ris (if t1.plain = true then { t1 with plain := false } else t1).place.toList := by split <;> exact r1
  have l2 : (if t1.plain = true then { t1 with plain := false } else t1).led = t.led := by split <;> exact l1
  show Ris (tailTx ep es1 (if t1.plain = true then { t1 with plain := false } else t1) wd).2.2.place.toList ∧ (tailTx ep es1 (if t1.plain = true then { t1 with plain := false } else t1) wd).2.2.led = t.led
  generalize (if t1.plain = true then { t1 with plain := false } else t1) = t2 at r2 l2 ⊢
  unfold tailTx
  split
  · exact ⟨relayAll_ris _ _ _, (relayAll_led _ _ _).trans l2⟩
  · exact ⟨r2, l2⟩
def TxS (P : Program) (w : World) (h : Heap) (a : Addr) (l : List Str) : Prop :=
  ∃ D : SD, h.get? a = some (sObj "set" D) ∧ TxOk P w D l ∧ l.Nodup ∧ Ris D.2.2.place.toList ∧ (w.params.followText "set-order" = true ∨ D.2.2.led = true)
section
variable {P : Program} {w : World} {A : Around} {E : Value → Shared → Prop} {s : Shared}
theorem TxS.at {h h' : Heap} {a : Addr} {l : List Str} (t : TxS P w h a l) (k : ∀ o, h.get? a = some o → h'.get? a = some o) : TxS P w h' a l := let ⟨D, h1, r⟩ := t; ⟨D, k _ h1, r⟩
theorem tx_add {a : Addr} {l : List Str} {k : Str} {u : Tok} {Q : Bool → Shared → Prop} (t : TxS P w s.heap a l) (hb : l.length + 1 < scanBound)
    (hQ : ∀ h' l' b, Heap.SameBut a s.heap h' → TxS P w h' a l' → (l' = l ∨ l' = k :: l) → Q b { s with heap := h' }) : wpAny (model P w) A (setAddHashed a (.str k u) (hashStr w k)) Q E s := by
  obtain ⟨D, ho, F, nd, ri, le⟩ := id t
  by_cases hk : k ∈ l
  · obtain ⟨es, ep, tb⟩ := D
    have hd : (sObj "set" (es, ep, tb)).data = .set es ep tb := rfl
    have hf : tb.fits es.size = true := F.fit
    have hel : ElemsOf (strKind P w) es.toList := F.el
    have hsz : es.size = l.length := F.sz
    have hkey : (strKind P w).is k (.str k u) = true := is_str k u
    unfold setAddHashed setAddHashedIn
    refine wpAny_holding (wpAny_bind (wpAny_setState_of ho hd hf ?_))
    dsimp only
    rw [byScan_of rfl (by omega) hel]
    simp only [↓reduceIte]
    unfold setAddByScan
    refine wpAny_bind ?_
    refine wpAny_bind (wpAny_rule ?_)
    refine wpAny_bind (wpAny_setScan_of (knd := strKind P w) (k := k) hkey ho hd hf hel ?_)
    cases hfi : List.findIdx? (fun e => (strKind P w).is k e.2) es.toList with
    | some j =>
      dsimp only
      exact wpAny_pure (wpAny_pure (hQ s.heap l _ (Heap.SameBut.refl a s.heap) t (.inl rfl)))
    | none =>
      exfalso
      obtain ⟨e, he, q⟩ := (F.mem k).mp hk
      have c := List.findIdx?_eq_none_iff.mp hfi e he
      rw [q] at c
      cases c
  · refine add_x ho F hk hb (hQ _ (k :: l) _ (Heap.SameBut.update ..) ⟨addTx (hashStr w k) (.str k u) D, get_upd _ ho rfl, add_ok u F, List.nodup_cons.mpr ⟨hk, nd⟩, (addTx_keep ri).1, ?_⟩ (.inr rfl))
    exact le.imp id fun z => by rw [(addTx_keep ri).2]; exact z
end
section
variable {prog : Program} {w : World} {A : Around} {R : Result → Shared → Prop} {I : Addr} {fp wr : List Addr} {G : Array GenState → Array GenState → Prop} {n : Nat} {x : Str} {St : Nat → Shared → Prop}
theorem loopTx (W : WalksS prog w A.in1 I fp wr G n (SignAt x) St) (S : Addr) (hSf : S ∉ fp) (hb : n + 1 < scanBound) :
    ∀ (k i : Nat) (s : Shared) (l : List Str), n - i = k → i ≤ n → St i s → TxS prog w s.heap S l → l.length ≤ i → (∀ z ∈ l, z ∈ x.cps.toList.map sing) →
      (∀ s' l', Moved (S :: wr) G s s' → TxS prog w s'.heap S l' → l'.length ≤ n → (∀ z ∈ l', z ∈ x.cps.toList.map sing) → R (.ok (.ret .none)) s') →
      codeAny (model prog w) A (.builtin "set.update.loop" ⟨[.ref S, .ref I], []⟩) R s := by
  have hSw : S ∉ wr := fun h => hSf (W.sub _ h)
  have hsub : ∀ b ∈ wr, b ∈ S :: wr := fun b hb => List.mem_cons_of_mem _ hb
  intro k
  induction k with
  | zero =>
    intro i s l hk hi hst hS hl hm hR
    have hin : i = n := by omega
    subst hin
    refine codeAny_builtin PyProof.Rows.F.entry_set_update_loop ?_
    rw [Around.under_plainId PyProof.Rows.F.plain_set_update_loop _]
    show wpAny _ A.in1 (pyNext (.ref I) >>= _) _ _ s
    refine wpAny_bind (W.done s _ _ hst fun s' hmv => ?_)
    show wpAny _ A.in1 (ret Value.none) _ _ s'
    exact wpAny_pure (hR s' l (hmv.mono hsub) (hS.at fun o ho => hmv.heap S _ hSw ho) hl hm)
  | succ k ih =>
    intro i s l hk hi hst hS hl hm hR
    have hlt : i < n := by omega
    refine codeAny_builtin PyProof.Rows.F.entry_set_update_loop ?_
    rw [Around.under_plainId PyProof.Rows.F.plain_set_update_loop _]
    show wpAny _ A.in1 (pyNext (.ref I) >>= _) _ _ s
    refine wpAny_bind (W.item i s _ _ hlt hst fun v s' hP hst' hmv => ?_)
    obtain ⟨c, t, hc, rfl⟩ := hP
    have hcm : sing c ∈ x.cps.toList.map sing := List.mem_map.mpr ⟨c, by
      rw [← Array.getElem?_toList] at hc
      exact List.mem_of_getElem? hc, rfl⟩
    have hS' : TxS prog w s'.heap S l := hS.at fun o ho => hmv.heap S _ hSw ho
    show wpAny _ A.in1 (holding [Value.str (sing c) t] (setAdd S (.str (sing c) t)) >>= _) _ _ _
    refine wpAny_bind (wpAny_holding ?_)
    unfold setAdd
    refine wpAny_holding ?_
    refine wpAny_bind ((PySem.strKind prog w).pyHash (k := sing c) (is_str _ _) ?_)
    refine tx_add (s := { s' with toks := s'.toks + 1 }) hS' (by omega) fun h' l' b hsb hS2 hl' => ?_
    have hl2 : l'.length ≤ i + 1 := by
      rcases hl' with e | e
      · rw [e]; omega
      · rw [e, List.length_cons]; omega
    have hm2 : ∀ z ∈ l', z ∈ x.cps.toList.map sing := fun z hz => by
      rcases hl' with e | e
      · rw [e] at hz; exact hm z hz
      · rw [e] at hz
        rcases List.mem_cons.mp hz with q | q
        · rw [q]; exact hcm
        · exact hm z q
    refine wpAny_pure ⟨plainId_quiet PyProof.Rows.F.plain_set_update_loop _, ih (i + 1) _ l' (by omega) hlt (W.frame _ s' _ _ hst' (Nat.le_succ _) fun b hb o e => ?_) hS2 hl2 hm2 fun s'' l'' hm'' hS'' => ?_⟩
    · rw [hsb.2 b (fun h : b = S => hSf (by rw [← h]; exact hb))]; exact e
    · refine hR s'' l'' (Moved.trans W.gtrans ((hmv.mono hsub).then_heap (Nat.le_succ _) fun b o hb e => ?_) hm'') hS''
      rw [hsb.2 b (fun h : b = S => hb (by rw [h]; exact List.mem_cons_self))]; exact e
end
section
variable {prog : Program} {w : World} {A : Around} {E : Value → Shared → Prop} {s : Shared}
/-- what set() pushes -/
abbrev newSetO (w : World) : Obj := { cls := .type "set", dict := none, data := .set #[] 0 (.fresh 0 0 (!w.params.followText "set-order")) }
theorem set_new_x (a : Value) {Q₁ : Value → Shared → Prop} (h : Q₁ (.ref s.heap.objs.size) { s with heap := s.heap.push (newSetO w) }) :
    codeAny (model prog w) A (.call (.builtin "set.__new__") ⟨[.type "set", a], []⟩) (wants Q₁ E) s := by
  refine codeAny_of_tree ?_
  show wpAny _ A.in1 (do checkBuiltinCall "set.__new__" ⟨[.type "set", a], []⟩; again (.builtin "set.__new__" ⟨[.type "set", a], []⟩)) _ _ s
  refine wpAny_bind (wpAny_of_eq (PySem.F.newCall_set_1 a) (wpAny_pure ⟨plainId_quiet F.plain_set_new _, codeAny_builtin PySem.F.entry_set_new ?_⟩))
  rw [Around.under_plainId F.plain_set_new _]
  unfold Builtin.«set.__new__» Builtin.Frozenset.newClass
  have hsub := sub_set_self
  obtain ⟨hp, g, d, tk, os⟩ := s
  dsimp only
  wp_walk
  refine wpAny_askSetting (wpAny_pure ?_)
  dsimp only
  simp only [newObj]
  refine wpAny_bind (wpAny_alloc (wpAny_pure ?_))
  exact wpAny_pure h
theorem newTx {h : Heap} : TxS prog w (h.push (newSetO w)) h.objs.size [] :=
  ⟨(#[], 0, .fresh 0 0 (!w.params.followText "set-order")), Heap.get?_push_size _ rfl, TxOk.nil rfl, .nil, List.Pairwise.nil, by
    show _ ∨ (!w.params.followText "set-order") = true
    cases w.params.followText "set-order"
    · exact .inr rfl
    · exact .inl rfl⟩
theorem call_set_tx {x : Str} {t : Tok} {Q : Value → Shared → Prop} (hh : A.handled = none) (hb : x.cps.size + 1 < scanBound)
    (h : ∀ (h' : Heap) (tk : Nat) (l : List Str), TxS prog w h' s.heap.objs.size l → l.length ≤ x.cps.size → (∀ z ∈ l, z ∈ x.cps.toList.map sing) →
      (∀ b o, b < s.heap.objs.size → s.heap.get? b = some o → h'.get? b = some o) → Q (.ref s.heap.objs.size) { s with heap := h', toks := tk }) :
    wpAny (model prog w) A (call (.type "set") [.str x t]) Q E s := by
  obtain ⟨c, tl, hmro⟩ := PySem.F.called_set.mro
  have hmade := PySem.F.called_set.made
  have hsub := PySem.F.called_set.sub
  refine wpAny_call (codeAny_of_tree ?_)
  show wpAny _ _ (callAny (.type "set") _) _ _ _
  refine wpAny_pure ⟨Code.quiet_builtin _ (by decide +kernel), codeAny_builtin PySem.F.entry_type_call ?_⟩
  rw [Around.under_plain (weight_type_call_type "set" [.str x t] []) rfl]
  have h1 := PySem.F.called_set.notType
  have h2 := PySem.F.called_set.canCreate
  have hct := PySem.F.typeCall_set_1 (.str x t)
  repeat (any_goals (first | assumption | wp_step))
  refine codeAny_mono (set_new_x (.str x t) (E := E) (Q₁ := fun obj s₁ => obj = .ref s.heap.objs.size ∧ s₁ = { s with heap := s.heap.push (newSetO w) }) ⟨rfl, rfl⟩) fun r s₁ hr => ?_
  cases r with
  | error e => exact hr
  | ok fl =>
    cases fl with
    | ret obj =>
      obtain ⟨rfl, rfl⟩ := hr
      have hS : (s.heap.push (newSetO w)).get? s.heap.objs.size = some (newSetO w) := Heap.get?_push_size _ rfl
      have hT : Shared.TypeIs { s with heap := s.heap.push (newSetO w) } (.ref s.heap.objs.size) "set" := ⟨_, hS, rfl⟩
      have hli := PySem.F.called_set.init.lookup
      have hbi := PySem.F.called_set.init.bind (.ref s.heap.objs.size)
      repeat (any_goals (first | assumption | wp_step))
      refine codeAny_mono (codeAny_call_builtin (R := wants (fun r s₂ => r = .none ∧ ∃ h' tk l, s₂ = { s with heap := h', toks := tk } ∧ TxS prog w h' s.heap.objs.size l ∧ l.length ≤ x.cps.size ∧ (∀ z ∈ l, z ∈ x.cps.toList.map sing) ∧
          (∀ b o, b < s.heap.objs.size → s.heap.get? b = some o → h'.get? b = some o)) E) PySem.F.called_set.init.plain PySem.F.entry_set_init (check_set_init_1 hT ?_)) fun r₂ s₂ hr₂ => ?_
      · have hsls := PySem.F.sub_str_set
        have hslf := PySem.F.sub_str_frozenset
        have hne : (Value.type "str" == Value.type "dict") = false := by decide
        unfold Builtin.«set.__init__» noKeywords Builtin.Frozenset.updateFrom
        generalize hPI : pyIter = PI
        wp_walk
        subst hPI
        refine wpAny_pyIter_str fun o St W hst => ?_
        refine wpAny_bind (wpAny_runValue ?_)
        have hh3 : A.in1.in1.in1.handled = none := by simp [hh]
        have hz : (s.heap.push (newSetO w)).objs.size = s.heap.objs.size + 1 := Heap.size_push ..
        have hSf : s.heap.objs.size ∉ [(s.heap.push (newSetO w)).objs.size] := by
          rw [hz]
          simp
        refine loopTx (W _ hh3).toS s.heap.objs.size hSf hb (x.cps.size - 0) 0 _ [] (by omega) (Nat.zero_le _) hst (newTx.at fun o' e => Heap.get?_push_of_some _ e) (Nat.le_refl _) (fun z hz => nomatch hz) fun s' l' hm hS' hl' hm' => ?_
        obtain ⟨h', g', d', tk', os'⟩ := s'
        have eg : g' = s.gens := hm.gens
        have ed : d' = s.drawn := hm.drawn
        have eo : os' = s.os := hm.os
        subst eg; subst ed; subst eo
        show wpAny _ _ _ _ _ _
        refine wpAny_pure ?_
        show wpAny _ _ (ret Value.none) _ _ _
        refine wpAny_pure ⟨rfl, h', tk', l', rfl, hS', hl', hm', fun b o hb e => ?_⟩
        have hb1 : b ≠ s.heap.objs.size := Nat.ne_of_lt hb
        have hb2 : b ≠ (s.heap.push (newSetO w)).objs.size := by rw [hz]; exact Nat.ne_of_lt (Nat.lt_succ_of_lt hb)
        exact hm.heap b o (by simp only [List.mem_cons, List.mem_singleton, List.not_mem_nil, or_false, not_or]; exact ⟨hb1, hb2⟩) (Heap.get?_push_of_some _ (Heap.get?_push_of_some _ e))
      · cases r₂ with
        | error e => exact hr₂
        | ok fl₂ =>
          cases fl₂ with
          | ret r =>
            obtain ⟨rfl, h', tk, l, rfl, hS', hl', hm', hk'⟩ := hr₂
            repeat (any_goals (first | assumption | wp_step))
            exact h _ _ l hS' hl' hm' hk'
          | _ => exact hr₂.elim
    | _ => exact hr.elim
theorem strs_of : ∀ (l : List Value), (∀ v ∈ l, ∃ k tk, v = Value.str k tk) → ∃ ks, StrsAre l ks
  | [], _ => ⟨[], .nil⟩
  | v :: l, h => by
    obtain ⟨k, tk, rfl⟩ := h v List.mem_cons_self
    obtain ⟨ks, hk⟩ := strs_of l fun u hu => h u (List.mem_cons_of_mem _ hu)
    exact ⟨k :: ks, .cons k tk hk⟩
theorem strs_mem : ∀ {l : List Value} {ks : List Str}, StrsAre l ks → ∀ k ∈ ks, ∃ tk, Value.str k tk ∈ l
  | _, _, .nil, k, h => nomatch h
  | _, _, .cons n t hr, k, h => by
    rcases List.mem_cons.mp h with e | e
    · rw [e]; exact ⟨t, List.mem_cons_self⟩
    · obtain ⟨tk, q⟩ := strs_mem hr k e
      exact ⟨tk, List.mem_cons_of_mem _ q⟩
/-- sorted of such a set: as many, in order -/
theorem sorted_tx {a : Addr} {l : List Str} {Q : Value → Shared → Prop} (R : TxS prog w s.heap a l) (hh : A.handled = none) (h64 : l.length < 64)
    (hQ : ∀ s' p (out : Array Value) (c : Nat) (ks : List Str), (∀ b o, s.heap.get? b = some o → s'.heap.get? b = some o) → s'.gens = s.gens → s'.os = s.os → s.heap.objs.size ≤ p →
      s'.heap.get? p = some (seqObj "list" out c) → StrsAre out.toList ks → sortedS ks = true → ks.length = l.length → (∀ k ∈ ks, k ∈ l) → Q (.ref p) s') :
    wpAny (model prog w) A (call (.builtin "sorted") [.ref a]) Q E s := by
  obtain ⟨⟨es, ep, t⟩, ho, F, nd, ri, le⟩ := R
  have hsz : es.size = l.length := F.sz
  refine Calls.call_function_entry kind_sorted plain_sorted entry_sorted (args_sorted1 _) ?_
  unfold Builtin.«sorted»
  refine wpAny_bind (m := checkCount "sorted" 1 1 _) (wpAny_pure ?_)
  refine wpAny_bind (collect_set (A := A.in1) hh ⟨_, ho, rfl, rfl⟩ F.fit (by rw [hsz]; exact Nat.lt_trans h64 (by decide)) ri le fun s1 vs k1 hz g1 o1 pm => ?_)
  have hvl : vs.length = l.length := by rw [pm.length_eq, List.length_map, Array.length_toList]; exact hsz
  obtain ⟨ks, hS⟩ := strs_of vs fun v hv => by
    obtain ⟨e, he, q⟩ := List.mem_map.mp (pm.mem_iff.mp hv)
    obtain ⟨⟨k, hk, _⟩, _⟩ := F.el e he
    obtain ⟨tk, ev⟩ := Value.isStrOf_shape (x := k) (v := e.2) hk
    exact ⟨k, tk, by rw [← q]; exact ev⟩
  refine wpAny_bind (wpAny_newList ?_ (by rw [hvl, sizeLine_eq]; omega))
  have hoL : (s1.heap.push (seqObj "list" vs.toArray 0)).get? s1.heap.objs.size = some (seqObj "list" vs.toArray 0) := Heap.get?_push_size _ rfl
  refine wpAny_bind (wpAny_holding (wpAny_call_entry slot_list_sort ⟨_, hoL, rfl⟩ entry_list_sort
    (list_sort_treeK strKind_oneLt hoL hS.keysOf (fun v₁ v₂ rest e => keyKind_strs (by rw [← e]; exact hS)) (by rw [hvl]; exact h64) fun st' hp hs => ⟨_, rfl, ?_⟩) (args_list_sort _)))
  obtain ⟨ys, q1, q2, q3⟩ := sorted_out_str hS hp hs
  obtain ⟨c, hc⟩ := sortedHeap_at (vs := vs) (out := (arrOf st').map (·.2)) hoL
  refine wpAny_pure ⟨_, rfl, hQ _ s1.heap.objs.size ((arrOf st').map (·.2)) c ys (fun b u e => ?_) g1 o1 hz hc q1 q3 ?_ fun k hk => ?_⟩
  · have q := k1 b u e
    have hlt := Heap.lt_size q
    show (sortedHeap (s1.heap.push (seqObj "list" vs.toArray 0)) s1.heap.objs.size vs ((arrOf st').map (·.2))).get? b = some u
    rw [sortedHeap_old (Nat.ne_of_lt hlt) (by rw [size_push']; exact Nat.lt_succ_of_lt hlt)]
    exact Heap.get?_push_of_some _ q
  · rw [q2.length_eq, ← StrsAre.len_eq hS]
    exact hvl
  · obtain ⟨tk, hv⟩ := strs_mem hS k (q2.mem_iff.mp hk)
    obtain ⟨e, he, ev⟩ := List.mem_map.mp (pm.mem_iff.mp hv)
    exact (F.mem k).mpr ⟨e, he, by rw [ev]; exact is_str k tk⟩
end
/-! ### the rules -/
/-- sorted(set(e)), e a text -/
def tSortSet (te : TE) : TE := fun σ H Q => te σ H fun v H1 => ∃ z : Str, v = .str z ∧ z.cps.size < 60 ∧
  ∀ (p : Addr) (ys l : List Str), H1 p = none → sortedS ys = true → ys.length = l.length → l.Nodup → (∀ x ∈ l, x ∈ z.cps.toList.map sing) → (∀ y ∈ ys, y ∈ l) → Q (.ref p) (upd H1 p (.lst (ys.map V.str)))
theorem vals_strs : ∀ {us : List Value} {ks : List Str}, StrsAre us ks → Vals (ks.map V.str) us
  | _, _, .nil => .nil
  | _, _, .cons k t h => .cons ⟨t, rfl⟩ (vals_strs h)
theorem pe_sortSet {X : Cx} {a : Expr} {te : TE} {p p2 q pos : Pos} (hg : Gl X "sorted") (hm : X.mg "sorted" = none) (hg2 : Gl X "set") (hm2 : X.mg "set" = none) (ha : PE X a te) (hc : X.calm = true := by rfl)
    (na : starEach [a] X.env = (false, eval a X.env) :: starEach [] X.env := by rfl) : PE X (.Call (.Name "sorted" p) [.Call (.Name "set" p2) [a] [] q] [] pos) (tSortSet te) := by
  refine ⟨fun pins s σ H Q I h => ?_⟩
  refine Call_ (ld_blt I hg hm b_sorted ?_)
  refine PyProof.Rows.callWith_builtin1 (PyProof.Rows.args_cons ?_ rfl) rfl rfl
  refine Call_ (ld_blt I hg2 hm2 b_set ?_)
  refine PyProof.Rows.callWith_type1 (PyProof.Rows.args_cons (thn (ha.run pins s σ H _ I h) fun v s1 ⟨x, H1, I1, r1, q1⟩ => PyProof.Rows.args_nil ?_) na) na rfl
  obtain ⟨z, rfl, hz, q1⟩ := q1
  obtain ⟨t, rfl⟩ := r1
  refine call_set_tx (I1.ok.hd hc) (Nat.lt_trans (Nat.succ_lt_succ hz) (by decide)) fun h' tk l hS hl hm' hk => ?_
  refine PyProof.Rows.args_nil ?_
  have hks : ∀ b o, s1.heap.get? b = some o → h'.get? b = some o := fun b o e => hk b o (Heap.lt_size e) e
  have I2 : Inv X pins σ H1 { s1 with heap := h', toks := tk } := I1.kept hks
  refine sorted_tx (s := { s1 with heap := h', toks := tk }) hS (I1.ok.hd hc) (Nat.lt_of_le_of_lt hl (by omega)) fun s' p' out c ks k1 hg1 ho1 hp hpo hst hso hlen hyl => ?_
  obtain ⟨D, _, _, nd, _⟩ := hS
  have hfr : H1 p' = none := I2.hok.fresh hp
  have hlen2 : (ks.map V.str).length ≤ sizeLine := by
    rw [List.length_map, hlen, sizeLine_eq]
    omega
  have new : ObjOk X.prog X.w (upd H1 p' (.lst (ks.map V.str))) s'.heap p' (.lst (ks.map V.str)) := ⟨hlen2, out.toList, c, vals_strs hst, by rw [Array.toArray_toList]; exact hpo⟩
  have I3 : Inv X pins σ (upd H1 p' (.lst (ks.map V.str))) s' := I2.call' (ch := []) ho1 (Un.laid k1 hp hfr) (I2.hok.laid k1 hp new) (by rw [hg1]; exact I2.bare) (fun b z => absurd z (by simp))
  exact ⟨.ref p', _, I3, rfl, q1 p' ks l hfr hso hlen nd hm' hyl⟩
end Ap

/-! ## D5 -/
set_option Elab.async false
set_option linter.all false
set_option maxRecDepth 100000
set_option maxHeartbeats 4000000
namespace Ap
open PySem PySem.Spec PyProof.Rows L2 Evl PySem.Froz
section
variable {X : Cx}
/-- list(text) -/
def rListT : List V → Hp → VK → Prop := fun xs H Q => ∃ z : Str, xs = [.str z] ∧ z.length ≤ 100000 ∧ ∀ p, H p = none → Q (.ref p) (upd H p (.lst ((z.cps.toList.map sing).map V.str)))
theorem vals_at : ∀ (xs : List V) (us : List Value), us.length = xs.length → (∀ (j : Nat) (u : Value), us[j]? = some u → ∃ x, xs[j]? = some x ∧ RelV x u) → Vals xs us
  | [], [], _, _ => .nil
  | x :: xs, u :: us, hl, h => by
    obtain ⟨y, e1, e2⟩ := h 0 u rfl
    cases e1
    exact .cons e2 (vals_at xs us (by simpa using hl) fun j v e => by
      obtain ⟨y, a, b⟩ := h (j + 1) v (by simpa using e)
      exact ⟨y, by simpa using a, b⟩)
  | [], _ :: _, hl, _ => by simp at hl
  | _ :: _, [], hl, _ => by simp at hl
theorem call_listT (hc : X.calm = true) : CallR X (.type "list") rListT := by
  intro pins s σ H xs us Q I r h
  obtain ⟨z, rfl, hz, q⟩ := h
  obtain ⟨u, rfl, t, rfl⟩ := vals1 r
  have hzs : z.cps.size ≤ sizeLine := Nat.le_trans hz (by rw [sizeLine_eq]; decide)
  refine PySem.call_list_str (I.ok.hd hc) z t (hn := hzs) fun h' tk acc' c' hk hS' hacc => ?_
  have hl : acc'.toList.length = ((z.cps.toList.map sing).map V.str).length := by
    rw [List.length_map, List.length_map, Array.length_toList, Array.length_toList]
    exact hacc.1
  have hv : Vals ((z.cps.toList.map sing).map V.str) acc'.toList := vals_at _ _ hl fun j v e => by
    obtain ⟨c, u, hc, rfl⟩ := hacc.2 j v (by rw [← Array.getElem?_toList]; exact e)
    refine ⟨.str (sing c), ?_, ⟨u, rfl⟩⟩
    rw [List.getElem?_map, List.getElem?_map, Array.getElem?_toList, hc]
    rfl
  have I1 : Inv X pins σ H { s with heap := h', toks := tk } := I.kept hk
  have hlen : ((z.cps.toList.map sing).map V.str).length ≤ sizeLine := by
    rw [List.length_map, List.length_map, Array.length_toList]
    exact hzs
  exact ⟨.ref s.heap.objs.size, _, I.laid (o := .lst ((z.cps.toList.map sing).map V.str)) (t' := tk) hk (Nat.le_refl _) ⟨hlen, acc'.toList, c', hv, by rw [Array.toArray_toList]; exact hS'⟩, rfl, q _ (I.hok.fresh (Nat.le_refl _))⟩
end
section
variable {P : Program} {w : World} {K : PySem.W.Frag} {mg : Str → Option Value} {base : Heap}
def kNum : Str := "number"
def kTim : Str := "times"
def kWrd : Str := "word"
def kLet : Str := "letters"
/-- letters that are refused -/
def BadL (x : Str) : Prop := x = emp ∨ (x.cps.size < 60 ∧ PyData.strOk x = true ∧ ∀ ys l : List Str, sortedS ys = true → ys.length = l.length → l.Nodup → (∀ y ∈ l, y ∈ x.cps.toList.map sing) → x.cps.toList.map sing ≠ ys)
def LookOk (kind z : Str) (r : V ⊕ Er) : Prop :=
  (kind = kNum ∧ ((∃ n : Nat, readNum z 60 = some n ∧ r = .inl (.int (n : Nat))) ∨ (readNum z 60 = none ∧ r = .inr .number))) ∨
  (kind = kTim ∧ (readNum z 60 = none ∨ readNum z 60 = some 0) ∧ r = .inr .number) ∨
  (kind = kWrd ∧ ((∃ x, readWord z = some x ∧ r = .inl (.str x)) ∨ (readWord z = none ∧ r = .inr .word))) ∨
  (kind = kLet ∧ r = .inr .word ∧ (readWord z = none ∨ ∃ x, readWord z = some x ∧ BadL x))
def spLooked (K : PySem.W.Frag) : Sp := fun vs H Q E => ∃ (kind z : Str) (r : V ⊕ Er), vs = [.str kind, .str z] ∧ LookOk kind z r ∧ z.length ≤ 100000 ∧ (∀ v, r = .inl v → ∀ H', Ex H H' → Q v H') ∧ (∀ e, r = .inr e → ∀ H', Ex H H' → E (.ref (ea K e)) none H')
theorem scLooked : FnScope ["kind", "word", "number", "found"] ["kind", "word"] (defScope s_looked) := ⟨rfl, rfl, rfl, by decide +kernel, rfl, by decide +kernel, by decide +kernel⟩
theorem eqv_same (xs : List Str) : PyData.eqvAll ((xs.map V.str).map datS) ((xs.map V.str).map datS) = true := by rw [eqv_strs]; exact decide_eq_true rfl
theorem sing_ok {x : Str} (h : PyData.strOk x = true) : ∀ y ∈ x.cps.toList.map sing, PyData.strOk y = true := fun y hy => by
  obtain ⟨c, hc, rfl⟩ := List.mem_map.mp hy
  have h : (x.cps.all fun c => decide (c < 0x110000)) = true := h
  rw [Array.all_eq_true_iff_forall_mem] at h
  have := h c (Array.mem_toList_iff.mp hc)
  show ((#[c] : Array Nat).all fun c => decide (c < 0x110000)) = true
  simpa using this
theorem ok_looked (T : Tx K mg w) : FnOk P w K mg base (L2.CX P w) 4 (He.fAd K ("looked", none)) (fo K ("looked", none)) ["kind", "word"] (spLooked K) := by
  have G := ok_number_by (P := P) (base := base) T
  have G2 := ok_read_word (P := P) (base := base) T
  have b : Binds K (fo K ("number_by", none)) ["word"] [] := T.h_number_by.bindsN fun _ _ _ _ _ _ us hl => match us, hl with | [_], _ => rfl
  have b2 : Binds K (fo K ("read_word", none)) ["text"] [] := T.h_read_word.bindsN fun _ _ _ _ _ _ us hl => match us, hl with | [_], _ => rfl
  refine T.h_looked.ok scLooked (fun vs H Q E h => ?_) (fun cdv A outer s H vs Q E hr h => ?_)
  · obtain ⟨kind, z, r, rfl, _⟩ := h
    rfl
  · obtain ⟨kind, z, r, rfl, hL, hz, k1, k2⟩ := h
    refine ⟨_, pss_cons (ps_if (pt_cmpR op_in_seq (pv 0) (pe_tup (pa_cons pe_str (pa_cons pe_str pa_nil))) (by rfl))
        (pss_cons (ps_set (i := 2) scLooked.nd rfl (Or.inl rfl) (pe_call (E := E) G (hr.mono (by decide)) (by rfl) T.g_number_by T.h_number_by.kp b .nil (passes_call (takes_of rfl rfl rfl rfl) fun _ _ _ _ h => h) (pa_cons (pv 1) pa_nil)))
        (pss_cons (ps_if (PW.pt (pw_and (pt_cmpR op_eq (pv 0) pe_str (nomark _)) (pw_and1 (pt_cmpR op_eq (pv 2) pe_int (nomark _))))) (pss_one (ps_raise rfl (takes_of rfl rfl rfl rfl) (pmk_er .number T rfl rfl))) pss_nil)
        (pss_one (ps_ret (pv 2))))) pss_nil)
      (pss_cons (ps_set (i := 3) scLooked.nd rfl (Or.inl rfl) (pe_call G2 (hr.mono (by decide)) (by rfl) T.g_read_word T.h_read_word.kp b2 .nil pass0 (pa_cons (pv 1) pa_nil)))
      (pss_cons (ps_if (pt_cmp (pc_isN (pv 3))) (pss_one (ps_raise rfl (takes_of rfl rfl rfl rfl) (pmk_er .word T rfl rfl))) pss_nil)
      (pss_cons (ps_if (PW.pt (pw_and (pt_cmpR op_eq (pv 0) pe_str (nomark _)) (pw_and1 (PW.pt (pw_or (pt_cmpR op_eq (pv 3) pe_str (nomark _)) (pw_or1 (pt_cmpR (op_neD hr.units) (pe_callTy (call_listT rfl) (by rfl) T.f_list b_list (pa_cons (pv 3) pa_nil)) (pe_sortSet (by rfl) T.f_sorted (by rfl) T.f_set (pv 3)) (nomark _))))))))
        (pss_one (ps_raise rfl (takes_of rfl rfl rfl rfl) (pmk_er .word T rfl rfl))) pss_nil)
      (pss_one (ps_ret (pv 3)))))), ?_⟩
    -- read_word, for the last two kinds
    rcases hL with ⟨rfl, hL⟩ | ⟨rfl, hL, rfl⟩ | ⟨rfl, hL⟩ | ⟨rfl, rfl, hL⟩
    · refine q_if (b := true) (et_is (et_test (ev_inU (ev_var rfl) (eu_tup (ea_cons ev_c (ea_cons ev_c ea_nil)) (by show 2 ≤ 100000; decide)) rfl rfl)) (by decide +kernel)) (fun _ H1 e1 => ?_) (fun hb => nomatch hb)
      rcases hL with ⟨n, hn, rfl⟩ | ⟨hn, rfl⟩
      · refine q_asg (v := .int (n : Nat)) (ev_callE (ea_cons (ev_var rfl) ea_nil) fun H2 e2 Q' q' => ⟨z, rfl, hz, (fun m hm => by rw [hn] at hm; cases hm; exact q'), (fun hm => by rw [hn] at hm; cases hm)⟩) fun H2 e2 => ?_
        refine q_when (b := false && decide (V.int (n : Nat) = V.int 0)) (et_and (et_is (et_test (ev_op (ev_var rfl) ev_c (rv_eq rfl))) (by decide +kernel)) fun h => nomatch h) (fun hb => nomatch hb) fun _ H3 e3 => ?_
        exact s_ret (ev_var rfl) fun H4 e4 => k1 _ rfl H4 (e1.trans (e2.trans (e3.trans e4)))
      · exact ⟨_, rfl, z, rfl, hz, (fun m hm => by rw [hn] at hm; cases hm), fun _ H2 e2 => k2 _ rfl H2 (e1.trans e2)⟩
    · refine q_if (b := true) (et_is (et_test (ev_inU (ev_var rfl) (eu_tup (ea_cons ev_c (ea_cons ev_c ea_nil)) (by show 2 ≤ 100000; decide)) rfl rfl)) (by decide +kernel)) (fun _ H1 e1 => ?_) (fun hb => nomatch hb)
      rcases hL with hn | hn
      · exact ⟨_, rfl, z, rfl, hz, (fun m hm => by rw [hn] at hm; cases hm), fun _ H2 e2 => k2 _ rfl H2 (e1.trans e2)⟩
      · refine q_asg (v := .int ((0 : Nat) : Int)) (ev_callE (ea_cons (ev_var rfl) ea_nil) fun H2 e2 Q' q' => ⟨z, rfl, hz, (fun m hm => by rw [hn] at hm; cases hm; exact q'), (fun hm => by rw [hn] at hm; cases hm)⟩) fun H2 e2 => ?_
        refine q_when (b := true && true) (et_and (et_is (et_test (ev_op (ev_var rfl) ev_c (rv_eq rfl))) (by decide +kernel)) fun _ => et_is (et_test (ev_op (ev_var rfl) ev_c (rv_eq rfl))) (by decide +kernel)) (fun _ H3 e3 => ?_) fun hb => nomatch hb
        exact k2 _ rfl H3 (e1.trans (e2.trans e3))
    · refine q_when (b := false) (et_is (et_test (ev_inU (ev_var rfl) (eu_tup (ea_cons ev_c (ea_cons ev_c ea_nil)) (by show 2 ≤ 100000; decide)) rfl rfl)) (by decide +kernel)) (fun hb => nomatch hb) (fun _ H1 e1 => ?_)
      refine q_asg (v := oS (readWord z)) (ev_callE (ea_cons (ev_var rfl) ea_nil) fun H2 e2 Q' q' => ⟨z, rfl, Nat.le_trans hz (by decide), q'⟩) fun H2 e2 => ?_
      refine q_when (b := (readWord z).isNone) (et_is (et_B (ev_isN (ev_var rfl))) (oS_non _)) (fun hb H3 e3 => ?_) (fun hb H3 e3 => ?_)
      · rcases hL with ⟨x, hx, _⟩ | ⟨hn, rfl⟩
        · rw [hx] at hb; cases hb
        · exact k2 _ rfl H3 (e1.trans (e2.trans e3))
      · rcases hL with ⟨x, hx, rfl⟩ | ⟨hn, _⟩
        · refine q_when (b := false && false) (et_and (et_is (et_test (ev_op (ev_var rfl) ev_c (rv_eq rfl))) (by decide +kernel)) fun h => nomatch h) (fun hb => nomatch hb) fun _ H4 e4 => ?_
          refine s_ret (v := .str x) (ev_is (ev_var rfl) (by rw [hx]; rfl)) fun H5 e5 => k1 _ rfl H5 (e1.trans (e2.trans (e3.trans (e4.trans e5))))
        · rw [hn] at hb; cases hb
    · refine q_when (b := false) (et_is (et_test (ev_inU (ev_var rfl) (eu_tup (ea_cons ev_c (ea_cons ev_c ea_nil)) (by show 2 ≤ 100000; decide)) rfl rfl)) (by decide +kernel)) (fun hb => nomatch hb) (fun _ H1 e1 => ?_)
      refine q_asg (v := oS (readWord z)) (ev_callE (ea_cons (ev_var rfl) ea_nil) fun H2 e2 Q' q' => ⟨z, rfl, Nat.le_trans hz (by decide), q'⟩) fun H2 e2 => ?_
      refine q_when (b := (readWord z).isNone) (et_is (et_B (ev_isN (ev_var rfl))) (oS_non _)) (fun hb H3 e3 => ?_) (fun hb H3 e3 => ?_)
      · exact k2 _ rfl H3 (e1.trans (e2.trans e3))
      · rcases hL with hn | ⟨x, hx, hbad⟩
        · rw [hn] at hb; cases hb
        have hv : ∀ {H4 : Hp}, Ev (tVar 3) [some (V.str kLet), some (V.str z), none, some (oS (readWord z))] H4 (.str x) := ev_is (ev_var rfl) (by rw [hx]; rfl)
        have e03 := e1.trans (e2.trans e3)
        refine q_when (b := true && (decide (x = emp) || (!decide (x = emp)))) (et_and (et_is (et_test (ev_op (ev_var rfl) ev_c (rv_eq rfl))) (by decide +kernel)) fun _ => et_or (et_eqS (b := emp) hv ev_c) fun hne => ?_) (fun _ H4 e4 => k2 _ rfl H4 (e03.trans e4)) fun hb => by
          cases hd : decide (x = emp) <;> rw [hd] at hb <;> cases hb
        rw [hne]
        show EvT _ _ _ true
        obtain hbad | ⟨h60, hok, hbad⟩ := hbad
        · exact absurd hbad (of_decide_eq_false hne)
        intro H4 e4 Q' q'
        refine hv H4 (Ex.refl _) _ fun H5 e5 => ⟨x, rfl, Nat.le_of_lt (Nat.lt_trans h60 (by decide)), fun p1 hp1 => ?_⟩
        refine hv _ (Ex.refl _) _ fun H6 e6 => ⟨x, rfl, h60, fun p2 ys l hp2 hso hle hnd hmm hyl => ?_⟩
        have hsb : ((x.cps.toList.map sing).map V.str).all sb = true := strs_sb (sing_ok hok)
        have hsb2 : (ys.map V.str).all sb = true := strs_sb fun y hy => sing_ok hok y (hmm y (hyl y hy))
        have h1 : upd H6 p2 (.lst (ys.map V.str)) p1 = some (.lst ((x.cps.toList.map sing).map V.str)) := by
          have q1 : H6 p1 = some (.lst ((x.cps.toList.map sing).map V.str)) := e6 _ _ upd_same
          rw [upd_ne (ne_of_none q1 hp2)]
          exact q1
        have hne2 : PyData.eqvAll (((x.cps.toList.map sing).map V.str).map datS) ((ys.map V.str).map datS) = false := by
          rw [eqv_strs]
          exact decide_eq_false (hbad ys l hso hle hnd hmm)
        refine ⟨.list (((x.cps.toList.map sing).map V.str).map datS), .list ((ys.map V.str).map datS), .lst (SqL.of h1) (dat_dp hsb), .lst (SqL.of upd_same) (dat_dp hsb2), dat_shaped hsb, dat_shaped hsb2, true, ?_, q' _ ?_⟩
        · show V.bl (!PyData.eqvAll (((x.cps.toList.map sing).map V.str).map datS) ((ys.map V.str).map datS)) = V.bl true
          rw [hne2]
          rfl
        · exact e5.trans ((Ex.new hp1).trans (e6.trans (Ex.new hp2)))
end
end Ap

/-! ## D6 -/
set_option Elab.async false
set_option linter.all false
set_option maxRecDepth 100000
set_option maxHeartbeats 4000000
namespace Ap
open PySem PySem.Spec PyProof.Rows L2 Evl
/-- a known object outside the machine changes -/
theorem Rep.outer {K : PySem.W.Frag} {B H : Hp} {m : Addr} {S : MS} (r : Rep K B H m S) {p : Addr} (hp : B p ≠ none) (o : HO) : Rep K (upd B p o) (upd H p o) m S := by
  obtain ⟨L, r⟩ := r
  have ne : ∀ {a : Addr}, B a = none → a ≠ p := fun {a} h z => hp (by rw [← z]; exact h)
  refine ⟨L, fun a u h => ?_, ?_, ?_, ?_, ?_, r.len, fun i x k a b => ?_, r.d1, r.d2, r.d3, r.inj, ?_, ?_, ?_, ?_, fun i x h => ?_⟩
  · by_cases z : a = p
    · subst z
      rw [upd_same] at h ⊢
      exact h
    · rw [upd_ne z] at h ⊢
      exact r.ex _ _ h
  · rw [upd_ne (ne r.nm)]; exact r.hm
  · rw [upd_ne (ne r.nt)]; exact r.ht
  · rw [upd_ne (ne r.nk)]; exact r.hk
  · rw [upd_ne (ne r.na)]; exact r.ha
  · obtain ⟨n1, n2⟩ := r.ns i x a
    rw [upd_ne (ne n1), upd_ne (ne n2)]
    exact r.kn i x k a b
  · rw [upd_ne (ne r.nm)]; exact r.nm
  · rw [upd_ne (ne r.nt)]; exact r.nt
  · rw [upd_ne (ne r.nk)]; exact r.nk
  · rw [upd_ne (ne r.na)]; exact r.na
  · obtain ⟨n1, n2⟩ := r.ns i x h
    rw [upd_ne (ne n1), upd_ne (ne n2)]
    exact ⟨n1, n2⟩
/-- a desk and its machine; the base knows the desk -/
def DRep (K : PySem.W.Frag) (B H : Hp) (d : Addr) (S : MS) : Prop := ∃ m dd, B d = some (.ins (He.ga K "Desk") dd [("machine", .ref m)]) ∧ Rep K B H m S
theorem DRep.stay {K : PySem.W.Frag} {B H H1 : Hp} {d : Addr} {S : MS} (r : DRep K B H d S) (e : Ex H H1) : DRep K B H1 d S := let ⟨m, dd, h, q⟩ := r; ⟨m, dd, h, q.stay e⟩
theorem DRep.ex {K : PySem.W.Frag} {B H : Hp} {d : Addr} {S : MS} (r : DRep K B H d S) : Ex B H := let ⟨m, dd, h, L, q⟩ := r; q.ex
section
variable {P : Program} {w : World} {K : PySem.W.Frag} {mg : Str → Option Value} {base : Heap}
/-! ### parted.parted, shared.shared: refused -/
def spParted (K : PySem.W.Frag) : Sp := fun vs H Q E => ∃ (b a : Addr) (xs : List V) (i j : Nat), vs = [.ref b, .ref a, .int (i : Nat), .int (j : Nat)] ∧ SqL K H a xs ∧ (xs.length ≤ i ∨ xs.length ≤ j) ∧ ∀ H', Ex H H' → E (.ref (ea K .stand)) none H'
theorem scParted : FnScope ["book", "table", "one", "other", "told", "here", "there", "found"] ["book", "table", "one", "other"] (defScope s_parted) := ⟨rfl, rfl, rfl, by decide +kernel, rfl, by decide +kernel, by decide +kernel⟩
theorem ok_parted (T : Tx K mg w) : FnOk P w K mg base (L2.CX P w) 2 (He.fAd K ("parted", none)) (fo K ("parted", none)) ["book", "table", "one", "other"] (spParted K) := by
  have G := ok_ask (P := P) (base := base) T
  have b : Binds K (fo K ("ask_stand", none)) ["table", "stand"] [] := T.h_ask_stand.bindsN fun _ _ _ _ _ _ us hl => match us, hl with | [_, _], _ => rfl
  refine T.h_parted.ok scParted (fun vs H Q E h => ?_) (fun cdv A outer s H vs Q E hr h => ?_)
  · obtain ⟨b, a, xs, i, j, rfl, _⟩ := h
    rfl
  · obtain ⟨b0, a, xs, i, j, rfl, hS, hij, k⟩ := h
    refine ⟨_, pss_cons (ps_expr (pe_call (E := E) G hr (by rfl) T.g_ask_stand T.h_ask_stand.kp b .nil (passes_call (takes_of rfl rfl rfl rfl) fun _ _ _ _ h => h) (pa_cons (pv 1) (pa_cons (pv 2) pa_nil))))
      (pss_cons (ps_expr (pe_call (E := E) G hr (by rfl) T.g_ask_stand T.h_ask_stand.kp b .nil (passes_call (takes_of rfl rfl rfl rfl) fun _ _ _ _ h => h) (pa_cons (pv 1) (pa_cons (pv 3) pa_nil)))) pss_never), ?_⟩
    refine ⟨_, rfl, _, rfl, a, xs, i, rfl, hS, fun hlt H1 e1 => ?_, fun _ => k⟩
    exact ⟨_, rfl, _, rfl, a, xs, j, rfl, ex_l e1 hS, fun h2 => absurd hij (by omega), fun _ H2 e2 => k H2 (e1.trans e2)⟩
def spShared (K : PySem.W.Frag) : Sp := fun vs H Q E => ∃ (b a : Addr) (xs : List V) (ns : List Nat), vs = [.ref b, .ref a] ∧ SqL K H b xs ∧ SqL K H a (natL ns) ∧ (∃ n ∈ ns, xs.length ≤ n) ∧ ∀ H', Ex H H' → E (.ref (ea K .text)) none H'
theorem scShared : FnScope ["book", "some", "number", "table", "told", "stands", "stand", "found"] ["book", "some"] (defScope s_shared) := ⟨rfl, rfl, rfl, by decide +kernel, rfl, by decide +kernel, by decide +kernel⟩
theorem ok_shared (T : Tx K mg w) : FnOk P w K mg base (L2.CX P w) 1 (He.fAd K ("shared", none)) (fo K ("shared", none)) ["book", "some"] (spShared K) := by
  refine T.h_shared.ok scShared (fun vs H Q E h => ?_) (fun cdv A outer s H vs Q E hr h => ?_)
  · obtain ⟨b, a, xs, ns, rfl, _⟩ := h
    rfl
  · obtain ⟨b0, a, xs, ns, rfl, hS, hN, hbad, k⟩ := h
    refine ⟨_, pss_cons (ps_for (passes_of rfl) rfl (pi_list (pv 1)) (pg_name (i := 2) scShared.nd rfl (Or.inl rfl))
        (pss_one (ps_if (PW.pt (pw_or (pt_not (pt_val (pe_callB call_isi (by rfl) T.f_isinstance b_isinstance (pa_cons (pv 2) (pa_cons (pe_bltn (v := .ty "int") (by rfl) T.f_int b_int rfl) pa_nil)))))
          (pw_or (pt_val (pe_callB call_isi (by rfl) T.f_isinstance b_isinstance (pa_cons (pv 2) (pa_cons (pe_bltn (v := .ty "bool") (by rfl) T.f_bool b_bool rfl) pa_nil))))
          (pw_or1 (pt_not (pt_chain op_le op_lt pe_int (pv 2) (pe_callB call_len_seq (by rfl) T.f_len b_len (pa_cons (pv 0) pa_nil))))))))
          (pss_one (ps_raise rfl (takes_of rfl rfl rfl rfl) (pmk_er .text T rfl rfl))) pss_nil))) pss_never, ?_⟩
    refine q_forLn (ev_var rfl) hN (fun i σ' H' => Ex H H' ∧ (∃ x, σ' = [some (.ref b0), some (.ref a), x, none, none, none, none, none]) ∧ ∀ j n, j < i → ns[j]? = some n → n < xs.length) (fun H1 e1 => ⟨e1, ⟨_, rfl⟩, fun j n hj => absurd hj (Nat.not_lt_zero _)⟩) (fun i σ' H' _ p => ex_l p.1 hN) ?_ ?_
    · rintro i x σ' H' hx ⟨e1, ⟨x0, rfl⟩, hd⟩
      unfold natL at hx
      rw [List.getElem?_map] at hx
      cases hn : ns[i]? with
      | none => rw [hn] at hx; cases hx
      | some n =>
        rw [hn] at hx
        cases hx
        have h0 : decide ((0 : Int) ≤ (n : Int)) = true := decide_eq_true (Int.natCast_nonneg n)
        refine s_when (et_ask (b := decide ((n : Int) < (xs.length : Int))) (et_B (ev_isi (ev_var rfl) ev_c (.ty "int") (fun _ _ => .base (.int _)) (kit_ty (by decide +kernel)))) (et_B (ev_isi (ev_var rfl) ev_c (.ty "bool") (fun _ _ => .base (.int _)) (kit_ty (by decide +kernel))))
          (et_is (et_test (ev_chain ev_c (ev_var rfl) (rv_I0 (g := fun i j => .bl (decide (i ≤ j)))) (fun _ => ev_len (ev_var rfl) (ex_l e1 hS)) (fun _ => rv_I0))) (by rw [h0]; exact Bool.true_and _))) (fun hb H2 e2 => ?_) (fun hb H2 e2 => ?_)
        · exact k H2 (e1.trans e2)
        · refine ⟨e1.trans e2, ⟨_, rfl⟩, fun j m hj hm => ?_⟩
          by_cases z : j = i
          · subst z
            rw [hn] at hm
            cases hm
            simp at hb
            omega
          · exact hd j m (by omega) hm
    · rintro σ' H' ⟨_, _, hd⟩
      obtain ⟨n, hn, hl⟩ := hbad
      obtain ⟨j, hj⟩ := List.getElem?_of_mem hn
      have := hd j n (by unfold natL; rw [List.length_map]; exact (List.getElem?_eq_some_iff.mp hj).1) hj
      omega
/-! ### Desk.__init__ -/
def spDesk (K : PySem.W.Frag) : Sp := fun vs H Q _ => ∃ (H0 : Hp) (d dd : Addr), vs = [.ref d] ∧ H d = some (.ins (He.ga K "Desk") dd []) ∧ Ex H0 H ∧ H0 d = none ∧ ∀ B H', Ex H0 B → DRep K B H' d S0 → Q .non H'
theorem scDesk : FnScope ["self"] ["self"] (defScope s_Desk_init) := ⟨rfl, rfl, rfl, by decide +kernel, rfl, by decide +kernel, by decide +kernel⟩
theorem ok_desk (T : Tx K mg w) : FnOk P w K mg base CX0 5 (He.fAd K ("Desk", some "__init__")) (fo K ("Desk", some "__init__")) ["self"] (spDesk K) := by
  have G := ok_mach (P := P) (base := base) T
  obtain ⟨ds, hds, b⟩ := T.h_Machine_init.binds1 (ps := ["self", "book"]) 1 0 (fun h => nomatch h) rfl fun T kV doc pm an cdv ct us its hu hi => match us, its, hu, hi with | [_], [_], _, _ => ⟨_, rfl, rfl⟩
  refine T.h_Desk_init.ok scDesk (fun vs H Q E h => ?_) (fun cdv A outer s H vs Q E hr h => ?_)
  · obtain ⟨H0, d, dd, rfl, _⟩ := h
    rfl
  · obtain ⟨H0, d, dd, rfl, hd, e0, n0, q⟩ := h
    refine ⟨_, PSs.nox (pss_one (ps_fld (pv 0) (pe_make0 T.m_Machine G hr (by rfl) T.g_Machine b hds pass0) rfl)), ?_⟩
    intro x dx hx hdx ne
    have e1 : Ex H (upd (upd H dx (.own x)) x (.ins (He.ga K "Machine") dx [])) := (Ex.new hdx).trans (Ex.new (by rw [upd_ne ne.symm]; exact hx))
    refine ⟨H, x, dx, rfl, upd_same, e1, hx, fun H2 r => ⟨rfl, ?_⟩⟩
    have hd2 : H2 d = some (.ins (He.ga K "Desk") dd []) := by
      obtain ⟨L, r⟩ := r
      exact r.ex _ _ hd
    refine ⟨_, rfl, d, _, dd, [], rfl, hd2, T.c_Desk, T.n_Desk_machine, (by show 0 < 1000; decide), ?_⟩
    refine q (upd H d (.ins (He.ga K "Desk") dd [("machine", .ref x)])) _ (e0.mut n0) ⟨x, dd, upd_same, r.outer (by rw [hd]; exact fun z => nomatch z) _⟩
/-! ### Desk.alone -/
theorem b_self (T : Tx K mg w) : Binds K (fo K ("Machine", some "begin")) ["self"] [] ∧ Binds K (fo K ("Machine", some "book")) ["self"] [] ∧ Binds K (fo K ("Machine", some "table")) ["self"] [] :=
  ⟨T.h_Machine_begin.bindsN fun _ _ _ _ _ _ us hl => match us, hl with | [_], _ => rfl, T.h_Machine_book.bindsN fun _ _ _ _ _ _ us hl => match us, hl with | [_], _ => rfl, T.h_Machine_table.bindsN fun _ _ _ _ _ _ us hl => match us, hl with | [_], _ => rfl⟩
def nBegin : Str := "begin"
def nBook : Str := "book"
def nTable : Str := "table"
def nGrow : Str := "grow"
def nWords : Str := "words"
def nParted : Str := "parted"
def afterBegin (S : MS) : MS := { S with texts := S.texts ++ [emp], ats := S.ats ++ [0] }
def spAlone (K : PySem.W.Frag) : Sp := fun vs H Q E => ∃ (B : Hp) (d : Addr) (S : MS) (name : Str), vs = [.ref d, .str name] ∧ DRep K B H d S ∧ Good S ∧
  ((name = nBegin ∧ (S.texts.length = 8 → ∀ H', Ex H H' → E (.ref (ea K .many)) none H') ∧ (S.texts.length < 8 → ∀ H', DRep K B H' d (afterBegin S) → Q (.str (numS S.texts.length)) H')) ∨
  (name = nBook ∧ ∀ H', Ex H H' → Q (.str (showWords S.texts)) H') ∨ (name = nTable ∧ ∀ H', Ex H H' → Q (.str (showTab (tabS S.knots))) H'))
theorem scAlone : FnScope ["self", "name", "told"] ["self", "name"] (defScope s_Desk_alone) := ⟨rfl, rfl, rfl, by decide +kernel, rfl, by decide +kernel, by decide +kernel⟩
theorem ok_alone (T : Tx K mg w) : FnOk P w K mg base (L2.CX P w) 4 (He.fAd K ("Desk", some "alone")) (fo K ("Desk", some "alone")) ["self", "name"] (spAlone K) := by
  obtain ⟨b1, b2, b3⟩ := b_self T
  have G1 := ok_begin (P := P) (base := base) T
  have G2 := ok_book (P := P) (base := base) T
  have G3 := ok_tab (P := P) (base := base) T
  have G4 := ok_show_book (P := P) (base := base) T
  have G5 := ok_show_table (P := P) (base := base) T
  have b4 : Binds K (fo K ("show_book", none)) ["book"] [] := T.h_show_book.bindsN fun _ _ _ _ _ _ us hl => match us, hl with | [_], _ => rfl
  have b5 : Binds K (fo K ("show_table", none)) ["table"] [] := T.h_show_table.bindsN fun _ _ _ _ _ _ us hl => match us, hl with | [_], _ => rfl
  refine T.h_Desk_alone.ok scAlone (fun vs H Q E h => ?_) (fun cdv A outer s H vs Q E hr h => ?_)
  · obtain ⟨B, d, S, name, rfl, _⟩ := h
    rfl
  · obtain ⟨B, d, S, name, rfl, ⟨m, dd, hd0, ⟨L, r⟩⟩, g, hN⟩ := h
    refine ⟨_, pss_cons (ps_if (pt_cmpR op_eq (pv 1) pe_str (nomark _)) (pss_one (ps_ret (pe_callTy call_str_int (by rfl) T.f_str b_str (pa_cons (pe_meth0 (E := E) (pe_fld (pv 0) rfl) T.c_Machine T.t_Machine_begin G1 (hr.mono (by decide)) b1 .nil (passes_call (takes_of rfl rfl rfl rfl) fun _ _ _ _ h => h)) pa_nil)))) pss_nil)
      (pss_cons (ps_if (pt_cmpR op_eq (pv 1) pe_str (nomark _)) (pss_one (ps_ret (pe_call G4 (hr.mono (by decide)) (by rfl) T.g_show_book T.h_show_book.kp b4 .nil pass0 (pa_cons (pe_meth0 (pe_fld (pv 0) rfl) T.c_Machine T.t_Machine_book G2 (hr.mono (by decide)) b2 .nil pass0) pa_nil)))) pss_nil)
      (pss_cons (ps_if (pt_cmpR op_eq (pv 1) pe_str (nomark _)) pss_never pss_nil)
      (pss_cons (ps_if (pt_cmpR op_eq (pv 1) pe_str (nomark _)) (pss_one (ps_ret (pe_call G5 (hr.mono (by decide)) (by rfl) T.g_show_table T.h_show_table.kp b5 .nil pass0 (pa_cons (pe_meth0 (pe_fld (pv 0) rfl) T.c_Machine T.t_Machine_table G3 (hr.mono (by decide)) b3 .nil pass0) pa_nil)))) pss_nil) pss_never))), ?_⟩
    have hd : H d = some (.ins (He.ga K "Desk") dd [("machine", .ref m)]) := r.ex _ _ hd0
    have hsm := g.small
    rcases hN with ⟨rfl, k1, k2⟩ | ⟨rfl, k⟩ | ⟨rfl, k⟩
    · refine q_when (b := true) (et_is (et_eqS (b := nBegin) (ev_var rfl) ev_c) (by decide +kernel)) (fun _ H1 e1 => ?_) (fun hb => nomatch hb)
      have r1 := r.stay e1
      refine ⟨_, rfl, d, _, dd, _, _, rfl, e1 _ _ hd, T.c_Desk, T.n_Desk_machine, rfl, m, _, _, rfl, r1.hm, rfl, B, m, S, rfl, ⟨L, r1⟩, g.few, by rw [g.at_]; exact g.few, fun h8 H2 e2 => k1 h8 H2 (e1.trans e2), fun h8 H2 r2 => ?_⟩
      exact ⟨_, rfl, log_nat (Nat.lt_of_le_of_lt g.few (by decide)), k2 h8 H2 ⟨m, dd, hd0, r2⟩⟩
    · refine q_when (b := false) (et_is (et_eqS (b := nBegin) (ev_var rfl) ev_c) (by decide +kernel)) (fun hb => nomatch hb) (fun _ H1 e1 => ?_)
      refine q_when (b := true) (et_is (et_eqS (b := nBook) (ev_var rfl) ev_c) (by decide +kernel)) (fun _ H2 e2 => ?_) (fun hb => nomatch hb)
      have e02 := e1.trans e2
      have r1 := r.stay e02
      refine ⟨_, rfl, d, _, dd, _, _, rfl, e02 _ _ hd, T.c_Desk, T.n_Desk_machine, rfl, m, _, _, rfl, r1.hm, rfl, B, m, S, rfl, ⟨L, r1⟩, fun p H3 hp e3 h3 => ?_⟩
      exact ⟨p, S.texts, rfl, SqL.of h3, by have := g.few; omega, by omega, g.chars, fun H4 e4 => k H4 (e02.trans (e3.trans e4))⟩
    · refine q_when (b := false) (et_is (et_eqS (b := nBegin) (ev_var rfl) ev_c) (by decide +kernel)) (fun hb => nomatch hb) (fun _ H1 e1 => ?_)
      refine q_when (b := false) (et_is (et_eqS (b := nBook) (ev_var rfl) ev_c) (by decide +kernel)) (fun hb => nomatch hb) (fun _ H2 e2 => ?_)
      refine q_when (b := false) (et_is (et_test (ev_op (ev_var rfl) ev_c (rv_eq rfl))) (by decide +kernel)) (fun hb => nomatch hb) (fun _ H3 e3 => ?_)
      refine q_when (b := true) (et_is (et_eqS (b := nTable) (ev_var rfl) ev_c) (by decide +kernel)) (fun _ H4 e4 => ?_) (fun hb => nomatch hb)
      have e04 := ((e1.trans e2).trans e3).trans e4
      have r1 := r.stay e04
      refine ⟨_, rfl, d, _, dd, _, _, rfl, e04 _ _ hd, T.c_Desk, T.n_Desk_machine, rfl, m, _, _, rfl, r1.hm, rfl, B, m, S, rfl, ⟨L, r1⟩, g, fun p xs H5 hp e5 h5 hxs => ?_⟩
      obtain ⟨a1, a2⟩ := g.rows
      exact ⟨p, xs, tabS S.knots, rfl, SqL.of h5, hxs, a1, a2, fun H6 e6 => k H6 (e04.trans (e5.trans e6))⟩
end
end Ap

/-! ## D7 -/
set_option Elab.async false
set_option linter.all false
set_option maxRecDepth 100000
set_option maxHeartbeats 4000000
namespace Ap
open PySem PySem.Spec PyProof.Rows L2 Evl
section
variable {P : Program} {w : World} {K : PySem.W.Frag} {mg : Str → Option Value} {base : Heap}
theorem b_grow (T : Tx K mg w) : Binds K (fo K ("Machine", some "grow")) ["self", "text", "word"] [] := T.h_Machine_grow.bindsN fun _ _ _ _ _ _ us hl => match us, hl with | [_, _, _], _ => rfl
/-! ### Desk.of_numbers -/
/-- what grow answers -/
def GrowEnd (K : PySem.W.Frag) (B H : Hp) (d : Addr) (S : MS) (i : Nat) (z : Str) (Q : VK) (E : XK) : Prop :=
  (S.texts.length ≤ i → ∀ H', Ex H H' → E (.ref (ea K .text)) none H') ∧ (i < S.texts.length → 120 < total S.texts + z.length → ∀ H', Ex H H' → E (.ref (ea K .many)) none H') ∧
  (∀ t, S.texts[i]? = some t → 120 < total S.texts + z.length ∨ (total S.texts + z.length ≤ 62 ∧ ∀ H' S', DRep K B H' d S' → Good S' → S'.texts = S.texts.set i (t ++ z) → Q (.str "ok") H'))
theorem GrowEnd.stay {K : PySem.W.Frag} {B H H1 : Hp} {d : Addr} {S : MS} {i : Nat} {z : Str} {Q : VK} {E : XK} (g : GrowEnd K B H d S i z Q E) (e : Ex H H1) : GrowEnd K B H1 d S i z Q E :=
  ⟨fun h H' e' => g.1 h H' (e.trans e'), fun h1 h2 H' e' => g.2.1 h1 h2 H' (e.trans e'), g.2.2⟩
def spNums (K : PySem.W.Frag) : Sp := fun vs H Q E => ∃ (B : Hp) (d f : Addr) (S : MS) (name : Str), vs = [.ref d, .str name, .ref f] ∧ DRep K B H d S ∧ Good S ∧
  ((name = nGrow ∧ ∃ (i : Nat) (z : Str), SqL K H f [.int (i : Nat), .str z] ∧ z.length ≤ 1000 ∧ PyData.strOk z = true ∧ GrowEnd K B H d S i z Q E) ∨
  (name = nWords ∧ ∃ (i : Nat), SqL K H f [.int (i : Nat)] ∧ 125 < i ∧ ∀ H', Ex H H' → E (.ref (ea K .stand)) none H') ∨
  (name = nParted ∧ ∃ (i j : Nat), SqL K H f [.int (i : Nat), .int (j : Nat)] ∧ (125 < i ∨ 125 < j) ∧ ∀ H', Ex H H' → E (.ref (ea K .stand)) none H'))
theorem scNums : FnScope ["self", "name", "found", "book", "table", "told"] ["self", "name", "found"] (defScope s_Desk_of_numbers) := ⟨rfl, rfl, rfl, by decide +kernel, rfl, by decide +kernel, by decide +kernel⟩
theorem ok_nums (T : Tx K mg w) : FnOk P w K mg base (L2.CX P w) 6 (He.fAd K ("Desk", some "of_numbers")) (fo K ("Desk", some "of_numbers")) ["self", "name", "found"] (spNums K) := by
  obtain ⟨b1, b2, b3⟩ := b_self T
  have G1 := ok_grow (P := P) (base := base) T
  have G2 := ok_book (P := P) (base := base) T
  have G3 := ok_tab (P := P) (base := base) T
  have G4 := ok_words (P := P) (base := base) T
  have G5 := ok_parted (P := P) (base := base) T
  have G6 := ok_show_words (P := P) (base := base) T
  have b4 : Binds K (fo K ("words", none)) ["table", "stand"] [] := T.h_words.bindsN fun _ _ _ _ _ _ us hl => match us, hl with | [_, _], _ => rfl
  have b5 : Binds K (fo K ("parted", none)) ["book", "table", "one", "other"] [] := T.h_parted.bindsN fun _ _ _ _ _ _ us hl => match us, hl with | [_, _, _, _], _ => rfl
  have b6 : Binds K (fo K ("show_words", none)) ["words"] [] := T.h_show_words.bindsN fun _ _ _ _ _ _ us hl => match us, hl with | [_], _ => rfl
  refine T.h_Desk_of_numbers.ok scNums (fun vs H Q E h => ?_) (fun cdv A outer s H vs Q E hr h => ?_)
  · obtain ⟨B, d, f, S, name, rfl, _⟩ := h
    rfl
  · obtain ⟨B, d, f, S, name, rfl, ⟨m, dd, hd0, ⟨L, r⟩⟩, g, hN⟩ := h
    refine ⟨_, pss_cons (ps_set (i := 3) scNums.nd rfl (Or.inl rfl) (pe_meth0 (pe_fld (pv 0) rfl) T.c_Machine T.t_Machine_book G2 (hr.mono (by decide)) b2 .nil pass0))
      (pss_cons (ps_set (i := 4) scNums.nd rfl (Or.inl rfl) (pe_meth0 (pe_fld (pv 0) rfl) T.c_Machine T.t_Machine_table G3 (hr.mono (by decide)) b3 .nil pass0))
      (pss_cons (ps_if (pt_cmpR op_eq (pv 1) pe_str (nomark _)) (pss_cons (ps_expr (pe_meth (E := E) (pe_fld (pv 0) rfl) T.c_Machine T.t_Machine_grow G1 (hr.mono (by decide)) (b_grow T) .nil (passes_call (takes_of rfl rfl rfl rfl) fun _ _ _ _ h => h)
          (pa_cons (pe_ix ix_list (pv 2) pe_int (fun _ _ => rfl)) (pa_cons (pe_ix ix_list (pv 2) pe_int (fun _ _ => rfl)) pa_nil)))) (pss_one (ps_ret pe_str))) pss_nil)
      (pss_cons (ps_if (pt_cmpR op_eq (pv 1) pe_str (nomark _)) (pss_one (ps_ret (pe_call G6 (hr.mono (by decide)) (by rfl) T.g_show_words T.h_show_words.kp b6 .nil pass0 (pa_cons (pe_call (E := E) G4 (hr.mono (by decide)) (by rfl) T.g_words T.h_words.kp b4 .nil (passes_call (takes_of rfl rfl rfl rfl) fun _ _ _ _ h => h)
          (pa_cons (pv 4) (pa_cons (pe_ix ix_list (pv 2) pe_int (fun _ _ => rfl)) pa_nil))) pa_nil)))) pss_nil)
      (pss_cons (ps_if (pt_cmpR op_eq (pv 1) pe_str (nomark _)) pss_never pss_nil)
      (pss_cons (ps_if (pt_cmpR op_eq (pv 1) pe_str (nomark _)) pss_never pss_nil)
      (pss_cons (ps_set (i := 5) scNums.nd rfl (Or.inl rfl) (pe_call (E := E) G5 (hr.mono (by decide)) (by rfl) T.g_parted T.h_parted.kp b5 .nil (passes_call (takes_of rfl rfl rfl rfl) fun _ _ _ _ h => h)
          (pa_cons (pv 3) (pa_cons (pv 4) (pa_cons (pe_ix ix_list (pv 2) pe_int (fun _ _ => rfl)) (pa_cons (pe_ix ix_list (pv 2) pe_int (fun _ _ => rfl)) pa_nil)))))) pss_never)))))), ?_⟩
    have hd : H d = some (.ins (He.ga K "Desk") dd [("machine", .ref m)]) := r.ex _ _ hd0
    -- book, table
    refine ⟨_, rfl, d, _, dd, _, _, rfl, hd, T.c_Desk, T.n_Desk_machine, rfl, m, _, _, rfl, r.hm, rfl, B, m, S, rfl, ⟨L, r⟩, fun pb H1 hpb e1 h1 => ?_⟩
    have r1 := r.stay e1
    refine ⟨_, rfl, d, _, dd, _, _, rfl, e1 _ _ hd, T.c_Desk, T.n_Desk_machine, rfl, m, _, _, rfl, r1.hm, rfl, B, m, S, rfl, ⟨L, r1⟩, g, fun pt xs H2 hpt e2 h2 hxs => ?_⟩
    have e02 := e1.trans e2
    have hlen : xs.length ≤ 125 := by
      rw [Paired.length hxs]
      exact g.rows.1
    rcases hN with ⟨rfl, i, z, hf, hz, hzo, hg⟩ | ⟨rfl, i, hf, hi, k⟩ | ⟨rfl, i, j, hf, hij, k⟩
    · refine q_when (b := true) (et_is (et_eqS (b := nGrow) (ev_var rfl) ev_c) (by decide +kernel)) (fun _ H3 e3 => ?_) (fun hb => nomatch hb)
      have e03 := e02.trans e3
      have r3 := r.stay e03
      refine ⟨_, rfl, d, _, dd, _, _, rfl, e03 _ _ hd, T.c_Desk, T.n_Desk_machine, rfl, m, _, _, rfl, r3.hm, rfl, ?_⟩
      show tOp (rIxL K) (tVar 2) (tC (.int 0)) _ _ _
      refine ev_op (ev_var rfl) ev_c (rv_ixL (i := (0 : Int)) (v := .int (i : Nat)) (ex_l e03 hf) rfl) H3 (Ex.refl _) _ fun H4 e4 => ?_
      show tOp (rIxL K) (tVar 2) (tC (.int 1)) _ _ _
      refine ev_op (ev_var rfl) ev_c (rv_ixL (i := (1 : Int)) (v := .str z) (ex_l (e03.trans e4) hf) rfl) H4 (Ex.refl _) _ fun H5 e5 => ?_
      have e35 := e4.trans e5
      obtain ⟨k1, k2, k3⟩ := hg.stay (e03.trans e35)
      refine ⟨B, m, S, i, z, rfl, ⟨L, r3.stay e35⟩, g, by omega, hzo, k1, k2, fun t ht => (k3 t ht).imp id fun ⟨a1, a2⟩ => ⟨a1, fun H6 S' r6 g6 ht6 => ?_⟩⟩
      exact a2 H6 S' ⟨m, dd, hd0, r6⟩ g6 ht6
    · refine q_when (b := false) (et_is (et_eqS (b := nGrow) (ev_var rfl) ev_c) (by decide +kernel)) (fun hb => nomatch hb) (fun _ H3 e3 => ?_)
      refine q_when (b := true) (et_is (et_eqS (b := nWords) (ev_var rfl) ev_c) (by decide +kernel)) (fun _ H4 e4 => ?_) (fun hb => nomatch hb)
      have e04 := e02.trans (e3.trans e4)
      refine ⟨_, rfl, ?_⟩
      show tOp (rIxL K) (tVar 2) (tC (.int 0)) _ _ _
      refine ev_op (ev_var rfl) ev_c (rv_ixL (i := (0 : Int)) (v := .int (i : Nat)) (ex_l e04 hf) rfl) H4 (Ex.refl _) _ fun H5 e5 => ?_
      exact ⟨pt, xs, i, rfl, SqL.of ((e3.trans (e4.trans e5)) _ _ h2), by omega, fun H6 e6 => k H6 (e04.trans (e5.trans e6))⟩
    · refine q_when (b := false) (et_is (et_eqS (b := nGrow) (ev_var rfl) ev_c) (by decide +kernel)) (fun hb => nomatch hb) (fun _ H3 e3 => ?_)
      refine q_when (b := false) (et_is (et_eqS (b := nWords) (ev_var rfl) ev_c) (by decide +kernel)) (fun hb => nomatch hb) (fun _ H4 e4 => ?_)
      refine q_when (b := false) (et_is (et_test (ev_op (ev_var rfl) ev_c (rv_eq rfl))) (by decide +kernel)) (fun hb => nomatch hb) (fun _ H5 e5 => ?_)
      refine q_when (b := false) (et_is (et_test (ev_op (ev_var rfl) ev_c (rv_eq rfl))) (by decide +kernel)) (fun hb => nomatch hb) (fun _ H6 e6 => ?_)
      have e26 := e3.trans (e4.trans (e5.trans e6))
      have e06 := e02.trans e26
      refine ⟨_, rfl, _, rfl, ?_⟩
      show tOp (rIxL K) (tVar 2) (tC (.int 0)) _ _ _
      refine ev_op (ev_var rfl) ev_c (rv_ixL (i := (0 : Int)) (v := .int (i : Nat)) (ex_l e06 hf) rfl) H6 (Ex.refl _) _ fun H7 e7 => ?_
      show tOp (rIxL K) (tVar 2) (tC (.int 1)) _ _ _
      refine ev_op (ev_var rfl) ev_c (rv_ixL (i := (1 : Int)) (v := .int (j : Nat)) (ex_l (e06.trans e7) hf) rfl) H7 (Ex.refl _) _ fun H8 e8 => ?_
      exact ⟨pb, pt, xs, i, j, rfl, SqL.of ((e26.trans (e7.trans e8)) _ _ h2), by omega, fun H9 e9 => k H9 (e06.trans (e7.trans (e8.trans e9)))⟩
end
end Ap

/-! ## D8 -/
set_option Elab.async false
set_option linter.all false
set_option maxRecDepth 100000
set_option maxHeartbeats 4000000
namespace Ap
open PySem PySem.Spec PyProof.Rows L2 Evl
/-! ### the rows' table: what is not there -/
theorem keyOf_str {e : DictEntry} {x : Str} {h : Int} (q : He.keyOf e = some (x, h)) : ∃ t, e.key = .str x t := by
  unfold He.keyOf at q
  split at q
  · rename_i y t q2
    have := Option.some.inj q
    obtain ⟨h5, _⟩ := Prod.mk.inj this
    exact ⟨t, by rw [q2, h5]⟩
  · cases q
theorem dic_none {K : PySem.W.Frag} {P : Params} {a : Addr} {ks : List Str} {z : Str} (h : He.dicW K a = some (He.keysIn P ks)) (hz : z ∉ ks) : PySem.W.nsIn K a z = some none := by
  unfold He.dicW at h
  unfold PySem.W.nsIn
  cases q : K.lookup a with
  | none => rw [q] at h; cases h
  | some o =>
    obtain ⟨oc, od, dt, osl⟩ := o
    rw [q] at h
    cases oc with
    | type c =>
      cases od with
      | none =>
        cases dt with
        | dict es n =>
          have h1 : (match decide (c = "dict") && (osl.isEmpty && !(a == sysModules)) with
            | true => some (es.toList.map He.keyOf)
            | false => none) = some (He.keysIn P ks) := h
          have h2 : es.toList.map He.keyOf = He.keysIn P ks := by
            cases y : decide (c = "dict") && (osl.isEmpty && !(a == sysModules)) with
            | false => rw [y] at h1; cases h1
            | true => rw [y] at h1; exact Option.some.inj h1
          have key : ∀ e ∈ es.toList, ∃ k t, k ∈ ks ∧ e.key = .str k t := fun e he => by
            have m : He.keyOf e ∈ He.keysIn P ks := by rw [← h2]; exact List.mem_map.mpr ⟨e, he, rfl⟩
            obtain ⟨k, hk, ek⟩ := List.mem_map.mp m
            obtain ⟨t, et⟩ := keyOf_str ek.symm
            exact ⟨k, t, hk, et⟩
          show (match es.toList.find? (·.key.isStr z) with
            | some e => some (some e.val)
            | none => if es.toList.any (·.refKey) then none else some none) = some none
          have hf : es.toList.find? (·.key.isStr z) = none := by
            rw [List.find?_eq_none]
            intro e he hs
            obtain ⟨k, t, hk, et⟩ := key e he
            rw [et] at hs
            have : z = k := by
              have hs : (Value.str k t).isStr z = true := hs
              rw [PySem.W.isStr_of] at hs
              obtain ⟨t', e'⟩ := Value.isStrOf_shape hs
              cases e'
              rfl
            exact hz (by rw [this]; exact hk)
          have ha : es.toList.any (·.refKey) = false := by
            rw [List.any_eq_false]
            intro e he hs
            obtain ⟨k, t, hk, et⟩ := key e he
            unfold DictEntry.refKey at hs
            rw [et] at hs
            cases hs
          rw [hf, ha]
          rfl
        | _ => cases h
      | some d => cases h
    | _ => cases h
def nShared : Str := "shared"
theorem rows_sh : ∀ p ∈ rows, p.1 ≠ nShared := by decide +kernel
theorem rows_key : ∀ p ∈ rows, p.1 ∈ rowKeys := by decide +kernel
theorem cut_tail (x : V) (r : List V) : cutV (x :: r) (some (1 : Int)) none = r := by
  unfold cutV
  rw [show ((1 : Int)) = ((1 : Nat) : Int) from rfl, HT.sIx_nat, HT.sIx_none]
  have h1 : min 1 (x :: r).length = 1 := by rw [List.length_cons]; omega
  rw [h1]
  show r.take ((x :: r).length - 1) = r
  rw [List.length_cons]
  exact List.take_of_length_le (by omega)
section
variable {K : PySem.W.Frag} {w : World} {σ : L2.St} {H : Hp} {ta tb : TE}
theorem ev_kdn {d : Addr} {z : Str} {r : Option Value} (h : Ev ta σ H (.str z)) (hn : PySem.W.nsIn K d z = some r) :
    Ev (tOp (fun x y H Q => ∃ (z : Str) (r : Option Value), x = .str z ∧ y = .ref d ∧ PySem.W.nsIn K d z = some r ∧ Q (.bl (!r.isSome)) H) ta (tC (.ref d))) σ H (.bl (!r.isSome)) := fun H1 e Q q =>
  h H1 e _ fun H2 e2 => ⟨z, r, rfl, rfl, hn, q H2 e2⟩
theorem ev_ixD {d : Addr} {z : Str} {v : V} (h : Ev tb σ H (.str z)) (hk : KDct K w d z v) : Ev (tOp (rIxD K w) (tC (.ref d)) tb) σ H v := fun H1 e Q q =>
  h H1 e _ fun H2 e2 => ⟨d, z, v, rfl, rfl, hk, q H2 e2⟩
theorem ev_lenU {p : Addr} {xs : List V} (ha : Ev ta σ H (.ref p)) (h : ∀ H, SqT K H p xs) : Ev (tCB (rLenS K) (tCons ta tNil)) σ H (.int (xs.length : Int)) := fun H1 e Q q =>
  ha H1 e _ fun H2 e2 => ⟨p, xs, rfl, Or.inr (h H2), q H2 e2⟩
end
section
variable {P : Program} {w : World} {K : PySem.W.Frag} {mg : Str → Option Value} {base : Heap}
/-! ### Desk.say -/
def AloneEnd (K : PySem.W.Frag) (B H : Hp) (d : Addr) (S : MS) (name : Str) (Q : VK) (E : XK) : Prop :=
  (name = nBegin ∧ (S.texts.length = 8 → ∀ H', Ex H H' → E (.ref (ea K .many)) none H') ∧ (S.texts.length < 8 → ∀ H', DRep K B H' d (afterBegin S) → Q (.str (numS S.texts.length)) H')) ∨
  (name = nBook ∧ ∀ H', Ex H H' → Q (.str (showWords S.texts)) H') ∨ (name = nTable ∧ ∀ H', Ex H H' → Q (.str (showTab (tabS S.knots))) H')
theorem AloneEnd.stay {B H H1 : Hp} {d : Addr} {S : MS} {name : Str} {Q : VK} {E : XK} (g : AloneEnd K B H d S name Q E) (e : Ex H H1) : AloneEnd K B H1 d S name Q E := by
  rcases g with ⟨a, b, c⟩ | ⟨a, b⟩ | ⟨a, b⟩
  · exact .inl ⟨a, fun h H' e' => b h H' (e.trans e'), c⟩
  · exact .inr (.inl ⟨a, fun H' e' => b H' (e.trans e')⟩)
  · exact .inr (.inr ⟨a, fun H' e' => b H' (e.trans e')⟩)
def NumsEnd (K : PySem.W.Frag) (B H : Hp) (d : Addr) (S : MS) (name : Str) (vs : List V) (Q : VK) (E : XK) : Prop :=
  (name = nGrow ∧ ∃ (i : Nat) (z : Str), vs = [.int (i : Nat), .str z] ∧ z.length ≤ 1000 ∧ PyData.strOk z = true ∧ GrowEnd K B H d S i z Q E) ∨
  (name = nWords ∧ ∃ (i : Nat), vs = [.int (i : Nat)] ∧ 125 < i ∧ ∀ H', Ex H H' → E (.ref (ea K .stand)) none H') ∨
  (name = nParted ∧ ∃ (i j : Nat), vs = [.int (i : Nat), .int (j : Nat)] ∧ (125 < i ∨ 125 < j) ∧ ∀ H', Ex H H' → E (.ref (ea K .stand)) none H')
theorem NumsEnd.stay {B H H1 : Hp} {d : Addr} {S : MS} {name : Str} {vs : List V} {Q : VK} {E : XK} (g : NumsEnd K B H d S name vs Q E) (e : Ex H H1) : NumsEnd K B H1 d S name vs Q E := by
  rcases g with ⟨a, i, z, b, c, c2, f⟩ | ⟨a, i, b, c, f⟩ | ⟨a, i, j, b, c, f⟩
  · exact .inl ⟨a, i, z, b, c, c2, f.stay e⟩
  · exact .inr (.inl ⟨a, i, b, c, fun H' e' => f H' (e.trans e')⟩)
  · exact .inr (.inr ⟨a, i, j, b, c, fun H' e' => f H' (e.trans e')⟩)
/-- a row of words: how it ends -/
def SayEnd (K : PySem.W.Frag) (B H : Hp) (d : Addr) (S : MS) (p0 : Str) (ps : List Str) (Q : VK) (E : XK) : Prop :=
  (p0 = nShared ∧ ps ≠ [] ∧ (((∃ b, b < ps.length ∧ (∀ j, j < b → ∃ n, readNum (ps.getD j emp) 60 = some n) ∧ readNum (ps.getD b emp) 60 = none) ∧ ∀ H', Ex H H' → E (.ref (ea K .number)) none H') ∨
    ((∃ ns : List Nat, ps.map (fun p => readNum p 60) = ns.map some ∧ ∃ n ∈ ns, S.texts.length ≤ n) ∧ ∀ H', Ex H H' → E (.ref (ea K .text)) none H'))) ∨
  (¬ (p0 = nShared ∧ ps ≠ []) ∧ (p0 ∉ rowKeys ∨ ∃ ks, (p0, ks) ∈ rows ∧ ks.length ≠ ps.length) ∧ ∀ H', Ex H H' → E (.ref (ea K .row)) none H') ∨
  (∃ ks, (p0, ks) ∈ rows ∧ ks.length = ps.length ∧
    ((∃ b e, b < ks.length ∧ (∀ j, j < b → ∃ v, LookOk (ks.getD j emp) (ps.getD j emp) (.inl v)) ∧ LookOk (ks.getD b emp) (ps.getD b emp) (.inr e) ∧ ∀ H', Ex H H' → E (.ref (ea K e)) none H') ∨
    (∃ vs : List V, vs.length = ks.length ∧ vs.all sb = true ∧ (∀ j, j < ks.length → LookOk (ks.getD j emp) (ps.getD j emp) (.inl (vs.getD j .non))) ∧
      ((vs = [] ∧ AloneEnd K B H d S p0 Q E) ∨ (vs ≠ [] ∧ NumsEnd K B H d S p0 vs Q E)))))
def spSay (K : PySem.W.Frag) : Sp := fun vs H Q E => ∃ (B : Hp) (d : Addr) (S : MS) (x : V), vs = [.ref d, x] ∧ DRep K B H d S ∧ Good S ∧
  ((∃ t, TyX K H x t ∧ (∀ H', Ex H H' → TyX K H' x t) ∧ PySem.W.kitOne K t (.type "str") = some false ∧ ∀ H', Ex H H' → E (.ref (ea K .row)) none H') ∨
  (∃ z p0 ps, x = .str z ∧ z.length ≤ 1000 ∧ Txt.split z spc = p0 :: ps ∧ SayEnd K B H d S p0 ps Q E))
theorem scSay : FnScope ["self", "row", "parts", "found", "part", "kind"] ["self", "row"] (defScope s_Desk_say) := ⟨rfl, rfl, rfl, by decide +kernel, rfl, by decide +kernel, by decide +kernel⟩
theorem ok_say (T : Tx K mg w) : FnOk P w K mg base (L2.CX P w) 7 (He.fAd K ("Desk", some "say")) (fo K ("Desk", some "say")) ["self", "row"] (spSay K) := by
  obtain ⟨b1, b2, b3⟩ := b_self T
  obtain ⟨es, nn, D⟩ := T.rowsD
  have hKeys := T.rowsKeys
  have G1 := ok_show_word (P := P) (base := base) T
  have G2 := ok_shared (P := P) (base := base) T
  have G3 := ok_book (P := P) (base := base) T
  have G4 := ok_number_by (P := P) (base := base) T
  have G5 := ok_looked (P := P) (base := base) T
  have G6 := ok_alone (P := P) (base := base) T
  have G7 := ok_nums (P := P) (base := base) T
  have c1 : Binds K (fo K ("show_word", none)) ["word"] [] := T.h_show_word.bindsN fun _ _ _ _ _ _ us hl => match us, hl with | [_], _ => rfl
  have c2 : Binds K (fo K ("shared", none)) ["book", "some"] [] := T.h_shared.bindsN fun _ _ _ _ _ _ us hl => match us, hl with | [_, _], _ => rfl
  have c4 : Binds K (fo K ("number_by", none)) ["word"] [] := T.h_number_by.bindsN fun _ _ _ _ _ _ us hl => match us, hl with | [_], _ => rfl
  have c5 : Binds K (fo K ("looked", none)) ["kind", "word"] [] := T.h_looked.bindsN fun _ _ _ _ _ _ us hl => match us, hl with | [_, _], _ => rfl
  have c6 : Binds K (fo K ("Desk", some "alone")) ["self", "name"] [] := T.h_Desk_alone.bindsN fun _ _ _ _ _ _ us hl => match us, hl with | [_, _], _ => rfl
  have c7 : Binds K (fo K ("Desk", some "of_numbers")) ["self", "name", "found"] [] := T.h_Desk_of_numbers.bindsN fun _ _ _ _ _ _ us hl => match us, hl with | [_, _, _], _ => rfl
  refine T.h_Desk_say.ok scSay (fun vs H Q E h => ?_) (fun cdv A outer s H vs Q E hr h => ?_)
  · obtain ⟨B, d, S, x, rfl, _⟩ := h
    rfl
  · obtain ⟨B, d, S, x, rfl, ⟨m, dd, hd0, ⟨L, r⟩⟩, g, hX⟩ := h
    refine ⟨_, pss_cons (ps_if (pt_not (pt_val (pe_callB call_isi (by rfl) T.f_isinstance b_isinstance (pa_cons (pv 1) (pa_cons (pe_bltn (v := .ty "str") (by rfl) T.f_str b_str rfl) pa_nil))))) (pss_one (ps_raise rfl (takes_of rfl rfl rfl rfl) (pmk_er .row T rfl rfl))) pss_nil)
      (pss_cons (ps_set (i := 2) scSay.nd rfl (Or.inl rfl) (pe_split (pv 1) pe_str))
      (pss_cons (ps_if (PW.pt (pw_and (pt_cmpR op_eq (pe_ix ix_list (pv 2) pe_int (fun _ _ => rfl)) pe_str (nomark _)) (pw_and1 (pt_cmpR op_gt (pe_callB call_len_seq (by rfl) T.f_len b_len (pa_cons (pv 2) pa_nil)) pe_int (nomark _)))))
        (pss_one (ps_ret (pe_call G1 (hr.mono (by decide)) (by rfl) T.g_show_word T.h_show_word.kp c1 .nil pass0 (pa_cons (pe_ix ix_tup (pe_call (E := E) G2 (hr.mono (by decide)) (by rfl) T.g_shared T.h_shared.kp c2 .nil (passes_call (takes_of rfl rfl rfl rfl) fun _ _ _ _ h => h)
          (pa_cons (pe_meth0 (pe_fld (pv 0) rfl) T.c_Machine T.t_Machine_book G3 (hr.mono (by decide)) b2 .nil pass0)
          (pa_cons (pe_lcX (Eb := E) (own := [("part", 4)]) (g := gName 4) (tt := tYes) rfl scSay.nd rfl rfl (takes_of rfl rfl rfl rfl) (pi_list (pe_slice sl_list (pv 2) (po_some pe_int) po_none)) (blkOk_by (N := ["self", "row", "parts", "found", "part", "kind"]) (sc := defScope s_Desk_say) (by decide +kernel))
            (fun _ _ _ _ _ => pg_name (i := 4) scSay.nd rfl (Or.inl rfl)) (fun _ _ _ _ _ => pts_nil) (fun _ _ _ _ _ => pe_call (E := E) G4 (hr.mono (by decide)) (by rfl) T.g_number_by T.h_number_by.kp c4 .nil passB (pa_cons (pv 4) pa_nil))) pa_nil))) pe_int (fun _ _ => rfl)) pa_nil)))) pss_nil)
      (pss_cons (ps_if (PW.pt (pw_or (pt_cmpR (op_notIn_kd D) (pe_ix ix_list (pv 2) pe_int (fun _ _ => rfl)) (pe_glob (v := .ref (He.ga K "ROWS")) (by rfl) T.g_ROWS rfl) (by rfl))
          (pw_or1 (pt_cmpR op_ne (pe_callB call_len_seq (by rfl) T.f_len b_len (pa_cons (pe_ix ix_kdict (pe_glob (v := .ref (He.ga K "ROWS")) (by rfl) T.g_ROWS rfl) (pe_ix ix_list (pv 2) pe_int (fun _ _ => rfl)) (fun _ _ => rfl)) pa_nil)) (pe_op op_sub (pe_callB call_len_seq (by rfl) T.f_len b_len (pa_cons (pv 2) pa_nil)) pe_int) (nomark _)))))
        (pss_one (ps_raise rfl (takes_of rfl rfl rfl rfl) (pmk_er .row T rfl rfl))) pss_nil)
      (pss_cons (ps_setLcX (i := 3) (Eb := E) (own := [("kind", 5), ("part", 4)]) (tt := tYes) rfl scSay.nd rfl rfl rfl rfl (sw_true rfl rfl rfl rfl) (takes_of rfl rfl rfl rfl)
          (pi_zipM (by rfl) T.f_zip (pa_cons (pe_ix ix_kdict (pe_glob (v := .ref (He.ga K "ROWS")) (by rfl) T.g_ROWS rfl) (pe_ix ix_list (pv 2) pe_int (fun _ _ => rfl)) (fun _ _ => rfl)) (pa_cons (pe_slice sl_list (pv 2) (po_some pe_int) po_none) pa_nil)))
          (blkOk_by (N := ["self", "row", "parts", "found", "part", "kind"]) (sc := defScope s_Desk_say) (by decide +kernel))
          (fun _ _ _ _ _ => (show PG _ _ (gTup K 2 (gCons (gName 5) (gCons (gName 4) gNil))) from pg_tup rfl (pgs_cons (pg_name (i := 5) scSay.nd rfl (Or.inl rfl)) (pgs_cons (pg_name (i := 4) scSay.nd rfl (Or.inl rfl)) pgs_nil)))) (fun _ _ _ _ _ => pts_nil)
          (fun _ _ _ _ _ => pe_call (E := E) G5 (hr.mono (by decide)) (by rfl) T.g_looked T.h_looked.kp c5 .nil passB (pa_cons (pv 5) (pa_cons (pv 4) pa_nil))))
      (pss_cons (ps_if (pt_cmpR (op_eqD hr.units) (pv 3) (pe_lst pa_nil) (nomark _)) (pss_one (ps_ret (pe_meth (E := E) (pv 0) T.c_Desk T.t_Desk_alone G6 (hr.mono (by decide)) c6 .nil (passes_call (takes_of rfl rfl rfl rfl) fun _ _ _ _ h => h) (pa_cons (pe_ix ix_list (pv 2) pe_int (fun _ _ => rfl)) pa_nil)))) pss_nil)
      (pss_cons (ps_if (pt_cmpR op_in_seq (pe_ix ix_list (pv 2) pe_int (fun _ _ => rfl)) (pe_tup (pa_cons pe_str (pa_cons pe_str (pa_cons pe_str (pa_cons pe_str (pa_cons pe_str (pa_cons pe_str pa_nil))))))) (by rfl)) pss_never pss_nil)
      (pss_one (ps_ret (pe_meth (E := E) (pv 0) T.c_Desk T.t_Desk_of_numbers G7 hr c7 .nil (passes_call (takes_of rfl rfl rfl rfl) fun _ _ _ _ h => h) (pa_cons (pe_ix ix_list (pv 2) pe_int (fun _ _ => rfl)) (pa_cons (pv 3) pa_nil))))))))))), ?_⟩
    have hd : H d = some (.ins (He.ga K "Desk") dd [("machine", .ref m)]) := r.ex _ _ hd0
    rcases hX with ⟨t, ht0, ht, hkit, kE⟩ | ⟨z, p0, ps, rfl, hz, hsp, hend⟩
    · exact q_when (b := true) (et_not (et_B (ev_isi (ev_var rfl) ev_c (.ty "str") ht hkit))) (fun _ H1 e1 => kE H1 e1) (fun hb => nomatch hb)
    refine q_when (b := false) (et_not (et_B (ev_isi (b := true) (ev_var rfl) ev_c (.ty "str") (fun _ _ => .base (.str _)) (kit_ty (by decide +kernel))))) (fun hb => nomatch hb) (fun _ H1 e1 => ?_)
    -- the parts
    refine ⟨_, rfl, ⟨z, rfl⟩, z, spc, rfl, rfl, by decide, by rw [sizeLine_eq]; omega, fun pp hpp => ?_⟩
    rw [hsp]
    have hw : ((p0 :: ps).map (·.length)).sum + (p0 :: ps).length ≤ z.length + 1 := by
      rw [← hsp]
      exact split_weight z spc (Nat.le_refl 1)
    have hpl : ∀ p ∈ ps, p.length ≤ 100000 := fun p hp => by
      have := total_le p (show p ∈ p0 :: ps from List.mem_cons_of_mem _ hp)
      unfold total at this
      omega
    have hcnt : ps.length ≤ 1001 := by
      rw [List.length_cons] at hw
      omega
    have e2 : Ex H (upd H1 pp (.lst ((p0 :: ps).map V.str))) := e1.trans (Ex.new hpp)
    have hpar : upd H1 pp (.lst ((p0 :: ps).map V.str)) pp = some (.lst ((p0 :: ps).map V.str)) := upd_same
    generalize upd H1 pp (.lst ((p0 :: ps).map V.str)) = H2 at e2 hpar ⊢
    have hp0 : ∀ {σ : L2.St} {H3 : Hp}, Ex H2 H3 → σ[2]? = some (some (.ref pp)) → Ev (tOp (rIxL K) (tVar 2) (tC (.int 0))) σ H3 (.str p0) := fun {σ H3} e3 hσ =>
      ev_op (ev_var hσ) ev_c (rv_ixL (i := ((0 : Nat) : Int)) (SqL.of (e3 _ _ hpar)) (atI_nat rfl))
    have hlen : ∀ {σ : L2.St} {H3 : Hp}, Ex H2 H3 → σ[2]? = some (some (.ref pp)) → Ev (tCB (rLenS K) (tCons (tVar 2) tNil)) σ H3 (.int ((ps.length + 1 : Nat) : Int)) := fun {σ H3} e3 hσ =>
      ev_is (ev_len (ev_var hσ) (SqL.of (e3 _ _ hpar))) (by rw [List.length_map, List.length_cons])
    have r2 := r.stay e2
    -- shared ..
    have hsh : EvT (tAnd (tTest (tOp rEq (tOp (rIxL K) (tVar 2) (tC (.int 0))) (tC (.str nShared)))) (tTest (tOp (rI0 fun i j => V.bl (decide (j < i))) (tCB (rLenS K) (tCons (tVar 2) tNil)) (tC (.int 1))))) [some (V.ref d), some (V.str z), some (V.ref pp), none, none, none] H2 (decide (p0 = nShared) && !ps.isEmpty) :=
      et_and (et_eqS (b := nShared) (hp0 (Ex.refl _) rfl) ev_c) fun _ => et_is (et_test (ev_op (hlen (Ex.refl _) rfl) ev_c rv_I0)) (by
        cases ps with
        | nil => rfl
        | cons a l =>
          show decide ((1 : Int) < ((a :: l).length + 1 : Nat)) = true
          rw [List.length_cons]
          exact decide_eq_true (by omega))
    refine q_when hsh (fun hb H3 e3 => ?_) (fun hb H3 e3 => ?_)
    · rw [Bool.and_eq_true] at hb
      have hb1 : p0 = nShared := of_decide_eq_true hb.1
      have hb2 : ps ≠ [] := fun q => by rw [q] at hb; cases hb.2
      rcases hend with ⟨_, _, hend⟩ | ⟨h1, _⟩ | ⟨ks, h1, _⟩
      · have e03 := e2.trans e3
        have r3 := r2.stay e3
        refine ⟨_, rfl, d, _, dd, _, _, rfl, e03 _ _ hd, T.c_Desk, T.n_Desk_machine, rfl, m, _, _, rfl, r3.hm, rfl, B, m, S, rfl, ⟨L, r3⟩, fun pb H4 hpb e4 h4 => ?_⟩
        have e04 := e03.trans e4
        have e24 := e3.trans e4
        show tSl (rSlL K) (tVar 2) (tPart (tC (.int 1))) tNoPart _ _ _
        refine el_sl (ev_var rfl) (eo_some ev_c) eo_none (SqL.of (e24 _ _ hpar)) H4 (Ex.refl _) _ fun pl H5 hpl5 e5 h5 => ?_
        rw [List.map_cons, cut_tail] at h5
        have e05 := e04.trans e5
        rcases hend with ⟨⟨b, hbl, hbo, hbn⟩, kE⟩ | ⟨⟨ns, hns, nb, hnb, hnl⟩, kE⟩
        · refine ⟨pl, rfl, ⟨_, SqL.of h5⟩, fun D hD => lc_it (walk_list (xs := ps.map .str)) (fun i H' => Ex H5 H' ∧ i ≤ b ∧ ∃ acc, H' D = some (.lst acc) ∧ acc.length = i) ⟨Ex.new hD, Nat.zero_le _, [], upd_same, rfl⟩ (fun i H' _ p => SqL.of (p.1 _ _ h5)) ?_ ?_⟩
          · rintro i x H6 H7 hi ⟨e6, hib, acc, hacc, hal⟩ ⟨rfl, hx⟩
            rw [List.length_map] at hi
            rw [List.getElem?_map, List.getElem?_eq_getElem hi] at hx
            cases hx
            have hgd : ps.getD i emp = ps[i] := by rw [List.getD_eq_getElem?_getD, List.getElem?_eq_getElem hi]; rfl
            refine ⟨rfl, ?_⟩
            refine ⟨_, rfl, _, rfl, hpl _ (List.getElem_mem hi), fun n hn H8 e8 => ⟨acc, e8 _ _ hacc, ?_, (e6.trans e8).mut hD, ?_, _, upd_same, ?_⟩, fun hn H8 e8 => kE H8 (e05.trans (e6.trans e8))⟩
            · rw [hal, sizeLine_eq]
              omega
            · refine Nat.lt_of_le_of_ne hib fun q => ?_
              rw [← q, hgd, hn] at hbn
              cases hbn
            · rw [List.length_append, hal]; rfl
          · rintro H6 ⟨_, hib, _⟩
            rw [List.length_map] at hib
            omega
        · have hnl2 : ns.length = ps.length := by
            have := congrArg List.length hns
            rw [List.length_map, List.length_map] at this
            exact this.symm
          refine ⟨pl, rfl, ⟨_, SqL.of h5⟩, fun D hD => lc_it (walk_list (xs := ps.map .str)) (fun i H' => Ex H5 H' ∧ H' D = some (.lst (natL (ns.take i)))) ⟨Ex.new hD, upd_same⟩ (fun i H' _ p => SqL.of (p.1 _ _ h5)) ?_ ?_⟩
          · rintro i x H6 H7 hi ⟨e6, hacc⟩ ⟨rfl, hx⟩
            rw [List.length_map] at hi
            rw [List.getElem?_map, List.getElem?_eq_getElem hi] at hx
            cases hx
            have hni : readNum ps[i] 60 = some (ns[i]'(by omega)) := by
              have := congrArg (fun l => l[i]?) hns
              simp only [List.getElem?_map, List.getElem?_eq_getElem hi, List.getElem?_eq_getElem (show i < ns.length by omega)] at this
              exact Option.some.inj this
            refine ⟨rfl, ?_⟩
            refine ⟨_, rfl, _, rfl, hpl _ (List.getElem_mem hi), fun n hn H8 e8 => ⟨_, e8 _ _ hacc, ?_, (e6.trans e8).mut hD, ?_⟩, fun hn H8 e8 => by rw [hni] at hn; cases hn⟩
            · unfold natL
              rw [List.length_map, List.length_take, sizeLine_eq]
              omega
            · rw [hni] at hn
              cases hn
              rw [upd_same, List.take_succ, List.getElem?_eq_getElem (show i < ns.length by omega)]
              unfold natL
              rw [List.map_append]
              rfl
          · rintro H6 ⟨e6, hacc⟩
            rw [List.length_map, ← hnl2, List.take_length] at hacc
            exact ⟨pb, D, S.texts.map V.str, ns, rfl, SqL.of (e6 _ _ (e5 _ _ h4)), SqL.of hacc, ⟨nb, hnb, by rw [List.length_map]; exact hnl⟩, fun H7 e7 => kE H7 (e05.trans (e6.trans e7))⟩
      · exact absurd ⟨hb1, hb2⟩ h1
      · exact absurd hb1 (rows_sh _ h1)
    have e03 := e2.trans e3
    -- no row
    rcases hend with ⟨h1, h2, _⟩ | ⟨_, hno, kE⟩ | ⟨ks, hks, hkl, hend⟩
    · rw [decide_eq_true h1] at hb
      cases ps with
      | nil => exact absurd rfl h2
      | cons a l => cases hb
    · rcases hno with hno | ⟨ks, hks, hkl⟩
      · exact q_when (b := true || false) (et_or (et_test (ev_kdn (hp0 e3 rfl) (dic_none hKeys hno))) fun h => nomatch h) (fun _ H4 e4 => kE H4 (e03.trans e4)) (fun hb => nomatch hb)
      · obtain ⟨q1, q2⟩ := T.rowT hks
        have hkd : KDct K w (He.ga K "ROWS") p0 (.ref (rowAt K p0)) := ⟨es, nn, _, D.at_, D.lit, q1, rfl⟩
        refine q_when (b := false || true) (et_or (et_test (ev_kdn (hp0 e3 rfl) q1)) fun _ => et_is (et_test (ev_op (ev_lenU (ev_ixD (hp0 e3 rfl) hkd) q2) (ev_op (hlen e3 rfl) ev_c rv_I0) (rv_ne rfl))) ?_) (fun _ H4 e4 => kE H4 (e03.trans e4)) (fun hb => nomatch hb)
        rw [Bool.not_eq_true', decide_eq_false_iff_not]
        intro q
        have := V.int.inj q
        rw [List.length_map] at this
        have this : ((ks.length : Nat) : Int) = ((ps.length + 1 : Nat) : Int) - 1 := this
        omega
    -- a row
    obtain ⟨q1, q2⟩ := T.rowT hks
    have hkd : KDct K w (He.ga K "ROWS") p0 (.ref (rowAt K p0)) := ⟨es, nn, _, D.at_, D.lit, q1, rfl⟩
    refine q_when (b := false || false) (et_or (et_test (ev_kdn (hp0 e3 rfl) q1)) fun _ => et_is (et_test (ev_op (ev_lenU (ev_ixD (hp0 e3 rfl) hkd) q2) (ev_op (hlen e3 rfl) ev_c rv_I0) (rv_ne rfl))) ?_) (fun hb => nomatch hb) (fun _ H4 e4 => ?_)
    · rw [Bool.not_eq_false', decide_eq_true_eq, List.length_map, hkl]
      congr 1
      omega
    have e24 := e3.trans e4
    have e04 := e2.trans e24
    show tOp (rIxD K w) (tC (.ref (He.ga K "ROWS"))) (tOp (rIxL K) (tVar 2) (tC (.int 0))) _ _ _
    refine ev_ixD (hp0 e24 rfl) hkd H4 (Ex.refl _) _ fun H5 e5 => ?_
    have e25 := e24.trans e5
    show tSl (rSlL K) (tVar 2) (tPart (tC (.int 1))) tNoPart _ _ _
    refine el_sl (ev_var rfl) (eo_some ev_c) eo_none (SqL.of (e25 _ _ hpar)) H5 (Ex.refl _) _ fun pl H6 hpl6 e6 h6 => ?_
    rw [List.map_cons, cut_tail] at h6
    have e26 := e25.trans e6
    have e06 := e2.trans e26
    have hw1 : (ks.map V.str).length = ks.length := List.length_map ..
    have hw2 : (ps.map V.str).length = ks.length := by rw [List.length_map, hkl]
    rcases hend with ⟨b, eb, hbl, hbo, hbn, kE⟩ | ⟨vs, hvl, hvs, hvo, hend⟩
    · refine ⟨rowAt K p0, pl, ks.map V.str, ps.map V.str, rfl, q2 _, SqL.of h6, fun DD hD => lc_it (walk_zipM hw1 hw2) (fun i H' => Ex H6 H' ∧ i ≤ b ∧ ∃ acc, H' DD = some (.lst acc) ∧ acc.length = i) ⟨Ex.new hD, Nat.zero_le _, [], upd_same, rfl⟩ (fun i H' _ p => ⟨q2 _, SqL.of (p.1 _ _ h6)⟩) ?_ ?_⟩
      · rintro i v H7 H8 hi ⟨e7, hib, acc, hacc, hal⟩ ⟨Tp, x, y, rfl, hT, rfl, hx, hy⟩
        have hx : (ks.map V.str)[i]? = some x := hx
        have hy : (ps.map V.str)[i]? = some y := hy
        rw [List.getElem?_map, List.getElem?_eq_getElem hi] at hx
        rw [List.getElem?_map, List.getElem?_eq_getElem (show i < ps.length by omega)] at hy
        cases hx
        cases hy
        have eT : Ex H7 (upd H7 Tp (.tup [.str ks[i], .str (ps[i]'(by omega))])) := Ex.new hT
        have g1 : ks.getD i emp = ks[i] := by rw [List.getD_eq_getElem?_getD, List.getElem?_eq_getElem hi]; rfl
        have g2 : ps.getD i emp = ps[i]'(by omega) := by rw [List.getD_eq_getElem?_getD, List.getElem?_eq_getElem (show i < ps.length by omega)]; rfl
        refine ⟨Tp, _, rfl, SqT.of upd_same, rfl, _, _, rfl, _, _, rfl, rfl, rfl, ?_⟩
        have hpl' : (ps[i]'(by omega)).length ≤ 100000 := hpl _ (List.getElem_mem _)
        by_cases hib2 : i = b
        · subst hib2
          rw [g1, g2] at hbn
          exact ⟨_, rfl, _, rfl, _, _, .inr eb, rfl, hbn, hpl', (fun v h => nomatch h), fun e h H9 e9 => by cases h; exact kE H9 (e06.trans (e7.trans (eT.trans e9)))⟩
        · obtain ⟨v, hv⟩ := hbo i (by omega)
          rw [g1, g2] at hv
          refine ⟨_, rfl, _, rfl, _, _, .inl v, rfl, hv, hpl', (fun v' h H9 e9 => ?_), fun e h => nomatch h⟩
          have e79 := eT.trans e9
          refine ⟨acc, e79 _ _ hacc, ?_, (e7.trans e79).mut hD, by omega, _, upd_same, ?_⟩
          · rw [hal, sizeLine_eq]; omega
          · rw [List.length_append, hal]; rfl
      · rintro H7 ⟨_, hib, _⟩
        exact absurd hbl (Nat.not_lt.mpr hib)
    · refine ⟨rowAt K p0, pl, ks.map V.str, ps.map V.str, rfl, q2 _, SqL.of h6, fun DD hD => lc_it (walk_zipM hw1 hw2) (fun i H' => Ex H6 H' ∧ H' DD = some (.lst (vs.take i))) ⟨Ex.new hD, upd_same⟩ (fun i H' _ p => ⟨q2 _, SqL.of (p.1 _ _ h6)⟩) ?_ ?_⟩
      · rintro i v H7 H8 hi ⟨e7, hacc⟩ ⟨Tp, x, y, rfl, hT, rfl, hx, hy⟩
        have hx : (ks.map V.str)[i]? = some x := hx
        have hy : (ps.map V.str)[i]? = some y := hy
        rw [List.getElem?_map, List.getElem?_eq_getElem hi] at hx
        rw [List.getElem?_map, List.getElem?_eq_getElem (show i < ps.length by omega)] at hy
        cases hx
        cases hy
        have eT : Ex H7 (upd H7 Tp (.tup [.str ks[i], .str (ps[i]'(by omega))])) := Ex.new hT
        have g1 : ks.getD i emp = ks[i] := by rw [List.getD_eq_getElem?_getD, List.getElem?_eq_getElem hi]; rfl
        have g2 : ps.getD i emp = ps[i]'(by omega) := by rw [List.getD_eq_getElem?_getD, List.getElem?_eq_getElem (show i < ps.length by omega)]; rfl
        refine ⟨Tp, _, rfl, SqT.of upd_same, rfl, _, _, rfl, _, _, rfl, rfl, rfl, ?_⟩
        have hpl' : (ps[i]'(by omega)).length ≤ 100000 := hpl _ (List.getElem_mem _)
        have hv := hvo i hi
        rw [g1, g2] at hv
        refine ⟨_, rfl, _, rfl, _, _, .inl (vs.getD i .non), rfl, hv, hpl', (fun v' h H9 e9 => ?_), fun e h => nomatch h⟩
        cases h
        have e79 := eT.trans e9
        refine ⟨_, e79 _ _ hacc, ?_, (e7.trans e79).mut hD, ?_⟩
        · rw [List.length_take, sizeLine_eq]; omega
        · have hvi : vs[i]? = some (vs.getD i .non) := by
            rw [List.getD_eq_getElem?_getD, List.getElem?_eq_getElem (show i < vs.length by omega)]
            rfl
          rw [upd_same, List.take_succ, hvi]
          rfl
      · rintro H7 ⟨e7, hacc⟩
        rw [← hvl, List.take_length] at hacc
        have e27 := e26.trans e7
        have e07 := e2.trans e27
        refine q_when (b := vs.isEmpty) (et_nil (ev_var rfl) (SqL.of hacc) hvs) (fun hb8 H8 e8 => ?_) (fun hb8 H8 e8 => ?_)
        · have hv0 : vs = [] := List.isEmpty_iff.mp hb8
          rcases hend with ⟨_, hA⟩ | ⟨hne, _⟩
          · have e08 := e07.trans e8
            refine ⟨_, rfl, d, _, _, rfl, e08 _ _ hd, rfl, ?_⟩
            show tOp (rIxL K) (tVar 2) (tC (.int 0)) _ _ _
            refine hp0 (e27.trans e8) rfl H8 (Ex.refl _) _ fun H9 e9 => ?_
            exact ⟨B, d, S, p0, rfl, ⟨m, dd, hd0, L, r.stay (e08.trans e9)⟩, g, hA.stay (e08.trans e9)⟩
          · exact absurd hv0 hne
        · have hv0 : vs ≠ [] := fun q => by rw [q] at hb8; cases hb8
          rcases hend with ⟨he, _⟩ | ⟨_, hN⟩
          · exact absurd he hv0
          have hin : inV (.str p0) [.str "find", .str "count", .str "stand", .str "number", .str "pieces", .str "lacking"] = false := by
            rcases hN with ⟨rfl, _⟩ | ⟨rfl, _⟩ | ⟨rfl, _⟩ <;> decide +kernel
          refine q_when (b := false) (et_is (et_test (ev_inU (hp0 (e27.trans e8) rfl) (eu_tup (ea_cons ev_c (ea_cons ev_c (ea_cons ev_c (ea_cons ev_c (ea_cons ev_c (ea_cons ev_c ea_nil)))))) (by show 6 ≤ 100000; decide)) rfl rfl)) hin) (fun hb => nomatch hb) (fun _ H9 e9 => ?_)
          have e29 := e27.trans (e8.trans e9)
          have e09 := e2.trans e29
          refine ⟨_, rfl, d, _, _, rfl, e09 _ _ hd, rfl, ?_⟩
          show tOp (rIxL K) (tVar 2) (tC (.int 0)) _ _ _
          refine hp0 e29 rfl H9 (Ex.refl _) _ fun H10 e10 => ?_
          have e010 := e09.trans e10
          have hf10 := (e8.trans (e9.trans e10)) _ _ hacc
          refine ⟨_, rfl, B, d, DD, S, p0, rfl, ⟨m, dd, hd0, L, r.stay e010⟩, g, ?_⟩
          rcases hN.stay e010 with ⟨a1, i, z', a2, a3, a4, a5⟩ | ⟨a1, i, a2, a3, a4⟩ | ⟨a1, i, j, a2, a3, a4⟩
          · exact .inl ⟨a1, i, z', by rw [← a2]; exact SqL.of hf10, a3, a4, a5⟩
          · exact .inr (.inl ⟨a1, i, by rw [← a2]; exact SqL.of hf10, a3, a4⟩)
          · exact .inr (.inr ⟨a1, i, j, by rw [← a2]; exact SqL.of hf10, a3, a4⟩)
end
end Ap

/-! ## K1 -/
set_option Elab.async false
set_option linter.all false
set_option maxRecDepth 100000
set_option maxHeartbeats 4000000
namespace Ap
open PySem PySem.Spec PyProof.Rows L2 Evl
/-! ### a def that is handed a caught error -/
/-- what such a def promises of the error p and its values -/
abbrev SpP := Addr × Obj → List V → Hp → VK → Prop
structure FnP (P : Program) (w : World) (K : PySem.W.Frag) (mg : Str → Option Value) (base : Heap) (k : Nat) (f : Addr) (fd : FuncData) (ps : List Str) (sp : SpP) : Prop where
  len : ∀ p vs H Q, sp p vs H Q → vs.length = ps.length
  run : ∀ (A : Around) (outer : List Env) (s : Shared) (H : Hp) (args : Args) (us : List Value) (vs : List V) (Q : VK) (p : Addr × Obj), L2H.RoomH k A → L2H.PinOk outer H s p → Env0 P w K mg base A outer s H → BindsTo s fd args (ps.zip us) → Vals vs us → sp p vs H Q →
    codeAny (model P w) A (.call (.ref f) args) (CR CX0 outer P w H s Q E0) s
theorem FunD.okP {P : Program} {w : World} {K : PySem.W.Frag} {mg : Str → Option Value} {base : Heap} {x qual : Str} {params : Arguments} {body : List Stmt} {scope : Scope} {dvs : List V} {kws : List (Str × V)} {f : Addr} {fd : FuncData} {N ps : List Str} {k : Nat} {sp : SpP}
    (F : FunD K x qual params body scope dvs kws f fd) (S : FnScope N ps scope) (len : ∀ p vs H Q, sp p vs H Q → vs.length = ps.length)
    (hbody : ∀ (cdv : Value) (A : Around) (outer : List Env) (s : Shared) (H : Hp) (vs : List V) (Q : VK) (p : Addr × Obj), sp p vs H Q →
      ∃ t, PSs (L2H.cxH CX0 P w K mg base N qual scope f cdv A outer s H E0 p) body t ∧ t { nx := fun _ H' => Q .non H', rt := Q } (start N vs) H) : FnP P w K mg base (k + 1) f fd ps sp := by
  obtain ⟨oc, od, dV, kV, doc, pm, an, cdv, ct, osl, rfl, lk, hcd, _, _⟩ := F.ex
  refine ⟨len, fun A outer s H args us vs Q p hr hpin e0 hb r hsp => ?_⟩
  have X0 : K.In s.heap := e0.mod.kin.keeps fun b o e => (e0.bs b o e).1
  have kinds : ∀ y ∈ ps.zip us, scope.names.lookup y.1 = some .local ∨ (scope.names.lookup y.1 = some .cell ∧ ((cellsFrom (s.heap.objs.size + 1) scope.names []).lookup y.1).isSome = true) := fun y hy =>
    (S.par y.1 (List.of_mem_zip (a := y.1) (b := y.2) hy).1).imp id fun q => ⟨q, PySem.W.cellsFrom_some _ _ _ (.inl q)⟩
  refine codeAny_call_function hr.depth (X0 _ _ lk) rfl S.co S.gen rfl (PySem.W.codeRec_of X0 hcd) (hb _ _ _ _ (wpAny_newFunctionEnv_cells S.kind kinds fun env he s1 hx => ?_))
  subst he
  refine ⟨(e0.mod.nolimit.keeps fun b o e => (e0.bs b o e).1).keeps hx.toInCall.keep, codeAny_func ?_⟩
  obtain ⟨t, ht, hq⟩ := hbody cdv A outer s H vs Q p hsp
  refine wpAny_mono (ht.run [] s1 (start N vs) H _ (L2H.inv_startH S hpin e0 (len _ _ _ _ hsp) r hx) hq) (fun fl s' hs => ?_) fun e s' hs => hs
  cases fl with
  | ret u => obtain ⟨v, _, H', J, rv, q⟩ := hs; exact ⟨v, H', J.os, J.bare, J.base, J.hok, rv, q⟩
  | next => obtain ⟨_, H', J, q⟩ := hs; exact ⟨V.non, H', J.os, J.bare, J.base, J.hok, rfl, q⟩
  | brk => obtain ⟨_, _, _, q⟩ := hs; exact q.elim
  | cont => obtain ⟨_, _, _, q⟩ := hs; exact q.elim
section
variable {X : Cx} {k : Nat} {f : Addr} {fd : FuncData} {ps : List Str} {sp : SpP} {x : Str} {q pos : Pos} {e : Expr} {es : List Expr} {t : TA}
/-- f(e): e's value the error that the context pins -/
def tCallP (sp : SpP) (p : Addr × Obj) (t : TA) : TE := fun σ H Q => t σ H fun vs H1 => sp p vs H1 Q
theorem pe_callP {p : Addr × Obj} (F : FnP X.prog X.w X.K X.mg X.base k f fd ps sp) (hr : L2H.RoomH k X.A) (hp : p ∈ X.pn) (hg : Gl X x) (hm : X.mg x = some (.ref f)) (hk : PySem.W.keepIn X.K (.ref f) = true) (hb : Binds X.K fd ps [])
    (ha : PA X (e :: es) t) (hdb : (x == ("__debug__" : Str)) = false := by decide) (he : starEach (e :: es) X.env = (false, eval e X.env) :: starEach es X.env := by rfl) (hpl : (backTo pos (starEach es X.env)).any (·.1) = false := by rfl) :
    PE X (.Call (.Name x q) (e :: es) [] pos) (tCallP sp p t) := by
  refine ⟨fun pins s σ H Q I h => ?_⟩
  refine wpAny_Call_Name_kw (ld_glob I hg hm ?_ hdb)
  refine PySem.W.callWith_K (h₀ := X.base) I.ok.mod.kin hk (thn (ha.run pos pins s σ H _ I h) fun us s1 ⟨vs, H1, I1, r, q⟩ => ⟨I1.kIn, ?_⟩) he hpl
  have hl : us.length = ps.length := by rw [← r.length]; exact F.len _ _ _ _ q
  have b := hb s1 us I1.kIn (by rw [List.append_nil]; exact hl)
  rw [List.append_nil] at b
  obtain ⟨p1, p2, p3, p4, p5⟩ := I1.pin p (List.mem_append_left _ hp)
  refine wpAny_call (codeAny_mono (F.run X.A X.stack s1 H1 ⟨us, []⟩ us vs Q p hr ⟨p1, p2, fun z => (List.mem_cons.mp (I1.stkSub p.1 z)).elim p3 p4, p5⟩ I1.env0 b r q) fun r s' hq => ?_)
  cases r with
  | error e => exact hq.elim
  | ok fl =>
    cases fl with
    | ret u => exact I1.after hq
    | next => exact hq.elim
    | brk => exact hq.elim
    | cont => exact hq.elim
/-- isinstance of a pinned error -/
theorem inst_P {a D : Addr} {oe : Obj} {h : Heap} (hz : Zc (.ref D) none oe) (hf : ∃ vs, oe.data = .fields vs) (hget : h.get? a = some oe) : PySem.W.InstAt h a oe D none := by
  obtain ⟨vs, hv⟩ := hf
  obtain ⟨oc, od, oda, osl⟩ := oe
  obtain ⟨h1, h2⟩ := hz
  dsimp only at h1 h2 hv
  subst h1 h2 hv
  exact ⟨hget, rfl, rfl, trivial⟩
theorem call_isP {a D : Addr} {oe : Obj} (C : ExcC X.K D) (hz : Zc (.ref D) none oe) (hf : ∃ vs, oe.data = .fields vs) (hp : (a, oe) ∈ X.pn) : CallR X (.builtin "isinstance") (rIsE X.K D a) := by
  intro pins s σ H xs us Q I r h
  obtain ⟨c, cv, b, rfl, hcv, e, q⟩ := h
  cases r with
  | cons rx rr =>
    cases rr with
    | cons rt rr =>
      cases rr
      cases rx
      have ec := hcv _ rt
      subst ec
      exact PySem.W.kia_one (PySem.W.handS_kitx_exc C.hg C.hk C.hs C.hd C.ha C.hn C.ht C.hm) I.kIn (inst_P hz hf (I.pin (a, oe) (List.mem_append.mpr (.inl hp))).1) e (fun z => nomatch z) fun tk => ⟨.bl b, H, I.kept (t' := tk) fun _ _ z => z, rfl, q⟩
/-- .. of some classes in a tuple -/
def rIsT (K : PySem.W.Frag) (D a : Addr) : List V → Hp → VK → Prop := fun xs H Q => ∃ (tp : Addr) (cs : List Addr) (b : Bool), xs = [.ref a, .ref tp] ∧ H tp = some (.tup (cs.map V.ref)) ∧ PySem.W.kitAny K (.ref D) (cs.map Value.ref) = some b ∧ Q (.bl b) H
theorem vals_refs : ∀ {cs : List Addr} {us : List Value}, Vals (cs.map V.ref) us → us = cs.map Value.ref
  | [], _, .nil => rfl
  | c :: cs, _, .cons r t => by
    cases r
    rw [vals_refs t]
    rfl
theorem call_isT {a D : Addr} {oe : Obj} (C : ExcC X.K D) (hz : Zc (.ref D) none oe) (hf : ∃ vs, oe.data = .fields vs) (hp : (a, oe) ∈ X.pn) : CallR X (.builtin "isinstance") (rIsT X.K D a) := by
  intro pins s σ H xs us Q I r h
  obtain ⟨tp, cs, b, rfl, htp, e, q⟩ := h
  cases r with
  | cons rx rr =>
    cases rr with
    | cons rt rr =>
      cases rr
      cases rx
      cases rt
      obtain ⟨hz2, its, rv, ⟨o, ho, hc, n, hdt⟩⟩ := (show ObjOk X.prog X.w H s.heap tp (.tup (cs.map V.ref)) from I.hok tp _ htp)
      have ei := vals_refs rv
      subst ei
      obtain ⟨oc, od, dt, osl⟩ := o
      dsimp only at hc hdt
      subst hc hdt
      exact PySem.W.kia_tup (PySem.W.handS_kitx_exc C.hg C.hk C.hs C.hd C.ha C.hn C.ht C.hm) I.kIn (inst_P hz hf (I.pin (a, oe) (List.mem_append.mpr (.inl hp))).1) ho e (fun z => nomatch z) fun tk => ⟨.bl b, H, I.kept (t' := tk) fun _ _ z => z, rfl, q⟩
end
/-! ### lists: ['x'] * int(b), a + b -/
section
variable {K : PySem.W.Frag} {σ : L2.St} {H : Hp} {ta tb : TE}
def rInt1 : List V → Hp → VK → Prop := fun xs H Q => (∃ i, xs = [.int i] ∧ Q (.int i) H) ∨ ∃ k, xs = [.bl k] ∧ Q (.int (if k then 1 else 0)) H
theorem el_cat {xs ys : List V} (ha : EvL ta σ H xs) (hb : EvL tb σ H ys) (hz : xs.length + ys.length ≤ 1000) : EvL (tOp rCat ta tb) σ H (xs ++ ys) := fun H1 e Q q =>
  ha H1 e _ fun l H2 hl e2 h2 => hb H2 (e.trans e2) _ fun b H3 hb3 e3 h3 => ⟨l, b, xs, ys, rfl, rfl, e3 _ _ h2, h3, by rw [sizeLine_eq]; omega, fun p hp => q p _ (fresh_back (e2.trans e3) hp) ((e2.trans e3).trans (Ex.new hp)) upd_same⟩
theorem el_cat1 {l : Addr} {xs ys : List V} (ha : Ev ta σ H (.ref l)) (hl : H l = some (.lst xs)) (hb : EvL tb σ H ys) (hz : xs.length + ys.length ≤ 1000) : EvL (tOp rCat ta tb) σ H (xs ++ ys) := fun H1 e Q q =>
  ha H1 e _ fun H2 e2 => hb H2 (e.trans e2) _ fun b H3 hb3 e3 h3 => ⟨l, b, xs, ys, rfl, rfl, ((e.trans e2).trans e3) _ _ hl, h3, by rw [sizeLine_eq]; omega, fun p hp => q p _ (fresh_back (e2.trans e3) hp) ((e2.trans e3).trans (Ex.new hp)) upd_same⟩
theorem el_cat2 {l : Addr} {xs ys : List V} (ha : EvL ta σ H xs) (hl : H l = some (.lst ys)) (hb : Ev tb σ H (.ref l)) (hz : xs.length + ys.length ≤ 1000) : EvL (tOp rCat ta tb) σ H (xs ++ ys) := fun H1 e Q q =>
  ha H1 e _ fun b H2 hb2 e2 h2 => hb H2 (e.trans e2) _ fun H3 e3 => ⟨b, l, xs, ys, rfl, rfl, e3 _ _ h2, ((e.trans e2).trans e3) _ _ hl, by rw [sizeLine_eq]; omega, fun p hp => q p _ (fresh_back (e2.trans e3) hp) ((e2.trans e3).trans (Ex.new hp)) upd_same⟩
theorem el_mark {z : Str} {b : Bool} (hb : Ev tb σ H (.bl b)) : EvL (tOp rRep (tLst (tCons (tC (.str z)) tNil)) (tCB rInt1 (tCons tb tNil))) σ H (if b then [.str z] else []) := fun H1 e Q q =>
  ⟨by show 1 ≤ sizeLine; rw [sizeLine_eq]; decide, fun l hl => by
    refine hb _ (e.trans (Ex.new hl)) _ fun H3 e3 => .inr ⟨b, rfl, ?_⟩
    have h3 := e3 _ _ (show upd H1 l (.lst [.str z]) l = _ from upd_same)
    refine ⟨l, if b then 1 else 0, [.str z], rfl, rfl, h3, ?_, ?_, ?_, fun p hp => ?_⟩
    · cases b <;> decide
    · cases b <;> decide
    · cases b
      · show 1 * 0 ≤ sizeLine
        exact Nat.zero_le _
      · show 1 * 1 ≤ sizeLine
        rw [sizeLine_eq]
        decide
    · have e4 : Ex H1 H3 := (Ex.new hl).trans e3
      have el : (List.replicate (if b then (1 : Int) else 0).toNat [V.str z]).flatten = if b then [.str z] else [] := by cases b <;> rfl
      rw [el]
      exact q p _ (fresh_back e4 hp) (e4.trans (Ex.new hp)) upd_same⟩
theorem ev_isE {a D : Addr} {c : V} {cv : Value} {b : Bool} (ha : Ev ta σ H (.ref a)) (hc : Ev tb σ H c) (hv : ∀ u, RelV c u → u = cv) (hk : PySem.W.kitOne K (.ref D) cv = some b) : Ev (tCB (rIsE K D a) (tCons ta (tCons tb tNil))) σ H (.bl b) := fun H1 e Q q =>
  ha H1 e _ fun H2 e2 => hc H2 (e.trans e2) _ fun H3 e3 => ⟨c, cv, b, rfl, hv, hk, q H3 (e2.trans e3)⟩
theorem ev_isT {a D : Addr} {cs : List Addr} {b : Bool} (ha : Ev ta σ H (.ref a)) (hc : EvU tb σ H (cs.map V.ref)) (hk : PySem.W.kitAny K (.ref D) (cs.map Value.ref) = some b) : Ev (tCB (rIsT K D a) (tCons ta (tCons tb tNil))) σ H (.bl b) := fun H1 e Q q =>
  ha H1 e _ fun H2 e2 => hc H2 (e.trans e2) _ fun tp H3 _ e3 h3 => ⟨tp, cs, b, rfl, h3, hk, q H3 (e2.trans e3)⟩
end
/-! ### _law_kinds -/
def Er.say : Er → Str
  | .row => "row"
  | .word => "word"
  | .number => "number"
  | .text => "text"
  | .many => "many"
  | .stand => "stand"
section
variable {P : Program} {w : World} {K : PySem.W.Frag} {mg : Str → Option Value} {base : Heap}
def spKinds (K : PySem.W.Frag) : SpP := fun p vs H Q => ∃ d : Er, vs = [.ref p.1] ∧ Zc (.ref (ea K d)) none p.2 ∧ (∃ fs, p.2.data = .fields fs) ∧ ∀ q H', H q = none → Ex H H' → H' q = some (.lst [.str d.say]) → Q (.ref q) H'
theorem scKinds : FnScope ["_law_error", "_law_kinds_here"] ["_law_error"] (defScope s_law_kinds) := ⟨rfl, rfl, rfl, by decide +kernel, rfl, by decide +kernel, by decide +kernel⟩
theorem ok_kinds (T : Tx K mg w) : FnP P w K mg base 1 (He.fAd K ("_law_kinds", none)) (fo K ("_law_kinds", none)) ["_law_error"] (spKinds K) := by
  refine FunD.okP T.h_law_kinds scKinds (fun p vs H Q h => ?_) (fun cdv A outer s H vs Q p h => ?_)
  · obtain ⟨d, rfl, _⟩ := h
    rfl
  · obtain ⟨a, oe⟩ := p
    obtain ⟨d, rfl, hz, hf, k⟩ := h
    have C := T.excC d
    obtain ⟨k1, _, k3⟩ := T.kit d
    have G : ∀ e : Er, mg e.cls = some (.ref (ea K e)) := fun e => (T.exc e).1
    refine ⟨_, PSs.nox (pss_cons (ps_set (i := 1) scKinds.nd rfl (Or.inl rfl) (pe_op op_cat
          (pe_op op_rep (pe_lst (pa_cons pe_str pa_nil)) (pe_callTy call_int1 (by rfl) T.f_int b_int (pa_cons (pe_callB (call_isP C hz hf List.mem_cons_self) (by rfl) T.f_isinstance b_isinstance (pa_cons (pv 0) (pa_cons (pe_glob (v := .ref (ea K .row)) (by rfl) (G .row) rfl) pa_nil))) pa_nil)))
          (pe_op op_rep (pe_lst (pa_cons pe_str pa_nil)) (pe_callTy call_int1 (by rfl) T.f_int b_int (pa_cons (pe_callB (call_isP C hz hf List.mem_cons_self) (by rfl) T.f_isinstance b_isinstance (pa_cons (pv 0) (pa_cons (pe_glob (v := .ref (ea K .word)) (by rfl) (G .word) rfl) pa_nil))) pa_nil)))))
      (pss_cons (ps_set (i := 1) scKinds.nd rfl (Or.inl rfl) (pe_op op_cat (pe_op op_cat (pv 1)
          (pe_op op_rep (pe_lst (pa_cons pe_str pa_nil)) (pe_callTy call_int1 (by rfl) T.f_int b_int (pa_cons (pe_callB (call_isP C hz hf List.mem_cons_self) (by rfl) T.f_isinstance b_isinstance (pa_cons (pv 0) (pa_cons (pe_glob (v := .ref (ea K .number)) (by rfl) (G .number) rfl) pa_nil))) pa_nil))))
          (pe_op op_rep (pe_lst (pa_cons pe_str pa_nil)) (pe_callTy call_int1 (by rfl) T.f_int b_int (pa_cons (pe_callB (call_isP C hz hf List.mem_cons_self) (by rfl) T.f_isinstance b_isinstance (pa_cons (pv 0) (pa_cons (pe_glob (v := .ref (ea K .text)) (by rfl) (G .text) rfl) pa_nil))) pa_nil)))))
      (pss_cons (ps_set (i := 1) scKinds.nd rfl (Or.inl rfl) (pe_op op_cat (pe_op op_cat (pv 1)
          (pe_op op_rep (pe_lst (pa_cons pe_str pa_nil)) (pe_callTy call_int1 (by rfl) T.f_int b_int (pa_cons (pe_callB (call_isP C hz hf List.mem_cons_self) (by rfl) T.f_isinstance b_isinstance (pa_cons (pv 0) (pa_cons (pe_glob (v := .ref (ea K .many)) (by rfl) (G .many) rfl) pa_nil))) pa_nil))))
          (pe_op op_rep (pe_lst (pa_cons pe_str pa_nil)) (pe_callTy call_int1 (by rfl) T.f_int b_int (pa_cons (pe_callB (call_isP C hz hf List.mem_cons_self) (by rfl) T.f_isinstance b_isinstance (pa_cons (pv 0) (pa_cons (pe_glob (v := .ref (ea K .stand)) (by rfl) (G .stand) rfl) pa_nil))) pa_nil)))))
      (pss_one (ps_ret (pe_op op_cat (pv 1) (pe_op op_rep (pe_lst (pa_cons pe_str pa_nil)) (pe_callTy call_int1 (by rfl) T.f_int b_int (pa_cons (pe_callB (call_isT C hz hf List.mem_cons_self) (by rfl) T.f_isinstance b_isinstance (pa_cons (pv 0)
          (pa_cons (pe_tup (pa_cons (pe_glob (v := .ref (He.ga K "NoBook")) (by rfl) T.g_NoBook rfl) (pa_cons (pe_glob (v := .ref (He.ga K "NoTable")) (by rfl) T.g_NoTable rfl) pa_nil))) pa_nil))) pa_nil))))))))), ?_⟩
    have hv : ∀ e : Er, ∀ u, RelV (.ref (ea K e)) u → u = .ref (ea K e) := fun e u r => r
    have mk : ∀ {σ : L2.St} {H1 : Hp} (e : Er) (z : Str), σ[0]? = some (some (.ref a)) → EvL (tOp rRep (tLst (tCons (tC (.str z)) tNil)) (tCB rInt1 (tCons (tCB (rIsE K (ea K d) a) (tCons (tVar 0) (tCons (tC (.ref (ea K e))) tNil))) tNil))) σ H1 (if decide (d = e) then [.str z] else []) := fun {σ H1} e z hσ =>
      el_mark (ev_isE (ev_var hσ) ev_c (hv e) (k1 e))
    have l1 : ∀ (b : Bool) (z : Str), (if b then [V.str z] else []).length ≤ 1 := fun b z => by cases b <;> first | exact Nat.zero_le _ | exact Nat.le_refl 1
    refine q_asgL (el_cat (mk .row "row" rfl) (mk .word "word" rfl) (by have := l1 (decide (d = .row)) "row"; have := l1 (decide (d = .word)) "word"; omega)) fun p1 H1 hp1 e1 h1 => ?_
    have z1 : ((if decide (d = .row) then [V.str "row"] else []) ++ (if decide (d = .word) then [V.str "word"] else [])).length ≤ 2 := by cases d <;> decide
    refine q_asgL (el_cat (el_cat1 (ev_var rfl) h1 (mk .number "number" rfl) (by have := l1 (decide (d = .number)) "number"; omega)) (mk .text "text" rfl) (by cases d <;> decide)) fun p2 H2 hp2 e2 h2 => ?_
    refine q_asgL (el_cat (el_cat1 (ev_var rfl) h2 (mk .many "many" rfl) (by cases d <;> decide)) (mk .stand "stand" rfl) (by cases d <;> decide)) fun p3 H3 hp3 e3 h3 => ?_
    refine s_retL (el_cat1 (ev_var rfl) h3 (el_mark (b := false) (ev_isT (cs := [He.ga K "NoBook", He.ga K "NoTable"]) (ev_var rfl) (eu_tup (ea_cons ev_c (ea_cons ev_c ea_nil)) (by show 2 ≤ 100000; decide)) k3)) (by cases d <;> decide)) fun p4 H4 hp4 e4 h4 => ?_
    refine k p4 H4 (fresh_back (e1.trans (e2.trans e3)) hp4) (e1.trans (e2.trans (e3.trans e4))) ?_
    rw [h4]
    cases d <;> rfl
end
end Ap

/-! ## K2 -/
set_option Elab.async false
set_option linter.all false
set_option maxRecDepth 100000
set_option maxHeartbeats 4000000
namespace Ap
open PySem PySem.Spec PyProof.Rows L2 Evl
section
variable {X : Cx} {k : Nat} {C f : Addr} {fd : FuncData} {ps : List Str} {sp : Sp} {E : St → XK} {m : Str} {apos pos : Pos} {o e : Expr} {es : List Expr} {ta : TE} {t : TA}
/-- o.m(..), what is wished of an error told with the slots -/
def tMethS (C : Addr) (m : Str) (sp : Sp) (E : St → XK) (ta : TE) (t : TA) : TE := fun σ H Q => ta σ H fun x H1 => ∃ a dx fs, x = .ref a ∧ H1 a = some (.ins C dx fs) ∧ fs.lookup m = none ∧ t σ H1 fun vs H2 => sp (x :: vs) H2 Q (E σ)
theorem pe_methSl {CX : CXT} {pl : Sem Bool} (he : PE X o ta) (c : Cls X.K C) (hm : Meth X.K C m f) (F : FnOk X.prog X.w X.K X.mg X.base CX k f fd ps sp) (hr : Room k X.A) (hb : Binds X.K fd ps []) (hx : ∀ σ, PassesAt CX X σ (E σ)) (ha : PA X (e :: es) t)
    (hst : starEach (e :: es) X.env = (false, eval e X.env) :: starEach es X.env := by rfl) (hpl : (backTo pos (starEach es X.env)).any (·.1) = false := by rfl)
    (ht : eval (.Call (.Attribute o m apos) (e :: es) [] pos) X.env = (do
      let ov ← eval o X.env
      standAt apos.atName
      let (f, first) ← holding [ov] (getMethod ov m pl)
      callWith pos f first (backTo pos (starEach (e :: es) X.env)) (backToKw pos (keywordEach [] X.env))) := by rfl) :
    PE X (.Call (.Attribute o m apos) (e :: es) [] pos) (tMethS C m sp E ta t) := by
  refine ⟨fun pins s σ H Q I h => ?_⟩
  refine PySem.W.methodCall_KW (pl := pl) (thn (he.run pins s σ H _ I h) fun u s1 ⟨x, H1, I1, rx, a, dx, fs, ex, ea, l, q⟩ => ?_) ht
  subst ex
  obtain rfl : u = Value.ref a := rx
  refine getmeth_ok I1 ea c hm l ?_
  refine PySem.W.callWith_K (first := [.ref a]) (h₀ := X.base) I.ok.mod.kin hm.kp (thn (ha.run pos pins s1 σ H1 _ I1 q) fun us s2 ⟨vs, H2, I2, r, q2⟩ => ⟨I2.kIn, ?_⟩) hst hpl
  exact run_fnS (us := .ref a :: us) (vs := .ref a :: vs) F hr hb (hx σ) I2 (.cons rfl r) q2
end
section
variable {P : Program} {w : World} {K : PySem.W.Frag} {mg : Str → Option Value} {base : Heap}
/-! ### _law_refused -/
/-- what the suite computes -/
def tsuite (K : PySem.W.Frag) (a : Addr) (cls : Value) (d : Option Addr) : TS := fun D σ H => ∃ e : Er, cls = .ref (ea K e) ∧ d = none ∧ ∃ due : Str, σ[2]? = some (some (.str due)) ∧ σ[4]? = some (some (.ref a)) ∧ H a = none ∧ PyData.strOk due = true ∧
  ∀ p H', H p = none → Ex H H' → H' p = some (.lst [.bl true, .bl (decide (e.say = due))]) → D.nx (σ.set 3 (some (.ref p))) H'
def spRefused (K : PySem.W.Frag) : Sp := fun vs H Q _ => ∃ (d : Addr) (x : V) (due : Str), vs = [.ref d, x, .str due] ∧ PyData.strOk due = true ∧ spSay K [.ref d, x] H (fun _ _ => False) (fun cls dd H' => ∃ e : Er, cls = .ref (ea K e) ∧ dd = none ∧ Ex H H' ∧ (∀ H2, Ex H H2 → Q (.bl (decide (e.say = due))) H2))
theorem scRefused : FnScope ["_law_desk", "_law_row_here", "_law_due", "_law_marks", "e"] ["_law_desk", "_law_row_here", "_law_due"] (defScope s_law_refused) := ⟨rfl, rfl, rfl, by decide +kernel, rfl, by decide +kernel, by decide +kernel⟩
theorem GrowEnd.mono {B H H1 : Hp} {d : Addr} {S : MS} {i : Nat} {z : Str} {Q Q1 : VK} {E E1 : XK} (g : GrowEnd K B H d S i z Q E) (e : Ex H H1) (hq : ∀ v H', Q v H' → Q1 v H') (he : ∀ c d H', E c d H' → E1 c d H') : GrowEnd K B H1 d S i z Q1 E1 :=
  ⟨fun h H' e' => he _ _ _ (g.1 h H' (e.trans e')), fun h1 h2 H' e' => he _ _ _ (g.2.1 h1 h2 H' (e.trans e')), fun t ht => (g.2.2 t ht).imp id fun ⟨a, b⟩ => ⟨a, fun H' S' x y z => hq _ _ (b H' S' x y z)⟩⟩
theorem SayEnd.mono {B H H1 : Hp} {d : Addr} {S : MS} {p0 : Str} {ps : List Str} {Q Q1 : VK} {E E1 : XK} (g : SayEnd K B H d S p0 ps Q E) (e : Ex H H1) (hq : ∀ v H', Q v H' → Q1 v H') (he : ∀ c d H', E c d H' → E1 c d H') : SayEnd K B H1 d S p0 ps Q1 E1 := by
  rcases g with ⟨a1, a2, a3⟩ | ⟨a1, a2, a3⟩ | ⟨ks, a1, a2, a3⟩
  · refine .inl ⟨a1, a2, a3.imp (fun ⟨x, y⟩ => ⟨x, fun H' e' => he _ _ _ (y H' (e.trans e'))⟩) fun ⟨x, y⟩ => ⟨x, fun H' e' => he _ _ _ (y H' (e.trans e'))⟩⟩
  · exact .inr (.inl ⟨a1, a2, fun H' e' => he _ _ _ (a3 H' (e.trans e'))⟩)
  · refine .inr (.inr ⟨ks, a1, a2, ?_⟩)
    rcases a3 with ⟨b, er, b1, b2, b3, b4⟩ | ⟨vs, b1, b2, b3, b4⟩
    · exact .inl ⟨b, er, b1, b2, b3, fun H' e' => he _ _ _ (b4 H' (e.trans e'))⟩
    · refine .inr ⟨vs, b1, b2, b3, ?_⟩
      rcases b4 with ⟨c1, c2⟩ | ⟨c1, c2⟩
      · refine .inl ⟨c1, ?_⟩
        rcases c2 with ⟨d1, d2, d3⟩ | ⟨d1, d2⟩ | ⟨d1, d2⟩
        · exact .inl ⟨d1, fun h H' e' => he _ _ _ (d2 h H' (e.trans e')), fun h H' r => hq _ _ (d3 h H' r)⟩
        · exact .inr (.inl ⟨d1, fun H' e' => hq _ _ (d2 H' (e.trans e'))⟩)
        · exact .inr (.inr ⟨d1, fun H' e' => hq _ _ (d2 H' (e.trans e'))⟩)
      · refine .inr ⟨c1, ?_⟩
        rcases c2 with ⟨d1, i, z, d2, d3, d4, d5⟩ | ⟨d1, i, d2, d3, d4⟩ | ⟨d1, i, j, d2, d3, d4⟩
        · exact .inl ⟨d1, i, z, d2, d3, d4, d5.mono e hq he⟩
        · exact .inr (.inl ⟨d1, i, d2, d3, fun H' e' => he _ _ _ (d4 H' (e.trans e'))⟩)
        · exact .inr (.inr ⟨d1, i, j, d2, d3, fun H' e' => he _ _ _ (d4 H' (e.trans e'))⟩)
theorem spSay.mono {vs : List V} {H H1 : Hp} {Q Q1 : VK} {E E1 : XK} (g : spSay K vs H Q E) (e : Ex H H1) (hq : ∀ v H', Q v H' → Q1 v H') (he : ∀ c d H', E c d H' → E1 c d H') : spSay K vs H1 Q1 E1 := by
  obtain ⟨B, d, S, x, h1, h2, h3, h4⟩ := g
  refine ⟨B, d, S, x, h1, h2.stay e, h3, ?_⟩
  rcases h4 with ⟨t, t1, t2, t3, t4⟩ | ⟨z, p0, ps, t1, t2, t3, t4⟩
  · exact .inl ⟨t, t2 _ e, fun H' e' => t2 H' (e.trans e'), t3, fun H' e' => he _ _ _ (t4 H' (e.trans e'))⟩
  · exact .inr ⟨z, p0, ps, t1, t2, t3, t4.mono e hq he⟩
theorem spSay.desk {d : Addr} {x : V} {H : Hp} {Q : VK} {E : XK} (g : spSay K [.ref d, x] H Q E) : ∃ dd fs, H d = some (.ins (He.ga K "Desk") dd fs) ∧ fs.lookup ("say" : Str) = none := by
  obtain ⟨B, d', S, x', h1, ⟨m, dd, h2, L, r⟩, _⟩ := g
  have e1 : d = d' := by
    have := List.head_eq_of_cons_eq h1
    exact V.ref.inj this
  subst e1
  exact ⟨dd, _, r.ex _ _ h2, rfl⟩
theorem ok_refused (T : Tx K mg w) : FnOk P w K mg base CX0 8 (He.fAd K ("_law_refused", none)) (fo K ("_law_refused", none)) ["_law_desk", "_law_row_here", "_law_due"] (spRefused K) := by
  have GS := ok_say (P := P) (base := base) T
  have FK := ok_kinds (P := P) (base := base) T
  have bS : Binds K (fo K ("Desk", some "say")) ["self", "row"] [] := T.h_Desk_say.bindsN fun _ _ _ _ _ _ us hl => match us, hl with | [_, _], _ => rfl
  have bK : Binds K (fo K ("_law_kinds", none)) ["_law_error"] [] := T.h_law_kinds.bindsN fun _ _ _ _ _ _ us hl => match us, hl with | [_], _ => rfl
  refine T.h_law_refused.ok scRefused (fun vs H Q E h => ?_) (fun cdv A outer s0 H vs Q E hr h => ?_)
  · obtain ⟨d, x, due, rfl, _⟩ := h
    rfl
  · obtain ⟨d, x, due, rfl, hdue, hS⟩ := h
    refine ⟨_, PSs.nox (pss_cons (ps_set (i := 3) scRefused.nd rfl (Or.inl rfl) (pe_lst pa_nil))
      (pss_cons (ps_try_as (i := 4) (tb := fun W => tDrop (tMethS (He.ga K "Desk") "say" (spSay K) (WE W) (tVar 0) (tCons (tVar 1) tNil))) (ts := tsuite K) (Wout := fun _ _ _ _ => False) rfl rfl scRefused.nd rfl rfl ⟨rfl, by decide, Or.inl T.g_PartError⟩ takes0
        (fun W pn xe tk _ => pss_one (ps_expr (by exact (pe_methSl (pv 0) T.c_Desk T.t_Desk_say GS hr bS (fun σ => passAt tk σ) (pa_cons (pv 1) pa_nil)))))
        (fun a oe cls dd pn hz hf => ⟨fun pins s σ H D I hh => ?_⟩))
      (pss_one (ps_ret (pe_cmpR (op_eqD hr.units) (pv 3) (pe_lst (pa_cons pe_bl (pa_cons pe_bl pa_nil))) (nomark _)))))), ?_⟩
    · -- the suite
      obtain ⟨e, rfl, rfl, due, h2, h4, ha, hdu, k⟩ := hh
      have kt := T.kit e
      have hu64 : ((A.deeper (envOfC "_law_refused" (defScope s_law_refused) s0.heap.objs.size (He.fAd K ("_law_refused", none)) cdv)).mark (some (.ref a))).units + 64 < cLine := hr.units
      have hr1 : L2H.RoomH 1 ((A.deeper (envOfC "_law_refused" (defScope s_law_refused) s0.heap.objs.size (He.fAd K ("_law_refused", none)) cdv)).mark (some (.ref a))) := ⟨(L2H.roomH_of (hr.mono (by decide : 1 ≤ 7))).dp, (L2H.roomH_of (hr.mono (by decide : 1 ≤ 7))).un⟩
      refine (pss_one (ps_set (i := 3) scRefused.nd rfl (Or.inl rfl) (pe_lst (pa_cons (pe_callB (call_isE (T.excC e) hz hf) (by rfl) T.f_isinstance b_isinstance (pa_cons (pv 4) (pa_cons (pe_bltn (v := .ty "ValueError") (by rfl) T.f_ValueError b_ValueError rfl) pa_nil)))
        (pa_cons (by exact pe_cmpR (op_eqD hu64) (pe_callP (p := (a, oe)) FK hr1 List.mem_cons_self (by rfl) T.g_law_kinds T.h_law_kinds.kp bK (pa_cons (pv 4) pa_nil)) (pe_lst (pa_cons (pv 2) pa_nil)) (nomark _)) pa_nil))))).run pins s σ H D I ?_
      -- [isinstance(e, ValueError), _law_kinds(e) == [_law_due]]
      refine ev_isE (c := .ty "ValueError") (cv := .type "ValueError") (ev_var h4) ev_c (fun u r => r) kt.2.1 H (Ex.refl _) _ fun H1 e1 => ?_
      refine ⟨_, h4, e, rfl, hz, hf, fun q H2 hq e2 h2' => ?_⟩
      refine ⟨_, h2, by show 1 ≤ sizeLine; rw [sizeLine_eq]; decide, fun p hp => ?_⟩
      have e3 : Ex H2 (upd H2 p (.lst [.str due])) := Ex.new hp
      have hp3 : upd H2 p (.lst [.str due]) p = some (.lst [.str due]) := upd_same
      have hq3 := e3 _ _ h2'
      generalize upd H2 p (.lst [.str due]) = H3 at *
      have s1 : ([V.str e.say]).all sb = true := by cases e <;> decide +kernel
      have s2 : ([V.str due]).all sb = true := by
        show (PyData.strOk due && true) = true
        rw [hdu]
        rfl
      refine rv_eqL (K := K) (SqL.of hq3) (SqL.of hp3) s1 s2 H3 (Ex.refl _) _ fun H4 e4 => ?_
      refine ⟨by show 2 ≤ sizeLine; rw [sizeLine_eq]; decide, fun p5 hp5 => ?_⟩
      have e04 : Ex H H4 := e1.trans (e2.trans (e3.trans e4))
      refine k p5 _ (fresh_back e04 hp5) (e04.trans (Ex.new hp5)) ?_
      rw [upd_same]
      have : PyData.eqvAll ([V.str e.say].map datS) ([V.str due].map datS) = decide (e.say = due) := by
        have := eqv_strs [e.say] [due]
        rw [show ([e.say].map V.str) = [V.str e.say] from rfl, show ([due].map V.str) = [V.str due] from rfl] at this
        rw [this]
        rw [decide_eq_decide]
        exact ⟨fun h => List.head_eq_of_cons_eq h, fun h => by rw [h]⟩
      rw [this]
    · -- the way
      refine q_asgL (el_lst ea_nil (by decide)) fun pm H1 hpm e1 h1 => ?_
      obtain ⟨dd, fs, hd, hl⟩ := hS.desk
      refine ⟨_, rfl, d, dd, fs, rfl, e1 _ _ hd, hl, _, rfl, ?_⟩
      refine hS.mono e1 (fun v H' h => h.elim) fun cls d0 H2 ⟨e, hc, hd0, e2, k⟩ => ?_
      subst hc hd0
      refine ⟨true, (T.exc e).2.2.2.2.2, fun _ a ha => ⟨e, rfl, rfl, due, rfl, rfl, ha, hdue, fun p H3 hp e3 h3 => ?_⟩, fun h => nomatch h⟩
      show tRet (tOp (rEqD K) (tVar 3) (tLst (tCons (tC (.bl true)) (tCons (tC (.bl true)) tNil)))) _ _ _
      refine s_ret (v := .bl (decide (e.say = due))) (ev_is (ev_opL (ev_var rfl) (el_lst (ea_cons ev_c (ea_cons ev_c ea_nil)) (by show 2 ≤ 100000; decide)) fun q H4 hq e4 => rv_eqL (SqL.of (e4 _ _ h3)) (SqL.of hq) rfl rfl) ?_) fun H4 e4 => k H4 (e2.trans (e3.trans e4))
      cases decide (e.say = due) <;> rfl
end
end Ap

/-! ## K3 -/
set_option Elab.async false
set_option linter.all false
set_option maxRecDepth 100000
set_option maxHeartbeats 4000000
namespace Ap
open PySem PySem.Spec PyProof.Rows L2 Evl PySem.Froz
/-! ### text * int -/
def repS (c n : Nat) : Str := ⟨(List.replicate n c).toArray⟩
section
variable {X : Cx}
def rMulT : R2 := fun x y H Q => ∃ (c n : Nat), x = .str ⟨#[c]⟩ ∧ y = .int (n : Nat) ∧ n ≤ 100000 ∧ Q (.str (repS c n)) H
theorem op_mulT : OpR X (binaryOp .Mult) rMulT := by
  intro pins s σ H x y v u Q I rx ry h
  obtain ⟨c, n, rfl, rfl, hn, q⟩ := h
  obtain ⟨t, rfl⟩ := rx
  obtain ⟨t', rfl⟩ := ry
  have hlen : (⟨#[c]⟩ : Str).length = 1 := rfl
  have e : Txt.mul ⟨#[c]⟩ ((n : Nat) : Int) = repS c n := str_ext (by
    rw [mul_one_list]
    show List.replicate ((n : Nat) : Int).toNat c = (List.replicate n c).toArray.toList
    rw [Int.toNat_natCast])
  refine SB.mul ⟨?_, fun h1 _ => ?_, fun _ _ => ?_⟩ fun t2 k => ⟨.str (repS c n), H, I.tok _, ⟨t2, by rw [e]⟩, q⟩
  · rw [Bool.or_eq_false_iff]
    exact ⟨decide_eq_false (by omega), decide_eq_false (by omega)⟩
  · rw [hlen]
    intro hgt
    have : (1 : Int) ≤ (2 ^ 63 - 1) / (n : Int) := by
      rw [Int.le_ediv_iff_mul_le (by omega)]
      omega
    omega
  · rw [hlen]
    show decide _ = false
    refine decide_eq_false ?_
    have hs : sizeLine = 16777216 := sizeLine_eq
    have : 1 * ((n : Nat) : Int).toNat ≤ 100000 := by rw [Int.toNat_natCast]; omega
    omega
end
theorem rep_len (c n : Nat) : (repS c n).length = n := by
  show (List.replicate n c).toArray.size = n
  rw [List.size_toArray, List.length_replicate]
/-! ### the parts of a row -/
def mkS (l : List Nat) : Str := ⟨l.toArray⟩
def partsOf (z : Str) : List Str := (TL.spl [32] 0 [] z.cps.toList).map mkS
theorem split_eq (z : Str) : Txt.split z spc = partsOf z := by
  refine TL.map_tl_inj ?_
  rw [TL.split_spl z spc (by decide) (TL.kind_ok (by decide +kernel))]
  unfold partsOf
  rw [List.map_map]
  show TL.spl [32] 0 [] z.cps.toList = _
  have : (TL.tl ∘ mkS) = id := funext fun l => by show l.toArray.toList = l; simp
  rw [this, List.map_id]
theorem parts_join {z : Str} {ps : List Str} (hne : ps ≠ []) (hz : z.cps.toList = TL.joinL [32] (ps.map TL.tl)) (h : ∀ p ∈ ps, 32 ∉ TL.tl p) : Txt.split z spc = ps := by
  rw [split_eq]
  unfold partsOf
  rw [hz, TL.spl_join (fun e => hne (List.map_eq_nil_iff.mp e)) fun p hp => by
    obtain ⟨q, hq, rfl⟩ := List.mem_map.mp hp
    exact h q hq]
  rw [List.map_map]
  have : (mkS ∘ TL.tl) = id := funext fun l => TL.mk_tl l
  rw [this, List.map_id]
/-! ### a row that is due, plainly -/
def NumDue (book : List Str) (p0 : Str) (vs : List V) (e : Er) : Prop :=
  (p0 = nGrow ∧ ∃ (i : Nat) (z : Str), vs = [.int (i : Nat), .str z] ∧ z.length ≤ 1000 ∧ PyData.strOk z = true ∧ ((book.length ≤ i ∧ e = .text) ∨ (i < book.length ∧ 120 < total book + z.length ∧ e = .many))) ∨
  (p0 = nWords ∧ ∃ (i : Nat), vs = [.int (i : Nat)] ∧ 125 < i ∧ e = .stand) ∨
  (p0 = nParted ∧ ∃ (i j : Nat), vs = [.int (i : Nat), .int (j : Nat)] ∧ (125 < i ∨ 125 < j) ∧ e = .stand)
def Due (book : List Str) (p0 : Str) (ps : List Str) (e : Er) : Prop :=
  (p0 = nShared ∧ ps ≠ [] ∧ (((∃ b, b < ps.length ∧ (∀ j, j < b → ∃ n, readNum (ps.getD j emp) 60 = some n) ∧ readNum (ps.getD b emp) 60 = none) ∧ e = .number) ∨
    ((∃ ns : List Nat, ps.map (fun p => readNum p 60) = ns.map some ∧ ∃ n ∈ ns, book.length ≤ n) ∧ e = .text))) ∨
  (¬ (p0 = nShared ∧ ps ≠ []) ∧ (p0 ∉ rowKeys ∨ ∃ ks, (p0, ks) ∈ rows ∧ ks.length ≠ ps.length) ∧ e = .row) ∨
  (∃ ks, (p0, ks) ∈ rows ∧ ks.length = ps.length ∧
    ((∃ b, b < ks.length ∧ (∀ j, j < b → ∃ v, LookOk (ks.getD j emp) (ps.getD j emp) (.inl v)) ∧ LookOk (ks.getD b emp) (ps.getD b emp) (.inr e)) ∨
    (∃ vs : List V, vs.length = ks.length ∧ vs.all sb = true ∧ (∀ j, j < ks.length → LookOk (ks.getD j emp) (ps.getD j emp) (.inl (vs.getD j .non))) ∧ vs ≠ [] ∧ NumDue book p0 vs e)))
theorem Due.say {K : PySem.W.Frag} {B H : Hp} {d : Addr} {S : MS} {p0 : Str} {ps : List Str} {e : Er} {Q : VK} {E : XK} (h : Due S.texts p0 ps e) (k : ∀ H', Ex H H' → E (.ref (ea K e)) none H') : SayEnd K B H d S p0 ps Q E := by
  rcases h with ⟨a1, a2, a3⟩ | ⟨a1, a2, rfl⟩ | ⟨ks, a1, a2, a3⟩
  · refine .inl ⟨a1, a2, ?_⟩
    rcases a3 with ⟨x, rfl⟩ | ⟨x, rfl⟩
    · exact .inl ⟨x, k⟩
    · exact .inr ⟨x, k⟩
  · exact .inr (.inl ⟨a1, a2, k⟩)
  · refine .inr (.inr ⟨ks, a1, a2, ?_⟩)
    rcases a3 with ⟨b, b1, b2, b3⟩ | ⟨vs, b1, b2, b3, b4, b5⟩
    · exact .inl ⟨b, e, b1, b2, b3, k⟩
    · refine .inr ⟨vs, b1, b2, b3, .inr ⟨b4, ?_⟩⟩
      rcases b5 with ⟨c1, i, z, c2, c3, c4, c5⟩ | ⟨c1, i, c2, c3, rfl⟩ | ⟨c1, i, j, c2, c3, rfl⟩
      · refine .inl ⟨c1, i, z, c2, c3, c4, fun h => ?_, fun h1 h2 => ?_, fun t ht => ?_⟩
        · rcases c5 with ⟨d1, rfl⟩ | ⟨d1, d2, rfl⟩
          · exact k
          · omega
        · rcases c5 with ⟨d1, rfl⟩ | ⟨d1, d2, rfl⟩
          · omega
          · exact k
        · have hi := (List.getElem?_eq_some_iff.mp ht).1
          rcases c5 with ⟨d1, rfl⟩ | ⟨d1, d2, rfl⟩
          · omega
          · exact .inl d2
      · exact .inr (.inl ⟨c1, i, c2, c3, k⟩)
      · exact .inr (.inr ⟨c1, i, j, c2, c3, k⟩)
/-- a row's text and what is due -/
def RowOk (K : PySem.W.Frag) (H : Hp) (book : List Str) (x : V) (due : Str) : Prop := ∃ e : Er, e.say = due ∧
  ((e = .row ∧ ∃ t, (∀ H', Ex H H' → TyX K H' x t) ∧ PySem.W.kitOne K t (.type "str") = some false) ∨ (∃ z p0 ps, x = .str z ∧ z.length ≤ 1000 ∧ Txt.split z spc = p0 :: ps ∧ Due book p0 ps e))
theorem RowOk.stay {K : PySem.W.Frag} {H H1 : Hp} {book : List Str} {x : V} {due : Str} (r : RowOk K H book x due) (e : Ex H H1) : RowOk K H1 book x due := by
  obtain ⟨er, h1, h2⟩ := r
  refine ⟨er, h1, h2.imp (fun ⟨a, t, b, c⟩ => ⟨a, t, fun H' e' => b H' (e.trans e'), c⟩) id⟩
theorem say_ok : ∀ e : Er, PyData.strOk e.say = true := by intro e; cases e <;> decide +kernel
/-- what _law_refused asks -/
theorem RowOk.refused {K : PySem.W.Frag} {B H : Hp} {d : Addr} {S : MS} {x : V} {due : Str} {Q : VK} {E : XK} (r : RowOk K H S.texts x due) (hd : DRep K B H d S) (g : Good S) (k : ∀ H', Ex H H' → Q (.bl true) H') : spRefused K [.ref d, x, .str due] H Q E := by
  obtain ⟨e, rfl, h⟩ := r
  refine ⟨d, x, e.say, rfl, say_ok e, B, d, S, x, rfl, hd, g, ?_⟩
  have fin : ∀ H', Ex H H' → ∃ e' : Er, Value.ref (ea K e) = .ref (ea K e') ∧ (none : Option Addr) = none ∧ Ex H H' ∧ (∀ H2, Ex H H2 → Q (.bl (decide (e'.say = e.say))) H2) := fun H' e1 => ⟨e, rfl, rfl, e1, fun H2 e2 => by
    rw [decide_eq_true rfl]
    exact k H2 e2⟩
  rcases h with ⟨rfl, t, t1, t2⟩ | ⟨z, p0, ps, t1, t2, t3, t4⟩
  · exact .inl ⟨t, t1 H (Ex.refl _), t1, t2, fin⟩
  · exact .inr ⟨z, p0, ps, t1, t2, t3, t4.say fin⟩
/-! ### what a row lacks, computed -/
def badLB (x : Str) : Bool := decide (x = emp) || (decide (x.cps.size < 60) && (PyData.strOk x && (!sortedS (x.cps.toList.map sing) || (decide (2 ≤ x.cps.size) && x.cps.toList.all fun c => decide (c = x.cps.toList.getD 0 0)))))
theorem sing_inj {a b : Nat} (h : sing a = sing b) : a = b := by
  have := congrArg (fun y : Str => y.cps.toList) h
  exact (List.cons.inj this).1
theorem badLB_ok {x : Str} (h : badLB x = true) : BadL x := by
  unfold badLB at h
  rw [Bool.or_eq_true] at h
  rcases h with h | h
  · exact .inl (of_decide_eq_true h)
  · rw [Bool.and_eq_true, Bool.and_eq_true, Bool.or_eq_true] at h
    obtain ⟨h1, h2, h3⟩ := h
    refine .inr ⟨of_decide_eq_true h1, h2, fun ys l hs hl hn hm e => ?_⟩
    rcases h3 with h3 | h3
    · rw [e, hs] at h3
      cases h3
    · rw [Bool.and_eq_true] at h3
      obtain ⟨h3, h4⟩ := h3
      have h3 := of_decide_eq_true h3
      have same : ∀ y ∈ l, y = sing (x.cps.toList.getD 0 0) := fun y hy => by
        obtain ⟨c, hc, rfl⟩ := List.mem_map.mp (hm y hy)
        rw [of_decide_eq_true (List.all_eq_true.mp h4 c hc)]
      have l1 : l.length ≤ 1 := by
        match l, hn, same with
        | [], _, _ => exact Nat.zero_le _
        | [a], _, _ => exact Nat.le_refl _
        | a :: b :: r, hn, same =>
          exfalso
          have := (List.pairwise_cons.mp hn).1 b List.mem_cons_self
          exact this ((same a List.mem_cons_self).trans (same b (List.mem_cons_of_mem _ List.mem_cons_self)).symm)
      have l2 := congrArg List.length e
      rw [List.length_map, Array.length_toList] at l2
      omega
/-- none: not told here; some none: the value comes; some (some e): refused -/
def lkB (k z : Str) : Option (Option Er) :=
  if k = kNum then (if (readNum z 60).isNone then some (some .number) else some none)
  else if k = kTim then (if readNum z 60 = none ∨ readNum z 60 = some 0 then some (some .number) else none)
  else if k = kWrd then (if (readWord z).isNone then some (some .word) else some none)
  else if k = kLet then (match readWord z with | none => some (some .word) | some x => if badLB x then some (some .word) else none)
  else none
theorem lkB_bad {k z : Str} {e : Er} (h : lkB k z = some (some e)) : LookOk k z (.inr e) := by
  unfold lkB at h
  by_cases h1 : k = kNum
  · rw [if_pos h1] at h
    cases hn : readNum z 60 with
    | none => rw [hn] at h; cases h; exact .inl ⟨h1, .inr ⟨hn, rfl⟩⟩
    | some n => rw [hn] at h; cases h
  rw [if_neg h1] at h
  by_cases h2 : k = kTim
  · rw [if_pos h2] at h
    by_cases h3 : readNum z 60 = none ∨ readNum z 60 = some 0
    · rw [if_pos h3] at h
      cases h
      exact .inr (.inl ⟨h2, h3, rfl⟩)
    · rw [if_neg h3] at h; cases h
  rw [if_neg h2] at h
  by_cases h3 : k = kWrd
  · rw [if_pos h3] at h
    cases hn : readWord z with
    | none => rw [hn] at h; cases h; exact .inr (.inr (.inl ⟨h3, .inr ⟨hn, rfl⟩⟩))
    | some n => rw [hn] at h; cases h
  rw [if_neg h3] at h
  by_cases h4 : k = kLet
  · rw [if_pos h4] at h
    cases hn : readWord z with
    | none => rw [hn] at h; cases h; exact .inr (.inr (.inr ⟨h4, rfl, .inl hn⟩))
    | some x =>
      rw [hn] at h
      have h : (if badLB x = true then some (some Er.word) else none) = some (some e) := h
      by_cases h5 : badLB x = true
      · rw [if_pos h5] at h
        cases h
        exact .inr (.inr (.inr ⟨h4, rfl, .inr ⟨x, hn, badLB_ok h5⟩⟩))
      · rw [if_neg h5] at h; cases h
  · rw [if_neg h4] at h; cases h
theorem lkB_good {k z : Str} (h : lkB k z = some none) : ∃ v, LookOk k z (.inl v) := by
  unfold lkB at h
  by_cases h1 : k = kNum
  · cases hn : readNum z 60 with
    | none => rw [if_pos h1, hn] at h; cases h
    | some n => exact ⟨_, .inl ⟨h1, .inl ⟨n, hn, rfl⟩⟩⟩
  rw [if_neg h1] at h
  by_cases h2 : k = kTim
  · rw [if_pos h2] at h
    by_cases h3 : readNum z 60 = none ∨ readNum z 60 = some 0
    · rw [if_pos h3] at h; cases h
    · rw [if_neg h3] at h; cases h
  rw [if_neg h2] at h
  by_cases h3 : k = kWrd
  · cases hn : readWord z with
    | none => rw [if_pos h3, hn] at h; cases h
    | some x => exact ⟨_, .inr (.inr (.inl ⟨h3, .inl ⟨x, hn, rfl⟩⟩))⟩
  rw [if_neg h3] at h
  by_cases h4 : k = kLet
  · rw [if_pos h4] at h
    cases hn : readWord z with
    | none => rw [hn] at h; cases h
    | some x =>
      rw [hn] at h
      have h : (if badLB x = true then some (some Er.word) else none) = some none := h
      by_cases h5 : badLB x = true
      · rw [if_pos h5] at h; cases h
      · rw [if_neg h5] at h; cases h
  · rw [if_neg h4] at h; cases h
/-- the first look that is refused -/
def lookB : List Str → List Str → Option Er
  | k :: ks, p :: ps => match lkB k p with
    | some (some e) => some e
    | some none => lookB ks ps
    | none => none
  | _, _ => none
theorem lookB_ok : ∀ {ks ps : List Str} {e : Er}, lookB ks ps = some e → ∃ b, b < ks.length ∧ (∀ j, j < b → ∃ v, LookOk (ks.getD j emp) (ps.getD j emp) (.inl v)) ∧ LookOk (ks.getD b emp) (ps.getD b emp) (.inr e)
  | [], _, _, h => nomatch h
  | _ :: _, [], _, h => nomatch h
  | k :: ks, p :: ps, e, h => by
    have h : (match lkB k p with | some (some e) => some e | some none => lookB ks ps | none => none) = some e := h
    cases hk : lkB k p with
    | none => rw [hk] at h; cases h
    | some o =>
      cases o with
      | some e' =>
        rw [hk] at h
        cases h
        exact ⟨0, Nat.succ_pos _, fun j hj => absurd hj (Nat.not_lt_zero _), lkB_bad hk⟩
      | none =>
        rw [hk] at h
        obtain ⟨b, h1, h2, h3⟩ := lookB_ok h
        refine ⟨b + 1, Nat.succ_lt_succ h1, fun j hj => ?_, h3⟩
        cases j with
        | zero => exact lkB_good hk
        | succ j => exact h2 j (by omega)
/-- the first number that is none -/
theorem first_bad : ∀ {ps : List Str}, (ps.any fun p => (readNum p 60).isNone) = true → ∃ b, b < ps.length ∧ (∀ j, j < b → ∃ n, readNum (ps.getD j emp) 60 = some n) ∧ readNum (ps.getD b emp) 60 = none
  | [], h => nomatch h
  | p :: ps, h => by
    cases hn : readNum p 60 with
    | none => exact ⟨0, Nat.succ_pos _, fun j hj => absurd hj (Nat.not_lt_zero _), hn⟩
    | some n =>
      rw [List.any_cons, hn] at h
      obtain ⟨b, h1, h2, h3⟩ := first_bad (ps := ps) h
      refine ⟨b + 1, Nat.succ_lt_succ h1, fun j hj => ?_, h3⟩
      cases j with
      | zero => exact ⟨n, hn⟩
      | succ j => exact h2 j (by omega)
def kindsOf (p0 : Str) : Option (List Str) := (rows.find? fun p => decide (p.1 = p0)).map (·.2)
theorem kindsOf_mem {p0 : Str} {ks : List Str} (h : kindsOf p0 = some ks) : (p0, ks) ∈ rows := by
  unfold kindsOf at h
  cases e : rows.find? fun p => decide (p.1 = p0) with
  | none => rw [e] at h; cases h
  | some q =>
    rw [e] at h
    cases h
    have h1 := List.mem_of_find?_eq_some e
    have h2 := of_decide_eq_true (List.find?_some (p := fun p : Str × List Str => decide (p.1 = p0)) e)
    rw [← h2]
    exact h1
def standB (p0 : Str) (ps : List Str) : Bool :=
  (decide (p0 = nWords) && decide (ps.length = 1) && (match readNum (ps.getD 0 emp) 60 with | some n => decide (125 < n) | none => false)) ||
  (decide (p0 = nParted) && decide (ps.length = 2) && (match readNum (ps.getD 0 emp) 60, readNum (ps.getD 1 emp) 60 with | some n, some m => decide (125 < n) || decide (125 < m) | _, _ => false))
def dueB (z : Str) (e : Er) : Bool := match partsOf z with
  | [] => false
  | p0 :: ps => decide (z.length ≤ 1000) &&
    (if p0 = nShared ∧ ps ≠ [] then decide (e = .number) && ps.any fun p => (readNum p 60).isNone
    else match kindsOf p0 with
      | none => decide (p0 ∉ rowKeys) && decide (e = .row)
      | some ks => if ks.length = ps.length then decide (lookB ks ps = some e) || (decide (e = .stand) && standB p0 ps) else decide (e = .row))
theorem dueB_ok {z : Str} {e : Er} (h : dueB z e = true) (book : List Str) : ∃ p0 ps, z.length ≤ 1000 ∧ Txt.split z spc = p0 :: ps ∧ Due book p0 ps e := by
  unfold dueB at h
  cases hp : partsOf z with
  | nil => rw [hp] at h; cases h
  | cons p0 ps =>
    rw [hp] at h
    rw [Bool.and_eq_true] at h
    refine ⟨p0, ps, of_decide_eq_true h.1, by rw [split_eq, hp], ?_⟩
    have h := h.2
    by_cases hs : p0 = nShared ∧ ps ≠ []
    · rw [if_pos hs, Bool.and_eq_true] at h
      exact .inl ⟨hs.1, hs.2, .inl ⟨first_bad h.2, of_decide_eq_true h.1⟩⟩
    · rw [if_neg hs] at h
      cases hk : kindsOf p0 with
      | none =>
        rw [hk] at h
        have h : (decide (p0 ∉ rowKeys) && decide (e = .row)) = true := h
        rw [Bool.and_eq_true] at h
        exact .inr (.inl ⟨hs, .inl (of_decide_eq_true h.1), of_decide_eq_true h.2⟩)
      | some ks =>
        rw [hk] at h
        have h : (if ks.length = ps.length then decide (lookB ks ps = some e) || (decide (e = .stand) && standB p0 ps) else decide (e = .row)) = true := h
        have hm := kindsOf_mem hk
        by_cases hl : ks.length = ps.length
        · rw [if_pos hl, Bool.or_eq_true] at h
          refine .inr (.inr ⟨ks, hm, hl, ?_⟩)
          rcases h with h | h
          · exact .inl (lookB_ok (of_decide_eq_true h))
          · rw [Bool.and_eq_true] at h
            have he := of_decide_eq_true h.1
            subst he
            have h := h.2
            unfold standB at h
            rw [Bool.or_eq_true] at h
            rcases h with h | h
            · rw [Bool.and_eq_true, Bool.and_eq_true] at h
              obtain ⟨⟨h1, h2⟩, h3⟩ := h
              have h1 := of_decide_eq_true h1
              subst h1
              have hks : ks = [kNum] := by
                have : kindsOf nWords = some [kNum] := by decide +kernel
                rw [this] at hk
                exact (Option.some.inj hk).symm
              subst hks
              cases hn : readNum (ps.getD 0 emp) 60 with
              | none => rw [hn] at h3; cases h3
              | some n =>
                rw [hn] at h3
                refine .inr ⟨[.int (n : Nat)], rfl, rfl, fun j hj => ?_, by simp, .inr (.inl ⟨rfl, n, rfl, of_decide_eq_true h3, rfl⟩)⟩
                have : j = 0 := by have hj : j < 1 := hj; omega
                subst this
                exact .inl ⟨rfl, .inl ⟨n, hn, rfl⟩⟩
            · rw [Bool.and_eq_true, Bool.and_eq_true] at h
              obtain ⟨⟨h1, h2⟩, h3⟩ := h
              have h1 := of_decide_eq_true h1
              subst h1
              have hks : ks = [kNum, kNum] := by
                have : kindsOf nParted = some [kNum, kNum] := by decide +kernel
                rw [this] at hk
                exact (Option.some.inj hk).symm
              subst hks
              cases hn : readNum (ps.getD 0 emp) 60 with
              | none => rw [hn] at h3; cases h3
              | some n =>
                cases hm2 : readNum (ps.getD 1 emp) 60 with
                | none => rw [hn, hm2] at h3; cases h3
                | some m =>
                  rw [hn, hm2] at h3
                  have h3 : (decide (125 < n) || decide (125 < m)) = true := h3
                  rw [Bool.or_eq_true] at h3
                  refine .inr ⟨[.int (n : Nat), .int (m : Nat)], rfl, rfl, fun j hj => ?_, by simp, .inr (.inr ⟨rfl, n, m, rfl, h3.imp of_decide_eq_true of_decide_eq_true, rfl⟩)⟩
                  have hj : j < 2 := hj
                  match j, hj with
                  | 0, _ => exact .inl ⟨rfl, .inl ⟨n, hn, rfl⟩⟩
                  | 1, _ => exact .inl ⟨rfl, .inl ⟨m, hm2, rfl⟩⟩
        · rw [if_neg hl] at h
          exact .inr (.inl ⟨hs, .inr ⟨ks, hm, hl⟩, of_decide_eq_true h⟩)
theorem dueB_row {K : PySem.W.Frag} {H : Hp} {book : List Str} {z : Str} {e : Er} (h : dueB z e = true) : RowOk K H book (.str z) e.say := by
  obtain ⟨p0, ps, h1, h2, h3⟩ := dueB_ok h book
  exact ⟨e, rfl, .inr ⟨z, p0, ps, rfl, h1, h2, h3⟩⟩
end Ap

/-! ## L1 -/
set_option Elab.async false
set_option linter.all false
set_option maxRecDepth 100000
set_option maxHeartbeats 4000000
namespace Ap
open PySem PySem.Spec PyProof.Rows L2 Evl PySem.Froz
/-! ### the law's own readings of the script -/
section
variable {P : Program} {w : World} {K : PySem.W.Frag} {mg : Str → Option Value} {base : Heap}
def spCell (K : PySem.W.Frag) : Sp := fun vs H Q _ => ∃ (a : Addr) (ns : List Int) (k : Nat), vs = [.ref a, .int (k : Nat)] ∧ SqL K H a (ns.map V.int) ∧ ∀ H', Ex H H' → Q (.int (ns.getD k 0)) H'
theorem scCell : FnScope ["_law_script", "_law_k"] ["_law_script", "_law_k"] (defScope s_law_cell_at) := ⟨rfl, rfl, rfl, by decide +kernel, rfl, by decide +kernel, by decide +kernel⟩
theorem ok_cell (T : Tx K mg w) : FnOk P w K mg base CX0 1 (He.fAd K ("_law_cell_at", none)) (fo K ("_law_cell_at", none)) ["_law_script", "_law_k"] (spCell K) := by
  refine T.h_law_cell_at.ok scCell (fun vs H Q E h => ?_) (fun cdv A outer s H vs Q E hr h => ?_)
  · obtain ⟨a, ns, k, rfl, _⟩ := h
    rfl
  · obtain ⟨a, ns, k, rfl, hS, q⟩ := h
    refine ⟨_, PSs.nox (pss_cons (ps_if (pt_cmpR op_lt (pv 1) (pe_callB call_len_seq (by rfl) T.f_len b_len (pa_cons (pv 0) pa_nil)) (nomark _)) (pss_one (ps_ret (pe_ix ix_list (pv 0) (pv 1) (fun _ _ => rfl)))) pss_nil)
      (pss_one (ps_ret pe_int))), ?_⟩
    refine q_when (b := decide (k < ns.length)) (et_is (et_test (ev_op (ev_var rfl) (ev_len (ev_var rfl) hS) rv_I0)) ?_) (fun hb H1 e1 => ?_) (fun hb H1 e1 => ?_)
    · rw [List.length_map, decide_eq_decide]
      exact Int.ofNat_lt
    · have hb := of_decide_eq_true hb
      refine s_ret (ev_op (ev_var rfl) (ev_var rfl) (rv_ixL (ex_l e1 hS) (atI_nat (v := .int (ns.getD k 0)) ?_))) fun H2 e2 => q H2 (e1.trans e2)
      rw [List.getElem?_map, List.getD_eq_getElem?_getD, List.getElem?_eq_getElem hb]
      rfl
    · have hb := of_decide_eq_false hb
      have : ns.getD k 0 = 0 := by rw [List.getD_eq_getElem?_getD, List.getElem?_eq_none (by omega)]; rfl
      exact s_ret ev_c fun H2 e2 => by
        have := q H2 (e1.trans e2)
        rw [‹ns.getD k 0 = 0›] at this
        exact this
/-- an element of the script -/
theorem ev_cell {σ : L2.St} {H : Hp} {E : XK} {a : Addr} {ns : List Int} {k : Nat} {tA : TA} (hS : SqL K H a (ns.map V.int)) (h : EvA tA σ H [.ref a, .int (k : Nat)]) : Ev (tCall (spCell K) [] E tA) σ H (.int (ns.getD k 0)) :=
  ev_callE h fun H1 e1 Q q => ⟨a, ns, k, rfl, ex_l e1 hS, q⟩
def mixV (c k : Int) : Int :=
  let m := (c % 2147483629 + 48271 * k + 11) % 2147483629
  let n := m * m % 2147483629 + 7919 * k
  n * n % 2147483587
theorem mix_pos (c k : Int) : 0 ≤ mixV c k := Int.emod_nonneg _ (by decide)
def spMix : Sp := fun vs H Q _ => ∃ (c : Int) (k : Nat), vs = [.int c, .int (k : Nat)] ∧ k ≤ 1000 ∧ ∀ H', Ex H H' → Q (.int (mixV c k)) H'
theorem scMix : FnScope ["_law_cell", "_law_k", "_law_number"] ["_law_cell", "_law_k"] (defScope s_law_mixed) := ⟨rfl, rfl, rfl, by decide +kernel, rfl, by decide +kernel, by decide +kernel⟩
theorem ok_mix (T : Tx K mg w) : FnOk P w K mg base CX0 1 (He.fAd K ("_law_mixed", none)) (fo K ("_law_mixed", none)) ["_law_cell", "_law_k"] spMix := by
  refine T.h_law_mixed.ok scMix (fun vs H Q E h => ?_) (fun cdv A outer s H vs Q E hr h => ?_)
  · obtain ⟨c, k, rfl, _⟩ := h
    rfl
  · obtain ⟨c, k, rfl, hk, q⟩ := h
    refine ⟨_, PSs.nox (pss_cons (ps_set (i := 2) scMix.nd rfl (Or.inl rfl) (pe_op op_mod (pe_op op_add (pe_op op_add (pe_op op_mod (pv 0) pe_int) (pe_op op_mul pe_int (pv 1))) pe_int) pe_int))
      (pss_cons (ps_set (i := 2) scMix.nd rfl (Or.inl rfl) (pe_op op_add (pe_op op_mod (pe_op op_mul (pv 2) (pv 2)) pe_int) (pe_op op_mul pe_int (pv 1))))
      (pss_one (ps_ret (pe_op op_mod (pe_op op_mul (pv 2) (pv 2)) pe_int))))), ?_⟩
    have a1 := Int.emod_nonneg (c % 2147483629 + 48271 * (k : Int) + 11) (show (2147483629 : Int) ≠ 0 by decide)
    have a2 := Int.emod_lt_of_pos (c % 2147483629 + 48271 * (k : Int) + 11) (show (0 : Int) < 2147483629 by decide)
    refine q_asg (v := .int ((c % 2147483629 + 48271 * (k : Int) + 11) % 2147483629)) (ev_op (ev_op (ev_op (ev_op (ev_var rfl) ev_c (rv_I (by show (0 : Int) < 2147483629; decide))) (ev_op ev_c (ev_var rfl) (rv_I (.inl ⟨by decide, by decide⟩))) rv_I0) ev_c rv_I0) ev_c (rv_I (by show (0 : Int) < 2147483629; decide))) fun H1 e1 => ?_
    have eq1 : mixV c k = (((c % 2147483629 + 48271 * (k : Int) + 11) % 2147483629 * ((c % 2147483629 + 48271 * (k : Int) + 11) % 2147483629) % 2147483629 + 7919 * (k : Int)) * ((c % 2147483629 + 48271 * (k : Int) + 11) % 2147483629 * ((c % 2147483629 + 48271 * (k : Int) + 11) % 2147483629) % 2147483629 + 7919 * (k : Int))) % 2147483587 := rfl
    generalize (c % 2147483629 + 48271 * (k : Int) + 11) % 2147483629 = m at *
    have b1 := Int.emod_nonneg (m * m) (show (2147483629 : Int) ≠ 0 by decide)
    have b2 := Int.emod_lt_of_pos (m * m) (show (0 : Int) < 2147483629 by decide)
    refine q_asg (v := .int (m * m % 2147483629 + 7919 * (k : Int))) (ev_op (ev_op (ev_op (ev_var rfl) (ev_var rfl) (rv_I (.inl ⟨by omega, by omega⟩))) ev_c (rv_I (by show (0 : Int) < 2147483629; decide))) (ev_op ev_c (ev_var rfl) (rv_I (.inl ⟨by decide, by decide⟩))) rv_I0) fun H2 e2 => ?_
    generalize m * m % 2147483629 = m2 at *
    refine s_ret (v := .int (mixV c k)) (ev_is (ev_op (ev_op (ev_var rfl) (ev_var rfl) (rv_I (.inl ⟨by omega, by omega⟩))) ev_c (rv_I (by show (0 : Int) < 2147483587; decide))) (by rw [eq1])) fun H3 e3 => q H3 (e1.trans (e2.trans e3))
/-! ### a text -/
theorem joinL_nil : ∀ l : List (List Nat), TL.joinL [] l = l.flatten
  | [] => rfl
  | [p] => by show p = _; simp
  | p :: q :: r => by show p ++ ([] ++ TL.joinL [] (q :: r)) = _; rw [joinL_nil (q :: r), List.nil_append]; rfl
def azB (z : Str) : Bool := z.cps.toList.all fun c => decide (97 ≤ c) && decide (c ≤ 122)
def spText (K : PySem.W.Frag) : Sp := fun vs H Q _ => ∃ (a : Addr) (ns : List Int) (L : Str) (m j : Nat), vs = [.ref a, .str L, .int (m : Nat), .int (j : Nat)] ∧ SqL K H a (ns.map V.int) ∧ L.length ≤ 26 ∧ L.cps.toList ≠ [] ∧ azB L = true ∧ m ≤ 60 ∧ j ≤ 8 ∧
  ∀ z, z.length ≤ m → azB z = true → ∀ H', Ex H H' → Q (.str z) H'
theorem scText : FnScope ["_law_script", "_law_letters", "_law_most", "_law_j", "_law_cell", "_law_size", "_law_signs", "_law_k"] ["_law_script", "_law_letters", "_law_most", "_law_j"] (defScope s_law_text) := ⟨rfl, rfl, rfl, by decide +kernel, rfl, by decide +kernel, by decide +kernel⟩
/-- a letter of the letters at a rest -/
theorem ev_letter {σ : L2.St} {H : Hp} {ta tb : TE} {L : Str} {n : Int} (hL : L.length ≤ 26) (hne : L.cps.toList ≠ []) (haz : azB L = true) (h1 : Ev ta σ H (.str L)) (h2 : Ev tb σ H (.int n)) : ∃ c : Nat, 97 ≤ c ∧ c ≤ 122 ∧
    Ev (tOp rIxS ta (tOp (rI (fun _ j => 0 < j) fun i j => .int (i % j)) tb (tCB (fun xs H Q => ∃ z, xs = [.str z] ∧ z.length ≤ sizeLine ∧ Q (.int z.length) H) (tCons ta tNil)))) σ H (.str ⟨#[c]⟩) := by
  have hpos : 0 < L.cps.toList.length := List.length_pos_iff.mpr hne
  have hlen : L.length = L.cps.toList.length := by simp [Str.length]
  have r1 := Int.emod_nonneg n (show (L.length : Int) ≠ 0 by omega)
  have r2 := Int.emod_lt_of_pos n (show (0 : Int) < (L.length : Int) by omega)
  obtain ⟨i, hi⟩ := Int.eq_ofNat_of_zero_le r1
  have hil : i < L.cps.toList.length := by omega
  have hm := List.all_eq_true.mp haz _ (List.getElem_mem hil)
  rw [Bool.and_eq_true] at hm
  refine ⟨L.cps.toList[i], of_decide_eq_true hm.1, of_decide_eq_true hm.2, ?_⟩
  refine ev_op h1 (ev_is (ev_op h2 (ev_lenS h1 (by omega)) (rv_I (by show (0 : Int) < (L.length : Int); omega))) (w := .int (i : Nat)) (by rw [hi])) (rv_ixS (by omega) (atI_nat (List.getElem?_eq_getElem hil)))
theorem ok_text (T : Tx K mg w) : FnOk P w K mg base CX0 2 (He.fAd K ("_law_text", none)) (fo K ("_law_text", none)) ["_law_script", "_law_letters", "_law_most", "_law_j"] (spText K) := by
  have G1 := ok_cell (P := P) (base := base) T
  have G2 := ok_mix (P := P) (base := base) T
  have b1 : Binds K (fo K ("_law_cell_at", none)) ["_law_script", "_law_k"] [] := T.h_law_cell_at.bindsN fun _ _ _ _ _ _ us hl => match us, hl with | [_, _], _ => rfl
  have b2 : Binds K (fo K ("_law_mixed", none)) ["_law_cell", "_law_k"] [] := T.h_law_mixed.bindsN fun _ _ _ _ _ _ us hl => match us, hl with | [_, _], _ => rfl
  refine T.h_law_text.ok scText (fun vs H Q E h => ?_) (fun cdv A outer s H vs Q E hr h => ?_)
  · obtain ⟨a, ns, L, m, j, rfl, _⟩ := h
    rfl
  · obtain ⟨a, ns, L, m, j, rfl, hS, hL, hne, haz, hm, hj, q⟩ := h
    refine ⟨_, PSs.nox (pss_cons (ps_set (i := 4) scText.nd rfl (Or.inl rfl) (pe_call G1 (hr.mono (by decide)) (by rfl) T.g_law_cell_at T.h_law_cell_at.kp b1 .nil pass0 (pa_cons (pv 0) (pa_cons (pe_op op_add pe_int (pv 3)) pa_nil))))
      (pss_cons (ps_set (i := 5) scText.nd rfl (Or.inl rfl) (pe_op op_mod (pv 4) (pe_op op_add (pv 2) pe_int)))
      (pss_cons (ps_set (i := 4) scText.nd rfl (Or.inl rfl) (pe_op op_fdiv (pv 4) (pe_op op_add (pv 2) pe_int)))
      (pss_cons (ps_set (i := 6) scText.nd rfl (Or.inl rfl) (pe_lst pa_nil))
      (pss_cons (ps_for PassesOwn.never rfl (pi_range1 (by rfl) T.f_range (pa_cons (pv 5) pa_nil)) (pg_name (i := 7) scText.nd rfl (Or.inl rfl))
        (pss_one (ps_if (pt_cmpR op_eq (pe_op op_mod (pe_call G1 (hr.mono (by decide)) (by rfl) T.g_law_cell_at T.h_law_cell_at.kp b1 .nil pass0 (pa_cons (pv 0) (pa_cons pe_int pa_nil))) pe_int) pe_int (nomark _))
          (pss_cons (ps_expr (pe_bm PySem.F.plainAttrs_list PySem.F.slot_list_append PySem.F.type_list_append mt_append (pv 6) (pa_cons (pe_ix ix_str (pv 1) (pe_op op_mod (pv 4) (pe_callB call_len_str (by rfl) T.f_len b_len (pa_cons (pv 1) pa_nil))) (fun _ _ => rfl)) pa_nil)))
          (pss_one (ps_set (i := 4) scText.nd rfl (Or.inl rfl) (pe_op op_fdiv (pv 4) (pe_callB call_len_str (by rfl) T.f_len b_len (pa_cons (pv 1) pa_nil))))))
          (pss_one (ps_expr (pe_bm PySem.F.plainAttrs_list PySem.F.slot_list_append PySem.F.type_list_append mt_append (pv 6) (pa_cons (pe_ix ix_str (pv 1) (pe_op op_mod (pe_op op_fdiv (pe_call G2 (hr.mono (by decide)) (by rfl) T.g_law_mixed T.h_law_mixed.kp b2 .nil pass0 (pa_cons (pv 4) (pa_cons (pe_op op_add (pe_op op_mul pe_int (pv 3)) (pv 7)) pa_nil))) pe_int) (pe_callB call_len_str (by rfl) T.f_len b_len (pa_cons (pv 1) pa_nil))) (fun _ _ => rfl)) pa_nil)))))))
      (pss_one (ps_ret (pe_join pe_str (pv 6))))))))), ?_⟩
    refine q_asg (v := .int (ns.getD (1 + j) 0)) (ev_cell hS (ea_cons (ev_var rfl) (ea_cons (ev_is (ev_op ev_c (ev_var rfl) rv_I0) (by show V.int ((1 : Int) + (j : Int)) = _; rw [show ((1 : Int) + (j : Int)) = ((1 + j : Nat) : Int) by omega])) ea_nil))) fun H1 e1 => ?_
    generalize ns.getD (1 + j) 0 = c0
    have r1 := Int.emod_nonneg c0 (show ((m : Int) + 1) ≠ 0 by omega)
    have r2 := Int.emod_lt_of_pos c0 (show (0 : Int) < (m : Int) + 1 by omega)
    refine q_asg (v := .int (c0 % ((m : Int) + 1))) (ev_op (ev_var rfl) (ev_op (ev_var rfl) ev_c rv_I0) (rv_I (by show (0 : Int) < (m : Int) + 1; omega))) fun H2 e2 => ?_
    generalize c0 % ((m : Int) + 1) = sz at *
    refine q_asg (v := .int (c0 / ((m : Int) + 1))) (ev_op (ev_var rfl) (ev_op (ev_var rfl) ev_c rv_I0) (rv_I (by show (0 : Int) < (m : Int) + 1 ∧ (m : Int) + 1 < 1073741824; omega))) fun H3 e3 => ?_
    refine q_asgL (el_lst ea_nil (by decide)) fun p H4 hp e4 h4 => ?_
    have hp0 : H p = none := fresh_back (e1.trans (e2.trans e3)) hp
    have e04 : Ex H H4 := e1.trans (e2.trans (e3.trans e4))
    refine q_forR1 (ea_cons (ev_var rfl) ea_nil) (by omega) (fun i σ' H' => (∃ c x, σ' = [some (.ref a), some (.str L), some (.int (m : Nat)), some (.int (j : Nat)), some (V.int c), some (.int sz), some (.ref p), x]) ∧ Ex H H' ∧
      ∃ cs : List Nat, cs.length = i ∧ (∀ c ∈ cs, 97 ≤ c ∧ c ≤ 122) ∧ H' p = some (.lst (cs.map fun c => V.str ⟨#[c]⟩))) (fun H5 e5 => ⟨⟨_, none, rfl⟩, e04.trans e5, [], rfl, fun c hc => (nomatch hc), e5 _ _ h4⟩) ?_ ?_
    · rintro i σ' H' hi ⟨⟨c, x, rfl⟩, e5, cs, l1, l2, l3⟩
      have hcs : ∀ {H6 : Hp} {c' : Nat}, 97 ≤ c' ∧ c' ≤ 122 → Ex H' H6 → (Ex H (upd H6 p (.lst ((cs.map fun c => V.str ⟨#[c]⟩) ++ [.str ⟨#[c']⟩])))) ∧ ∃ cs' : List Nat, cs'.length = i + 1 ∧ (∀ c ∈ cs', 97 ≤ c ∧ c ≤ 122) ∧ upd H6 p (.lst ((cs.map fun c => V.str ⟨#[c]⟩) ++ [.str ⟨#[c']⟩])) p = some (.lst (cs'.map fun c => V.str ⟨#[c]⟩)) := fun {H6 c'} hc' e6 =>
        ⟨(e5.trans e6).mut hp0, cs ++ [c'], by rw [List.length_append, l1]; rfl, fun d hd => by
          rcases List.mem_append.mp hd with h | h
          · exact l2 d h
          · rw [List.mem_singleton.mp h]; exact hc', by rw [upd_same, List.map_append]; rfl⟩
      refine s_if (b := decide (ns.getD 0 0 % 2 = 0)) (et_is (et_test (ev_op (ev_op (ev_cell (k := 0) (ex_l e5 hS) (ea_cons (ev_var rfl) (ea_cons ev_c ea_nil))) ev_c (rv_I (by show (0 : Int) < 2; decide))) ev_c (rv_eq rfl))) ?_) (fun hb H6 e6 => ?_) (fun hb H6 e6 => ?_)
      · rw [decide_eq_decide]
        exact ⟨fun h => V.int.inj h, fun h => by rw [h]⟩
      · obtain ⟨c', hc1, hc2, hev⟩ := ev_letter (σ := [some (.ref a), some (.str L), some (.int (m : Nat)), some (.int (j : Nat)), some (V.int c), some (.int sz), some (.ref p), some (.int (i : Int))]) (H := H6) (ta := tVar 1) (tb := tVar 4) (n := c) hL hne haz (ev_var rfl) (ev_var rfl)
        refine q_app (e6 _ _ l3) (ev_var rfl) hev (by rw [List.length_map, l1]; omega) fun H7 e7 => ?_
        obtain ⟨g1, g2⟩ := hcs ⟨hc1, hc2⟩ (e6.trans e7)
        have hlen : L.length = L.cps.toList.length := by simp [Str.length]
        have hpos : 0 < L.cps.toList.length := List.length_pos_iff.mpr hne
        refine s_asg (v := .int (c / (L.length : Int))) (ev_op (ev_var rfl) (ev_lenS (ev_var rfl) (by omega)) (rv_I (by show (0 : Int) < (L.length : Int) ∧ (L.length : Int) < 1073741824; omega))) fun H8 e8 => ?_
        obtain ⟨cs', k1, k2, k3⟩ := g2
        exact ⟨⟨_, _, rfl⟩, g1.trans e8, cs', k1, k2, e8 _ _ k3⟩
      · have hmix : Ev (tOp (rI CDiv fun i j => .int (i / j)) (tCall spMix [] (fun _ _ _ => False) (tCons (tVar 4) (tCons (tOp (rI0 fun i j => .int (i + j)) (tOp (rI CMul fun i j => .int (i * j)) (tC (.int 30)) (tVar 3)) (tVar 7)) tNil))) (tC (.int 7))) [some (.ref a), some (.str L), some (.int (m : Nat)), some (.int (j : Nat)), some (V.int c), some (.int sz), some (.ref p), some (.int (i : Int))] H6 (.int (mixV c ((30 * j + i : Nat) : Int) / 7)) :=
          ev_op (ev_callE (ea_cons (ev_var rfl) (ea_cons (ev_op (ev_op ev_c (ev_var rfl) (rv_I (.inl ⟨by decide, by decide⟩))) (ev_var rfl) rv_I0) ea_nil)) fun H7 e7 Q' q' => ⟨c, 30 * j + i, by show [V.int c, V.int (30 * (j : Int) + (i : Int))] = _; rw [show (30 * (j : Int) + (i : Int)) = ((30 * j + i : Nat) : Int) by omega], by omega, q'⟩) ev_c (rv_I ⟨by decide, by decide⟩)
        obtain ⟨c', hc1, hc2, hev⟩ := ev_letter (ta := tVar 1) hL hne haz (ev_var rfl) hmix
        refine s_app (e6 _ _ l3) (ev_var rfl) hev (by rw [List.length_map, l1]; omega) fun H7 e7 => ?_
        obtain ⟨g1, g2⟩ := hcs ⟨hc1, hc2⟩ (e6.trans e7)
        exact ⟨⟨_, _, rfl⟩, g1, g2⟩
    · rintro σ' H' ⟨⟨c, x, rfl⟩, e5, cs, l1, l2, l3⟩
      have ls : ((cs.map sing).map (·.length)).sum = cs.length := by
        clear l1 l2 l3
        induction cs with
        | nil => rfl
        | cons a t ih => rw [List.map_cons, List.map_cons, List.sum_cons, ih, List.length_cons]; show 1 + _ = _; omega
      refine s_ret (v := .str (Txt.join emp (cs.map sing))) (fun H6 e6 Q' q' => ⟨⟨_, rfl⟩, _, rfl, emp, p, cs.map sing, rfl, rfl, .inl (SqL.of (by rw [e6 _ _ l3, List.map_map]; rfl)), ?_, q' H6 (Ex.refl _)⟩) fun H6 e6 => ?_
      · rw [ls]
        show cs.length + _ * 0 ≤ _
        omega
      · have ej : Txt.join emp (cs.map sing) = mkS cs := by
          refine str_ext ?_
          rw [TL.join_eq]
          show TL.tl (Str.join emp _) = _
          rw [TL.tl_join]
          show TL.joinL [] _ = cs.toArray.toList
          rw [joinL_nil, List.map_map]
          clear l1 l2 l3 ls
          induction cs with
          | nil => rfl
          | cons a t ih => rw [List.map_cons, List.flatten_cons, ih]; simp [TL.tl, sing]
        rw [ej]
        refine q _ ?_ ?_ H6 (e5.trans e6)
        · show cs.toArray.size ≤ m
          rw [List.size_toArray, l1]
          omega
        · show cs.toArray.toList.all _ = true
          refine List.all_eq_true.mpr fun d hd => ?_
          have hd : d ∈ cs := by simpa using hd
          obtain ⟨x1, x2⟩ := l2 d hd
          rw [Bool.and_eq_true]
          exact ⟨decide_eq_true x1, decide_eq_true x2⟩
end
end Ap

/-! ## LB -/
set_option Elab.async false
set_option linter.all false
set_option maxRecDepth 100000
set_option maxHeartbeats 4000000
namespace Ap
open PySem PySem.Spec PyProof.Rows L2 Evl PySem.Froz
theorem atI_int {α : Type} {xs : List α} {n : Int} (h0 : 0 ≤ n) (h1 : n < xs.length) : ∃ v, v ∈ xs ∧ atI xs n = some v := by
  obtain ⟨i, rfl⟩ := Int.eq_ofNat_of_zero_le h0
  have hi : i < xs.length := by omega
  exact ⟨xs[i], List.getElem_mem hi, atI_nat (List.getElem?_eq_getElem hi)⟩
theorem mod_range (n : Int) {k : Int} (hk : 0 < k) : 0 ≤ n % k ∧ n % k < k := ⟨Int.emod_nonneg _ (by omega), Int.emod_lt_of_pos _ hk⟩
/-- what the law's book is -/
structure BookOk (bs : List Str) : Prop where
  len : bs.length ≤ 8
  tot : total bs ≤ 60
  one : ∀ z ∈ bs, z.length ≤ 60 ∧ azB z = true
def lettersL : List Str := ["ab", "abc", "abcd", "az", "a", "abcdefghijklmnopqrstuvwxyz"]
def countsL : List Int := [1, 2, 3, 4, 2, 1, 0, 8]
def mostsL : List Int := [24, 12, 8, 6]
theorem letters_ok : ∀ L ∈ lettersL, L.length ≤ 26 ∧ L.cps.toList ≠ [] ∧ azB L = true := by decide +kernel
theorem counts_ok : ∀ c ∈ countsL, 0 ≤ c ∧ c ≤ 8 ∧ ∃ m ∈ mostsL, atI mostsL ((if 4 < c then 4 else c) - 1) = some m ∧ 0 ≤ m ∧ m ≤ 60 ∧ m * c ≤ 60 := by decide +kernel
theorem counts_div : ∀ c ∈ countsL, (0 : Int) < (if c > 1 then c else 1) ∧ (if c > 1 then c else 1) < 1073741824 ∧ 0 ≤ 60 / (if c > 1 then c else 1) ∧ 60 / (if c > 1 then c else 1) ≤ 60 ∧ 60 / (if c > 1 then c else 1) * c ≤ 60 := by decide +kernel
theorem counts_3 : (3 : Int) * 8 ≤ 60 := by decide
section
variable {P : Program} {w : World} {K : PySem.W.Frag} {mg : Str → Option Value} {base : Heap}
theorem ea_strs {σ : L2.St} {H : Hp} : EvA tNil σ H [] := ea_nil
def spBook2 (K : PySem.W.Frag) : Sp := fun vs H Q _ => ∃ (a : Addr) (ns : List Int), vs = [.ref a] ∧ SqL K H a (ns.map V.int) ∧
  ∀ bs, BookOk bs → ∀ p H', H p = none → Ex H H' → H' p = some (.lst (bs.map V.str)) → Q (.ref p) H'
theorem scBook2 : FnScope ["_law_script", "_law_cell", "_law_letters", "_law_count", "_law_most", "_law_j"] ["_law_script"] (defScope s_law_book) := ⟨rfl, rfl, rfl, by decide +kernel, rfl, by decide +kernel, by decide +kernel⟩
theorem ok_book2 (T : Tx K mg w) : FnOk P w K mg base CX0 3 (He.fAd K ("_law_book", none)) (fo K ("_law_book", none)) ["_law_script"] (spBook2 K) := by
  have G1 := ok_cell (P := P) (base := base) T
  have G2 := ok_text (P := P) (base := base) T
  have b1 : Binds K (fo K ("_law_cell_at", none)) ["_law_script", "_law_k"] [] := T.h_law_cell_at.bindsN fun _ _ _ _ _ _ us hl => match us, hl with | [_, _], _ => rfl
  have b2 : Binds K (fo K ("_law_text", none)) ["_law_script", "_law_letters", "_law_most", "_law_j"] [] := T.h_law_text.bindsN fun _ _ _ _ _ _ us hl => match us, hl with | [_, _, _, _], _ => rfl
  refine T.h_law_book.ok scBook2 (fun vs H Q E h => ?_) (fun cdv A outer s H vs Q E hr h => ?_)
  · obtain ⟨a, ns, rfl, _⟩ := h
    rfl
  · obtain ⟨a, ns, rfl, hS, q⟩ := h
    refine ⟨_, PSs.nox (pss_cons (ps_set (i := 1) scBook2.nd rfl (Or.inl rfl) (pe_call G1 (hr.mono (by decide)) (by rfl) T.g_law_cell_at T.h_law_cell_at.kp b1 .nil pass0 (pa_cons (pv 0) (pa_cons pe_int pa_nil))))
      (pss_cons (ps_set (i := 2) scBook2.nd rfl (Or.inr rfl) (pe_ix ix_list (pe_lst (pa_cons pe_str (pa_cons pe_str (pa_cons pe_str (pa_cons pe_str (pa_cons pe_str (pa_cons pe_str pa_nil))))))) (pe_op op_mod (pe_op op_fdiv (pv 1) pe_int) pe_int) (fun _ _ => rfl)))
      (pss_cons (ps_set (i := 3) scBook2.nd rfl (Or.inl rfl) (pe_ix ix_list (pe_lst (pa_cons pe_int (pa_cons pe_int (pa_cons pe_int (pa_cons pe_int (pa_cons pe_int (pa_cons pe_int (pa_cons pe_int (pa_cons pe_int pa_nil))))))))) (pe_op op_mod (pe_op op_fdiv (pv 1) pe_int) pe_int) (fun _ _ => rfl)))
      (pss_cons (ps_set (i := 4) scBook2.nd rfl (Or.inr rfl) (pe_ix ix_list (pe_lst (pa_cons pe_int (pa_cons pe_int (pa_cons pe_int (pa_cons pe_int pa_nil))))) (pe_op op_sub (pe_callB (call_min2 rfl) (by rfl) T.f_min b_min (pa_cons (pv 3) (pa_cons pe_int pa_nil))) pe_int) (fun _ _ => rfl)))
      (pss_cut (ps_if (pt_cmpR op_eq (pe_op op_mod (pe_op op_fdiv (pv 1) pe_int) pe_int) pe_int (nomark _)) (pss_one (ps_set (i := 4) scBook2.nd rfl (Or.inr rfl) (pe_op op_fdiv pe_int (pe_callB (call_max2 rfl) (by rfl) T.f_max b_max (pa_cons pe_int (pa_cons (pv 3) pa_nil)))))) pss_nil)
      (pss_cut (ps_if (PW.pt (pw_and (pt_cmpR op_eq (pv 3) pe_int (nomark _)) (pw_and1 (pt_cmpR op_ne (pe_op op_mod (pe_op op_fdiv (pv 1) pe_int) pe_int) pe_int (nomark _))))) (pss_one (ps_set (i := 4) scBook2.nd rfl (Or.inr rfl) pe_int)) pss_nil)
      (pss_one (ps_ret (pe_lc (own := [("_law_j", 5)]) (g := gName 5) (tt := tYes) rfl scBook2.nd (pi_range1 (by rfl) T.f_range (pa_cons (pv 3) pa_nil)) (blkOk_by (N := ["_law_script", "_law_cell", "_law_letters", "_law_count", "_law_most", "_law_j"]) (sc := defScope s_law_book) (by decide +kernel))
        (fun _ _ _ _ _ => pg_name (i := 5) scBook2.nd rfl (Or.inl rfl)) (fun _ _ _ _ _ => pts_nil)
        (fun _ _ _ _ _ => pe_call G2 (hr.mono (by decide)) (by rfl) T.g_law_text T.h_law_text.kp b2 .nil pass0 (pa_cons (pv 0) (pa_cons (pv 2) (pa_cons (pv 4) (pa_cons (pv 5) pa_nil)))))))))))))), ?_⟩
    refine q_asg (v := .int (ns.getD 0 0)) (ev_cell (k := 0) hS (ea_cons (ev_var rfl) (ea_cons ev_c ea_nil))) fun H1 e1 => ?_
    generalize ns.getD 0 0 = c0
    obtain ⟨m1, m2⟩ := mod_range (c0 / 2) (show (0 : Int) < 6 by decide)
    obtain ⟨vL, hvL, aL⟩ := atI_int (xs := lettersL.map V.str) m1 m2
    obtain ⟨L, hL, rfl⟩ := List.mem_map.mp hvL
    obtain ⟨L1, L2, L3⟩ := letters_ok L hL
    refine q_asg (v := .str L) (ev_opL1 (el_lst (ea_cons ev_c (ea_cons ev_c (ea_cons ev_c (ea_cons ev_c (ea_cons ev_c (ea_cons ev_c ea_nil)))))) (by show 6 ≤ 100000; decide)) (fun H2 e2 => ev_op (ev_op (ev_var rfl) ev_c (rv_I ⟨by decide, by decide⟩)) ev_c (rv_I (by show (0 : Int) < 6; decide))) fun p H2 hp e2 => rv_ixL (SqL.of hp) aL) fun H2 e2 => ?_
    obtain ⟨m3, m4⟩ := mod_range (c0 / 12) (show (0 : Int) < 8 by decide)
    obtain ⟨vC, hvC, aC⟩ := atI_int (xs := countsL.map V.int) m3 m4
    obtain ⟨c, hc, rfl⟩ := List.mem_map.mp hvC
    obtain ⟨C1, C2, m0, hm0, C3, C4, C5, C6⟩ := counts_ok c hc
    obtain ⟨D1, D2, D3, D4, D5⟩ := counts_div c hc
    refine q_asg (v := .int c) (ev_opL1 (el_lst (ea_cons ev_c (ea_cons ev_c (ea_cons ev_c (ea_cons ev_c (ea_cons ev_c (ea_cons ev_c (ea_cons ev_c (ea_cons ev_c ea_nil)))))))) (by show 8 ≤ 100000; decide)) (fun H2 e2 => ev_op (ev_op (ev_var rfl) ev_c (rv_I ⟨by decide, by decide⟩)) ev_c (rv_I (by show (0 : Int) < 8; decide))) fun p H2 hp e2 => rv_ixL (SqL.of hp) aC) fun H3 e3 => ?_
    have aM : atI (mostsL.map V.int) ((if 4 < c then 4 else c) - 1) = some (.int m0) := by
      have hmm : ∀ {i : Int} {m : Int}, atI mostsL i = some m → atI (mostsL.map V.int) i = some (.int m) := fun {i m} h => by
        unfold atI at h ⊢
        rw [List.length_map]
        cases hx : ixN mostsL.length i with
        | none => rw [hx] at h; cases h
        | some j =>
          rw [hx] at h
          show (mostsL.map V.int)[j]? = _
          rw [List.getElem?_map, show mostsL[j]? = some m from h]
          rfl
      exact hmm C3
    refine q_asg (v := .int m0) (ev_opL1 (el_lst (ea_cons ev_c (ea_cons ev_c (ea_cons ev_c (ea_cons ev_c ea_nil)))) (by show 4 ≤ 100000; decide)) (fun H2 e2 => ev_op (ev_cb (ea_cons (ev_var rfl) (ea_cons ev_c ea_nil)) (fun H3 _ _ q' => ⟨c, 4, rfl, q' H3 (Ex.refl _)⟩)) ev_c rv_I0) fun p H2 hp e2 => rv_ixL (SqL.of hp) aM) fun H4 e4 => ?_
    have e04 : Ex H H4 := e1.trans (e2.trans (e3.trans e4))
    refine q_cut (M := fun σ' H' => ∃ m : Int, σ' = [some (.ref a), some (V.int c0), some (.str L), some (V.int c), some (V.int m), none] ∧ Ex H H' ∧ 0 ≤ m ∧ m ≤ 60 ∧ m * c ≤ 60) ?_ ?_
    · refine s_when (b := decide (c0 / 96 % 8 = 5)) (et_is (et_test (ev_op (ev_op (ev_op (ev_var rfl) ev_c (rv_I ⟨by decide, by decide⟩)) ev_c (rv_I (by show (0 : Int) < 8; decide))) ev_c (rv_eq rfl))) ?_) (fun hb H5 e5 => ?_) (fun hb H5 e5 => ⟨m0, rfl, e04.trans e5, C4, C5, C6⟩)
      · rw [decide_eq_decide]
        exact ⟨fun h => V.int.inj h, fun h => by rw [h]⟩
      · exact s_asg (v := .int (60 / (if c > 1 then c else 1))) (ev_op ev_c (ev_cb (ea_cons ev_c (ea_cons (ev_var rfl) ea_nil)) (fun H3 _ _ q' => ⟨1, c, rfl, q' H3 (Ex.refl _)⟩)) (rv_I ⟨D1, D2⟩)) fun H6 e6 => ⟨_, rfl, e04.trans (e5.trans e6), D3, D4, D5⟩
    rintro σ1 H5 ⟨m, rfl, e5, M1, M2, M3⟩
    refine q_cut (M := fun σ' H' => ∃ m : Int, σ' = [some (.ref a), some (V.int c0), some (.str L), some (V.int c), some (V.int m), none] ∧ Ex H H' ∧ 0 ≤ m ∧ m ≤ 60 ∧ m * c ≤ 60) ?_ ?_
    · refine s_when (b := decide (c = 8) && !decide (c0 / 96 % 8 = 5)) (et_and (et_is (et_test (ev_op (ev_var rfl) ev_c (rv_eq rfl))) ?_) fun _ => et_is (et_test (ev_op (ev_op (ev_op (ev_var rfl) ev_c (rv_I ⟨by decide, by decide⟩)) ev_c (rv_I (by show (0 : Int) < 8; decide))) ev_c (rv_ne rfl))) ?_) (fun hb H6 e6 => ?_) (fun hb H6 e6 => ⟨m, rfl, e5.trans e6, M1, M2, M3⟩)
      · rw [decide_eq_decide]
        exact ⟨fun h => V.int.inj h, fun h => by rw [h]⟩
      · congr 1
        rw [decide_eq_decide]
        exact ⟨fun h => V.int.inj h, fun h => by rw [h]⟩
      · rw [Bool.and_eq_true] at hb
        have hc8 := of_decide_eq_true hb.1
        exact s_asg (v := .int 3) ev_c fun H7 e7 => ⟨3, rfl, e5.trans (e6.trans e7), by decide, by decide, by omega⟩
    rintro σ2 H6 ⟨m', rfl, e6, M1', M2', M3'⟩
    obtain ⟨mm, rfl⟩ := Int.eq_ofNat_of_zero_le M1'
    obtain ⟨cc, rfl⟩ := Int.eq_ofNat_of_zero_le C1
    refine ⟨_, rfl, (cc : Int), rfl, by omega, by omega, fun D hD => lc_it walk_range (fun i H' => Ex H6 H' ∧ ∃ zs : List Str, zs.length = i ∧ (∀ z ∈ zs, z.length ≤ mm ∧ azB z = true) ∧ H' D = some (.lst (zs.map V.str))) ⟨Ex.new hD, [], rfl, fun z hz => (nomatch hz), upd_same⟩ (fun _ _ _ _ => trivial) ?_ ?_⟩
    · rintro i x H7 H8 hi ⟨e7, zs, z1, z2, z3⟩ ⟨rfl, rfl⟩
      refine ⟨rfl, _, rfl, _, rfl, _, rfl, _, rfl, a, ns, L, mm, i, by show [V.ref a, V.str L, V.int (mm : Nat), V.int (0 + (i : Int))] = _; rw [Int.zero_add], ex_l (e6.trans e7) hS, L1, L2, L3, by omega, by omega, fun z y1 y2 H9 e9 => ?_⟩
      refine ⟨_, e9 _ _ z3, by rw [List.length_map, z1, sizeLine_eq]; omega, (e7.trans e9).mut hD, zs ++ [z], by rw [List.length_append, z1]; rfl, fun y hy => ?_, by rw [upd_same, List.map_append]; rfl⟩
      rcases List.mem_append.mp hy with h | h
      · exact z2 y h
      · rw [List.mem_singleton.mp h]; exact ⟨y1, y2⟩
    · rintro H7 ⟨e7, zs, z1, z2, z3⟩
      have hl : zs.length = cc := by rw [z1]; simp
      refine q zs ⟨by omega, ?_, fun z hz => ⟨by have := (z2 z hz).1; omega, (z2 z hz).2⟩⟩ D H7 (fresh_back e6 hD) (e6.trans e7) z3
      have h1 := sum_le_mul (B := mm) (l := zs.map (·.length)) fun x hx => by
        obtain ⟨z, hz, rfl⟩ := List.mem_map.mp hx
        exact (z2 z hz).1
      rw [List.length_map, hl] at h1
      have h2 : cc * mm ≤ 60 := by
        have : ((mm * cc : Nat) : Int) ≤ 60 := by rw [Int.natCast_mul]; exact M3'
        rw [Nat.mul_comm]
        omega
      show (zs.map (·.length)).sum ≤ 60
      omega
end
end Ap

/-! ## LR -/
set_option Elab.async false
set_option linter.all false
set_option maxRecDepth 100000
set_option maxHeartbeats 4000000
namespace Ap
open PySem PySem.Spec PyProof.Rows L2 Evl PySem.Froz
/-! ### rows that are refused whatever the book is -/
section
variable {K : PySem.W.Frag} {σ : L2.St} {H : Hp} {ta tb : TE}
theorem ev_cat {i j : Str} (ha : Ev ta σ H (.str i)) (hb : Ev tb σ H (.str j)) (hz : i.length + j.length ≤ 100000) : Ev (tOp (fun x y H Q => ∃ i j, x = .str i ∧ y = .str j ∧ i.length + j.length ≤ sizeLine ∧ Q (.str (i ++ j)) H) ta tb) σ H (.str (i ++ j)) := fun H1 e Q q =>
  ha H1 e _ fun H2 e2 => hb H2 (e.trans e2) _ fun H3 e3 => ⟨i, j, rfl, rfl, sz_of hz, q H3 (e2.trans e3)⟩
theorem ev_mulT {c n : Nat} (ha : Ev ta σ H (.str ⟨#[c]⟩)) (hb : Ev tb σ H (.int (n : Nat))) (hz : n ≤ 100000) : Ev (tOp rMulT ta tb) σ H (.str (repS c n)) := fun H1 e Q q =>
  ha H1 e _ fun H2 e2 => hb H2 (e.trans e2) _ fun H3 e3 => ⟨c, n, rfl, rfl, hz, q H3 (e2.trans e3)⟩
end
/-- what a def of rows promises, for any book -/
def spRowA (K : PySem.W.Frag) : Sp := fun vs H Q _ => ∃ (c : Int), vs = [.int c] ∧ ∀ (t : Addr) (x : V) (d : Str) (H' : Hp), Ex H H' → H' t = some (.tup [x, .str d]) → (∀ book, RowOk K H' book x d) → Q (.ref t) H'

def nr1 : List Str := ["", "Book", "books", "book ", " book", "begin 0", "stands 1", "table -"]
theorem nr1_ok : ∀ z ∈ nr1, dueB z .row = true := by decide +kernel
def nr2 : List Str := ["grow", "grow 0", "grow 0 a b", "find", "find a b", "count", "stand", "words", "words 0 1"]
theorem nr2_ok : ∀ z ∈ nr2, dueB z .row = true := by decide +kernel
def nr3 : List Str := ["number", "often", "once a", "lacking", "lacking a b", "pieces", "parted", "parted 0"]
theorem nr3_ok : ∀ z ∈ nr3, dueB z .row = true := by decide +kernel
def nr4 : List Str := ["shared", "share 0", "find  a", "grow  0 a", "say book", "-", ".", "unlike a", "part", "parted 0 0 0"]
theorem nr4_ok : ∀ z ∈ nr4, dueB z .row = true := by decide +kernel
def badsW : List Str := ["A", "", "a-", "--", "a1", ".", "a,b", "aB", "~", repS 122 201]
def badsN : List Str := ["a", "", "00", "01", "-1", "+1", "1_0", "1.0", "-", repS 49 61]
def rowsW1 (b : Str) : List Str := [("find " : Str) ++ b, ("count " : Str) ++ b, ("stand " : Str) ++ b, ("number " : Str) ++ b, ("pieces " : Str) ++ b, ("lacking " : Str) ++ b]
def rowsW2 (b : Str) : List Str := [("lacking -" : Str), ("lacking ba" : Str), ("lacking aa" : Str), ("lacking abca" : Str), ("grow 9 " : Str) ++ b, ("grow 0 " : Str) ++ b]
def rowsN1 (b : Str) : List Str := [("words " : Str) ++ b, ("part " : Str) ++ b, ("often " : Str) ++ b, ("often 0" : Str), (("parted " : Str) ++ b) ++ (" 0" : Str), ("parted 0 " : Str) ++ b]
def rowsN2 (b : Str) : List Str := [("shared " : Str) ++ b, ("shared 0 " : Str) ++ b, (("grow " : Str) ++ b) ++ (" a" : Str), (("grow " : Str) ++ b) ++ (" A" : Str)]
def rowsN3 (b : Str) : List Str := [(("parted " : Str) ++ b) ++ (" x" : Str), (("shared " : Str) ++ b) ++ (" 0" : Str)]
theorem badsW_len : ∀ b ∈ badsW, b.length ≤ 201 := by decide +kernel
theorem badsN_len : ∀ b ∈ badsN, b.length ≤ 201 := by decide +kernel
theorem rowsW_ok : ∀ b ∈ badsW, ∀ z ∈ rowsW1 b ++ rowsW2 b, dueB z .word = true := by decide +kernel
theorem rowsN_ok : ∀ b ∈ badsN, ∀ z ∈ (rowsN1 b ++ rowsN2 b) ++ rowsN3 b, dueB z .number = true := by decide +kernel
section
variable {P : Program} {w : World} {K : PySem.W.Frag} {mg : Str → Option Value} {base : Heap}
theorem scNoRow : FnScope ["_law_cell", "_law_some"] ["_law_cell"] (defScope s_law_no_row) := ⟨rfl, rfl, rfl, by decide +kernel, rfl, by decide +kernel, by decide +kernel⟩
theorem ok_no_row (T : Tx K mg w) : FnOk P w K mg base CX0 1 (He.fAd K ("_law_no_row", none)) (fo K ("_law_no_row", none)) ["_law_cell"] (spRowA K) := by
  refine T.h_law_no_row.ok scNoRow (fun vs H Q E h => ?_) (fun cdv A outer s H vs Q E hr h => ?_)
  · obtain ⟨c, rfl, _⟩ := h
    rfl
  · obtain ⟨c, rfl, q⟩ := h
    refine ⟨_, PSs.nox (pss_cons (ps_set (i := 1) scNoRow.nd rfl (Or.inl rfl) (pe_lst (pa_cons pe_non (pa_cons pe_int (pa_cons (pe_lst (pa_cons pe_str pa_nil)) (pa_cons pe_bl (pa_cons pe_str (pa_cons pe_str (pa_cons pe_str (pa_cons pe_str (pa_cons pe_str (pa_cons pe_str (pa_cons pe_str (pa_cons pe_str pa_nil))))))))))))))
      (pss_cons (ps_set (i := 1) scNoRow.nd rfl (Or.inl rfl) (pe_op op_cat (pv 1) (pe_lst (pa_cons pe_str (pa_cons pe_str (pa_cons pe_str (pa_cons pe_str (pa_cons pe_str (pa_cons pe_str (pa_cons pe_str (pa_cons pe_str (pa_cons pe_str pa_nil))))))))))))
      (pss_cons (ps_set (i := 1) scNoRow.nd rfl (Or.inl rfl) (pe_op op_cat (pv 1) (pe_lst (pa_cons pe_str (pa_cons pe_str (pa_cons pe_str (pa_cons pe_str (pa_cons pe_str (pa_cons pe_str (pa_cons pe_str (pa_cons pe_str pa_nil)))))))))))
      (pss_cons (ps_set (i := 1) scNoRow.nd rfl (Or.inl rfl) (pe_op op_cat (pv 1) (pe_lst (pa_cons pe_str (pa_cons pe_str (pa_cons pe_str (pa_cons pe_str (pa_cons pe_str (pa_cons pe_str (pa_cons pe_str (pa_cons pe_str (pa_cons pe_str pa_nil))))))))))))
      (pss_cons (ps_expr (pe_bm PySem.F.plainAttrs_list PySem.F.slot_list_append PySem.F.type_list_append mt_append (pv 1) (pa_cons pe_str pa_nil)))
      (pss_one (ps_ret (pe_tup (pa_cons (pe_ix ix_list (pv 1) (pe_op op_mod (pv 0) (pe_callB call_len_seq (by rfl) T.f_len b_len (pa_cons (pv 1) pa_nil))) (fun _ _ => rfl)) (pa_cons pe_str pa_nil)))))))))), ?_⟩
    refine ⟨by show 1 ≤ sizeLine; rw [sizeLine_eq]; decide, fun k hk => ⟨by show 12 ≤ sizeLine; rw [sizeLine_eq]; decide, fun p hp => ?_⟩⟩
    have e1 : Ex H (upd (upd H k (.lst [.str "book"])) p (.lst ([.non, .int 4, .ref k, .bl true] ++ nr1.map V.str))) := (Ex.new hk).trans (Ex.new hp)
    have k1 : upd (upd H k (.lst [.str "book"])) p (.lst ([.non, .int 4, .ref k, .bl true] ++ nr1.map V.str)) k = some (.lst [.str "book"]) := by rw [upd_ne (fun z => by rw [← z, upd_same] at hp; cases hp), upd_same]
    have h1 : upd (upd H k (.lst [.str "book"])) p (.lst ([.non, .int 4, .ref k, .bl true] ++ nr1.map V.str)) p = some (.lst ([.non, .int 4, .ref k, .bl true] ++ nr1.map V.str)) := upd_same
    show tSeq _ _ _ ([some (V.int c), some (.ref p)]) (upd (upd H k (.lst [.str "book"])) p (.lst ([.non, .int 4, .ref k, .bl true] ++ nr1.map V.str)))
    generalize upd (upd H k (.lst [.str "book"])) p (.lst ([.non, .int 4, .ref k, .bl true] ++ nr1.map V.str)) = H1 at *
    refine q_asgL (el_cat1 (ev_var rfl) h1 (el_lst (ea_cons ev_c (ea_cons ev_c (ea_cons ev_c (ea_cons ev_c (ea_cons ev_c (ea_cons ev_c (ea_cons ev_c (ea_cons ev_c (ea_cons ev_c ea_nil))))))))) (by show 9 ≤ 100000; decide)) (by show 12 + 9 ≤ 1000; decide)) fun p2 H2 hp2 e2 h2 => ?_
    refine q_asgL (el_cat1 (ev_var rfl) h2 (el_lst (ea_cons ev_c (ea_cons ev_c (ea_cons ev_c (ea_cons ev_c (ea_cons ev_c (ea_cons ev_c (ea_cons ev_c (ea_cons ev_c ea_nil)))))))) (by show 8 ≤ 100000; decide)) (by show 21 + 8 ≤ 1000; decide)) fun p3 H3 hp3 e3 h3 => ?_
    refine q_asgL (el_cat1 (ev_var rfl) h3 (el_lst (ea_cons ev_c (ea_cons ev_c (ea_cons ev_c (ea_cons ev_c (ea_cons ev_c (ea_cons ev_c (ea_cons ev_c (ea_cons ev_c (ea_cons ev_c ea_nil))))))))) (by show 9 ≤ 100000; decide)) (by show 29 + 9 ≤ 1000; decide)) fun p4 H4 hp4 e4 h4 => ?_
    refine q_app h4 (ev_var rfl) ev_c (by show 38 < 100000; decide) fun H5 e5 => ?_
    have e05 : Ex H (upd H5 p4 (.lst (([.non, .int 4, .ref k, .bl true] ++ ((nr1 ++ nr2) ++ nr3).map V.str) ++ nr4.map V.str))) := (e1.trans (e2.trans (e3.trans (e4.trans e5)))).mut (fresh_back (e1.trans (e2.trans e3)) hp4)
    have k5 : upd H5 p4 (.lst (([.non, .int 4, .ref k, .bl true] ++ ((nr1 ++ nr2) ++ nr3).map V.str) ++ nr4.map V.str)) k = some (.lst [.str "book"]) := by
      have k3 := (e2.trans e3) _ _ k1
      rw [upd_ne (fun z => by rw [← z, k3] at hp4; cases hp4)]
      exact (e4.trans e5) _ _ k3
    have h5 : upd H5 p4 (.lst (([.non, .int 4, .ref k, .bl true] ++ ((nr1 ++ nr2) ++ nr3).map V.str) ++ nr4.map V.str)) p4 = some (.lst (([.non, .int 4, .ref k, .bl true] ++ ((nr1 ++ nr2) ++ nr3).map V.str) ++ nr4.map V.str)) := upd_same
    show tRet _ _ ([some (V.int c), some (.ref p4)]) (upd H5 p4 (.lst (([.non, .int 4, .ref k, .bl true] ++ ((nr1 ++ nr2) ++ nr3).map V.str) ++ nr4.map V.str)))
    generalize upd H5 p4 (.lst (([.non, .int 4, .ref k, .bl true] ++ ((nr1 ++ nr2) ++ nr3).map V.str) ++ nr4.map V.str)) = H6 at *
    have hlen : ((([V.non, .int 4, .ref k, .bl true] ++ ((nr1 ++ nr2) ++ nr3).map V.str) ++ nr4.map V.str).length : Int) = 39 := rfl
    obtain ⟨m1, m2⟩ := mod_range c (show (0 : Int) < 39 by decide)
    obtain ⟨v, hv, av⟩ := atI_int (xs := ([V.non, .int 4, .ref k, .bl true] ++ ((nr1 ++ nr2) ++ nr3).map V.str) ++ nr4.map V.str) m1 (by rw [hlen]; exact m2)
    refine s_retU (eu_tup (ea_cons (ev_op (ev_var rfl) (ev_is (ev_op (ev_var rfl) (ev_len (ev_var rfl) (SqL.of h5)) (rv_I (by rw [hlen]; show (0 : Int) < 39; decide))) (w := .int (c % 39)) (by rw [hlen])) (rv_ixL (SqL.of h5) av)) (ea_cons ev_c ea_nil)) (by show 2 ≤ 100000; decide)) fun t H7 ht e7 h7 => ?_
    refine q t v "row" H7 (e05.trans e7) h7 fun book => ?_
    have str : ∀ z : Str, dueB z .row = true → RowOk K H7 book (.str z) "row" := fun z hz => dueB_row (e := .row) hz
    have non : ∀ (x : V) (t : Value), (∀ H', Ex H7 H' → TyX K H' x t) → PySem.W.kitOne K t (.type "str") = some false → RowOk K H7 book x "row" := fun x t h1 h2 => ⟨.row, rfl, .inl ⟨rfl, t, h1, h2⟩⟩
    rcases List.mem_append.mp hv with hv | hv
    · rcases List.mem_append.mp hv with hv | hv
      · rcases List.mem_cons.mp hv with rfl | hv
        · exact non _ _ (fun _ _ => .base .non) (by rfl)
        rcases List.mem_cons.mp hv with rfl | hv
        · exact non _ _ (fun _ _ => .base (.int 4)) (by rfl)
        rcases List.mem_cons.mp hv with rfl | hv
        · exact non _ _ (fun H' e' => .base (.lst ((e7.trans e') _ _ k5))) (by rfl)
        rcases List.mem_cons.mp hv with rfl | hv
        · exact non _ _ (fun _ _ => .base (.bl true)) (by rfl)
        · cases hv
      · obtain ⟨z, hz, rfl⟩ := List.mem_map.mp hv
        rcases List.mem_append.mp hz with hz | hz
        · rcases List.mem_append.mp hz with hz | hz
          · exact str z (nr1_ok z hz)
          · exact str z (nr2_ok z hz)
        · exact str z (nr3_ok z hz)
    · obtain ⟨z, hz, rfl⟩ := List.mem_map.mp hv
      exact str z (nr4_ok z hz)
theorem scNoWord : FnScope ["_law_cell", "_law_bad", "_law_some"] ["_law_cell"] (defScope s_law_no_word) := ⟨rfl, rfl, rfl, by decide +kernel, rfl, by decide +kernel, by decide +kernel⟩
theorem ok_no_word (T : Tx K mg w) : FnOk P w K mg base CX0 1 (He.fAd K ("_law_no_word", none)) (fo K ("_law_no_word", none)) ["_law_cell"] (spRowA K) := by
  refine T.h_law_no_word.ok scNoWord (fun vs H Q E h => ?_) (fun cdv A outer s H vs Q E hr h => ?_)
  · obtain ⟨c, rfl, _⟩ := h
    rfl
  · obtain ⟨c, rfl, q⟩ := h
    refine ⟨_, PSs.nox (pss_cons (ps_set (i := 1) scNoWord.nd rfl (Or.inl rfl) (pe_ix ix_list (pe_lst (pa_cons pe_str (pa_cons pe_str (pa_cons pe_str (pa_cons pe_str (pa_cons pe_str (pa_cons pe_str (pa_cons pe_str (pa_cons pe_str (pa_cons pe_str (pa_cons (pe_op op_mulT pe_str pe_int) pa_nil))))))))))) (pe_op op_mod (pe_op op_fdiv (pv 0) pe_int) pe_int) (fun _ _ => rfl)))
      (pss_cons (ps_set (i := 2) scNoWord.nd rfl (Or.inl rfl) (pe_lst (pa_cons (pe_op op_add_str pe_str (pv 1)) (pa_cons (pe_op op_add_str pe_str (pv 1)) (pa_cons (pe_op op_add_str pe_str (pv 1)) (pa_cons (pe_op op_add_str pe_str (pv 1)) (pa_cons (pe_op op_add_str pe_str (pv 1)) (pa_cons (pe_op op_add_str pe_str (pv 1)) pa_nil))))))))
      (pss_cons (ps_set (i := 2) scNoWord.nd rfl (Or.inl rfl) (pe_op op_cat (pv 2) (pe_lst (pa_cons pe_str (pa_cons pe_str (pa_cons pe_str (pa_cons pe_str (pa_cons (pe_op op_add_str pe_str (pv 1)) (pa_cons (pe_op op_add_str pe_str (pv 1)) pa_nil)))))))))
      (pss_one (ps_ret (pe_tup (pa_cons (pe_ix ix_list (pv 2) (pe_op op_mod (pv 0) pe_int) (fun _ _ => rfl)) (pa_cons pe_str pa_nil)))))))), ?_⟩
    obtain ⟨m1, m2⟩ := mod_range (c / 16) (show (0 : Int) < 10 by decide)
    obtain ⟨vb, hvb, ab⟩ := atI_int (xs := badsW.map V.str) m1 m2
    obtain ⟨b, hb, rfl⟩ := List.mem_map.mp hvb
    have lb := badsW_len b hb
    have L0 : ∀ i : Str, i.length ≤ 300 → i.length + b.length ≤ 100000 := fun i h => by omega
    have L1 : ∀ i j : Str, i.length ≤ 300 → j.length ≤ 300 → (i ++ b).length + j.length ≤ 100000 := fun i j h1 h2 => by rw [app_len]; omega
    refine q_asg (v := .str b) (ev_opL1 (el_lst (ea_cons ev_c (ea_cons ev_c (ea_cons ev_c (ea_cons ev_c (ea_cons ev_c (ea_cons ev_c (ea_cons ev_c (ea_cons ev_c (ea_cons ev_c (ea_cons (ev_mulT (c := 122) (n := 201) ev_c ev_c (by decide)) ea_nil)))))))))) (by show 10 ≤ 100000; decide)) (fun H2 e2 => ev_op (ev_op (ev_var rfl) ev_c (rv_I ⟨by decide, by decide⟩)) ev_c (rv_I (by show (0 : Int) < 10; decide))) fun p H2 hp e2 => rv_ixL (SqL.of hp) ab) fun H1 e1 => ?_
    refine q_asgL (el_lst (ea_cons (ev_cat ev_c (ev_var rfl) (L0 _ (by decide +kernel))) (ea_cons (ev_cat ev_c (ev_var rfl) (L0 _ (by decide +kernel))) (ea_cons (ev_cat ev_c (ev_var rfl) (L0 _ (by decide +kernel))) (ea_cons (ev_cat ev_c (ev_var rfl) (L0 _ (by decide +kernel))) (ea_cons (ev_cat ev_c (ev_var rfl) (L0 _ (by decide +kernel))) (ea_cons (ev_cat ev_c (ev_var rfl) (L0 _ (by decide +kernel))) ea_nil)))))) (by show 6 ≤ 100000; decide)) fun p2 H2 hp2 e2 h2 => ?_
    refine q_asgL (el_cat1 (ev_var rfl) h2 (el_lst (ea_cons ev_c (ea_cons ev_c (ea_cons ev_c (ea_cons ev_c (ea_cons (ev_cat ev_c (ev_var rfl) (L0 _ (by decide +kernel))) (ea_cons (ev_cat ev_c (ev_var rfl) (L0 _ (by decide +kernel))) ea_nil)))))) (by show 6 ≤ 100000; decide)) (by show 6 + 6 ≤ 1000; decide)) fun p3 H3 hp3 e3 h3 => ?_
    have h9 : H3 p3 = some (.lst ((rowsW1 b ++ rowsW2 b).map V.str)) := h3
    obtain ⟨m3, m4⟩ := mod_range c (show (0 : Int) < 12 by decide)
    obtain ⟨v, hv, av⟩ := atI_int (xs := (rowsW1 b ++ rowsW2 b).map V.str) m3 m4
    obtain ⟨z, hz, rfl⟩ := List.mem_map.mp hv
    refine s_retU (eu_tup (ea_cons (ev_op (ev_var rfl) (ev_op (ev_var rfl) ev_c (rv_I (by show (0 : Int) < 12; decide))) (rv_ixL (SqL.of h9) av)) (ea_cons ev_c ea_nil)) (by show 2 ≤ 100000; decide)) fun t H7 ht e7 h7 => ?_
    exact q t (.str z) "word" H7 ((e1.trans (e2.trans e3)).trans e7) h7 fun book => dueB_row (e := .word) (rowsW_ok b hb z hz)
theorem scNoNumber : FnScope ["_law_cell", "_law_bad", "_law_some"] ["_law_cell"] (defScope s_law_no_number) := ⟨rfl, rfl, rfl, by decide +kernel, rfl, by decide +kernel, by decide +kernel⟩
theorem ok_no_number (T : Tx K mg w) : FnOk P w K mg base CX0 1 (He.fAd K ("_law_no_number", none)) (fo K ("_law_no_number", none)) ["_law_cell"] (spRowA K) := by
  refine T.h_law_no_number.ok scNoNumber (fun vs H Q E h => ?_) (fun cdv A outer s H vs Q E hr h => ?_)
  · obtain ⟨c, rfl, _⟩ := h
    rfl
  · obtain ⟨c, rfl, q⟩ := h
    refine ⟨_, PSs.nox (pss_cons (ps_set (i := 1) scNoNumber.nd rfl (Or.inl rfl) (pe_ix ix_list (pe_lst (pa_cons pe_str (pa_cons pe_str (pa_cons pe_str (pa_cons pe_str (pa_cons pe_str (pa_cons pe_str (pa_cons pe_str (pa_cons pe_str (pa_cons pe_str (pa_cons (pe_op op_mulT pe_str pe_int) pa_nil))))))))))) (pe_op op_mod (pe_op op_fdiv (pv 0) pe_int) pe_int) (fun _ _ => rfl)))
      (pss_cons (ps_set (i := 2) scNoNumber.nd rfl (Or.inl rfl) (pe_lst (pa_cons (pe_op op_add_str pe_str (pv 1)) (pa_cons (pe_op op_add_str pe_str (pv 1)) (pa_cons (pe_op op_add_str pe_str (pv 1)) (pa_cons pe_str (pa_cons (pe_op op_add_str (pe_op op_add_str pe_str (pv 1)) pe_str) (pa_cons (pe_op op_add_str pe_str (pv 1)) pa_nil))))))))
      (pss_cons (ps_set (i := 2) scNoNumber.nd rfl (Or.inl rfl) (pe_op op_cat (pv 2) (pe_lst (pa_cons (pe_op op_add_str pe_str (pv 1)) (pa_cons (pe_op op_add_str pe_str (pv 1)) (pa_cons (pe_op op_add_str (pe_op op_add_str pe_str (pv 1)) pe_str) (pa_cons (pe_op op_add_str (pe_op op_add_str pe_str (pv 1)) pe_str) pa_nil)))))))
      (pss_cons (ps_set (i := 2) scNoNumber.nd rfl (Or.inl rfl) (pe_op op_cat (pv 2) (pe_lst (pa_cons (pe_op op_add_str (pe_op op_add_str pe_str (pv 1)) pe_str) (pa_cons (pe_op op_add_str (pe_op op_add_str pe_str (pv 1)) pe_str) pa_nil)))))
      (pss_one (ps_ret (pe_tup (pa_cons (pe_ix ix_list (pv 2) (pe_op op_mod (pv 0) pe_int) (fun _ _ => rfl)) (pa_cons pe_str pa_nil))))))))), ?_⟩
    obtain ⟨m1, m2⟩ := mod_range (c / 16) (show (0 : Int) < 10 by decide)
    obtain ⟨vb, hvb, ab⟩ := atI_int (xs := badsN.map V.str) m1 m2
    obtain ⟨b, hb, rfl⟩ := List.mem_map.mp hvb
    have lb := badsN_len b hb
    have L0 : ∀ i : Str, i.length ≤ 300 → i.length + b.length ≤ 100000 := fun i h => by omega
    have L1 : ∀ i j : Str, i.length ≤ 300 → j.length ≤ 300 → (i ++ b).length + j.length ≤ 100000 := fun i j h1 h2 => by rw [app_len]; omega
    refine q_asg (v := .str b) (ev_opL1 (el_lst (ea_cons ev_c (ea_cons ev_c (ea_cons ev_c (ea_cons ev_c (ea_cons ev_c (ea_cons ev_c (ea_cons ev_c (ea_cons ev_c (ea_cons ev_c (ea_cons (ev_mulT (c := 49) (n := 61) ev_c ev_c (by decide)) ea_nil)))))))))) (by show 10 ≤ 100000; decide)) (fun H2 e2 => ev_op (ev_op (ev_var rfl) ev_c (rv_I ⟨by decide, by decide⟩)) ev_c (rv_I (by show (0 : Int) < 10; decide))) fun p H2 hp e2 => rv_ixL (SqL.of hp) ab) fun H1 e1 => ?_
    refine q_asgL (el_lst (ea_cons (ev_cat ev_c (ev_var rfl) (L0 _ (by decide +kernel))) (ea_cons (ev_cat ev_c (ev_var rfl) (L0 _ (by decide +kernel))) (ea_cons (ev_cat ev_c (ev_var rfl) (L0 _ (by decide +kernel))) (ea_cons ev_c (ea_cons (ev_cat (ev_cat ev_c (ev_var rfl) (L0 _ (by decide +kernel))) ev_c (L1 _ _ (by decide +kernel) (by decide +kernel))) (ea_cons (ev_cat ev_c (ev_var rfl) (L0 _ (by decide +kernel))) ea_nil)))))) (by show 6 ≤ 100000; decide)) fun p2 H2 hp2 e2 h2 => ?_
    refine q_asgL (el_cat1 (ev_var rfl) h2 (el_lst (ea_cons (ev_cat ev_c (ev_var rfl) (L0 _ (by decide +kernel))) (ea_cons (ev_cat ev_c (ev_var rfl) (L0 _ (by decide +kernel))) (ea_cons (ev_cat (ev_cat ev_c (ev_var rfl) (L0 _ (by decide +kernel))) ev_c (L1 _ _ (by decide +kernel) (by decide +kernel))) (ea_cons (ev_cat (ev_cat ev_c (ev_var rfl) (L0 _ (by decide +kernel))) ev_c (L1 _ _ (by decide +kernel) (by decide +kernel))) ea_nil)))) (by show 4 ≤ 100000; decide)) (by show 6 + 4 ≤ 1000; decide)) fun p3 H3 hp3 e3 h3 => ?_
    refine q_asgL (el_cat1 (ev_var rfl) h3 (el_lst (ea_cons (ev_cat (ev_cat ev_c (ev_var rfl) (L0 _ (by decide +kernel))) ev_c (L1 _ _ (by decide +kernel) (by decide +kernel))) (ea_cons (ev_cat (ev_cat ev_c (ev_var rfl) (L0 _ (by decide +kernel))) ev_c (L1 _ _ (by decide +kernel) (by decide +kernel))) ea_nil)) (by show 2 ≤ 100000; decide)) (by show 10 + 2 ≤ 1000; decide)) fun p4 H4 hp4 e4 h4 => ?_
    have h9 : H4 p4 = some (.lst (((rowsN1 b ++ rowsN2 b) ++ rowsN3 b).map V.str)) := h4
    obtain ⟨m3, m4⟩ := mod_range c (show (0 : Int) < 12 by decide)
    obtain ⟨v, hv, av⟩ := atI_int (xs := ((rowsN1 b ++ rowsN2 b) ++ rowsN3 b).map V.str) m3 m4
    obtain ⟨z, hz, rfl⟩ := List.mem_map.mp hv
    refine s_retU (eu_tup (ea_cons (ev_op (ev_var rfl) (ev_op (ev_var rfl) ev_c (rv_I (by show (0 : Int) < 12; decide))) (rv_ixL (SqL.of h9) av)) (ea_cons ev_c ea_nil)) (by show 2 ≤ 100000; decide)) fun t H7 ht e7 h7 => ?_
    exact q t (.str z) "number" H7 ((e1.trans (e2.trans (e3.trans e4))).trans e7) h7 fun book => dueB_row (e := .number) (rowsN_ok b hb z hz)
end
end Ap

/-! ## LP -/
set_option Elab.async false
set_option linter.all false
set_option maxRecDepth 100000
set_option maxHeartbeats 4000000
namespace Ap
open PySem PySem.Spec PyProof.Rows L2 Evl PySem.Froz
/-! ### words of the letters a to z -/
theorem az_mem {z : Str} (h : azB z = true) {c : Nat} (hc : c ∈ z.cps.toList) : 97 ≤ c ∧ c ≤ 122 := by
  have := List.all_eq_true.mp h c hc
  rw [Bool.and_eq_true] at this
  exact ⟨of_decide_eq_true this.1, of_decide_eq_true this.2⟩
theorem az_ok {z : Str} (h : azB z = true) : PyData.strOk z = true := by
  show (z.cps.all fun c => decide (c < 0x110000)) = true
  rw [Array.all_eq_true_iff_forall_mem]
  intro c hc
  have := az_mem h (Array.mem_toList_iff.mpr hc)
  exact decide_eq_true (by omega)
theorem az_sign : ∀ c ∈ List.range 123, 97 ≤ c → isSign c = true := by decide +kernel
theorem az_nosp {z : Str} (h : azB z = true) : 32 ∉ TL.tl z := fun hc => by
  have := az_mem h hc
  omega
theorem az_word {z : Str} (h : azB z = true) (hn : z ≠ emp) (hl : z.length ≤ 200) : readWord z = some z := by
  unfold readWord
  rw [if_neg, if_neg]
  · intro hh
    rcases hh with hh | hh
    · exact hn hh
    · unfold isWord isSigns at hh
      rw [Bool.and_eq_false_iff] at hh
      rcases hh with hh | hh
      · have : z.cps.toList.all isSign = true := List.all_eq_true.mpr fun c hc => by
          have := az_mem h hc
          exact az_sign c (List.mem_range.mpr (by omega)) this.1
        rw [this] at hh
        cases hh
      · exact of_decide_eq_false hh hl
  · intro hh
    subst hh
    revert h
    decide +kernel
theorem rep_az {c n : Nat} (h1 : 97 ≤ c) (h2 : c ≤ 122) : azB (repS c n) = true := by
  refine List.all_eq_true.mpr fun d hd => ?_
  have hd : d ∈ List.replicate n c := by simpa [repS] using hd
  rw [(List.mem_replicate.mp hd).2, Bool.and_eq_true]
  exact ⟨decide_eq_true h1, decide_eq_true h2⟩
theorem rep_ne {c n : Nat} (h : 0 < n) : repS c n ≠ emp := fun e => by
  have := congrArg Str.length e
  rw [rep_len] at this
  have h2 : (emp : Str).length = 0 := rfl
  omega
/-! ### rows of two and three parts -/
theorem row2 {z p0 a : Str} (hz : TL.tl z = TL.tl p0 ++ ([32] ++ TL.tl a)) (h0 : 32 ∉ TL.tl p0) (ha : 32 ∉ TL.tl a) : Txt.split z spc = [p0, a] :=
  parts_join (by simp) hz fun p hp => by
    rcases List.mem_cons.mp hp with rfl | hp
    · exact h0
    · rw [List.mem_singleton.mp hp]; exact ha
theorem row3 {z p0 a b : Str} (hz : TL.tl z = TL.tl p0 ++ ([32] ++ (TL.tl a ++ ([32] ++ TL.tl b)))) (h0 : 32 ∉ TL.tl p0) (ha : 32 ∉ TL.tl a) (hb : 32 ∉ TL.tl b) : Txt.split z spc = [p0, a, b] :=
  parts_join (by simp) hz fun p hp => by
    rcases List.mem_cons.mp hp with rfl | hp
    · exact h0
    rcases List.mem_cons.mp hp with rfl | hp
    · exact ha
    · rw [List.mem_singleton.mp hp]; exact hb
theorem ksGrow : (nGrow, [kNum, kWrd]) ∈ rows := by decide +kernel
theorem look_grow {far w x : Str} {n : Nat} (hf : readNum far 60 = some n) (hw : readWord w = some x) : ∀ j, j < [kNum, kWrd].length → LookOk ([kNum, kWrd].getD j emp) ([far, w].getD j emp) (.inl ([V.int (n : Nat), .str x].getD j .non)) := fun j hj => by
  have hj : j < 2 := hj
  match j, hj with
  | 0, _ => exact .inl ⟨rfl, .inl ⟨n, hf, rfl⟩⟩
  | 1, _ => exact .inr (.inr (.inl ⟨rfl, .inl ⟨x, hw, rfl⟩⟩))
theorem sb_grow {n : Nat} {x : Str} (ho : PyData.strOk x = true) : ([V.int (n : Nat), .str x] : List V).all sb = true := by
  show (true && (PyData.strOk x && true)) = true
  rw [ho]
  rfl
theorem grow_due {bs : List Str} {far w x : Str} {n : Nat} {e : Er} (hf : readNum far 60 = some n) (hw : readWord w = some x) (hx : x.length ≤ 1000) (ho : PyData.strOk x = true)
    (h : (bs.length ≤ n ∧ e = .text) ∨ (n < bs.length ∧ 120 < total bs + x.length ∧ e = .many)) : Due bs nGrow [far, w] e :=
  .inr (.inr ⟨[kNum, kWrd], ksGrow, rfl, .inr ⟨[.int (n : Nat), .str x], rfl, sb_grow ho, look_grow hf hw, by simp, .inl ⟨rfl, n, x, rfl, hx, ho, h⟩⟩⟩)
theorem shared_due {bs : List Str} {ps : List Str} {ns : List Nat} {n : Nat} (hp : ps ≠ []) (h : ps.map (fun p => readNum p 60) = ns.map some) (hn : n ∈ ns) (hl : bs.length ≤ n) : Due bs nShared ps .text :=
  .inl ⟨rfl, hp, .inr ⟨⟨ns, h, n, hn, hl⟩, rfl⟩⟩
/-- a number past the book's texts -/
structure Far (k : Nat) (far : Str) : Prop where
  num : ∃ n, readNum far 60 = some n ∧ k ≤ n
  nosp : 32 ∉ TL.tl far
  len : far.length ≤ 60
def farB (k : Nat) (far : Str) : Bool := (match readNum far 60 with | some n => decide (k ≤ n) | none => false) && (!(TL.tl far).contains 32 && decide (far.length ≤ 60))
theorem farB_ok {k : Nat} {far : Str} (h : farB k far = true) : Far k far := by
  unfold farB at h
  rw [Bool.and_eq_true, Bool.and_eq_true] at h
  obtain ⟨h1, h2, h3⟩ := h
  refine ⟨?_, fun hc => ?_, of_decide_eq_true h3⟩
  · cases e : readNum far 60 with
    | none => rw [e] at h1; cases h1
    | some n => rw [e] at h1; exact ⟨n, rfl, of_decide_eq_true h1⟩
  · rw [List.contains_iff_mem.mpr hc] at h2
    cases h2
def farsL (k : Nat) : List Str := [numS k, "999", repS 57 60]
theorem fars_all : ∀ k ∈ List.range 9, ∀ far ∈ farsL k, farB k far = true := by decide +kernel
theorem fars_ok {k : Nat} (hk : k ≤ 8) {far : Str} (h : far ∈ farsL k) : Far k far := farB_ok (fars_all k (List.mem_range.mpr (by omega)) far h)
theorem num_row : ∀ k ∈ List.range 9, readNum (numS k) 60 = some k ∧ 32 ∉ TL.tl (numS k) ∧ (numS k).length ≤ 1 := by decide +kernel
section
variable {K : PySem.W.Frag} {H : Hp} {bs : List Str} {far : Str} {m : Nat}
/-- RowOk of a row of text, whatever the heap -/
def ROk (K : PySem.W.Frag) (bs : List Str) (r : Str × Str) : Prop := ∀ H, RowOk K H bs (.str r.1) r.2
theorem rOk {z p0 : Str} {ps : List Str} {e : Er} (h1 : z.length ≤ 1000) (h2 : Txt.split z spc = p0 :: ps) (h3 : Due bs p0 ps e) : ROk K bs (z, e.say) := fun _ => ⟨e, rfl, .inr ⟨z, p0, ps, rfl, h1, h2, h3⟩⟩
theorem len60 {a b : Str} {n m : Nat} (h1 : a.length ≤ n) (h2 : b.length ≤ m) : (a ++ b).length ≤ n + m := by rw [app_len]; omega
theorem r_grow_a (hf : Far bs.length far) : ROk K bs (("grow " : Str) ++ far ++ (" a" : Str), "text") := by
  obtain ⟨n, h1, h2⟩ := hf.num
  refine rOk (p0 := nGrow) (ps := [far, "a"]) (e := .text) ?_ (row3 ?_ (by decide +kernel) hf.nosp (by decide +kernel)) (grow_due h1 (x := "a") (by decide +kernel) (by decide +kernel) (by decide +kernel) (.inl ⟨h2, rfl⟩))
  · have := len60 (len60 (a := "grow ") (n := 5) (by decide +kernel) hf.len) (b := " a") (m := 2) (by decide +kernel)
    omega
  · rw [TL.tl_append, TL.tl_append]
    have h1 : TL.tl "grow " = TL.tl nGrow ++ [32] := by decide +kernel
    have h2 : TL.tl " a" = [32] ++ TL.tl "a" := by decide +kernel
    rw [h1, h2]
    simp only [List.append_assoc]
theorem r_grow_d (hf : Far bs.length far) : ROk K bs (("grow " : Str) ++ far ++ (" -" : Str), "text") := by
  obtain ⟨n, h1, h2⟩ := hf.num
  refine rOk (p0 := nGrow) (ps := [far, "-"]) (e := .text) ?_ (row3 ?_ (by decide +kernel) hf.nosp (by decide +kernel)) (grow_due h1 (x := "") (by decide +kernel) (by decide +kernel) (by decide +kernel) (.inl ⟨h2, rfl⟩))
  · have := len60 (len60 (a := "grow ") (n := 5) (by decide +kernel) hf.len) (b := " -") (m := 2) (by decide +kernel)
    omega
  · rw [TL.tl_append, TL.tl_append]
    have h1 : TL.tl "grow " = TL.tl nGrow ++ [32] := by decide +kernel
    have h2 : TL.tl " -" = [32] ++ TL.tl "-" := by decide +kernel
    rw [h1, h2]
    simp only [List.append_assoc]
theorem tl_grow3 {a w : Str} : TL.tl (("grow " : Str) ++ a ++ (" " : Str) ++ w) = TL.tl nGrow ++ ([32] ++ (TL.tl a ++ ([32] ++ TL.tl w))) := by
  rw [TL.tl_append, TL.tl_append, TL.tl_append]
  have h1 : TL.tl "grow " = TL.tl nGrow ++ [32] := by decide +kernel
  have h2 : TL.tl " " = [32] := by decide +kernel
  rw [h1, h2]
  simp only [List.append_assoc]
theorem r_grow_w (hf : Far bs.length far) (h0 : 0 < m) (hm : m ≤ 121) : ROk K bs (("grow " : Str) ++ far ++ (" " : Str) ++ repS 97 m, "text") := by
  obtain ⟨n, h1, h2⟩ := hf.num
  have ha := rep_az (c := 97) (n := m) (by decide) (by decide)
  have hl := rep_len 97 m
  refine rOk (p0 := nGrow) (ps := [far, repS 97 m]) (e := .text) ?_ (row3 tl_grow3 (by decide +kernel) hf.nosp (az_nosp ha)) (grow_due h1 (az_word ha (rep_ne h0) (by omega)) (by omega) (az_ok ha) (.inl ⟨h2, rfl⟩))
  have := len60 (len60 (len60 (a := "grow ") (n := 5) (by decide +kernel) hf.len) (b := " ") (m := 1) (by decide +kernel)) (b := repS 97 m) (m := m) (by omega)
  omega
theorem r_grow_0 (hb : 0 < bs.length) (h0 : 0 < m) (hm : m ≤ 121) (ht : 120 < total bs + m) : ROk K bs (("grow 0 " : Str) ++ repS 98 m, "many") := by
  have ha := rep_az (c := 98) (n := m) (by decide) (by decide)
  have hl := rep_len 98 m
  refine rOk (p0 := nGrow) (ps := ["0", repS 98 m]) (e := .many) ?_ (row3 ?_ (by decide +kernel) (by decide +kernel) (az_nosp ha)) (grow_due (n := 0) (by decide +kernel) (az_word ha (rep_ne h0) (by omega)) (by omega) (az_ok ha) (.inr ⟨hb, by omega, rfl⟩))
  · have := len60 (a := "grow 0 ") (n := 7) (by decide +kernel) (b := repS 98 m) (m := m) (by omega)
    omega
  · rw [TL.tl_append]
    have h1 : TL.tl "grow 0 " = TL.tl nGrow ++ ([32] ++ (TL.tl "0" ++ [32])) := by decide +kernel
    rw [h1]
    simp only [List.append_assoc]
theorem r_shared (hf : Far bs.length far) : ROk K bs (("shared " : Str) ++ far, "text") := by
  obtain ⟨n, h1, h2⟩ := hf.num
  refine rOk (p0 := nShared) (ps := [far]) (e := .text) ?_ (row2 ?_ (by decide +kernel) hf.nosp) (shared_due (ns := [n]) (n := n) (by simp) (by simp [h1]) (by simp) h2)
  · have := len60 (a := "shared ") (n := 7) (by decide +kernel) hf.len
    omega
  · rw [TL.tl_append]
    have h1 : TL.tl "shared " = TL.tl nShared ++ [32] := by decide +kernel
    rw [h1]
    simp only [List.append_assoc]
theorem r_shared_0f (hf : Far bs.length far) : ROk K bs (("shared 0 " : Str) ++ far, "text") := by
  obtain ⟨n, h1, h2⟩ := hf.num
  have h0 : readNum "0" 60 = some 0 := by decide +kernel
  refine rOk (p0 := nShared) (ps := ["0", far]) (e := .text) ?_ (row3 ?_ (by decide +kernel) (by decide +kernel) hf.nosp) (shared_due (ns := [0, n]) (n := n) (by simp) (by simp [h1, h0]) (by simp) h2)
  · have := len60 (a := "shared 0 ") (n := 9) (by decide +kernel) hf.len
    omega
  · rw [TL.tl_append]
    have h1 : TL.tl "shared 0 " = TL.tl nShared ++ ([32] ++ (TL.tl "0" ++ [32])) := by decide +kernel
    rw [h1]
    simp only [List.append_assoc]
theorem r_shared_f0 (hf : Far bs.length far) : ROk K bs (("shared " : Str) ++ far ++ (" 0" : Str), "text") := by
  obtain ⟨n, h1, h2⟩ := hf.num
  have h0 : readNum "0" 60 = some 0 := by decide +kernel
  refine rOk (p0 := nShared) (ps := [far, "0"]) (e := .text) ?_ (row3 ?_ (by decide +kernel) hf.nosp (by decide +kernel)) (shared_due (ns := [n, 0]) (n := n) (by simp) (by simp [h1, h0]) (by simp) h2)
  · have := len60 (len60 (a := "shared ") (n := 7) (by decide +kernel) hf.len) (b := " 0") (m := 2) (by decide +kernel)
    omega
  · rw [TL.tl_append, TL.tl_append]
    have h1 : TL.tl "shared " = TL.tl nShared ++ [32] := by decide +kernel
    have h2 : TL.tl " 0" = [32] ++ TL.tl "0" := by decide +kernel
    rw [h1, h2]
    simp only [List.append_assoc]
def standsL : List Str := ["words 241", ("words " : Str) ++ repS 57 60, "parted 0 300", "parted 300 0", "parted 300 300"]
theorem stands_all : ∀ z ∈ standsL, dueB z .stand = true := by decide +kernel
theorem r_stand {z : Str} (h : z ∈ standsL) : ROk K bs (z, "stand") := fun H => dueB_row (e := .stand) (stands_all z h)
end
/-! ### joined without a sign between -/
theorem join_len (bs : List Str) : (Txt.join emp bs).length = total bs := by
  rw [TL.join_eq]
  show (Str.join emp bs).length = _
  rw [TL.len_tl, TL.tl_join]
  show (TL.joinL [] _).length = _
  rw [joinL_nil, List.length_flatten, List.map_map]
  unfold total
  congr 1
end Ap

/-! ## LS -/
set_option Elab.async false
set_option linter.all false
set_option maxRecDepth 100000
set_option maxHeartbeats 4000000
namespace Ap
open PySem PySem.Spec PyProof.Rows L2 Evl PySem.Froz
/-! ### lists of new pairs of texts -/
def RwT (H : Hp) : V → Str × Str → Prop := fun v r => ∃ t, v = .ref t ∧ H t = some (.tup [.str r.1, .str r.2])
theorem RwT.stay {H H' : Hp} (e : Ex H H') {xs : List V} {rs : List (Str × Str)} (h : Paired (RwT H) xs rs) : Paired (RwT H') xs rs := Paired.mapP h fun _ _ ⟨t, a, b⟩ => ⟨t, a, e _ _ b⟩
theorem Paired.app {α β : Type} {F : α → β → Prop} {a c : List α} {b d : List β} (h : Paired F a b) (k : Paired F c d) : Paired F (a ++ c) (b ++ d) := by
  induction h with
  | nil => exact k
  | cons h1 _ ih => exact .cons h1 ih
theorem Paired.at_ {α β : Type} {F : α → β → Prop} {a : List α} {b : List β} (h : Paired F a b) {x : α} (hx : x ∈ a) : ∃ y, y ∈ b ∧ F x y := by
  induction h with
  | nil => cases hx
  | cons h1 _ ih =>
    rcases List.mem_cons.mp hx with rfl | hx
    · exact ⟨_, List.mem_cons_self, h1⟩
    · obtain ⟨y, h2, h3⟩ := ih hx
      exact ⟨y, List.mem_cons_of_mem _ h2, h3⟩
theorem RwT.app {H : Hp} {p : Addr} {xs ys : List V} {v : V} {rs : List (Str × Str)} {r : Str × Str} (h : H p = some (.lst xs)) (pr : Paired (RwT H) xs rs) (ht : RwT H v r) : Paired (RwT (upd H p (.lst ys))) (xs ++ [v]) (rs ++ [r]) := by
  have one : ∀ a b, RwT H a b → RwT (upd H p (.lst ys)) a b := fun a b ⟨t, h1, h2⟩ => ⟨t, h1, by rw [upd_ne (fun z => by rw [z, h] at h2; cases h2)]; exact h2⟩
  exact Paired.app (Paired.mapP pr one) (.cons (one _ _ ht) .nil)
def EvR (te : TE) (σ : L2.St) (H : Hp) (rs : List (Str × Str)) : Prop := ∀ H1, Ex H H1 → ∀ Q : VK, (∀ p H2 xs, H1 p = none → Ex H1 H2 → H2 p = some (.lst xs) → Paired (RwT H2) xs rs → Q (.ref p) H2) → te σ H1 Q
def EvAR (ta : TA) (σ : L2.St) (H : Hp) (rs : List (Str × Str)) : Prop := ∀ H1, Ex H H1 → ∀ Q : List V → Hp → Prop, (∀ xs H2, Ex H1 H2 → Paired (RwT H2) xs rs → Q xs H2) → ta σ H1 Q
section
variable {σ : L2.St} {H : Hp} {ta tb te : TE} {tr : TA} {tz : TS} {D : Ends}
theorem ear_nil : EvAR tNil σ H [] := fun H1 _ _ q => q [] H1 (Ex.refl H1) .nil
theorem ear_cons {z d : Str} {rs : List (Str × Str)} (ha : Ev ta σ H (.str z)) (hb : Ev tb σ H (.str d)) (hr : EvAR tr σ H rs) : EvAR (tCons (tTup (tCons ta (tCons tb tNil))) tr) σ H ((z, d) :: rs) := fun H1 e Q q =>
  eu_tup (ea_cons ha (ea_cons hb ea_nil)) (by show 2 ≤ 100000; decide) H1 e _ fun p H2 _ e2 h2 => hr H2 (e.trans e2) _ fun xs H3 e3 pr => q (.ref p :: xs) H3 (e2.trans e3) (.cons ⟨p, rfl, e3 _ _ h2⟩ pr)
theorem er_lst {rs : List (Str × Str)} (h : EvAR tr σ H rs) (hl : rs.length ≤ 100000) : EvR (tLst tr) σ H rs := fun H1 e Q q =>
  h H1 e _ fun xs H2 e2 pr => ⟨by show xs.length ≤ _; rw [Paired.length pr]; exact sz_of hl, fun p hp => q p _ xs (fresh_back e2 hp) (e2.trans (Ex.new hp)) upd_same (RwT.stay (Ex.new hp) pr)⟩
theorem er_cat1 {l : Addr} {xs : List V} {rs rs2 : List (Str × Str)} (ha : Ev ta σ H (.ref l)) (hl : H l = some (.lst xs)) (pr : Paired (RwT H) xs rs) (hb : EvR tb σ H rs2) (hz : rs.length + rs2.length ≤ 1000) : EvR (tOp rCat ta tb) σ H (rs ++ rs2) := fun H1 e Q q =>
  ha H1 e _ fun H2 e2 => hb H2 (e.trans e2) _ fun b H3 ys hb3 e3 h3 pr3 => ⟨l, b, xs, ys, rfl, rfl, ((e.trans e2).trans e3) _ _ hl, h3, by rw [sizeLine_eq, Paired.length pr, Paired.length pr3]; omega, fun p hp =>
    q p _ (xs ++ ys) (fresh_back (e2.trans e3) hp) ((e2.trans e3).trans (Ex.new hp)) upd_same (Paired.app (RwT.stay (((e.trans e2).trans e3).trans (Ex.new hp)) pr) (RwT.stay (Ex.new hp) pr3))⟩
theorem q_asgR {i : Nat} {rs : List (Str × Str)} (h : EvR te σ H rs) (k : ∀ p H1 xs, H p = none → Ex H H1 → H1 p = some (.lst xs) → Paired (RwT H1) xs rs → tz D (σ.set i (some (.ref p))) H1) : tSeq (tAsg te (gName i)) tz D σ H :=
  h H (Ex.refl H) _ fun p H1 xs a b c d => k p H1 xs a b c d
end
theorem rv_neL {K : PySem.W.Frag} {H : Hp} {a b : Addr} {xs ys : List V} (ha : SqL K H a xs) (hb : SqL K H b ys) (sa : xs.all sb = true) (s2 : ys.all sb = true) : RV (rNeD K) (.ref a) (.ref b) H (.bl (!PyData.eqvAll (xs.map datS) (ys.map datS))) := fun H1 e Q q =>
  ⟨.list (xs.map datS), .list (ys.map datS), .lst (ex_l e ha) (dat_dp sa), .lst (ex_l e hb) (dat_dp s2), dat_shaped sa, dat_shaped s2, q H1 (Ex.refl _)⟩
theorem et_notnil {K : PySem.W.Frag} {σ : L2.St} {H : Hp} {ta : TE} {a : Addr} {xs : List V} (h : Ev ta σ H (.ref a)) (ha : SqL K H a xs) (sa : xs.all sb = true) : EvT (tTest (tOp (rNeD K) ta (tLst tNil))) σ H (!xs.isEmpty) :=
  et_is (et_test (ev_opL h (el_lst ea_nil (by decide)) fun p H1 hp e => rv_neL (ex_l e ha) (SqL.of hp) sa rfl)) (by rw [← eqv_nil xs]; rfl)
theorem BookOk.sb {bs : List Str} (h : BookOk bs) : (bs.map V.str).all sb = true := strs_sb fun z hz => az_ok (h.one z hz).2
/-- ''.join(book) -/
theorem ev_joinB {K : PySem.W.Frag} {σ : L2.St} {H : Hp} {tb : TE} {b : Addr} {bs : List Str} (hb : Ev tb σ H (.ref b)) (hB : SqL K H b (bs.map V.str)) (ht : total bs ≤ 1000) : Ev (tM1 (fun x xs H Q => ∃ a p, ∃ ys : List Str, x = .str a ∧ xs = [.ref p] ∧ (SqL K H p (ys.map V.str) ∨ SqT K H p (ys.map V.str)) ∧
      (ys.map (·.length)).sum + ys.length * a.length ≤ 16777216 ∧ Q (.str (Txt.join a ys)) H) (tC (.str emp)) tb) σ H (.str (Txt.join emp bs)) := fun H1 e Q q =>
  ⟨⟨_, rfl⟩, hb H1 e _ fun H2 e2 => ⟨emp, b, bs, rfl, rfl, .inl (ex_l (e.trans e2) hB), by
    have h0 : (emp : Str).length = 0 := rfl
    have : (bs.map (·.length)).sum ≤ 1000 := ht
    rw [h0]
    omega, q H2 e2⟩⟩
/-- what a def of rows promises, the book given -/
def spRow (K : PySem.W.Frag) : Sp := fun vs H Q _ => ∃ (b : Addr) (c : Int) (bs : List Str), vs = [.ref b, .int c] ∧ SqL K H b (bs.map V.str) ∧ BookOk bs ∧
  ∀ (t : Addr) (x : V) (d : Str) (H' : Hp), Ex H H' → H' t = some (.tup [x, .str d]) → RowOk K H' bs x d → Q (.ref t) H'
section
variable {P : Program} {w : World} {K : PySem.W.Frag} {mg : Str → Option Value} {base : Heap}
theorem scStages : FnScope ["_law_book_here", "_law_cell", "_law_left", "_law_far", "_law_some"] ["_law_book_here", "_law_cell"] (defScope s_law_by_stages) := ⟨rfl, rfl, rfl, by decide +kernel, rfl, by decide +kernel, by decide +kernel⟩
theorem ok_stages (T : Tx K mg w) : FnOk P w K mg base CX0 1 (He.fAd K ("_law_by_stages", none)) (fo K ("_law_by_stages", none)) ["_law_book_here", "_law_cell"] (spRow K) := by
  refine T.h_law_by_stages.ok scStages (fun vs H Q E h => ?_) (fun cdv A outer s H vs Q E hr h => ?_)
  · obtain ⟨b, c, bs, rfl, _⟩ := h
    rfl
  · obtain ⟨b, c, bs, rfl, hB, ok, q⟩ := h
    refine ⟨_, PSs.nox (pss_cons (ps_set (i := 2) scStages.nd rfl (Or.inl rfl) (pe_op op_sub pe_int (pe_callB call_len_str (by rfl) T.f_len b_len (pa_cons (pe_join pe_str (pv 0)) pa_nil))))
      (pss_cons (ps_set (i := 3) scStages.nd rfl (Or.inl rfl) (pe_ix ix_list (pe_lst (pa_cons (pe_callTy call_str_int (by rfl) T.f_str b_str (pa_cons (pe_callB call_len_seq (by rfl) T.f_len b_len (pa_cons (pv 0) pa_nil)) pa_nil)) (pa_cons pe_str (pa_cons (pe_op op_mulT pe_str pe_int) pa_nil)))) (pe_op op_mod (pe_op op_fdiv (pv 1) pe_int) pe_int) (fun _ _ => rfl)))
      (pss_cons (ps_set (i := 4) scStages.nd rfl (Or.inl rfl) (pe_lst (pa_cons (pe_tup (pa_cons (pe_op op_add_str (pe_op op_add_str pe_str (pv 3)) pe_str) (pa_cons pe_str pa_nil))) (pa_cons (pe_tup (pa_cons (pe_op op_add_str (pe_op op_add_str pe_str (pv 3)) pe_str) (pa_cons pe_str pa_nil))) (pa_cons (pe_tup (pa_cons (pe_op op_add_str pe_str (pv 3)) (pa_cons pe_str pa_nil))) pa_nil)))))
      (pss_cons (ps_set (i := 4) scStages.nd rfl (Or.inl rfl) (pe_op op_cat (pv 4) (pe_lst (pa_cons (pe_tup (pa_cons (pe_op op_add_str (pe_op op_add_str (pe_op op_add_str pe_str (pv 3)) pe_str) (pe_op op_mulT pe_str (pe_op op_add (pv 2) pe_int))) (pa_cons pe_str pa_nil))) (pa_cons (pe_tup (pa_cons pe_str (pa_cons pe_str pa_nil))) pa_nil)))))
      (pss_cons (ps_set (i := 4) scStages.nd rfl (Or.inl rfl) (pe_op op_cat (pv 4) (pe_lst (pa_cons (pe_tup (pa_cons (pe_op op_add_str pe_str (pe_op op_mulT pe_str pe_int)) (pa_cons pe_str pa_nil))) (pa_cons (pe_tup (pa_cons pe_str (pa_cons pe_str pa_nil))) (pa_cons (pe_tup (pa_cons pe_str (pa_cons pe_str pa_nil))) pa_nil))))))
      (pss_cons (ps_expr (pe_bm PySem.F.plainAttrs_list PySem.F.slot_list_append PySem.F.type_list_append mt_append (pv 4) (pa_cons (pe_tup (pa_cons pe_str (pa_cons pe_str pa_nil))) pa_nil)))
      (pss_cut (ps_if (pt_cmpR (op_neD hr.units) (pv 0) (pe_lst pa_nil) (nomark _)) (pss_cons (ps_set (i := 4) scStages.nd rfl (Or.inl rfl) (pe_op op_cat (pv 4) (pe_lst (pa_cons (pe_tup (pa_cons (pe_op op_add_str pe_str (pe_op op_mulT pe_str (pe_op op_add (pv 2) pe_int))) (pa_cons pe_str pa_nil))) (pa_cons (pe_tup (pa_cons (pe_op op_add_str pe_str (pv 3)) (pa_cons pe_str pa_nil))) pa_nil))))) (pss_one (ps_expr (pe_bm PySem.F.plainAttrs_list PySem.F.slot_list_append PySem.F.type_list_append mt_append (pv 4) (pa_cons (pe_tup (pa_cons (pe_op op_add_str (pe_op op_add_str pe_str (pv 3)) pe_str) (pa_cons pe_str pa_nil))) pa_nil))))) pss_nil)
      (pss_one (ps_ret (pe_ix ix_list (pv 4) (pe_op op_mod (pv 1) (pe_callB call_len_seq (by rfl) T.f_len b_len (pa_cons (pv 4) pa_nil))) (fun _ _ => rfl))))))))))), ?_⟩
    have ht := ok.tot
    have hlen : ((bs.map V.str).length : Int) = ((bs.length : Nat) : Int) := by rw [List.length_map]
    obtain ⟨mm, hmm⟩ : ∃ mm : Nat, mm = 121 - total bs := ⟨_, rfl⟩
    have eleft : V.int ((120 - (total bs : Int)) + 1) = V.int (mm : Nat) := by congr 1; omega
    refine q_asg (v := .int (120 - (total bs : Int))) (ev_op ev_c (ev_is (ev_lenS (ev_joinB (ev_var rfl) hB (by omega)) (by rw [join_len]; omega)) (w := .int ((total bs : Nat) : Int)) (by rw [join_len])) rv_I0) fun H1 e1 => ?_
    obtain ⟨m1, m2⟩ := mod_range (c / 16) (show (0 : Int) < 3 by decide)
    obtain ⟨vf, hvf, af⟩ := atI_int (xs := (farsL bs.length).map V.str) m1 m2
    obtain ⟨far, hfar, rfl⟩ := List.mem_map.mp hvf
    have F := fars_ok ok.len hfar
    have hfl := F.len
    have lF : ∀ i : Str, i.length ≤ 300 → i.length + far.length ≤ 100000 := fun i h => by omega
    have lG : ∀ i j : Str, i.length ≤ 300 → j.length ≤ 300 → (i ++ far).length + j.length ≤ 100000 := fun i j h1 h2 => by rw [app_len]; omega
    have lA : ∀ (i j : Str) (c : Nat), i.length ≤ 300 → j.length ≤ 300 → (i ++ far ++ j).length + (repS c mm).length ≤ 100000 := fun i j c h1 h2 => by rw [app_len, app_len, rep_len]; omega
    have lB : ∀ (i : Str) (c : Nat), i.length ≤ 300 → i.length + (repS c mm).length ≤ 100000 := fun i c h1 => by rw [rep_len]; omega
    have b8 := ok.len
    refine q_asg (v := .str far) (ev_opL1 (el_lst (ea_cons (ev_str (ev_is (ev_len (ev_var rfl) (ex_l e1 hB)) (by rw [hlen])) (Nat.lt_of_le_of_lt b8 (by decide))) (ea_cons ev_c (ea_cons (ev_mulT (c := 57) (n := 60) ev_c ev_c (by decide)) ea_nil))) (by show 3 ≤ 100000; decide)) (fun H2 e2 => ev_op (ev_op (ev_var rfl) ev_c (rv_I ⟨by decide, by decide⟩)) ev_c (rv_I (by show (0 : Int) < 3; decide))) fun p H2 hp e2 => rv_ixL (SqL.of hp) af) fun H2 e2 => ?_
    refine q_asgR (er_lst (ear_cons (ev_cat (ev_cat ev_c (ev_var rfl) (lF _ (by decide +kernel))) ev_c (lG _ _ (by decide +kernel) (by decide +kernel))) ev_c (ear_cons (ev_cat (ev_cat ev_c (ev_var rfl) (lF _ (by decide +kernel))) ev_c (lG _ _ (by decide +kernel) (by decide +kernel))) ev_c (ear_cons (ev_cat ev_c (ev_var rfl) (lF _ (by decide +kernel))) ev_c ear_nil))) (by show 3 ≤ 100000; decide)) fun p3 H3 x3 hp3 e3 h3 r3 => ?_
    refine q_asgR (er_cat1 (ev_var rfl) h3 r3 (er_lst (ear_cons (ev_cat (ev_cat (ev_cat ev_c (ev_var rfl) (lF _ (by decide +kernel))) ev_c (lG _ _ (by decide +kernel) (by decide +kernel))) (ev_mulT ev_c (ev_is (ev_op (ev_var rfl) ev_c rv_I0) eleft) (by omega)) (lA _ _ _ (by decide +kernel) (by decide +kernel))) ev_c (ear_cons ev_c ev_c ear_nil)) (by show 2 ≤ 100000; decide)) (by show 3 + 2 ≤ 1000; decide)) fun p4 H4 x4 hp4 e4 h4 r4 => ?_
    refine q_asgR (er_cat1 (ev_var rfl) h4 r4 (er_lst (ear_cons (ev_cat ev_c (ev_mulT (c := 57) (n := 60) ev_c ev_c (by decide)) (by decide +kernel)) ev_c (ear_cons ev_c ev_c (ear_cons ev_c ev_c ear_nil))) (by show 3 ≤ 100000; decide)) (by show 5 + 3 ≤ 1000; decide)) fun p5 H5 x5 hp5 e5 h5 r5 => ?_
    have n5 : x5.length = 8 := Paired.length r5
    refine q_appU h5 (ev_var rfl) (eu_tup (ea_cons ev_c (ea_cons ev_c ea_nil)) (by show 2 ≤ 100000; decide)) (by rw [n5]; decide) fun t6 H6 ht6 e6 h6 => ?_
    have e06 : Ex H (upd H6 p5 (.lst (x5 ++ [V.ref t6]))) := (e1.trans (e2.trans (e3.trans (e4.trans (e5.trans e6))))).mut (fresh_back (e1.trans (e2.trans (e3.trans e4))) hp5)
    have r6 := RwT.app (ys := x5 ++ [V.ref t6]) (r := ("parted 300 300", "stand")) (e6 _ _ h5) (RwT.stay e6 r5) ⟨t6, rfl, h6⟩
    have h7 : upd H6 p5 (.lst (x5 ++ [V.ref t6])) p5 = some (.lst (x5 ++ [V.ref t6])) := upd_same
    generalize upd H6 p5 (.lst (x5 ++ [V.ref t6])) = H7 at *
    have mpos : 0 < mm := by omega
    have mle : mm ≤ 121 := by omega
    have k6 : ∀ r ∈ ([(("grow " : Str) ++ far ++ (" a" : Str), "text"), (("grow " : Str) ++ far ++ (" -" : Str), "text"), (("shared " : Str) ++ far, "text"), (("grow " : Str) ++ far ++ (" " : Str) ++ repS 97 mm, "text"), (("words 241" : Str), "stand"), (("words " : Str) ++ repS 57 60, "stand"), (("parted 0 300" : Str), "stand"), (("parted 300 0" : Str), "stand"), (("parted 300 300" : Str), "stand")] : List (Str × Str)), ROk K bs r := by
      intro r hr
      simp only [List.cons_append, List.nil_append, List.mem_cons, List.not_mem_nil, or_false] at hr
      rcases hr with rfl | rfl | rfl | rfl | rfl | rfl | rfl | rfl | rfl
      · exact r_grow_a F
      · exact r_grow_d F
      · exact r_shared F
      · exact r_grow_w F mpos mle
      · exact r_stand (by decide +kernel)
      · exact r_stand (by decide +kernel)
      · exact r_stand (by decide +kernel)
      · exact r_stand (by decide +kernel)
      · exact r_stand (by decide +kernel)
    refine q_cut (M := fun σ' H' => ∃ p xs rs, σ' = [some (.ref b), some (V.int c), some (.int (120 - (total bs : Int))), some (.str far), some (.ref p)] ∧ Ex H H' ∧ H' p = some (.lst xs) ∧ Paired (RwT H') xs rs ∧ rs ≠ [] ∧ (∀ r ∈ rs, ROk K bs r)) ?_ ?_
    · refine s_when (b := !(bs.map V.str).isEmpty) (et_notnil (ev_var rfl) (ex_l e06 hB) ok.sb) (fun hb H8 e8 => ?_) (fun hb H8 e8 => ⟨p5, _, _, rfl, e06.trans e8, e8 _ _ h7, RwT.stay e8 r6, by simp, k6⟩)
      have bpos : 0 < bs.length := by
        cases bs with
        | nil => cases hb
        | cons a r => exact Nat.succ_pos _
      refine q_asgR (er_cat1 (ev_var rfl) (e8 _ _ h7) (RwT.stay e8 r6) (er_lst (ear_cons (ev_cat ev_c (ev_mulT ev_c (ev_is (ev_op (ev_var rfl) ev_c rv_I0) eleft) (by omega)) (lB _ _ (by decide +kernel))) ev_c (ear_cons (ev_cat ev_c (ev_var rfl) (lF _ (by decide +kernel))) ev_c ear_nil)) (by show 2 ≤ 100000; decide)) (by show 9 + 2 ≤ 1000; decide)) fun p9 H9 x9 hp9 e9 h9 r9 => ?_
      have n9 : x9.length = 11 := Paired.length r9
      refine s_appU h9 (ev_var rfl) (eu_tup (ea_cons (ev_cat (ev_cat ev_c (ev_var rfl) (lF _ (by decide +kernel))) ev_c (lG _ _ (by decide +kernel) (by decide +kernel))) (ea_cons ev_c ea_nil)) (by show 2 ≤ 100000; decide)) (by rw [n9]; decide) fun tA HA htA eA hA => ?_
      refine ⟨p9, _, _, rfl, (e06.trans (e8.trans (e9.trans eA))).mut (fresh_back (e06.trans e8) hp9), upd_same, RwT.app (r := (("shared " : Str) ++ far ++ (" 0" : Str), "text")) (eA _ _ h9) (RwT.stay eA r9) ⟨tA, rfl, hA⟩, by simp, fun r hr => ?_⟩
      rcases List.mem_append.mp hr with hr | hr
      · rcases List.mem_append.mp hr with hr | hr
        · exact k6 r hr
        · simp only [List.mem_cons, List.not_mem_nil, or_false] at hr
          rcases hr with rfl | rfl
          · exact r_grow_0 bpos mpos mle (by omega)
          · exact r_shared_0f F
      · rw [List.mem_singleton.mp hr]
        exact r_shared_f0 F
    rintro σ1 H8 ⟨p, xs, rs, rfl, e8, h8, r8, ne8, k8⟩
    have hxl : 0 < xs.length := by rw [Paired.length r8]; exact List.length_pos_iff.mpr ne8
    obtain ⟨m3, m4⟩ := mod_range c (show (0 : Int) < (xs.length : Int) by omega)
    obtain ⟨v, hv, av⟩ := atI_int (xs := xs) m3 m4
    obtain ⟨r, hr, t, rfl, htt⟩ := Paired.at_ r8 hv
    exact s_ret (ev_op (ev_var rfl) (ev_op (ev_var rfl) (ev_len (ev_var rfl) (SqL.of h8)) (rv_I (by show (0 : Int) < (xs.length : Int); omega))) (rv_ixL (SqL.of h8) av)) fun H9 e9 => q t (.str r.1) r.2 H9 (e8.trans e9) (e9 _ _ htt) (k8 r hr H9)
/-! ### _law_row -/
theorem s_retCall {σ : L2.St} {H : Hp} {D : Ends} {sp : Sp} {dvs vs : List V} {E : XK} {tA : TA} (h : EvA tA σ H vs) (k : ∀ H1, Ex H H1 → sp (vs ++ dvs) H1 D.rt E) : tRet (tCall sp dvs E tA) D σ H := h H (Ex.refl H) _ fun H1 e => k H1 e
theorem scRow : FnScope ["_law_book_here", "_law_cell"] ["_law_book_here", "_law_cell"] (defScope s_law_row) := ⟨rfl, rfl, rfl, by decide +kernel, rfl, by decide +kernel, by decide +kernel⟩
theorem ok_row (T : Tx K mg w) : FnOk P w K mg base CX0 2 (He.fAd K ("_law_row", none)) (fo K ("_law_row", none)) ["_law_book_here", "_law_cell"] (spRow K) := by
  have G1 := ok_no_row (P := P) (base := base) T
  have G2 := ok_no_word (P := P) (base := base) T
  have G3 := ok_no_number (P := P) (base := base) T
  have G4 := ok_stages (P := P) (base := base) T
  have b1 : Binds K (fo K ("_law_no_row", none)) ["_law_cell"] [] := T.h_law_no_row.bindsN fun _ _ _ _ _ _ us hl => match us, hl with | [_], _ => rfl
  have b2 : Binds K (fo K ("_law_no_word", none)) ["_law_cell"] [] := T.h_law_no_word.bindsN fun _ _ _ _ _ _ us hl => match us, hl with | [_], _ => rfl
  have b3 : Binds K (fo K ("_law_no_number", none)) ["_law_cell"] [] := T.h_law_no_number.bindsN fun _ _ _ _ _ _ us hl => match us, hl with | [_], _ => rfl
  have b4 : Binds K (fo K ("_law_by_stages", none)) ["_law_book_here", "_law_cell"] [] := T.h_law_by_stages.bindsN fun _ _ _ _ _ _ us hl => match us, hl with | [_, _], _ => rfl
  refine T.h_law_row.ok scRow (fun vs H Q E h => ?_) (fun cdv A outer s H vs Q E hr h => ?_)
  · obtain ⟨b, c, bs, rfl, _⟩ := h
    rfl
  · obtain ⟨b, c, bs, rfl, hB, ok, q⟩ := h
    refine ⟨_, PSs.nox (pss_cons (ps_if (pt_cmpR op_eq (pe_op op_mod (pv 1) pe_int) pe_int (nomark _)) (pss_one (ps_ret (pe_call G1 (hr.mono (by decide)) (by rfl) T.g_law_no_row T.h_law_no_row.kp b1 .nil pass0 (pa_cons (pe_op op_fdiv (pv 1) pe_int) pa_nil)))) pss_nil)
      (pss_cons (ps_if (pt_cmpR op_eq (pe_op op_mod (pv 1) pe_int) pe_int (nomark _)) (pss_one (ps_ret (pe_call G2 (hr.mono (by decide)) (by rfl) T.g_law_no_word T.h_law_no_word.kp b2 .nil pass0 (pa_cons (pe_op op_fdiv (pv 1) pe_int) pa_nil)))) pss_nil)
      (pss_cons (ps_if (pt_cmpR op_eq (pe_op op_mod (pv 1) pe_int) pe_int (nomark _)) (pss_one (ps_ret (pe_call G3 (hr.mono (by decide)) (by rfl) T.g_law_no_number T.h_law_no_number.kp b3 .nil pass0 (pa_cons (pe_op op_fdiv (pv 1) pe_int) pa_nil)))) pss_nil)
      (pss_one (ps_ret (pe_call G4 (hr.mono (by decide)) (by rfl) T.g_law_by_stages T.h_law_by_stages.kp b4 .nil pass0 (pa_cons (pv 0) (pa_cons (pe_op op_fdiv (pv 1) pe_int) pa_nil)))))))), ?_⟩
    have tst : ∀ {H1 : Hp} {k : Int}, EvT (tTest (tOp rEq (tOp (rI (fun _ j => 0 < j) fun i j => .int (i % j)) (tVar 1) (tC (.int 4))) (tC (.int k)))) [some (.ref b), some (V.int c)] H1 (decide (c % 4 = k)) := fun {H1 k} => et_is (et_test (ev_op (ev_op (ev_var rfl) ev_c (rv_I (by show (0 : Int) < 4; decide))) ev_c (rv_eq rfl))) (by
      rw [decide_eq_decide]
      exact ⟨fun h => V.int.inj h, fun h => by rw [h]⟩)
    have dv : ∀ {H1 : Hp}, Ev (tOp (rI CDiv fun i j => .int (i / j)) (tVar 1) (tC (.int 4))) [some (.ref b), some (V.int c)] H1 (.int (c / 4)) := fun {H1} => ev_op (ev_var rfl) ev_c (rv_I ⟨by decide, by decide⟩)
    refine q_when tst (fun _ H1 e1 => ?_) (fun _ H1 e1 => ?_)
    · exact s_retCall (ea_cons dv ea_nil) fun H2 e2 => ⟨_, rfl, fun t x d H3 e3 h3 r3 => q t x d H3 (e1.trans (e2.trans e3)) h3 (r3 bs)⟩
    refine q_when tst (fun _ H2 e2 => ?_) (fun _ H2 e2 => ?_)
    · exact s_retCall (ea_cons dv ea_nil) fun H3 e3 => ⟨_, rfl, fun t x d H4 e4 h4 r4 => q t x d H4 (e1.trans (e2.trans (e3.trans e4))) h4 (r4 bs)⟩
    refine q_when tst (fun _ H3 e3 => ?_) (fun _ H3 e3 => ?_)
    · exact s_retCall (ea_cons dv ea_nil) fun H4 e4 => ⟨_, rfl, fun t x d H5 e5 h5 r5 => q t x d H5 (e1.trans (e2.trans (e3.trans (e4.trans e5)))) h5 (r5 bs)⟩
    exact s_retCall (ea_cons (ev_var rfl) (ea_cons dv ea_nil)) fun H4 e4 => ⟨b, _, bs, rfl, ex_l (e1.trans (e2.trans (e3.trans e4))) hB, ok, fun t x d H5 e5 h5 r5 => q t x d H5 (e1.trans (e2.trans (e3.trans (e4.trans e5)))) h5 r5⟩
end
end Ap

/-! ## LE -/
set_option Elab.async false
set_option linter.all false
set_option maxRecDepth 100000
set_option maxHeartbeats 4000000
namespace Ap
open PySem PySem.Spec PyProof.Rows L2 Evl PySem.Froz
/-! ### what the law says to its desk -/
theorem passF {P : Program} {w : World} {X : Cx} : Passes (L2.CX P w) X (fun _ _ _ => False) := fun _ _ _ _ _ _ _ h => by
  obtain ⟨_, _, _, _, _, _, _, _, _, _, _, _, z⟩ := h
  exact z.elim
section
variable {K : PySem.W.Frag} {B H : Hp} {d : Addr} {S : MS} {Q : VK} {E : XK}
theorem look_nil {α : Type} {f : Nat → α → Prop} : ∀ j, j < ([] : List Str).length → False := fun j h => Nat.not_lt_zero _ h
theorem say_alone {z : Str} (hz : z.length ≤ 1000) (hs : Txt.split z spc = [z]) (hk : (z, []) ∈ rows) (hn : z ≠ nShared) (hd : DRep K B H d S) (g : Good S) (k : AloneEnd K B H d S z Q E) : spSay K [.ref d, .str z] H Q E :=
  ⟨B, d, S, _, rfl, hd, g, .inr ⟨z, z, [], rfl, hz, hs, .inr (.inr ⟨[], hk, rfl, .inr ⟨[], rfl, rfl, fun j hj => absurd hj (Nat.not_lt_zero _), .inl ⟨rfl, k⟩⟩⟩)⟩⟩
theorem sp_of {z : Str} (h : partsOf z = [z]) : Txt.split z spc = [z] := by rw [split_eq, h]
theorem say_begin (hd : DRep K B H d S) (g : Good S) (h8 : S.texts.length < 8) (k : ∀ v H', DRep K B H' d (afterBegin S) → Q v H') : spSay K [.ref d, .str "begin"] H Q E :=
  say_alone (z := nBegin) (by decide +kernel) (sp_of (by decide +kernel)) (by decide +kernel) (by decide +kernel) hd g (.inl ⟨rfl, fun h => absurd h (by omega), fun _ H' r => k _ H' r⟩)
theorem say_begin8 (hd : DRep K B H d S) (g : Good S) (h8 : S.texts.length = 8) (k : ∀ H', Ex H H' → E (.ref (ea K .many)) none H') : spSay K [.ref d, .str "begin"] H Q E :=
  say_alone (z := nBegin) (by decide +kernel) (sp_of (by decide +kernel)) (by decide +kernel) (by decide +kernel) hd g (.inl ⟨rfl, fun _ => k, fun h => absurd h (by omega)⟩)
theorem say_book (hd : DRep K B H d S) (g : Good S) (k : ∀ H', Ex H H' → Q (.str (showWords S.texts)) H') : spSay K [.ref d, .str "book"] H Q E :=
  say_alone (z := nBook) (by decide +kernel) (sp_of (by decide +kernel)) (by decide +kernel) (by decide +kernel) hd g (.inr (.inl ⟨rfl, k⟩))
theorem say_table (hd : DRep K B H d S) (g : Good S) (k : ∀ H', Ex H H' → Q (.str (showTab (tabS S.knots))) H') : spSay K [.ref d, .str "table"] H Q E :=
  say_alone (z := nTable) (by decide +kernel) (sp_of (by decide +kernel)) (by decide +kernel) (by decide +kernel) hd g (.inr (.inr ⟨rfl, k⟩))
theorem say_grow {row far w : Str} {i : Nat} {t : Str} (hl : row.length ≤ 1000) (hs : Txt.split row spc = [nGrow, far, w]) (hf : readNum far 60 = some i) (hw : readWord w = some w) (hwl : w.length ≤ 1000) (ho : PyData.strOk w = true) (ht : S.texts[i]? = some t)
    (hsm : total S.texts + w.length ≤ 62) (hd : DRep K B H d S) (g : Good S) (k : ∀ H' S', DRep K B H' d S' → Good S' → S'.texts = S.texts.set i (t ++ w) → Q (.str "ok") H') : spSay K [.ref d, .str row] H Q E := by
  have hi := (List.getElem?_eq_some_iff.mp ht).1
  refine ⟨B, d, S, _, rfl, hd, g, .inr ⟨row, nGrow, [far, w], rfl, hl, hs, .inr (.inr ⟨[kNum, kWrd], ksGrow, rfl, .inr ⟨[.int (i : Nat), .str w], rfl, sb_grow ho, look_grow hf hw, .inr ⟨by simp, .inl ⟨rfl, i, w, rfl, hwl, ho, fun h => ?_, fun _ h => ?_, fun t' ht' => ?_⟩⟩⟩⟩)⟩⟩
  · omega
  · omega
  · rw [ht] at ht'
    cases ht'
    exact .inr ⟨hsm, k⟩
theorem DRep.desk (r : DRep K B H d S) : ∃ dd fs, H d = some (.ins (He.ga K "Desk") dd fs) ∧ fs.lookup ("say" : Str) = none := by
  have e := r.ex
  obtain ⟨m, dd, h, q⟩ := r
  exact ⟨dd, _, e _ _ h, rfl⟩
theorem DRep.outer (r : DRep K B H d S) {p : Addr} {xs : List V} (hp : B p = some (.lst xs)) (o : HO) : DRep K (upd B p o) (upd H p o) d S := by
  obtain ⟨m, dd, h, q⟩ := r
  refine ⟨m, dd, ?_, q.outer (by rw [hp]; exact fun z => nomatch z) o⟩
  rw [upd_ne (fun z => by rw [z, hp] at h; cases h)]
  exact h
/-- desk.say(e): through the reading -/
theorem m_say {σ : L2.St} {te : TE} {z : Str} {i : Nat} (hσ : σ[i]? = some (some (.ref d))) (hd : DRep K B H d S) (he : Ev te σ H (.str z)) (k : ∀ H1, Ex H H1 → spSay K [.ref d, .str z] H1 Q E) : tMeth (He.ga K "Desk") "say" (spSay K) [] E (tVar i) (tCons te tNil) σ H Q := by
  obtain ⟨dd, fs, h1, h2⟩ := hd.desk
  exact ⟨_, hσ, d, dd, fs, rfl, h1, h2, he H (Ex.refl _) _ fun H1 e1 => k H1 e1⟩
theorem ev_say {σ : L2.St} {te : TE} {z r : Str} {i : Nat} (hσ : σ[i]? = some (some (.ref d))) (hd : DRep K B H d S) (he : Ev te σ H (.str z)) (k : ∀ H1, DRep K B H1 d S → ∀ Q : VK, (∀ H', Ex H1 H' → Q (.str r) H') → spSay K [.ref d, .str z] H1 Q E) : Ev (tMeth (He.ga K "Desk") "say" (spSay K) [] E (tVar i) (tCons te tNil)) σ H (.str r) := fun H1 e1 Q q =>
  m_say hσ (hd.stay e1) (he.mono e1) fun H2 e2 => k H2 (hd.stay (e1.trans e2)) Q fun H3 e3 => q H3 (e2.trans e3)
end
end Ap

/-! ## LL -/
set_option Elab.async false
set_option linter.all false
set_option maxRecDepth 100000
set_option maxHeartbeats 4000000
namespace Ap
open PySem PySem.Spec PyProof.Rows L2 Evl PySem.Froz
section
variable {σ : L2.St} {H : Hp} {tz : TS} {D : Ends} {tA : TA} {te : TE} {sp : Sp} {dvs vs : List V} {E : XK}
theorem q_call {i : Nat} (h : EvA tA σ H vs) (k : ∀ H1, Ex H H1 → sp (vs ++ dvs) H1 (fun v H2 => tz D (σ.set i (some v)) H2) E) : tSeq (tAsg (tCall sp dvs E tA) (gName i)) tz D σ H := h H (Ex.refl H) _ fun H1 e => k H1 e
theorem q_callG {g : TG} (h : EvA tA σ H vs) (k : ∀ H1, Ex H H1 → sp (vs ++ dvs) H1 (fun v H2 => g v σ H2 fun σ' H' => tz D σ' H') E) : tSeq (tAsg (tCall sp dvs E tA) g) tz D σ H := h H (Ex.refl H) _ fun H1 e => k H1 e
theorem q_expr (h : te σ H fun _ H1 => tz D σ H1) : tSeq (tDrop te) tz D σ H := h
theorem s_expr (h : te σ H fun _ H1 => D.nx σ H1) : tDrop te D σ H := h
end
theorem set_last {α : Type} (a b : α) : ∀ l : List α, (l ++ [a]).set l.length b = l ++ [b]
  | [] => rfl
  | x :: r => by
    show x :: (r ++ [a]).set r.length b = x :: (r ++ [b])
    rw [set_last a b r]
theorem take_set {α : Type} (a : α) {l : List α} (h : l.length = 8) : l.take 7 ++ [a] = l.set 7 a := by
  match l, h with
  | [_, _, _, _, _, _, _, _], _ => rfl
theorem cut_7 {l : List V} (h : l.length = 8) : cutV l none (some (7 : Int)) = l.take 7 := by
  unfold cutV
  rw [show ((7 : Int)) = ((7 : Nat) : Int) from rfl, HT.sIx_nat, HT.sIx_none]
  have h1 : min 7 l.length = 7 := by omega
  rw [h1]
  rfl
theorem total_take (bs : List Str) {i : Nat} {z : Str} (h : bs[i]? = some z) : total (bs.take i) + z.length ≤ total bs := by
  have e : total (bs.take (i + 1)) = total (bs.take i) + z.length := by
    rw [List.take_succ, h]
    show total (bs.take i ++ [z]) = _
    rw [total_app]
    rfl
  have := total_app (bs.take (i + 1)) (bs.drop (i + 1))
  rw [List.take_append_drop] at this
  omega
section
variable {P : Program} {w : World} {K : PySem.W.Frag} {mg : Str → Option Value} {base : Heap}
def spLaw (K : PySem.W.Frag) : Sp := fun vs H Q _ => ∃ (a : Addr) (ns : List Int), vs = [.ref a] ∧ SqL K H a (ns.map V.int) ∧ ∀ H', Q (.bl true) H'
theorem scLaw : FnScope ["_law_script", "_law_book_here", "_law_desk", "_law_k", "_law_table", "_law_row_here", "_law_due"] ["_law_script"] (defScope s_law) := ⟨rfl, rfl, rfl, by decide +kernel, rfl, by decide +kernel, by decide +kernel⟩
theorem ok_law (T : Tx K mg w) : FnOk P w K mg base CX0 9 (He.fAd K ("law", none)) (fo K ("law", none)) ["_law_script"] (spLaw K) := by
  have GS := ok_say (P := P) (base := base) T
  have GB := ok_book2 (P := P) (base := base) T
  have GD := ok_desk (P := P) (base := base) T
  have GR := ok_row (P := P) (base := base) T
  have GC := ok_cell (P := P) (base := base) T
  have GF := ok_refused (P := P) (base := base) T
  have GH := ok_show_book (P := P) (base := base) T
  have bS : Binds K (fo K ("Desk", some "say")) ["self", "row"] [] := T.h_Desk_say.bindsN fun _ _ _ _ _ _ us hl => match us, hl with | [_, _], _ => rfl
  have bB : Binds K (fo K ("_law_book", none)) ["_law_script"] [] := T.h_law_book.bindsN fun _ _ _ _ _ _ us hl => match us, hl with | [_], _ => rfl
  have bD : Binds K (fo K ("Desk", some "__init__")) ["self"] [] := T.h_Desk_init.bindsN fun _ _ _ _ _ _ us hl => match us, hl with | [_], _ => rfl
  have bR : Binds K (fo K ("_law_row", none)) ["_law_book_here", "_law_cell"] [] := T.h_law_row.bindsN fun _ _ _ _ _ _ us hl => match us, hl with | [_, _], _ => rfl
  have bC : Binds K (fo K ("_law_cell_at", none)) ["_law_script", "_law_k"] [] := T.h_law_cell_at.bindsN fun _ _ _ _ _ _ us hl => match us, hl with | [_, _], _ => rfl
  have bF : Binds K (fo K ("_law_refused", none)) ["_law_desk", "_law_row_here", "_law_due"] [] := T.h_law_refused.bindsN fun _ _ _ _ _ _ us hl => match us, hl with | [_, _, _], _ => rfl
  have bH : Binds K (fo K ("show_book", none)) ["book"] [] := T.h_show_book.bindsN fun _ _ _ _ _ _ us hl => match us, hl with | [_], _ => rfl
  refine T.h_law.ok scLaw (fun vs H Q E h => ?_) (fun cdv A outer s H vs Q E hr h => ?_)
  · obtain ⟨a, ns, rfl, _⟩ := h
    rfl
  · obtain ⟨a, ns, rfl, hS, q⟩ := h
    refine ⟨_, PSs.nox (pss_cons (ps_set (i := 1) scLaw.nd rfl (Or.inl rfl) (pe_call GB (hr.mono (by decide)) (by rfl) T.g_law_book T.h_law_book.kp bB .nil pass0 (pa_cons (pv 0) pa_nil)))
      (pss_cons (ps_set (i := 2) scLaw.nd rfl (Or.inl rfl) (pe_make0 T.m_Desk GD (hr.mono (by decide)) (by rfl) T.g_Desk bD .nil pass0))
      (pss_cut (ps_for PassesOwn.never rfl (pi_range1 (by rfl) T.f_range (pa_cons (pe_callB call_len_seq (by rfl) T.f_len b_len (pa_cons (pv 1) pa_nil)) pa_nil)) (pg_name (i := 3) scLaw.nd rfl (Or.inl rfl)) (pss_cons (ps_expr (pe_meth (E := fun _ _ _ => False) (pv 2) T.c_Desk T.t_Desk_say GS (hr.mono (by decide)) bS .nil passF (pa_cons pe_str pa_nil))) (pss_one (ps_if (pt_cmpR op_ne (pe_ix ix_list (pv 1) (pv 3) (fun _ _ => rfl)) pe_str (nomark _)) (pss_one (ps_expr (pe_meth (E := fun _ _ _ => False) (pv 2) T.c_Desk T.t_Desk_say GS (hr.mono (by decide)) bS .nil passF (pa_cons (pe_op op_add_str (pe_op op_add_str (pe_op op_add_str pe_str (pe_callTy call_str_int (by rfl) T.f_str b_str (pa_cons (pv 3) pa_nil))) pe_str) (pe_ix ix_list (pv 1) (pv 3) (fun _ _ => rfl))) pa_nil)))) pss_nil))))
      (pss_cons (ps_set (i := 4) scLaw.nd rfl (Or.inl rfl) (pe_meth (E := fun _ _ _ => False) (pv 2) T.c_Desk T.t_Desk_say GS (hr.mono (by decide)) bS .nil passF (pa_cons pe_str pa_nil)))
      (pss_cut (ps_for PassesOwn.never rfl (pi_range1 (by rfl) T.f_range (pa_cons pe_int pa_nil)) (pg_name (i := 3) scLaw.nd rfl (Or.inl rfl)) (pss_cons (ps_asg (pe_call GR (hr.mono (by decide)) (by rfl) T.g_law_row T.h_law_row.kp bR .nil pass0 (pa_cons (pv 1) (pa_cons (pe_op op_add (pe_call GC (hr.mono (by decide)) (by rfl) T.g_law_cell_at T.h_law_cell_at.kp bC .nil pass0 (pa_cons (pv 0) (pa_cons (pe_op op_add pe_int (pv 3)) pa_nil))) (pe_op op_mul pe_int (pv 3))) pa_nil))) (pg_tup rfl (pgs_cons (pg_name (i := 5) scLaw.nd rfl (Or.inl rfl)) (pgs_cons (pg_name (i := 6) scLaw.nd rfl (Or.inl rfl)) pgs_nil)))) (pss_one (ps_if (pt_not (pt_val (pe_call GF (hr.mono (by decide)) (by rfl) T.g_law_refused T.h_law_refused.kp bF .nil pass0 (pa_cons (pv 2) (pa_cons (pv 5) (pa_cons (pv 6) pa_nil)))))) (pss_one (ps_ret pe_bl)) pss_nil))))
      (pss_cons (ps_if (PW.pt (pw_or (pt_cmpR op_ne (pe_meth (E := fun _ _ _ => False) (pv 2) T.c_Desk T.t_Desk_say GS (hr.mono (by decide)) bS .nil passF (pa_cons pe_str pa_nil)) (pv 4) (nomark _)) (pw_or1 (pt_cmpR op_ne (pe_meth (E := fun _ _ _ => False) (pv 2) T.c_Desk T.t_Desk_say GS (hr.mono (by decide)) bS .nil passF (pa_cons pe_str pa_nil)) (pe_call GH (hr.mono (by decide)) (by rfl) T.g_show_book T.h_show_book.kp bH .nil pass0 (pa_cons (pv 1) pa_nil)) (nomark _))))) (pss_one (ps_ret pe_bl)) pss_nil)
      (pss_cut (ps_while PassesOwn.never (pt_cmpR op_lt (pe_callB call_len_seq (by rfl) T.f_len b_len (pa_cons (pv 1) pa_nil)) pe_int (nomark _)) (pss_cons (ps_expr (pe_bm PySem.F.plainAttrs_list PySem.F.slot_list_append PySem.F.type_list_append mt_append (pv 1) (pa_cons pe_str pa_nil))) (pss_one (ps_expr (pe_meth (E := fun _ _ _ => False) (pv 2) T.c_Desk T.t_Desk_say GS (hr.mono (by decide)) bS .nil passF (pa_cons pe_str pa_nil))))))
      (pss_cons (ps_if (PW.pt (pw_or (pt_not (pt_val (pe_call GF (hr.mono (by decide)) (by rfl) T.g_law_refused T.h_law_refused.kp bF .nil pass0 (pa_cons (pv 2) (pa_cons pe_str (pa_cons pe_str pa_nil)))))) (pw_or1 (pt_cmpR op_ne (pe_meth (E := fun _ _ _ => False) (pv 2) T.c_Desk T.t_Desk_say GS (hr.mono (by decide)) bS .nil passF (pa_cons pe_str pa_nil)) (pe_call GH (hr.mono (by decide)) (by rfl) T.g_show_book T.h_show_book.kp bH .nil pass0 (pa_cons (pv 1) pa_nil)) (nomark _))))) (pss_one (ps_ret pe_bl)) pss_nil)
      (pss_cons (ps_if (pt_cmpR op_eq (pe_callB call_len_str (by rfl) T.f_len b_len (pa_cons (pe_join pe_str (pv 1)) pa_nil)) pe_int (nomark _)) (pss_one (ps_ret pe_bl)) pss_nil)
      (pss_one (ps_ret (pe_and (pe_cmpR op_eq (pe_meth (E := fun _ _ _ => False) (pv 2) T.c_Desk T.t_Desk_say GS (hr.mono (by decide)) bS .nil passF (pa_cons pe_str pa_nil)) pe_str (nomark _)) (pe_one (pe_cmpR op_eq (pe_meth (E := fun _ _ _ => False) (pv 2) T.c_Desk T.t_Desk_say GS (hr.mono (by decide)) bS .nil passF (pa_cons pe_str pa_nil)) (pe_call GH (hr.mono (by decide)) (by rfl) T.g_show_book T.h_show_book.kp bH .nil pass0 (pa_cons (pe_op op_cat (pe_slice sl_list (pv 1) po_none (po_some pe_int)) (pe_lst (pa_cons (pe_op op_add_str (pe_ix ix_list (pv 1) pe_int (fun _ _ => rfl)) pe_str) pa_nil))) pa_nil)) (nomark _))))))))))))))), ?_⟩
    -- the book
    refine q_call (ea_cons (ev_var rfl) ea_nil) fun H1 e1 => ⟨a, ns, rfl, ex_l e1 hS, fun bs ok p H2 hp e2 h2 => ?_⟩
    -- the desk
    show tSeq (tAsg (tMake (He.ga K "Desk") (spDesk K) [] E0 tNil) (gName 2)) _ _ _ _
    intro d dx hd hdx ne
    refine ⟨H2, d, dx, rfl, upd_same, (Ex.new hdx).trans (Ex.new (by rw [upd_ne ne.symm]; exact hd)), hd, fun B H3 eB r0 => ⟨rfl, ?_⟩⟩
    have hBp := eB _ _ h2
    have hBa : SqL K B a (ns.map V.int) := ex_l (e1.trans (e2.trans eB)) hS
    have b8 := ok.len
    have b60 := ok.tot
    -- the texts
    refine q_cut (M := fun σ' H' => ∃ S x, σ' = [some (.ref a), some (.ref p), some (.ref d), x, none, none, none] ∧ DRep K B H' d S ∧ Good S ∧ S.texts = bs) ?_ ?_
    · refine s_forR1 (n := ((bs.length : Nat) : Int)) (ea_cons (ev_is (ev_len (ev_var rfl) (SqL.of (r0.ex _ _ hBp))) (by rw [List.length_map])) ea_nil) (by omega) (fun i σ' H' => ∃ S x, σ' = [some (.ref a), some (.ref p), some (.ref d), x, none, none, none] ∧ DRep K B H' d S ∧ Good S ∧ S.texts = bs.take i) (fun H4 e4 => ⟨S0, none, rfl, r0.stay e4, good0, rfl⟩) ?_ ?_
      · rintro i σ' H4 hi ⟨S, x, rfl, r, g, hT⟩
        have hi : i < bs.length := by omega
        have hTl : S.texts.length = i := by rw [hT, List.length_take]; omega
        obtain ⟨z, hz⟩ : ∃ z, bs[i]? = some z := ⟨_, List.getElem?_eq_getElem hi⟩
        obtain ⟨z60, zaz⟩ := ok.one z (List.mem_of_getElem? hz)
        have tt := total_take bs hz
        refine q_expr (m_say (B := B) (d := d) rfl r ev_c fun H5 e5 => say_begin (r.stay e5) g (by omega) fun v H6 r6 => ?_)
        have g6 : Good (afterBegin S) := g.begin (by omega)
        have hix : ∀ {H7 : Hp}, Ex H6 H7 → Ev (tOp (rIxL K) (tVar 1) (tVar 3)) [some (.ref a), some (.ref p), some (.ref d), some (V.int (i : Int)), none, none, none] H7 (.str z) := fun {H7} e7 =>
          ev_op (ev_var rfl) (ev_var rfl) (rv_ixL (SqL.of (e7 _ _ (r6.ex _ _ hBp))) (atI_nat (by rw [List.getElem?_map, hz]; rfl)))
        refine s_when (b := !decide (z = emp)) (et_is (et_test (ev_op (hix (Ex.refl _)) ev_c (rv_ne rfl))) ?_) (fun hb H7 e7 => ?_) (fun hb H7 e7 => ?_)
        · congr 1
          exact dec_str
        · have zne : z ≠ emp := by
            intro h
            rw [h] at hb
            cases hb
          obtain ⟨n1, n2, n3⟩ := num_row i (List.mem_range.mpr (by omega))
          have zl : ((("grow " : Str) ++ numS i) ++ (" " : Str)).length ≤ 7 := by
            rw [app_len, app_len]
            have h1 : ("grow " : Str).length = 5 := by decide +kernel
            have h2 : (" " : Str).length = 1 := by decide +kernel
            omega
          have zg : (("grow " : Str) ++ numS i).length ≤ 6 := by
            rw [app_len]
            have h1 : ("grow " : Str).length = 5 := by decide +kernel
            omega
          refine s_expr (m_say (B := B) (d := d) (z := ((("grow " : Str) ++ numS i) ++ (" " : Str)) ++ z) rfl (r6.stay e7) (ev_cat (ev_cat (ev_cat ev_c (ev_str (ev_var rfl) (Nat.lt_of_lt_of_le (show i < 2 ^ 8 by omega) (by decide))) ?_) ev_c ?_) (hix e7) ?_) fun H8 e8 => say_grow (i := i) (w := z) (t := emp) ?_ (row3 tl_grow3 (by decide +kernel) n2 (az_nosp zaz)) n1 (az_word zaz zne (by omega)) (by omega) (az_ok zaz) ?_ ?_ (r6.stay (e7.trans e8)) g6 fun H9 S9 r9 g9 t9 => ?_)
          · have h1 : ("grow " : Str).length = 5 := by decide +kernel
            show ("grow " : Str).length + (numS i).length ≤ 100000
            omega
          · have h2 : (" " : Str).length = 1 := by decide +kernel
            show (("grow " : Str) ++ numS i).length + (" " : Str).length ≤ 100000
            omega
          · omega
          · rw [app_len]
            omega
          · show (S.texts ++ [emp])[i]? = some emp
            rw [List.getElem?_append_right (by omega), hTl]
            simp
          · show total (S.texts ++ [emp]) + z.length ≤ 62
            rw [total_app, hT]
            have : total [emp] = 0 := rfl
            omega
          · refine ⟨S9, _, rfl, r9, g9, ?_⟩
            rw [t9]
            show (S.texts ++ [emp]).set i (emp ++ z) = _
            have e0 : emp ++ z = z := Str.empty_append z
            rw [e0]
            have := set_last emp z S.texts
            rw [hTl] at this
            rw [this, hT, List.take_succ, hz]
            rfl
        · have zeq : z = emp := by
            by_cases h : z = emp
            · exact h
            · rw [decide_eq_false h] at hb
              cases hb
          refine ⟨afterBegin S, _, rfl, r6.stay e7, g6, ?_⟩
          show S.texts ++ [emp] = _
          rw [hT, List.take_succ, hz, zeq]
          rfl
      · rintro σ' H4 ⟨S, x, rfl, r, g, hT⟩
        refine ⟨S, x, rfl, r, g, ?_⟩
        rw [hT]
        show bs.take ((bs.length : Nat) : Int).toNat = bs
        rw [Int.toNat_natCast, List.take_length]
    rintro σ1 H4 ⟨S, x0, rfl, r4, g, hT⟩
    subst hT
    -- the table
    refine q_asg (v := .str (showTab (tabS S.knots))) (ev_say (B := B) (d := d) (S := S) rfl r4 ev_c fun H5 r5 Q5 q5 => say_table r5 g q5) fun H5 e5 => ?_
    have r5 := r4.stay e5
    -- the rows
    refine q_cut (M := fun σ' H' => ∃ x y z, σ' = [some (.ref a), some (.ref p), some (.ref d), x, some (.str (showTab (tabS S.knots))), y, z] ∧ DRep K B H' d S) ?_ ?_
    · refine s_forR1 (n := 16) (ea_cons ev_c ea_nil) (by omega) (fun i σ' H' => ∃ x y z, σ' = [some (.ref a), some (.ref p), some (.ref d), x, some (.str (showTab (tabS S.knots))), y, z] ∧ DRep K B H' d S) (fun H6 e6 => ⟨_, _, _, rfl, r5.stay e6⟩) ?_ (fun _ _ h => h)
      rintro i σ' H6 hi ⟨x, y, z, rfl, r6⟩
      refine q_callG (ea_cons (ev_var rfl) (ea_cons (ev_op (ev_cell (k := 12 + i) (ex_l r6.ex hBa) (ea_cons (ev_var rfl) (ea_cons (ev_is (ev_op ev_c (ev_var rfl) rv_I0) (by show V.int ((12 : Int) + (i : Int)) = _; rw [show ((12 : Int) + (i : Int)) = ((12 + i : Nat) : Int) by omega])) ea_nil))) (ev_op ev_c (ev_var rfl) (rv_I (.inl ⟨by decide, by decide⟩))) rv_I0) ea_nil)) fun H7 e7 => ?_
      refine ⟨p, _, S.texts, rfl, SqL.of (e7 _ _ (r6.ex _ _ hBp)), ok, fun t xr due H8 e8 h8 rok => ?_⟩
      refine ⟨t, _, rfl, SqT.of h8, rfl, _, _, rfl, _, _, rfl, rfl, ?_⟩
      refine s_when (b := false) (et_is (et_not (et_B (ev_callE (v := .bl true) (ea_cons (ev_var rfl) (ea_cons (ev_var rfl) (ea_cons (ev_var rfl) ea_nil))) fun H9 e9 Q9 q9 => (rok.stay e9).refused (r6.stay (e7.trans (e8.trans e9))) g q9))) rfl) (fun hb => nomatch hb) fun _ H9 e9 => ?_
      exact ⟨_, _, _, rfl, r6.stay (e7.trans (e8.trans e9))⟩
    rintro σ2 H6 ⟨x1, y1, z1, rfl, r6⟩
    have evBook : ∀ {B' H' : Hp} {S' : MS} {σ' : L2.St}, σ'[2]? = some (some (.ref d)) → DRep K B' H' d S' → Good S' → Ev (tMeth (He.ga K "Desk") "say" (spSay K) [] (fun _ _ _ => False) (tVar 2) (tCons (tC (.str "book")) tNil)) σ' H' (.str (showWords S'.texts)) := fun {B' H' S' σ'} hσ r' g' =>
      ev_say hσ r' ev_c fun H7 r7 Q7 q7 => say_book r7 g' q7
    have evShow : ∀ {H' : Hp} {ts : List Str} {σ' : L2.St}, σ'[1]? = some (some (.ref p)) → H' p = some (.lst (ts.map V.str)) → ts.length ≤ 1000 → total ts ≤ 10000 → (∀ t ∈ ts, PyData.strOk t = true) → Ev (tCall (spShowWords K) [] E0 (tCons (tVar 1) tNil)) σ' H' (.str (showWords ts)) := fun {H' ts σ'} hσ h1 h2 h3 h4 =>
      ev_callE (ea_cons (ev_var hσ) ea_nil) fun H7 e7 Q7 q7 => ⟨p, ts, rfl, SqL.of (e7 _ _ h1), h2, h3, h4, q7⟩
    have neF : ∀ z : Str, (!decide (V.str z = V.str z)) = false := fun z => by rw [decide_eq_true rfl]; rfl
    refine q_when (b := false) (et_is (et_or (et_test (ev_op (ev_say (B := B) (d := d) (S := S) rfl r6 ev_c fun H7 r7 Q7 q7 => say_table r7 g q7) (ev_var rfl) (rv_ne rfl))) fun _ => et_test (ev_op (evBook rfl r6 g) (evShow rfl (r6.ex _ _ hBp) (by omega) (by omega) g.chars) (rv_ne rfl))) (by rw [neF, neF]; rfl)) (fun hb => nomatch hb) fun _ H7 e7 => ?_
    have r7 := r6.stay e7
    -- filled to eight
    refine q_cut (M := fun σ' H' => ∃ B S, σ' = [some (.ref a), some (.ref p), some (.ref d), x1, some (.str (showTab (tabS S.knots))), y1, z1] ∧ DRep K B H' d S ∧ Good S ∧ B p = some (.lst (S.texts.map V.str)) ∧ total S.texts ≤ 60 ∧ S.texts.length = 8) ?_ ?_
    · refine s_while (fun m σ' H' => ∃ B S, σ' = [some (.ref a), some (.ref p), some (.ref d), x1, some (.str (showTab (tabS S.knots))), y1, z1] ∧ DRep K B H' d S ∧ Good S ∧ B p = some (.lst (S.texts.map V.str)) ∧ total S.texts ≤ 60 ∧ m + S.texts.length = 8) (8 - S.texts.length) ⟨B, S, rfl, r7, g, hBp, b60, by omega⟩ ?_
      rintro m σ' H8 ⟨B1, S1, rfl, r8, g8, hp8, t8, m8⟩
      refine ⟨decide (S1.texts.length < 8), et_is (et_test (ev_op (ev_len (ev_var rfl) (SqL.of (r8.ex _ _ hp8))) ev_c rv_I0)) ?_, fun hb H9 e9 => ?_, fun hb H9 e9 => ?_⟩
      · rw [List.length_map, decide_eq_decide]
        omega
      · have hb := of_decide_eq_true hb
        have r9 := r8.stay e9
        refine ⟨fun σ' H' => ∃ B S, σ' = [some (.ref a), some (.ref p), some (.ref d), x1, some (.str (showTab (tabS S.knots))), y1, z1] ∧ DRep K B H' d S ∧ Good S ∧ B p = some (.lst (S.texts.map V.str)) ∧ total S.texts ≤ 60 ∧ (m - 1) + S.texts.length = 8, fun σ2 H2 h => ⟨m - 1, by omega, h⟩, ?_⟩
        refine q_app (r9.ex _ _ hp8) (ev_var rfl) ev_c (by rw [List.length_map]; omega) fun H10 e10 => ?_
        have r10 := (r9.stay e10).outer hp8 (.lst (S1.texts.map V.str ++ [.str emp]))
        refine s_expr (m_say (B := upd B1 p (.lst (S1.texts.map V.str ++ [.str emp]))) (d := d) rfl r10 ev_c fun H11 e11 => say_begin (r10.stay e11) g8 hb fun v H12 r12 => ?_)
        refine ⟨_, afterBegin S1, rfl, r12, g8.begin hb, ?_, ?_, ?_⟩
        · rw [upd_same]
          show _ = some (HO.lst (List.map V.str (S1.texts ++ [emp])))
          rw [List.map_append]
          rfl
        · show total (S1.texts ++ [emp]) ≤ 60
          rw [total_app]
          have : total [emp] = 0 := rfl
          omega
        · show m - 1 + (S1.texts ++ [emp]).length = 8
          rw [List.length_append]
          show m - 1 + (S1.texts.length + 1) = 8
          omega
      · have hb := of_decide_eq_false hb
        exact ⟨B1, S1, rfl, r8.stay e9, g8, hp8, t8, by omega⟩
    rintro σ3 H8 ⟨B1, S1, rfl, r8, g8, hp8, t8, l8⟩
    -- the ninth is refused
    refine q_when (b := false) (et_is (et_or (et_not (et_B (ev_callE (v := .bl true) (ea_cons (ev_var rfl) (ea_cons ev_c (ea_cons ev_c ea_nil))) fun H9 e9 Q9 q9 => ⟨d, .str "begin", "many", rfl, by decide +kernel, say_begin8 (r8.stay e9) g8 l8 fun H10 e10 => ⟨.many, rfl, rfl, e10, fun H11 e11 => q9 H11 e11⟩⟩))) fun _ => et_test (ev_op (evBook rfl r8 g8) (evShow rfl (r8.ex _ _ hp8) (by omega) (by omega) g8.chars) (rv_ne rfl))) (by rw [neF]; rfl)) (fun hb => nomatch hb) fun _ H9 e9 => ?_
    have r9 := r8.stay e9
    have h9 := r9.ex _ _ hp8
    -- not 120 signs
    refine q_when (b := false) (et_is (et_test (ev_op (ev_is (ev_lenS (ev_joinB (ev_var rfl) (SqL.of h9) (by omega)) (by rw [join_len]; omega)) (w := .int ((total S1.texts : Nat) : Int)) (by rw [join_len])) ev_c (rv_eq rfl))) ?_) (fun hb => nomatch hb) fun _ H10 e10 => ?_
    · refine decide_eq_false fun h => ?_
      have := V.int.inj h
      omega
    have r10 := r9.stay e10
    obtain ⟨t7, ht7⟩ : ∃ t, S1.texts[7]? = some t := ⟨_, List.getElem?_eq_getElem (by omega)⟩
    have t7le := total_take S1.texts ht7
    -- the last: grow 7 z
    show tAndV (tOp rEq (tMeth (He.ga K "Desk") "say" (spSay K) [] (fun _ _ _ => False) (tVar 2) (tCons (tC (.str "grow 7 z")) tNil)) (tC (.str "ok"))) _ _ _ _
    refine m_say (B := B1) (d := d) rfl r10 ev_c fun H11 e11 => say_grow (i := 7) (w := "z") (t := t7) (by decide +kernel) (far := "7") (by rw [split_eq]; decide +kernel) (by decide +kernel) (by decide +kernel) (by decide +kernel) (by decide +kernel) ht7 (by have h1 : ("z" : Str).length = 1 := (by decide +kernel); omega) (r10.stay e11) g8 fun H12 S2 r12 g12 t12 => ?_
    refine ⟨rfl, true, by rw [decide_eq_true rfl], ?_⟩
    have h12 := r12.ex _ _ hp8
    have lm : (S1.texts.map V.str).length = 8 := by rw [List.length_map, l8]
    have eq2 : S1.texts.take 7 ++ [t7 ++ "z"] = S2.texts := by rw [t12, take_set _ l8]
    have hl1 : ("z" : Str).length = 1 := by decide +kernel
    have elst : EvL (tOp rCat (tSl (rSlL K) (tVar 1) tNoPart (tPart (tC (.int 7)))) (tLst (tCons (tOp (fun x y H Q => ∃ i j, x = .str i ∧ y = .str j ∧ i.length + j.length ≤ sizeLine ∧ Q (.str (i ++ j)) H) (tOp (rIxL K) (tVar 1) (tC (.int 7))) (tC (.str "z"))) tNil))) [some (.ref a), some (.ref p), some (.ref d), x1, some (.str (showTab (tabS S.knots))), y1, z1] H12 (S2.texts.map V.str) := by
      rw [← eq2, List.map_append, List.map_take, ← cut_7 lm]
      refine el_cat (el_sl (ev_var rfl) eo_none (eo_some ev_c) (SqL.of h12)) (el_lst (ea_cons (ev_cat (ev_op (ev_var rfl) ev_c (rv_ixL (SqL.of h12) (atI_nat (j := 7) (by rw [List.getElem?_map, ht7]; rfl)))) ev_c (by omega)) ea_nil) (by show 1 ≤ 100000; decide)) ?_
      rw [cut_7 lm, List.length_take, lm]
      show 7 + 1 ≤ 1000
      decide
    have few := g12.few
    have small := g12.small
    refine evBook rfl r12 g12 H12 (Ex.refl _) _ fun H13 e13 => ?_
    refine elst H13 e13 _ fun pl H14 hpl e14 h14 => ?_
    refine ⟨pl, S2.texts, rfl, SqL.of h14, by omega, by omega, g12.chars, fun H15 e15 => ⟨rfl, ?_⟩⟩
    rw [decide_eq_true rfl]
    exact q H15
end
end Ap

/-! ## End -/
set_option Elab.async false
set_option linter.all false
set_option maxRecDepth 100000
set_option maxHeartbeats 0
namespace Ap
open PySem PySem.Spec PyProof.Rows L2
theorem facts {P : Program} {w : World} {K : PySem.W.Frag} {h : Heap} {mg : Str → Option Value} {f : Addr} (X : K.In h) (G : h.Ns mainGlobals mg) (hfa : mg ("law" : Str) = some (.ref f)) (c : He.SaysX fa fn ts [] exB w h K) :
    ∃ fd : FuncData, (∀ (s : Shared) (v : Value), BindsTo s fd ⟨[v], []⟩ [("_law_script", v)]) ∧ ∀ base : Heap, K.In base → base.Ns mainGlobals mg → FnOk P w K mg base CX0 9 f fd ["_law_script"] (spLaw K) := by
  have T : Tx K mg w := ⟨h, X, G, c⟩
  have e := hfa.symm.trans T.g_law
  cases e
  have b := FunD.bindsA (ps := ["_law_script"]) T.h_law fun _ _ _ _ _ _ us hl => match us, hl with | [_], _ => rfl
  exact ⟨_, fun s v => b s [v] rfl, fun base _ _ => ok_law T⟩
end Ap
open PySem PySem.W PySem.Calls PyProof.Rows
theorem PySem.Challenge.cw_allparts_k54_a_desk_refuses_holds : PySem.Challenge.rw_allparts_k54_a_desk_refuses.Holds := by
  w_on; o_law
  refine HandSHeadRun.head_any (r := OpenLaw.row PySem.Challenge.rw_allparts_k54_a_desk_refuses) (q := view (OpenLaw.row PySem.Challenge.rw_allparts_k54_a_desk_refuses).prog [92]) (H := Ap.hk) (ob := Ap.ob) (M := 8000) (loose := Ap.loose) (d := HandSHeadRun.topDef (OpenLaw.row PySem.Challenge.rw_allparts_k54_a_desk_refuses).prog 92) (kwd := []) Ap.ob_eq
    (by kernel_rfl) (fun s => by kernel_rfl) Ap.run (by kernel_rfl) (by kernel_rfl) (by kernel_rfl) (by rfl) (by first | assumption | decide +kernel) (by decide +kernel) ⟨rfl, rfl, rfl, rfl, rfl, by decide +kernel⟩ ?hw ?hc
  case hw => w_witness2
  case hc =>
    refine L2.walk_ofE (l := PySem.Challenge.rw_allparts_k54_a_desk_refuses) (n := 63) (k := 9) (x := "_law_script") (CX := L2.CX0) rfl (by decide) (by kernel_rfl) ⟨rfl, by decide, by decide⟩ ?F (fun _ _ _ _ z => z)
    intro w mg fa h Y G hmg0
    obtain ⟨K, KX, c⟩ := Y
    have hmg : mg ("law" : PySem.Str) = some (.ref fa) := by
      have e : (HandSHeadRun.topDef (OpenLaw.row PySem.Challenge.rw_allparts_k54_a_desk_refuses).prog 92).name = ("law" : PySem.Str) := by kernel_rfl
      rw [← e]
      exact hmg0
    obtain ⟨fd, hb, hF⟩ := Ap.facts (P := (PySem.Challenge.rw_allparts_k54_a_desk_refuses).prog) (w := w) KX G hmg c
    exact ⟨K, fd, Ap.spLaw K, KX, hb, fun H a ns hl _ hS => ⟨a, ns, rfl, hS, fun _ => rfl⟩, hF⟩
