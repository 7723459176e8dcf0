import PyProof.Rows.All
import Wide.All
import OpenK.AllK
import Wide.FinOn
import HandS.ForExc
import HandS.ForMost
import HandS.IsInst
import HandS.CallSlots
import HandS.Property
import HandS.Deep
import HandS.TupMul
import HandS.TupAny
import HandS.Style
import HandS.Conv
import HandS.Walk
import HandS.Defaults
import HandS.HeadHook2
import HandS.Head0
import HandS.Head1
import HandS.Head2
import HandS.HeadEnd
import HandS.HeadHook1
import HandS.Text
import HandS.Steps
import HandS.TupLe
import HandS.More
import PyProof.CollectStr
import KE.GoesEnum
import HandS.Dict
import HandS.TupLen
import HandS.WordsDict
import HandS.SortOrd
import HandS.SortRule
import HandS.Replace
import KE.KStateDown
import PySem.Challenge.RW_piletables_k84_whole_parts_of_cases
set_option Elab.async false
set_option linter.all false
set_option maxRecDepth 100000
namespace Rf
open PySem L2
inductive D where
  | non | bl (b : Bool) | int (i : Int) | str (s : List Nat) | tup (l : List D) | lst (l : List D) | frl (l : List D) | frt (l : List D)
  | dct (t : Bool) (ks l : List D) | obj (c : Nat) (l : List D) | loc (n : Nat) | fn (i : Nat) | cls (c : Nat) | clo (i : Nat) (l : List D)
/-- the signs of a text -/
def cd (s : String) : List Nat := s.toList.map Char.toNat
def fnL : List String := ["is_whole", "is_between", "is_one_of", "blocks_of", "is_falling", "fits_rule", "can_come_on", "can_move", "moved", "pairs_of", "moves_of", "steps_of", "laid_everywhere", "standings", "next_out", "taken", "are_out", "put_aside", "left_from_all", "turned_about", "asides_of", "asides_by_standings", "hardest_of", "InvalidNumber.__init__", "InvalidWord.__init__", "NotATable.__init__", "check_number", "check_height", "Table.__init__", "Table.__eq__", "check_table", "hardest_out", "how_many_out", "_law_well", "_law_draw", "_law_of", "_law_same", "_law_table", "_law_made", "_law_goes_on", "_law_all", "_law_moves", "_law_behind", "_law_first_by", "_law_steps", "_law_taken", "_law_aside", "_law_heard", "_law_right", "law", "is_tuple_of", "is_pair", "wrong_in", "are_all", "has_each_once", "are_piles", "is_standing", "is_index", "is_move", "is_pile", "are_all_blocks", "does_bar", "barring_in", "rows_out", "row_out", "comes_out_by", "InvalidStanding.__init__", "check_standing", "check_both", "check_blocks", "barring", "fewest_aside", "aside_row", "do_come_out", "_law_bars", "_law_come_out", "_wall", "begun", "gone_on", "taken_back", "top_of", "InvalidMove.__init__", "Book.__init__", "Book.standing", "Book.row", "Book.move", "Book.back", "Book.top", "Book.hint", "Book.trial", "Book.tried", "_law_standing", "_law_word", "_law_stands", "check_two", "far_from_some", "far_from", "way_by", "way_to", "fewest_moves", "first_way", "_law_way", "_law_far", "Trial.__init__", "Trial.__enter__", "Trial.__exit__", "_law_state", "_law_ended", "_law_changed", "_law_within", "_law_outer", "_law_bent_standings", "_law_is_over", "is_up_to", "is_block", "block_on", "fewest_to_goal", "fewest_out", "is_too_much", "told_by", "is_same", "breaks", "broken", "UnknownBlock.__init__", "NotACase.__init__", "check_block", "Case.__init__", "Case.standing", "Case.__eq__", "check_case", "faults", "is_sound", "does_break", "breaking", "_law_case_parts", "_law_case", "_law_outs", "_law_named", "_law_placed", "_law_is_refused", "InvalidText.__init__", "are_signs", "are_figures", "is_first_line", "is_pile_line", "is_line", "wrong_line", "piles_in", "table_rows", "read_table", "_law_text", "_law_are_so", "_law_lines_right", "InvalidCommand.__init__", "NotABook.__init__", "words_of", "shown", "aside_from", "Console.__init__", "Console.say", "_law_picture"]
def fnPL : List (String × Option String) := [("is_whole", none), ("is_between", none), ("is_one_of", none), ("blocks_of", none), ("is_falling", none), ("fits_rule", none), ("can_come_on", none), ("can_move", none), ("moved", none), ("pairs_of", none), ("moves_of", none), ("steps_of", none), ("laid_everywhere", none), ("standings", none), ("next_out", none), ("taken", none), ("are_out", none), ("put_aside", none), ("left_from_all", none), ("turned_about", none), ("asides_of", none), ("asides_by_standings", none), ("hardest_of", none), ("InvalidNumber", some "__init__"), ("InvalidWord", some "__init__"), ("NotATable", some "__init__"), ("check_number", none), ("check_height", none), ("Table", some "__init__"), ("Table", some "__eq__"), ("check_table", none), ("hardest_out", none), ("how_many_out", none), ("_law_well", none), ("_law_draw", none), ("_law_of", none), ("_law_same", none), ("_law_table", none), ("_law_made", none), ("_law_goes_on", none), ("_law_all", none), ("_law_moves", none), ("_law_behind", none), ("_law_first_by", none), ("_law_steps", none), ("_law_taken", none), ("_law_aside", none), ("_law_heard", none), ("_law_right", none), ("law", none), ("is_tuple_of", none), ("is_pair", none), ("wrong_in", none), ("are_all", none), ("has_each_once", none), ("are_piles", none), ("is_standing", none), ("is_index", none), ("is_move", none), ("is_pile", none), ("are_all_blocks", none), ("does_bar", none), ("barring_in", none), ("rows_out", none), ("row_out", none), ("comes_out_by", none), ("InvalidStanding", some "__init__"), ("check_standing", none), ("check_both", none), ("check_blocks", none), ("barring", none), ("fewest_aside", none), ("aside_row", none), ("do_come_out", none), ("_law_bars", none), ("_law_come_out", none), ("_wall", none), ("begun", none), ("gone_on", none), ("taken_back", none), ("top_of", none), ("InvalidMove", some "__init__"), ("Book", some "__init__"), ("Book", some "standing"), ("Book", some "row"), ("Book", some "move"), ("Book", some "back"), ("Book", some "top"), ("Book", some "hint"), ("Book", some "trial"), ("Book", some "tried"), ("_law_standing", none), ("_law_word", none), ("_law_stands", none), ("check_two", none), ("far_from_some", none), ("far_from", none), ("way_by", none), ("way_to", none), ("fewest_moves", none), ("first_way", none), ("_law_way", none), ("_law_far", none), ("Trial", some "__init__"), ("Trial", some "__enter__"), ("Trial", some "__exit__"), ("_law_state", none), ("_law_ended", none), ("_law_changed", none), ("_law_within", none), ("_law_outer", none), ("_law_bent_standings", none), ("_law_is_over", none), ("is_up_to", none), ("is_block", none), ("block_on", none), ("fewest_to_goal", none), ("fewest_out", none), ("is_too_much", none), ("told_by", none), ("is_same", none), ("breaks", none), ("broken", none), ("UnknownBlock", some "__init__"), ("NotACase", some "__init__"), ("check_block", none), ("Case", some "__init__"), ("Case", some "standing"), ("Case", some "__eq__"), ("check_case", none), ("faults", none), ("is_sound", none), ("does_break", none), ("breaking", none), ("_law_case_parts", none), ("_law_case", none), ("_law_outs", none), ("_law_named", none), ("_law_placed", none), ("_law_is_refused", none), ("InvalidText", some "__init__"), ("are_signs", none), ("are_figures", none), ("is_first_line", none), ("is_pile_line", none), ("is_line", none), ("wrong_line", none), ("piles_in", none), ("table_rows", none), ("read_table", none), ("_law_text", none), ("_law_are_so", none), ("_law_lines_right", none), ("InvalidCommand", some "__init__"), ("NotABook", some "__init__"), ("words_of", none), ("shown", none), ("aside_from", none), ("Console", some "__init__"), ("Console", some "say"), ("_law_picture", none)]
def clL : List String := ["PileError", "InvalidNumber", "InvalidWord", "NotATable", "Table", "InvalidStanding", "InvalidMove", "Over", "Book", "Trial", "UnknownBlock", "NotACase", "Case", "InvalidText", "InvalidCommand", "NotABook", "Console"]
def clFL : List (List Nat) := [[], [0], [0], [0], [1, 2, 3, 4, 5], [0], [0], [], [6, 7], [8, 9], [0], [0], [6, 10, 11, 12, 5], [13], [0], [0], [8]]
def fdL : List String := ["given", "many", "piles", "height", "rule", "parts", "table", "state", "book", "kept", "goal", "number", "block", "index"]
def coL : List String := ["BLOCKS", "LEAST_MANY", "MOST_MANY", "LEAST_PILES", "MOST_PILES", "FREE", "LIGHT", "RULES", "NO_BLOCK", "LEAST_PILES_tablework", "MOST_PILES_tablework", "LEAST_PILES_takework", "MOST_PILES_takework", "MOST_BLOCKS", "WORDS", "MOST_NUMBER", "FIGURES", "LETTERS", "EMPTY", "TABLE", "PILE", "TABLE_WORDS", "PILE_WORDS", "SIZES", "NOTHING"]
def coDL : List D := [.str [97, 98, 99, 100, 101], .int 1, .int 5, .int 2, .int 4, .str [102, 114, 101, 101], .str [108, 105, 103, 104, 116], .frt [.str [102, 114, 101, 101], .str [108, 105, 103, 104, 116]], .str [122], .int 2, .int 4, .int 2, .int 4, .int 5, .frt [.str [114, 101, 97, 99, 104], .str [109, 111, 118, 101, 115], .str [102, 114, 101, 101], .str [97, 115, 105, 100, 101]], .int 99, .str [48, 49, 50, 51, 52, 53, 54, 55, 56, 57], .str [97, 98, 99, 100, 101, 102, 103, 104, 105, 106, 107, 108, 109, 110, 111, 112, 113, 114, 115, 116, 117, 118, 119, 120, 121, 122], .str [45], .str [116, 97, 98, 108, 101], .str [112, 105, 108, 101], .int 4, .int 2, .non, .str [110, 111, 110, 101]]
def blL : List String := ["len", "isinstance", "all", "any", "range", "list", "tuple", "int", "str", "min", "max", "abs", "divmod", "sorted", "enumerate", "dict", "sum", "zip", "bool"]
/-- the class whose __init__ it is -/
def iniL : List (Option Nat) := [none, none, none, none, none, none, none, none, none, none, none, none, none, none, none, none, none, none, none, none, none, none, none, some 1, some 2, some 3, none, none, some 4, none, none, none, none, none, none, none, none, none, none, none, none, none, none, none, none, none, none, none, none, none, none, none, none, none, none, none, none, none, none, none, none, none, none, none, none, none, some 5, none, none, none, none, none, none, none, none, none, none, none, none, none, none, some 6, some 8, none, none, none, none, none, none, none, none, none, none, none, none, none, none, none, none, none, none, none, none, some 9, none, none, none, none, none, none, none, none, none, none, none, none, none, none, none, none, none, none, none, some 10, some 11, none, some 12, none, none, none, none, none, none, none, none, none, none, none, none, none, some 13, none, none, none, none, none, none, none, none, none, none, none, none, some 14, some 15, none, none, none, some 16, none, none]
/-- the __init__ of a class -/
def iniFL : List Nat := [0, 23, 24, 25, 28, 66, 81, 0, 82, 103, 123, 124, 126, 140, 153, 154, 158]
/-- the __eq__ of a class -/
def eqFL : List (Option Nat) := [none, none, none, none, some 29, none, none, none, none, none, none, none, some 128, none, none, none, none]
/-- methods: the def, the class, the name -/
def meL : List (Nat × Nat × String) := [(29, 4, "__eq__"), (85, 8, "move"), (86, 8, "back"), (87, 8, "top"), (88, 8, "hint"), (89, 8, "trial"), (90, 8, "tried"), (104, 9, "__enter__"), (105, 9, "__exit__"), (128, 12, "__eq__"), (159, 16, "say")]
/-- properties -/
def prL : List (Nat × Nat × String) := [(83, 8, "standing"), (84, 8, "row"), (127, 12, "standing")]
/-- the parameters' names -/
def paL : List (List String) := [["value"], ["value", "least", "most"], ["value", "words"], ["many"], ["pile"], ["table", "pile"], ["table", "block", "pile"], ["table", "standing", "move"], ["standing", "move"], ["piles"], ["table", "standing"], ["table", "standing"], ["table", "standing", "block"], ["table"], ["piles"], ["piles"], ["piles"], ["table", "piles"], ["table"], ["table"], ["table"], ["table"], ["table"], ["self", "given"], ["self", "given"], ["self", "given"], ["value", "least", "most"], ["height", "many", "piles"], ["self", "many", "piles", "height", "rule"], ["self", "other"], ["table"], ["table"], ["table"], ["script", "lap"], ["well", "many"], ["well", "some"], ["told", "due"], ["well", "most", "top"], ["parts"], ["parts", "pile", "block"], ["parts"], ["parts", "standing"], ["standing", "move"], ["start", "nexts", "fits"], ["parts", "standing"], ["standing"], ["parts", "standing"], ["act"], ["well"], ["script"], ["value", "many"], ["value"], ["value", "least", "most", "is_right"], ["value", "least", "most", "is_right"], ["text", "blocks"], ["value", "many"], ["table", "value"], ["table", "value"], ["table", "standing", "value"], ["ahead", "value"], ["value"], ["pile", "index"], ["piles"], ["table", "standing"], ["table", "standing"], ["table", "standing", "row"], ["self", "given"], ["table", "standing"], ["table", "standing"], ["standing"], ["standing"], ["table", "standing"], ["table", "standing"], ["table", "standing", "value"], ["standing"], ["parts", "standing", "row"], ["k"], ["standing"], ["state", "move"], ["state"], ["pile"], ["self", "given"], ["self", "table", "standing"], ["self"], ["self"], ["self", "one", "two"], ["self"], ["self", "pile"], ["self", "goal"], ["self"], ["self", "action"], ["well", "parts"], ["act"], ["book", "parts", "standing", "row"], ["table", "standing", "other"], ["table", "firsts"], ["table", "first"], ["table", "far", "standing"], ["table", "standing", "goal"], ["table", "standing", "goal"], ["table", "standing", "goal"], ["parts", "standing", "goal"], ["parts", "standing"], ["self", "book"], ["self"], ["self", "kind", "value", "trace"], ["book"], ["act"], ["well", "book"], ["well", "book", "fails"], ["well", "book", "fails", "later"], ["parts", "standing"], ["act"], ["value", "most"], ["table", "value"], ["case"], ["case"], ["case"], ["case", "many"], ["case", "word"], ["value", "due"], ["case", "story"], ["case", "word"], ["self", "given"], ["self", "given"], ["table", "block"], ["self", "table", "standing", "goal", "number", "block"], ["self"], ["self", "other"], ["case"], ["case"], ["case"], ["case", "story"], ["case", "word"], ["well", "most", "top"], ["parts"], ["case"], ["parts"], ["parts"], ["parts", "k", "odd", "due"], ["self", "index"], ["word", "signs"], ["word"], ["words"], ["words"], ["index", "value"], ["rows"], ["rows"], ["table", "standing"], ["rows"], ["parts", "standing"], ["rows", "due"], ["rows", "k"], ["self", "given"], ["self", "given"], ["command"], ["standing"], ["book"], ["self", "book"], ["self", "command"], ["standing"]]
def iniC (i : Nat) : Option Nat := iniL.getD i none
def iniF (c : Nat) : Nat := iniFL.getD c 0
def eqF (c : Nat) : Option Nat := eqFL.getD c none
def paN (i : Nat) : List Str := (paL.getD i []).map Str.ofString
def tyL : List String := ["NoneType", "bool", "int", "str", "tuple", "list", "dict"]
def tyN (i : Nat) : String := tyL.getD i ""
def fnN (i : Nat) : Str := Str.ofString (fnL.getD i "")
def clN (i : Nat) : Str := Str.ofString (clL.getD i "")
def fdN (i : Nat) : Str := Str.ofString (fdL.getD i "")
def coN (i : Nat) : Str := Str.ofString (coL.getD i "")
def blN (i : Nat) : Str := Str.ofString (blL.getD i "")
def coD (i : Nat) : D := coDL.getD i .non
def clF (i : Nat) : List Nat := clFL.getD i []
def names (c : Nat) : List Str := (clF c).map fdN
/-- what of it stands in the text -/
structure Info where
  fs : List Nat
  cs : List Nat
  ks : List Nat
  bs : List Nat
end Rf

set_option Elab.async false
set_option linter.all false
set_option maxRecDepth 100000
namespace Rf
open PySem L2

/-! ## data -/
/-- what may change: a list, an instance -/
inductive SO where
  | lst (l : List D) | ins (c : Nat) (l : List D)
abbrev Sto := List SO
structure Exn where
  c : Nat
  l : List D
inductive Out (α : Type) where
  | ok (a : α) (st : Sto) | exc (x : Exn) (st : Sto) | bad
abbrev M (α : Type) := Sto → Out α
inductive Slt where
  | none | val (d : D) | own (d : D)
abbrev En := List Slt
abbrev FT := Nat → List D → M D

/-- addresses -/
structure Ad where
  I : Info
  K : PySem.W.Frag
  fa : Nat → Addr
  ca : Nat → Addr
  xv : Nat → Value

/-! ## worlds -/
structure Wd where
  mu : List Addr
  S : Addr → Prop
  H : Hp
structure Ext (w w' : Wd) : Prop where
  mu : ∃ l, w'.mu = w.mu ++ l ∧ ∀ a ∈ l, w.H a = none
  s : ∀ a, w.S a → w'.S a
  sn : ∀ a, w'.S a → w.S a ∨ w.H a = none
  keep : ∀ a, w.H a ≠ none → a ∉ w.mu → w'.H a = w.H a
  trk : ∀ a, w.H a ≠ none → w'.H a ≠ none
structure Wf (w : Wd) : Prop where
  s : ∀ a, w.S a → w.H a ≠ none ∧ a ∉ w.mu
  m : ∀ a ∈ w.mu, w.H a ≠ none
  nd : w.mu.Nodup
  t : ∀ a vs, w.H a = some (.tup vs) → w.S a
theorem Ext.refl (w : Wd) : Ext w w := ⟨⟨[], by simp, by simp⟩, fun _ h => h, fun _ h => .inl h, fun _ _ _ => rfl, fun _ h => h⟩
theorem Ext.nmu {w w' : Wd} (e : Ext w w') {a : Addr} (h : w.H a ≠ none) (m : a ∉ w.mu) : a ∉ w'.mu := by
  obtain ⟨l, e1, e2⟩ := e.mu
  rw [e1]
  intro q
  rcases List.mem_append.mp q with q | q
  · exact m q
  · exact h (e2 a q)
theorem Ext.trans {w w' w'' : Wd} (e : Ext w w') (f : Ext w' w'') : Ext w w'' where
  mu := by
    obtain ⟨l, e1, e2⟩ := e.mu
    obtain ⟨l', f1, f2⟩ := f.mu
    refine ⟨l ++ l', by rw [f1, e1, List.append_assoc], fun a h => ?_⟩
    rcases List.mem_append.mp h with h | h
    · exact e2 a h
    · exact Classical.byContradiction fun q => e.trk a q (f2 a h)
  s := fun a h => f.s a (e.s a h)
  sn := fun a h => by
    rcases f.sn a h with h | h
    · exact e.sn a h
    · exact .inr (Classical.byContradiction fun q => e.trk a q h)
  keep := fun a h m => (f.keep a (e.trk a h) (e.nmu h m)).trans (e.keep a h m)
  trk := fun a h => f.trk a (e.trk a h)
theorem Ext.mu_at {w w' : Wd} (e : Ext w w') {n : Nat} {a : Addr} (h : w.mu[n]? = some a) : w'.mu[n]? = some a := by
  obtain ⟨l, e1, _⟩ := e.mu
  rw [e1, List.getElem?_append_left (List.getElem?_eq_some_iff.mp h).1, h]
/-- what is told of the old world holds in the new one -/
structure Le (w w' : Wd) : Prop where
  mu : ∀ (n : Nat) (a : Addr), w.mu[n]? = some a → w'.mu[n]? = some a
  s : ∀ a, w.S a → w'.S a ∧ w'.H a = w.H a
theorem Ext.le {w w' : Wd} (e : Ext w w') (x : Wf w) : Le w w' := ⟨fun _ _ h => e.mu_at h, fun a h => ⟨e.s a h, e.keep a (x.s a h).1 (x.s a h).2⟩⟩
theorem Wf.at {w w' : Wd} (x : Wf w) (e : Ext w w') {a : Addr} (h : w.S a) : w'.H a = w.H a := e.keep a (x.s a h).1 (x.s a h).2

/-! ## what data stand for -/
def KLst (K : PySem.W.Frag) (a : Addr) (vs : List V) : Prop :=
  ∃ (o : Obj) (its : Array Value) (n : Nat), K.lookup a = some o ∧ o.cls = .type "list" ∧ o.dict = none ∧ o.data = .seq its n ∧ its.size ≤ sizeLine ∧ Vals vs its.toList
def KTup (K : PySem.W.Frag) (a : Addr) (vs : List V) : Prop :=
  ∃ (o : Obj) (its : Array Value) (n : Nat), K.lookup a = some o ∧ o.cls = .type "tuple" ∧ o.data = .seq its n ∧ its.size ≤ sizeLine ∧ Vals vs its.toList
def StrOk (s : List Nat) : Prop := s.length ≤ sizeLine ∧ ∀ c ∈ s, c < 1114112
def keyD : Key → D
  | .inl i => .int i
  | .inr s => .str s.cps.toList
def LAt (_ : Ad) (w : Wd) (a : Addr) (vs : List V) : Prop := vs.length ≤ sizeLine ∧ w.S a ∧ w.H a = some (.lst vs)
def FAt (A : Ad) (w : Wd) (a : Addr) (vs : List V) : Prop := vs.length ≤ sizeLine ∧ ((w.S a ∧ Rd w.H a (.lst vs)) ∨ KLst A.K a vs)
def TAt (_ : Ad) (w : Wd) (a : Addr) (vs : List V) : Prop := vs.length ≤ sizeLine ∧ w.S a ∧ w.H a = some (.tup vs)
def keyOk : Key → Prop
  | .inl _ => True
  | .inr s => StrOk s.cps.toList
def keyT (k : List Key) : D := .tup (k.map keyD)
/-- the dict's object with keys ks (tuples of ints and texts, or ints and texts) and values vs -/
def DObj : Bool → List D → List V → HO → Prop
  | true, ks, vs, o => ∃ kl : List (List Key), ks = kl.map keyT ∧ kl.length = vs.length ∧ vs.length ≤ sizeLine ∧ kl.Nodup ∧ (∀ k ∈ kl, k.length ≤ sizeLine ∧ ∀ x ∈ k, keyOk x) ∧ o = .dT (kl.zip vs)
  | false, ks, vs, o => ∃ kl : List Key, ks = kl.map keyD ∧ kl.length = vs.length ∧ vs.length ≤ sizeLine ∧ kl.Nodup ∧ (∀ x ∈ kl, keyOk x) ∧ o = .dK (kl.zip vs)
mutual
def Rep (A : Ad) (w : Wd) : D → V → Prop
  | .non, v => v = .non
  | .bl b, v => v = .bl b
  | .int i, v => v = .int i
  | .str s, v => v = .str ⟨s.toArray⟩ ∧ StrOk s
  | .tup l, v => ∃ a vs, v = .ref a ∧ TAt A w a vs ∧ Reps A w l vs
  | .lst l, v => ∃ a vs, v = .ref a ∧ LAt A w a vs ∧ Reps A w l vs
  | .frl l, v => ∃ a vs, v = .ref a ∧ FAt A w a vs ∧ Reps A w l vs
  | .frt l, v => ∃ a vs, v = .ref a ∧ vs.length ≤ sizeLine ∧ KTup A.K a vs ∧ Reps A w l vs
  | .dct t ks l, v => ∃ a vs o, v = .ref a ∧ w.S a ∧ w.H a = some o ∧ DObj t ks vs o ∧ Reps A w l vs
  | .obj c l, v => ∃ a dx vs, v = .ref a ∧ w.S a ∧ (c ∈ A.I.cs ∧ l.length ≤ (clF c).length) ∧ w.H a = some (.ins (A.ca c) dx ((names c).zip vs)) ∧ Reps A w l vs
  | .loc n, v => ∃ a, v = .ref a ∧ w.mu[n]? = some a
  | .fn i, v => v = .ref (A.fa i)
  | .cls c, v => v = .ref (A.ca c)
  | .clo _ _, _ => False
def Reps (A : Ad) (w : Wd) : List D → List V → Prop
  | [], vs => vs = []
  | d :: ds, vs => ∃ v r, vs = v :: r ∧ Rep A w d v ∧ Reps A w ds r
end
/-- a container, standing at a -/
def Top (A : Ad) (w : Wd) : D → Addr → Prop
  | .lst l, a => ∃ vs, w.H a = some (.lst vs) ∧ vs.length ≤ sizeLine ∧ Reps A w l vs
  | .dct t ks l, a => ∃ vs o, w.H a = some o ∧ DObj t ks vs o ∧ Reps A w l vs
  | .obj c l, a => ∃ dx vs, (c ∈ A.I.cs ∧ l.length ≤ (clF c).length) ∧ w.H a = some (.ins (A.ca c) dx ((names c).zip vs)) ∧ Reps A w l vs
  | _, _ => False
def soD : SO → D
  | .lst l => .lst l
  | .ins c l => .obj c l
structure SRel (A : Ad) (w : Wd) (st : Sto) : Prop where
  wf : Wf w
  len : w.mu.length = st.length
  ob : ∀ (n : Nat) (o : SO) (a : Addr), st[n]? = some o → w.mu[n]? = some a → Top A w (soD o) a
def SlotR (A : Ad) (w : Wd) : Slt → Option V → Prop
  | .none, _ => True
  | .val d, v => ∃ u, v = some u ∧ Rep A w d u
  | .own d, v => ∃ a, v = some (.ref a) ∧ ¬ w.S a ∧ a ∉ w.mu ∧ Top A w d a
structure EnvR (A : Ad) (w : Wd) (r : En) (t : St) : Prop where
  len : r.length = t.length
  at_ : ∀ (i : Nat) x v, r[i]? = some x → t[i]? = some v → SlotR A w x v
  dis : ∀ (i j : Nat) d d' v, i ≠ j → r[i]? = some (.own d) → r[j]? = some (.own d') → t[i]? = some v → t[j]? ≠ some v

section
variable {A : Ad} {w w' : Wd}
theorem LAt.le (e : Le w w') {a vs} (h : LAt A w a vs) : LAt A w' a vs := ⟨h.1, (e.s a h.2.1).1, (e.s a h.2.1).2.trans h.2.2⟩
theorem FAt.le (e : Le w w') {a vs} (h : FAt A w a vs) : FAt A w' a vs := by
  refine ⟨h.1, ?_⟩
  rcases h.2 with ⟨h1, h2⟩ | h2
  · exact .inl ⟨(e.s a h1).1, by unfold Rd; rw [(e.s a h1).2]; exact h2⟩
  · exact .inr h2
theorem TAt.le (e : Le w w') {a vs} (h : TAt A w a vs) : TAt A w' a vs := ⟨h.1, (e.s a h.2.1).1, (e.s a h.2.1).2.trans h.2.2⟩
theorem LAt.seq {a vs} (h : LAt A w a vs) : SqL A.K w.H a vs := .inl (.inl h.2.2)
theorem FAt.seq {a vs} (h : FAt A w a vs) : SqL A.K w.H a vs := by
  rcases h.2 with ⟨_, h⟩ | h
  · exact .inl h
  · exact .inr h
theorem TAt.seq {a vs} (h : TAt A w a vs) : SqT A.K w.H a vs := .inl (.inl h.2.2)
mutual
theorem Rep.le (e : Le w w') : ∀ (d : D) {v : V}, Rep A w d v → Rep A w' d v
  | .non, _, h => by simpa only [Rep] using h
  | .bl _, _, h => by simpa only [Rep] using h
  | .int _, _, h => by simpa only [Rep] using h
  | .str _, _, h => by simpa only [Rep] using h
  | .tup l, _, h => by
    simp only [Rep] at h ⊢
    obtain ⟨a, vs, h1, h2, h3⟩ := h
    exact ⟨a, vs, h1, h2.le e, Reps.le e l h3⟩
  | .lst l, _, h => by
    simp only [Rep] at h ⊢
    obtain ⟨a, vs, h1, h2, h3⟩ := h
    exact ⟨a, vs, h1, h2.le e, Reps.le e l h3⟩
  | .frl l, _, h => by
    simp only [Rep] at h ⊢
    obtain ⟨a, vs, h1, h2, h3⟩ := h
    exact ⟨a, vs, h1, h2.le e, Reps.le e l h3⟩
  | .frt l, _, h => by
    simp only [Rep] at h ⊢
    obtain ⟨a, vs, h1, h0, h2, h3⟩ := h
    exact ⟨a, vs, h1, h0, h2, Reps.le e l h3⟩
  | .dct t ks l, _, h => by
    simp only [Rep] at h ⊢
    obtain ⟨a, vs, o, h1, h2, h3, h4, h5⟩ := h
    exact ⟨a, vs, o, h1, (e.s a h2).1, (e.s a h2).2.trans h3, h4, Reps.le e l h5⟩
  | .obj c l, _, h => by
    simp only [Rep] at h ⊢
    obtain ⟨a, dx, vs, h1, h2, h0, h3, h4⟩ := h
    exact ⟨a, dx, vs, h1, (e.s a h2).1, h0, (e.s a h2).2.trans h3, Reps.le e l h4⟩
  | .loc n, _, h => by
    simp only [Rep] at h ⊢
    obtain ⟨a, h1, h2⟩ := h
    exact ⟨a, h1, e.mu n a h2⟩
  | .fn _, _, h => by simpa only [Rep] using h
  | .cls _, _, h => by simpa only [Rep] using h
  | .clo _ _, _, h => by simp only [Rep] at h
theorem Reps.le (e : Le w w') : ∀ (l : List D) {vs : List V}, Reps A w l vs → Reps A w' l vs
  | [], _, h => by simpa only [Reps] using h
  | d :: ds, _, h => by
    simp only [Reps] at h ⊢
    obtain ⟨v, r, h1, h2, h3⟩ := h
    exact ⟨v, r, h1, Rep.le e d h2, Reps.le e ds h3⟩
end
theorem Rep.mono (x : Wf w) (e : Ext w w') {d : D} {v : V} (h : Rep A w d v) : Rep A w' d v := h.le (e.le x)
theorem Reps.mono (x : Wf w) (e : Ext w w') {l : List D} {vs : List V} (h : Reps A w l vs) : Reps A w' l vs := h.le (e.le x)
theorem Top.le (e : Le w w') {d : D} {a : Addr} (h : Top A w d a) (hk : w'.H a = w.H a) : Top A w' d a := by
  cases d with
  | lst l => obtain ⟨vs, h1, h0, h2⟩ := h; exact ⟨vs, hk.trans h1, h0, h2.le e⟩
  | dct t ks l => obtain ⟨vs, o, h1, h2, h3⟩ := h; exact ⟨vs, o, hk.trans h1, h2, h3.le e⟩
  | obj c l => obtain ⟨dx, vs, h0, h1, h2⟩ := h; exact ⟨dx, vs, h0, hk.trans h1, h2.le e⟩
  | _ => exact h.elim
theorem Top.mono (x : Wf w) (e : Ext w w') {d : D} {a : Addr} (h : Top A w d a) (hk : w'.H a = w.H a) : Top A w' d a := h.le (e.le x) hk
theorem Top.rep {d : D} {a : Addr} (h : Top A w d a) (hs : w.S a) : Rep A w d (.ref a) := by
  cases d with
  | lst l => obtain ⟨vs, h1, h0, h2⟩ := h; simp only [Rep]; exact ⟨a, vs, rfl, ⟨h0, hs, h1⟩, h2⟩
  | dct t ks l => obtain ⟨vs, o, h1, h2, h3⟩ := h; simp only [Rep]; exact ⟨a, vs, o, rfl, hs, h1, h2, h3⟩
  | obj c l => obtain ⟨dx, vs, h0, h1, h2⟩ := h; simp only [Rep]; exact ⟨a, dx, vs, rfl, hs, h0, h1, h2⟩
  | _ => exact h.elim
theorem Top.trk {d : D} {a : Addr} (h : Top A w d a) : w.H a ≠ none := by
  cases d with
  | lst l => obtain ⟨vs, h1, _⟩ := h; rw [h1]; simp
  | dct t ks l => obtain ⟨vs, o, h1, _⟩ := h; rw [h1]; simp
  | obj c l => obtain ⟨dx, vs, _, h1, _⟩ := h; rw [h1]; simp
  | _ => exact h.elim
theorem SlotR.mono (x : Wf w) (e : Ext w w') {s : Slt} {v : Option V} (h : SlotR A w s v) : SlotR A w' s v := by
  cases s with
  | none => exact h
  | val d => obtain ⟨u, h1, h2⟩ := h; exact ⟨u, h1, h2.mono x e⟩
  | own d =>
    obtain ⟨a, h1, h2, h3, h4⟩ := h
    refine ⟨a, h1, fun q => ?_, e.nmu h4.trk h3, h4.mono x e (e.keep a h4.trk h3)⟩
    rcases e.sn a q with q | q
    · exact h2 q
    · exact h4.trk q
theorem EnvR.mono (x : Wf w) (e : Ext w w') {r : En} {t : St} (h : EnvR A w r t) : EnvR A w' r t :=
  ⟨h.len, fun i s v h1 h2 => (h.at_ i s v h1 h2).mono x e, h.dis⟩
theorem rep_non : Rep A w .non .non := by unfold Rep; rfl
theorem rep_bl (b : Bool) : Rep A w (.bl b) (.bl b) := by unfold Rep; rfl
theorem rep_int (i : Int) : Rep A w (.int i) (.int i) := by unfold Rep; rfl
theorem rep_str {s : List Nat} (h : StrOk s) : Rep A w (.str s) (.str ⟨s.toArray⟩) := by unfold Rep; exact ⟨rfl, h⟩
theorem Rep.non {v : V} (h : Rep A w .non v) : v = .non := by unfold Rep at h; exact h
theorem Rep.bl {b : Bool} {v : V} (h : Rep A w (.bl b) v) : v = .bl b := by unfold Rep at h; exact h
theorem Rep.int {i : Int} {v : V} (h : Rep A w (.int i) v) : v = .int i := by unfold Rep at h; exact h
theorem Rep.str {s : List Nat} {v : V} (h : Rep A w (.str s) v) : v = .str ⟨s.toArray⟩ ∧ StrOk s := by unfold Rep at h; exact h
theorem Rep.tup {l : List D} {v : V} (h : Rep A w (.tup l) v) : ∃ a vs, v = .ref a ∧ TAt A w a vs ∧ Reps A w l vs := by unfold Rep at h; exact h
theorem Rep.lst {l : List D} {v : V} (h : Rep A w (.lst l) v) : ∃ a vs, v = .ref a ∧ LAt A w a vs ∧ Reps A w l vs := by unfold Rep at h; exact h
theorem Rep.frl {l : List D} {v : V} (h : Rep A w (.frl l) v) : ∃ a vs, v = .ref a ∧ FAt A w a vs ∧ Reps A w l vs := by unfold Rep at h; exact h
theorem Rep.frt {l : List D} {v : V} (h : Rep A w (.frt l) v) : ∃ a vs, v = .ref a ∧ vs.length ≤ sizeLine ∧ KTup A.K a vs ∧ Reps A w l vs := by unfold Rep at h; exact h
theorem Rep.dct {t : Bool} {ks l : List D} {v : V} (h : Rep A w (.dct t ks l) v) : ∃ a vs o, v = .ref a ∧ w.S a ∧ w.H a = some o ∧ DObj t ks vs o ∧ Reps A w l vs := by unfold Rep at h; exact h
theorem Rep.obj {c : Nat} {l : List D} {v : V} (h : Rep A w (.obj c l) v) : ∃ a dx vs, v = .ref a ∧ w.S a ∧ (c ∈ A.I.cs ∧ l.length ≤ (clF c).length) ∧ w.H a = some (.ins (A.ca c) dx ((names c).zip vs)) ∧ Reps A w l vs := by unfold Rep at h; exact h
theorem Rep.loc {n : Nat} {v : V} (h : Rep A w (.loc n) v) : ∃ a, v = .ref a ∧ w.mu[n]? = some a := by unfold Rep at h; exact h
theorem Rep.fn {i : Nat} {v : V} (h : Rep A w (.fn i) v) : v = .ref (A.fa i) := by unfold Rep at h; exact h
theorem Rep.cls {i : Nat} {v : V} (h : Rep A w (.cls i) v) : v = .ref (A.ca i) := by unfold Rep at h; exact h
theorem Rep.clo {i : Nat} {l : List D} {v : V} (h : Rep A w (.clo i l) v) : False := by unfold Rep at h; exact h
theorem Reps.length : ∀ {l : List D} {vs : List V}, Reps A w l vs → vs.length = l.length
  | [], _, h => by simp only [Reps] at h; rw [h]; rfl
  | d :: ds, _, h => by
    simp only [Reps] at h
    obtain ⟨v, r, rfl, _, h3⟩ := h
    simp [Reps.length h3]
theorem Reps.get : ∀ {l : List D} {vs : List V} {i : Nat} {d : D}, Reps A w l vs → l[i]? = some d → ∃ v, vs[i]? = some v ∧ Rep A w d v
  | [], _, i, d, h, e => by simp at e
  | x :: ds, _, 0, d, h, e => by
    simp only [Reps] at h
    obtain ⟨v, r, rfl, h2, _⟩ := h
    simp at e
    exact ⟨v, by simp, e ▸ h2⟩
  | x :: ds, _, i + 1, d, h, e => by
    simp only [Reps] at h
    obtain ⟨v, r, rfl, _, h3⟩ := h
    simp at e
    obtain ⟨u, h4, h5⟩ := Reps.get (i := i) h3 e
    exact ⟨u, by simpa using h4, h5⟩
theorem Reps.get' {l : List D} {vs : List V} {i : Nat} {v : V} (h : Reps A w l vs) (e : vs[i]? = some v) : ∃ d, l[i]? = some d ∧ Rep A w d v := by
  have hl := h.length
  have hi : i < l.length := by rw [← hl]; exact (List.getElem?_eq_some_iff.mp e).1
  obtain ⟨u, h1, h2⟩ := h.get (i := i) (d := l[i]) (by simp [hi])
  rw [h1] at e; cases e
  exact ⟨l[i], by simp [hi], h2⟩
theorem Reps.append : ∀ {l l' : List D} {vs vs' : List V}, Reps A w l vs → Reps A w l' vs' → Reps A w (l ++ l') (vs ++ vs')
  | [], _, _, _, h, h' => by simp only [Reps] at h; subst h; simpa using h'
  | d :: ds, l', _, vs', h, h' => by
    simp only [Reps] at h
    obtain ⟨v, r, rfl, h2, h3⟩ := h
    simp only [List.cons_append, Reps]
    exact ⟨v, r ++ vs', rfl, h2, Reps.append h3 h'⟩
theorem Reps.one {d : D} {v : V} (h : Rep A w d v) : Reps A w [d] [v] := by simp only [Reps]; exact ⟨v, [], rfl, h, rfl⟩
theorem Reps.one' {d : D} {vs : List V} (h : Reps A w [d] vs) : ∃ v, vs = [v] ∧ Rep A w d v := by
  simp only [Reps] at h
  obtain ⟨v, r, rfl, h2, rfl⟩ := h
  exact ⟨v, rfl, h2⟩
theorem Reps.nil : Reps A w [] [] := by simp only [Reps]
theorem Reps.cons {d : D} {ds : List D} {v : V} {vs : List V} (h : Rep A w d v) (h' : Reps A w ds vs) : Reps A w (d :: ds) (v :: vs) := by simp only [Reps]; exact ⟨v, vs, rfl, h, h'⟩
theorem Reps.take (n : Nat) : ∀ {l : List D} {vs : List V}, Reps A w l vs → Reps A w (l.take n) (vs.take n) := by
  induction n with
  | zero => intro l vs _; simpa using Reps.nil
  | succ n ih =>
    intro l vs h
    cases l with
    | nil => simp only [Reps] at h; subst h; simpa using Reps.nil
    | cons d ds =>
      simp only [Reps] at h
      obtain ⟨v, r, rfl, h2, h3⟩ := h
      simpa using Reps.cons h2 (ih h3)
theorem Reps.drop (n : Nat) : ∀ {l : List D} {vs : List V}, Reps A w l vs → Reps A w (l.drop n) (vs.drop n) := by
  induction n with
  | zero => intro l vs h; simpa using h
  | succ n ih =>
    intro l vs h
    cases l with
    | nil => simp only [Reps] at h; subst h; simpa using Reps.nil
    | cons d ds =>
      simp only [Reps] at h
      obtain ⟨v, r, rfl, h2, h3⟩ := h
      simpa using ih h3
theorem Reps.set {d : D} {v : V} (hd : Rep A w d v) : ∀ {l : List D} {vs : List V} (i : Nat), Reps A w l vs → Reps A w (l.set i d) (vs.set i v)
  | [], _, _, h => by simp only [Reps] at h; subst h; simpa using Reps.nil
  | x :: ds, _, 0, h => by
    simp only [Reps] at h
    obtain ⟨u, r, rfl, h2, h3⟩ := h
    simpa using Reps.cons hd h3
  | x :: ds, _, i + 1, h => by
    simp only [Reps] at h
    obtain ⟨u, r, rfl, h2, h3⟩ := h
    simpa using Reps.cons h2 (Reps.set hd i h3)
theorem Reps.reverse : ∀ {l : List D} {vs : List V}, Reps A w l vs → Reps A w l.reverse vs.reverse
  | [], _, h => by simp only [Reps] at h; subst h; simpa using Reps.nil
  | x :: ds, _, h => by
    simp only [Reps] at h
    obtain ⟨u, r, rfl, h2, h3⟩ := h
    simpa using Reps.append (Reps.reverse h3) (Reps.one h2)

theorem DObj.noT {t : Bool} {ks : List D} {vs : List V} {o : HO} (h : DObj t ks vs o) : ∀ us, o ≠ .tup us := by
  intro us e
  cases t with
  | true => obtain ⟨_, _, _, _, _, _, h⟩ := h; rw [h] at e; cases e
  | false => obtain ⟨_, _, _, _, _, _, h⟩ := h; rw [h] at e; cases e
/-! ### a new thing -/
/-- new and never changed -/
def Wd.pure (w : Wd) (p : Addr) (o : HO) : Wd := ⟨w.mu, fun a => w.S a ∨ a = p, upd w.H p o⟩
/-- new, not told -/
def Wd.raw (w : Wd) (p : Addr) (o : HO) : Wd := ⟨w.mu, w.S, upd w.H p o⟩
def Wd.sto (w : Wd) (p : Addr) (o : HO) : Wd := ⟨w.mu ++ [p], w.S, upd w.H p o⟩
def Wd.frz (w : Wd) (p : Addr) : Wd := ⟨w.mu, fun a => w.S a ∨ a = p, w.H⟩
theorem upd_trk {H : Hp} {p a : Addr} {o : HO} (h : H a ≠ none) : upd H p o a ≠ none := by
  unfold upd; split
  · simp
  · exact h
theorem upd_keep {H : Hp} {p a : Addr} {o : HO} (hp : H p = none) (h : H a ≠ none) : upd H p o a = H a := by
  refine upd_ne ?_
  rintro rfl
  exact h hp
theorem ext_pure {p : Addr} {o : HO} (hp : w.H p = none) : Ext w (w.pure p o) :=
  ⟨⟨[], by simp [Wd.pure], by simp⟩, fun _ h => .inl h, fun a h => h.elim .inl fun e => .inr (e ▸ hp), fun a h _ => upd_keep hp h, fun a h => upd_trk h⟩
theorem ext_raw {p : Addr} {o : HO} (hp : w.H p = none) : Ext w (w.raw p o) :=
  ⟨⟨[], by simp [Wd.raw], by simp⟩, fun _ h => h, fun a h => .inl h, fun a h _ => upd_keep hp h, fun a h => upd_trk h⟩
theorem ext_sto {p : Addr} {o : HO} (hp : w.H p = none) : Ext w (w.sto p o) :=
  ⟨⟨[p], by simp [Wd.sto], by simpa using hp⟩, fun _ h => h, fun a h => .inl h, fun a h _ => upd_keep hp h, fun a h => upd_trk h⟩
theorem upd_tup {H : Hp} {p a : Addr} {o : HO} {vs : List V} (h : upd H p o a = some (.tup vs)) : (a = p ∧ o = .tup vs) ∨ H a = some (.tup vs) := by
  by_cases e : a = p
  · subst e
    rw [upd_same] at h
    exact .inl ⟨rfl, Option.some.inj h⟩
  · rw [upd_ne e] at h
    exact .inr h
def noT : HO → Prop
  | .tup _ => False
  | _ => True
theorem Top.noT {p : Addr} {o : HO} {d : D} (h : Top A (w.raw p o) d p) : noT o := by
  have e : (w.raw p o).H p = some o := upd_same
  cases d with
  | lst l => obtain ⟨vs, h1, _⟩ := h; rw [e] at h1; cases h1; trivial
  | dct t ks l =>
    obtain ⟨vs, o', h1, h2, _⟩ := h
    rw [e] at h1
    cases h1
    cases o with
    | tup us => exact h2.noT us rfl
    | _ => trivial
  | obj c l => obtain ⟨dx, vs, _, h1, _⟩ := h; rw [e] at h1; cases h1; trivial
  | _ => exact h.elim
theorem Wf.tRaw {p : Addr} {o : HO} (x : Wf w) (ho : noT o) (a : Addr) (vs : List V) (h : (w.raw p o).H a = some (.tup vs)) : (w.raw p o).S a := by
  rcases upd_tup h with ⟨_, e⟩ | h
  · subst e; exact ho.elim
  · exact x.t a vs h
theorem Wf.raw {p : Addr} {o : HO} (x : Wf w) (hp : w.H p = none) (ho : noT o := by exact True.intro) : Wf (w.raw p o) :=
  ⟨fun a h => ⟨upd_trk (x.s a h).1, (x.s a h).2⟩, fun a h => upd_trk (x.m a h), x.nd, fun a vs h => by
    rcases upd_tup h with ⟨_, e⟩ | h
    · subst e; exact ho.elim
    · exact x.t a vs h⟩
theorem Wf.pure {p : Addr} {o : HO} (x : Wf w) (hp : w.H p = none) : Wf (w.pure p o) := by
  refine ⟨fun a h => ?_, fun a h => upd_trk (x.m a h), x.nd, fun a vs h => ?_⟩
  rotate_left
  · rcases upd_tup h with ⟨e, _⟩ | h
    · exact .inr e
    · exact .inl (x.t a vs h)
  rcases h with h | h
  · exact ⟨upd_trk (x.s a h).1, (x.s a h).2⟩
  · subst h
    exact ⟨by show upd w.H a o a ≠ none; rw [upd_same]; simp, fun q => x.m a q hp⟩
theorem SRel.ext0 {st : Sto} (s : SRel A w st) (e : Ext w w') (hm : w'.mu = w.mu) (hk : ∀ a ∈ w.mu, w'.H a = w.H a) (x' : Wf w') : SRel A w' st :=
  ⟨x', by rw [hm]; exact s.len, fun n o a h1 h2 => by
    rw [hm] at h2
    exact (s.ob n o a h1 h2).mono s.wf e (hk a (List.mem_of_getElem? h2))⟩
theorem SRel.pure {st : Sto} {p : Addr} {o : HO} (s : SRel A w st) (hp : w.H p = none) : SRel A (w.pure p o) st :=
  s.ext0 (ext_pure hp) rfl (fun a h => upd_keep hp (s.wf.m a h)) (s.wf.pure hp)
theorem SRel.raw {st : Sto} {p : Addr} {o : HO} (s : SRel A w st) (hp : w.H p = none) (ho : noT o := by exact True.intro) : SRel A (w.raw p o) st :=
  s.ext0 (ext_raw hp) rfl (fun a h => upd_keep hp (s.wf.m a h)) (s.wf.raw hp ho)
theorem rep_tup {p : Addr} {l : List D} {vs : List V} (x : Wf w) (hp : w.H p = none) (hl : vs.length ≤ sizeLine) (h : Reps A w l vs) : Rep A (w.pure p (.tup vs)) (.tup l) (.ref p) := by
  simp only [Rep]
  exact ⟨p, vs, rfl, ⟨hl, .inr rfl, upd_same⟩, h.mono x (ext_pure hp)⟩
theorem rep_lst {p : Addr} {l : List D} {vs : List V} (x : Wf w) (hp : w.H p = none) (hl : vs.length ≤ sizeLine) (h : Reps A w l vs) : Rep A (w.pure p (.lst vs)) (.lst l) (.ref p) := by
  simp only [Rep]
  exact ⟨p, vs, rfl, ⟨hl, .inr rfl, upd_same⟩, h.mono x (ext_pure hp)⟩
end
end Rf

set_option Elab.async false
set_option linter.all false
set_option maxRecDepth 100000
namespace Rf
open PySem L2

/-! ## lifts -/
def RepX (A : Ad) (w : Wd) (x : Exn) (cls : Value) (dd : Option Addr) : Prop :=
  cls = A.xv x.c ∧ match x.l with
    | [] => dd = none
    | d :: _ => ∃ a v, dd = some a ∧ w.H a = some (.xd [(fdN ((clF x.c).headD 0), v)]) ∧ Rep A w d v
/-- R: how the data come as abstract values, the world ahead, the world behind -/
def PostG {α β : Type} (A : Ad) (R : Wd → Wd → α → β → Prop) (W : XK) (w : Wd) (Q : β → Hp → Prop) : Out α → Prop
  | .ok d st => ∀ w' v, Ext w w' → SRel A w' st → R w w' d v → Q v w'.H
  | .exc x st => ∀ w' cls dd, Ext w w' → SRel A w' st → RepX A w' x cls dd → W cls dd w'.H
  | .bad => False
def LG {α β : Type} (A : Ad) (R : Wd → Wd → α → β → Prop) (W : WX) (den : En → M α) (t : St) (H : Hp) (Q : β → Hp → Prop) : Prop :=
  ∃ (w : Wd) (r : En) (st : Sto), w.H = H ∧ EnvR A w r t ∧ SRel A w st ∧ PostG A R (fun c d H => W c d t H) w Q (den r st)
abbrev RD (A : Ad) : Wd → Wd → D → V → Prop := fun _ w' => Rep A w'
abbrev RL (A : Ad) : Wd → Wd → List D → List V → Prop := fun _ w' => Reps A w'
abbrev RB : Wd → Wd → Bool → Bool → Prop := fun _ _ a b => a = b
/-- a new container, at an address that nothing else tells -/
abbrev RF (A : Ad) : Wd → Wd → D → V → Prop := fun w w' d v => ∃ a, v = .ref a ∧ w.H a = none ∧ ¬ w'.S a ∧ a ∉ w'.mu ∧ Top A w' d a
abbrev LE (A : Ad) (W : WX) (den : En → M D) : TE := LG A (RD A) W den
abbrev LA (A : Ad) (W : WX) (den : En → M (List D)) : TA := LG A (RL A) W den
abbrev LT (A : Ad) (W : WX) (den : En → M Bool) : TT := LG A RB W den
abbrev LF (A : Ad) (W : WX) (den : En → M D) : TE := LG A (RF A) W den

/-! ## the monad -/
def bnd {α β : Type} (m : M α) (f : α → M β) : M β := fun st => match m st with
  | .ok a st' => f a st'
  | .exc x st' => .exc x st'
  | .bad => .bad
def ret {α : Type} (a : α) : M α := fun st => .ok a st
def opt {α : Type} : Option α → M α
  | some a => ret a
  | none => fun _ => .bad
def bndE {α β : Type} (m : En → M α) (f : α → En → M β) : En → M β := fun r => bnd (m r) fun a => f a r
section
variable {α β γ δ : Type} {A : Ad} {R : Wd → Wd → α → β → Prop} {R2 : Wd → Wd → γ → δ → Prop} {W : WX} {t : St} {H : Hp}
/-- two in a row: what the second and what follows want -/
theorem step {m : En → M α} {f : α → En → M γ} {Q : δ → Hp → Prop} {Q1 : β → Hp → Prop} {w0 w : Wd} {r : En} {st : Sto} (e0 : Ext w0 w) (hr : EnvR A w r t) (hs : SRel A w st)
    (hp : PostG A R2 (fun c d H => W c d t H) w0 Q (bndE m f r st))
    (k : ∀ (w' : Wd) (st' : Sto) (a : α) (b : β), EnvR A w' r t → SRel A w' st' → Ext w w' → R w w' a b → PostG A R2 (fun c d H => W c d t H) w0 Q (f a r st') → Q1 b w'.H) : LG A R W m t w.H Q1 := by
  refine ⟨w, r, st, rfl, hr, hs, ?_⟩
  unfold bndE bnd at hp
  cases e : m r st with
  | ok a st1 =>
    rw [e] at hp
    exact fun w' v ex sr rp => k w' st1 a v (hr.mono hs.wf ex) sr ex rp hp
  | exc x st1 => rw [e] at hp; exact fun w'' c dd ex sr rp => hp w'' c dd (e0.trans ex) sr rp
  | bad => rw [e] at hp; exact hp
theorem LG.of {m : En → M γ} {Q : δ → Hp → Prop} {w0 w : Wd} {r : En} {st : Sto} (hr : EnvR A w r t) (hs : SRel A w st) (e0 : Ext w0 w) (hR : ∀ w'' a b, Ext w w'' → R2 w w'' a b → R2 w0 w'' a b)
    (h : PostG A R2 (fun c d H => W c d t H) w0 Q (m r st)) : LG A R2 W m t w.H Q := by
  refine ⟨w, r, st, rfl, hr, hs, ?_⟩
  cases e : m r st with
  | ok a st1 => rw [e] at h; exact fun w' v ex sr rp => h w' v (e0.trans ex) sr (hR w' a v ex rp)
  | exc x st1 => rw [e] at h; exact fun w'' c dd ex sr rp => h w'' c dd (e0.trans ex) sr rp
  | bad => rw [e] at h; exact h
end
theorem RF.later {A : Ad} {w w' w'' : Wd} {a : D} {b : V} (e : Ext w w') (h : RF A w' w'' a b) : RF A w w'' a b := by
  obtain ⟨p, h1, h2, h3⟩ := h
  exact ⟨p, h1, Classical.byContradiction fun q => e.trk p q h2, h3⟩

/-! ## operators by values -/
/-- f is told by r -/
def Imp1 (A : Ad) (f : D → Option D) (r : V → Hp → VK → Prop) : Prop := ∀ (w : Wd) (st : Sto) (a : D) (x : V) (d : D) (Q : VK),
  SRel A w st → Rep A w a x → f a = some d → (∀ w' v, Ext w w' → SRel A w' st → Rep A w' d v → Q v w'.H) → r x w.H Q
def Imp2 (A : Ad) (f : D → D → Option D) (r : L2.R2) : Prop := ∀ (w : Wd) (st : Sto) (a b : D) (x y : V) (d : D) (Q : VK),
  SRel A w st → Rep A w a x → Rep A w b y → f a b = some d → (∀ w' v, Ext w w' → SRel A w' st → Rep A w' d v → Q v w'.H) → r x y w.H Q
def ImpL (A : Ad) (f : List D → Option D) (r : List V → Hp → VK → Prop) : Prop := ∀ (w : Wd) (st : Sto) (l : List D) (xs : List V) (d : D) (Q : VK),
  SRel A w st → Reps A w l xs → f l = some d → (∀ w' v, Ext w w' → SRel A w' st → Rep A w' d v → Q v w'.H) → r xs w.H Q
/-- the same, the value a new container -/
def ImpF (A : Ad) (f : List D → Option D) (r : List V → Hp → VK → Prop) : Prop := ∀ (w : Wd) (st : Sto) (l : List D) (xs : List V) (d : D) (Q : VK),
  SRel A w st → Reps A w l xs → f l = some d → (∀ w' v, Ext w w' → SRel A w' st → RF A w w' d v → Q v w'.H) → r xs w.H Q
def den1 (f : D → Option D) (a : En → M D) : En → M D := bndE a fun x _ => opt (f x)
def den2 (f : D → D → Option D) (a b : En → M D) : En → M D := bndE a fun x => bndE b fun y _ => opt (f x y)
def denL (f : List D → Option D) (a : En → M (List D)) : En → M D := bndE a fun x _ => opt (f x)
section
variable {A : Ad} {W : WX} {t : St} {H : Hp} {Q : VK}
theorem opt_post {α β : Type} {R : Wd → Wd → α → β → Prop} {W : XK} {w : Wd} {Q : β → Hp → Prop} {o : Option α} {st : Sto} (h : PostG A R W w Q (opt o st)) : ∃ d, o = some d ∧ ∀ w' v, Ext w w' → SRel A w' st → R w w' d v → Q v w'.H := by
  cases o with
  | none => exact h.elim
  | some d => exact ⟨d, rfl, h⟩
theorem den1_ok {f : D → Option D} {r : V → Hp → VK → Prop} {a : En → M D} (i : Imp1 A f r) (h : LE A W (den1 f a) t H Q) : LE A W a t H fun x H1 => r x H1 Q := by
  obtain ⟨w, r, st, rfl, hr, hs, hp⟩ := h
  refine step (.refl w) hr hs hp fun w1 st1 a x hr1 hs1 e1 rx hp1 => ?_
  obtain ⟨d, e, hq⟩ := opt_post hp1
  exact i w1 st1 a x d Q hs1 rx e fun w'' v ex sr rp => hq w'' v (e1.trans ex) sr rp
theorem den2_ok {f : D → D → Option D} {r : L2.R2} {a b : En → M D} (i : Imp2 A f r) (h : LE A W (den2 f a b) t H Q) : LE A W a t H fun x H1 => LE A W b t H1 fun y H2 => r x y H2 Q := by
  obtain ⟨w, r, st, rfl, hr, hs, hp⟩ := h
  refine step (.refl w) hr hs hp fun w1 st1 a x hr1 hs1 e1 rx hp1 => ?_
  refine step e1 hr1 hs1 hp1 fun w2 st2 b y hr2 hs2 e2 ry hp2 => ?_
  obtain ⟨d, e, hq⟩ := opt_post hp2
  exact i w2 st2 a b x y d Q hs2 (rx.mono hs1.wf e2) ry e fun w'' v ex sr rp => hq w'' v ((e1.trans e2).trans ex) sr rp
theorem denL_ok {f : List D → Option D} {r : List V → Hp → VK → Prop} {a : En → M (List D)} (i : ImpL A f r) (h : LE A W (denL f a) t H Q) : LA A W a t H fun x H1 => r x H1 Q := by
  obtain ⟨w, r, st, rfl, hr, hs, hp⟩ := h
  refine step (.refl w) hr hs hp fun w1 st1 a x hr1 hs1 e1 rx hp1 => ?_
  obtain ⟨d, e, hq⟩ := opt_post hp1
  exact i w1 st1 a x d Q hs1 rx e fun w'' v ex sr rp => hq w'' v (e1.trans ex) sr rp
theorem denF_ok {f : List D → Option D} {r : List V → Hp → VK → Prop} {a : En → M (List D)} (i : ImpF A f r) (h : LF A W (denL f a) t H Q) : LA A W a t H fun x H1 => r x H1 Q := by
  obtain ⟨w, r, st, rfl, hr, hs, hp⟩ := h
  refine step (.refl w) hr hs hp fun w1 st1 a x hr1 hs1 e1 rx hp1 => ?_
  obtain ⟨d, e, hq⟩ := opt_post hp1
  exact i w1 st1 a x d Q hs1 rx e fun w'' v ex sr rp => hq w'' v (e1.trans ex) sr (rp.later e1)
/-- the arguments of a call -/
def dNil : En → M (List D) := fun _ => ret []
def dCons (a : En → M D) (b : En → M (List D)) : En → M (List D) := bndE a fun x => bndE b fun xs _ => ret (x :: xs)
theorem dNil_ok {Q : List V → Hp → Prop} (h : LA A W dNil t H Q) : tNil t H Q := by
  obtain ⟨w, r, st, rfl, hr, hs, hp⟩ := h
  exact hp w [] (.refl w) hs .nil
theorem dCons_ok {a : En → M D} {b : En → M (List D)} {Q : List V → Hp → Prop} (h : LA A W (dCons a b) t H Q) : tCons (LE A W a) (LA A W b) t H Q := by
  obtain ⟨w, r, st, rfl, hr, hs, hp⟩ := h
  refine step (.refl w) hr hs hp fun w1 st1 a x hr1 hs1 e1 rx hp1 => ?_
  refine step e1 hr1 hs1 hp1 fun w2 st2 b y hr2 hs2 e2 ry hp2 => ?_
  exact hp2 w2 (x :: y) (e1.trans e2) hs2 (.cons (rx.mono hs1.wf e2) ry)
/-- a new container that nobody changes -/
theorem LF_LE {a : En → M D} (h : LE A W a t H Q) : LF A W a t H Q := by
  obtain ⟨w, r, st, rfl, hr, hs, hp⟩ := h
  refine ⟨w, r, st, rfl, hr, hs, ?_⟩
  cases e : a r st with
  | ok d st1 =>
    rw [e] at hp
    intro w' v ex sr rf
    obtain ⟨p, rfl, h1, h2, h3, h4⟩ := rf
    have x := sr.wf
    have hx : Le w' (w'.frz p) := ⟨fun _ _ q => q, fun a q => ⟨.inl q, rfl⟩⟩
    have x2 : Wf (w'.frz p) := ⟨fun a q => q.elim (x.s a) fun e => by rw [e]; exact ⟨h4.trk, h3⟩, x.m, x.nd, fun a vs h => .inl (x.t a vs h)⟩
    have s2 : SRel A (w'.frz p) st1 := ⟨x2, sr.len, fun n o a q1 q2 => (sr.ob n o a q1 q2).le hx rfl⟩
    exact hp (w'.frz p) (.ref p) ⟨ex.mu, fun a q => .inl (ex.s a q), fun a q => q.elim (ex.sn a) fun e => .inr (e ▸ h1), ex.keep, ex.trk⟩ s2 ((h4.le hx rfl).rep (.inr rfl))
  | exc x st1 => rw [e] at hp; exact hp
  | bad => rw [e] at hp; exact hp
end
/-! ## what is only looked at -/
/-- a value, or a container that one slot owns -/
def RepP (A : Ad) (w : Wd) (d : D) (v : V) : Prop := Rep A w d v ∨ ∃ a, v = .ref a ∧ ¬ w.S a ∧ a ∉ w.mu ∧ Top A w d a
def RepsP (A : Ad) (w : Wd) : List D → List V → Prop
  | [], vs => vs = []
  | d :: ds, vs => ∃ v r, vs = v :: r ∧ RepP A w d v ∧ RepsP A w ds r
def LAtP (_ : Ad) (w : Wd) (a : Addr) (vs : List V) : Prop := vs.length ≤ sizeLine ∧ w.H a = some (.lst vs)
abbrev RDP (A : Ad) : Wd → Wd → D → V → Prop := fun _ w' => RepP A w'
abbrev RLP (A : Ad) : Wd → Wd → List D → List V → Prop := fun _ w' => RepsP A w'
abbrev LEP (A : Ad) (W : WX) (den : En → M D) : TE := LG A (RDP A) W den
abbrev LAP (A : Ad) (W : WX) (den : En → M (List D)) : TA := LG A (RLP A) W den
section
variable {A : Ad} {w w' : Wd}
theorem LAtP.seq {a : Addr} {vs : List V} (h : LAtP A w a vs) : SqL A.K w.H a vs := .inl (.inl h.2)
theorem RepP.mono {d : D} {v : V} (x : Wf w) (e : Ext w w') (h : RepP A w d v) : RepP A w' d v := by
  rcases h with h | ⟨a, h1, h2, h3, h4⟩
  · exact .inl (h.mono x e)
  · exact .inr ⟨a, h1, fun q => (e.sn a q).elim h2 h4.trk, e.nmu h4.trk h3, h4.mono x e (e.keep a h4.trk h3)⟩
theorem RepP.flat {d : D} {v : V} (h : RepP A w d v) (n : ∀ a, ¬ Top A w d a) : Rep A w d v := h.elim id fun ⟨a, _, _, _, z⟩ => absurd z (n a)
theorem RepP.bl {b : Bool} {v : V} (h : RepP A w (.bl b) v) : v = .bl b := (h.flat fun _ z => z).bl
theorem RepP.int {i : Int} {v : V} (h : RepP A w (.int i) v) : v = .int i := (h.flat fun _ z => z).int
theorem RepP.str {s : List Nat} {v : V} (h : RepP A w (.str s) v) : v = .str ⟨s.toArray⟩ ∧ StrOk s := (h.flat fun _ z => z).str
theorem RepP.tupR {l : List D} {v : V} (h : RepP A w (.tup l) v) : Rep A w (.tup l) v := h.flat fun _ z => z
theorem RepP.frlR {l : List D} {v : V} (h : RepP A w (.frl l) v) : Rep A w (.frl l) v := h.flat fun _ z => z
theorem RepP.locR {n : Nat} {v : V} (h : RepP A w (.loc n) v) : Rep A w (.loc n) v := h.flat fun _ z => z
theorem RepP.tup {l : List D} {v : V} (h : RepP A w (.tup l) v) : ∃ a vs, v = .ref a ∧ TAt A w a vs ∧ Reps A w l vs := h.tupR.tup
theorem RepP.frl {l : List D} {v : V} (h : RepP A w (.frl l) v) : ∃ a vs, v = .ref a ∧ FAt A w a vs ∧ Reps A w l vs := h.frlR.frl
theorem RepP.lst {l : List D} {v : V} (h : RepP A w (.lst l) v) : ∃ a vs, v = .ref a ∧ LAtP A w a vs ∧ Reps A w l vs := by
  rcases h with h | ⟨a, h1, _, _, vs, h3, h4, h5⟩
  · obtain ⟨a, vs, h1, h2, h3⟩ := h.lst
    exact ⟨a, vs, h1, ⟨h2.1, h2.2.2⟩, h3⟩
  · exact ⟨a, vs, h1, ⟨h4, h3⟩, h5⟩
theorem RepsP.one' {d : D} {vs : List V} (h : RepsP A w [d] vs) : ∃ v, vs = [v] ∧ RepP A w d v := by
  simp only [RepsP] at h
  obtain ⟨v, r, rfl, h2, rfl⟩ := h
  exact ⟨v, rfl, h2⟩
theorem RepsP.two {a b : D} {vs : List V} (h : RepsP A w [a, b] vs) : ∃ x y, vs = [x, y] ∧ RepP A w a x ∧ RepP A w b y := by
  simp only [RepsP] at h
  obtain ⟨v, r, rfl, h2, u, r2, rfl, h3, rfl⟩ := h
  exact ⟨v, u, rfl, h2, h3⟩
theorem RepsP.nil' {vs : List V} (h : RepsP A w [] vs) : vs = [] := h
/-- f reads the store, and may change it -/
def ImpLP (A : Ad) (f : Sto → List D → Option (D × Sto)) (r : List V → Hp → VK → Prop) : Prop := ∀ (w : Wd) (st : Sto) (l : List D) (xs : List V) (d : D) (st' : Sto) (Q : VK),
  SRel A w st → RepsP A w l xs → f st l = some (d, st') → (∀ w' v, Ext w w' → SRel A w' st' → Rep A w' d v → Q v w'.H) → r xs w.H Q
def ImpFP (A : Ad) (f : Sto → List D → Option (D × Sto)) (r : List V → Hp → VK → Prop) : Prop := ∀ (w : Wd) (st : Sto) (l : List D) (xs : List V) (d : D) (st' : Sto) (Q : VK),
  SRel A w st → RepsP A w l xs → f st l = some (d, st') → (∀ w' v, Ext w w' → SRel A w' st' → RF A w w' d v → Q v w'.H) → r xs w.H Q
def optW {α : Type} : Option (α × Sto) → Out α
  | some (a, st) => .ok a st
  | none => .bad
def denP (f : Sto → List D → Option (D × Sto)) (a : En → M (List D)) : En → M D := bndE a fun x _ st => optW (f st x)
def keepSt (f : List D → Option D) : Sto → List D → Option (D × Sto) := fun st l => (f l).map fun d => (d, st)
theorem keepSt_eq {f : List D → Option D} {st st' : Sto} {l : List D} {d : D} (h : keepSt f st l = some (d, st')) : f l = some d ∧ st' = st := by
  unfold keepSt at h
  simp only [Option.map_eq_some_iff, Prod.mk.injEq] at h
  obtain ⟨x, h1, h2, h3⟩ := h
  exact ⟨h2 ▸ h1, h3.symm⟩
theorem ImpLP.keep {f : List D → Option D} {r : List V → Hp → VK → Prop} (h : ∀ (w : Wd) (st : Sto) (l : List D) (xs : List V) (d : D) (Q : VK), SRel A w st → RepsP A w l xs → f l = some d → (∀ w' v, Ext w w' → SRel A w' st → Rep A w' d v → Q v w'.H) → r xs w.H Q) : ImpLP A (keepSt f) r :=
  fun w st l xs d st' Q hs rp e q => by
    obtain ⟨e1, rfl⟩ := keepSt_eq e
    exact h w st' l xs d Q hs rp e1 q
theorem ImpFP.keep {f : List D → Option D} {r : List V → Hp → VK → Prop} (h : ∀ (w : Wd) (st : Sto) (l : List D) (xs : List V) (d : D) (Q : VK), SRel A w st → RepsP A w l xs → f l = some d → (∀ w' v, Ext w w' → SRel A w' st → RF A w w' d v → Q v w'.H) → r xs w.H Q) : ImpFP A (keepSt f) r :=
  fun w st l xs d st' Q hs rp e q => by
    obtain ⟨e1, rfl⟩ := keepSt_eq e
    exact h w st' l xs d Q hs rp e1 q
end
section
variable {A : Ad} {W : WX} {t : St} {H : Hp} {Q : VK}
theorem optW_post {α β : Type} {R : Wd → Wd → α → β → Prop} {W : XK} {w : Wd} {Q : β → Hp → Prop} {o : Option (α × Sto)} (h : PostG A R W w Q (optW o)) : ∃ d st, o = some (d, st) ∧ ∀ w' v, Ext w w' → SRel A w' st → R w w' d v → Q v w'.H := by
  cases o with
  | none => exact h.elim
  | some d => exact ⟨d.1, d.2, rfl, h⟩
theorem denP_ok {f : Sto → List D → Option (D × Sto)} {r : List V → Hp → VK → Prop} {a : En → M (List D)} (i : ImpLP A f r) (h : LE A W (denP f a) t H Q) : LAP A W a t H fun x H1 => r x H1 Q := by
  obtain ⟨w, r, st, rfl, hr, hs, hp⟩ := h
  refine step (R := RLP A) (.refl w) hr hs hp fun w1 st1 a x hr1 hs1 e1 rx hp1 => ?_
  obtain ⟨d, st2, e, hq⟩ := optW_post hp1
  exact i w1 st1 a x d st2 Q hs1 rx e fun w'' v ex sr rp => hq w'' v (e1.trans ex) sr rp
theorem denPF_ok {f : Sto → List D → Option (D × Sto)} {r : List V → Hp → VK → Prop} {a : En → M (List D)} (i : ImpFP A f r) (h : LF A W (denP f a) t H Q) : LAP A W a t H fun x H1 => r x H1 Q := by
  obtain ⟨w, r, st, rfl, hr, hs, hp⟩ := h
  refine step (R := RLP A) (.refl w) hr hs hp fun w1 st1 a x hr1 hs1 e1 rx hp1 => ?_
  obtain ⟨d, st2, e, hq⟩ := optW_post hp1
  exact i w1 st1 a x d st2 Q hs1 rx e fun w'' v ex sr rp => hq w'' v (e1.trans ex) sr (rp.later e1)
theorem dConsP_ok {a : En → M D} {b : En → M (List D)} {Q : List V → Hp → Prop} (h : LAP A W (dCons a b) t H Q) : tCons (LEP A W a) (LAP A W b) t H Q := by
  obtain ⟨w, r, st, rfl, hr, hs, hp⟩ := h
  refine step (R := RDP A) (.refl w) hr hs hp fun w1 st1 a x hr1 hs1 e1 rx hp1 => ?_
  refine step (R := RLP A) e1 hr1 hs1 hp1 fun w2 st2 b y hr2 hs2 e2 ry hp2 => ?_
  exact hp2 w2 (x :: y) (e1.trans e2) hs2 ⟨x, y, rfl, rx.mono hs1.wf e2, ry⟩
theorem dNilP_ok {Q : List V → Hp → Prop} (h : LAP A W dNil t H Q) : tNil t H Q := by
  obtain ⟨w, r, st, rfl, hr, hs, hp⟩ := h
  exact hp w [] (.refl w) hs rfl
theorem LE_LEP {den : En → M D} (h : LEP A W den t H Q) : LE A W den t H Q := by
  obtain ⟨w, r, st, rfl, hr, hs, hp⟩ := h
  refine ⟨w, r, st, rfl, hr, hs, ?_⟩
  cases e : den r st with
  | ok d st1 => rw [e] at hp; exact fun w' v ex sr rp => hp w' v ex sr (.inl rp)
  | exc x st1 => rw [e] at hp; exact hp
  | bad => rw [e] at hp; exact hp
end
end Rf

set_option Elab.async false
set_option linter.all false
set_option maxRecDepth 100000
set_option maxHeartbeats 1000000
namespace Rf
open PySem L2

/-! ## checks of names -/
def beqS (a b : Str) : Bool := a.cps.toList == b.cps.toList
theorem beqS_eq {a b : Str} (h : beqS a b = true) : a = b := by
  unfold beqS at h
  exact Str.ext' (Array.toList_inj.mp (eq_of_beq h))
def nodB : List Str → Bool
  | [] => true
  | x :: r => r.all (fun y => !beqS x y) && nodB r
theorem nodB_ok : ∀ {l : List Str}, nodB l = true → l.Nodup
  | [], _ => List.nodup_nil
  | x :: r, h => by
    simp only [nodB, Bool.and_eq_true, List.all_eq_true] at h
    refine List.nodup_cons.mpr ⟨fun hx => ?_, nodB_ok h.2⟩
    have := h.1 x hx
    simp [beqS] at this
/-- where each parameter's value stands: among the n by position, behind them those of the keywords ks -/
def pmOk (ps : List Str) (n : Nat) (ks : List Str) (pm : List Nat) : Bool :=
  decide (pm.length = ps.length) && decide (n ≤ ps.length) && nodB ks && ks.all (fun k => (ps.drop n).any fun p => beqS k p) &&
  (List.range ps.length).all fun m => if m < n then decide (pm[m]? = some m) else (match pm[m]?, ps[m]? with
    | some j, some x => decide (n ≤ j) && (match ks[j - n]? with
      | some k => beqS k x
      | none => false)
    | _, _ => false)
def arr {α : Type} (d : α) (pm : List Nat) (l : List α) : List α := pm.map fun j => l.getD j d
def KwOk (K : PySem.W.Frag) (fd : FuncData) (ps : List Str) : Prop := ∀ (s : Shared) (us ws : List Value) (ks : List Str) (pm : List Nat), K.In s.heap → ws.length = ks.length → pmOk ps us.length ks pm = true → BindsTo s fd ⟨us, ks.zip ws⟩ (ps.zip (arr .none pm (us ++ ws)))

/-! ## the context -/
/-- a plain name: none that the machine treats apart -/
def okN (x : Str) : Bool := !(x == ("__debug__" : Str)) && !(x == ("__classdict__" : Str)) && !(x == ("__name__" : Str))
def spF (A : Ad) (f : List D → M D) : Sp := fun vs H Q E => ∃ (w : Wd) (ds : List D) (st : Sto), w.H = H ∧ SRel A w st ∧ Reps A w ds vs ∧ PostG A (RD A) E w Q (f ds st)
/-- what an __init__ of the class c makes of a new instance -/
def spI (A : Ad) (c : Nat) (f : List D → M D) : Sp := fun vs H Q E => ∃ (w : Wd) (x dx : Addr) (vs' : List V) (ds : List D) (st : Sto), vs = .ref x :: vs' ∧ w.H x = none ∧ w.H dx = none ∧ dx ≠ x ∧ H = upd (upd w.H dx (.own x)) x (.ins (A.ca c) dx []) ∧
  c ∈ A.I.cs ∧ SRel A w st ∧ Reps A w ds vs' ∧ PostG A (RF A) E w (fun v H => v = .ref x → Q .non H) (f ds st)
def spX (A : Ad) (i : Nat) (f : List D → M D) : Sp := match iniC i with
  | none => spF A f
  | some c => spI A c f
def CallsOk (A : Ad) (P : Program) (w : World) (mg : Str → Option Value) (base : Heap) (k : Nat) (F : FT) : Prop :=
  ∀ i, (∃ fd ps, FnOk P w A.K mg base (L2.CX P w) (2 * k) (A.fa i) fd ps (spX A i (F i)) ∧ Binds A.K fd ps [] ∧ KwOk A.K fd ps ∧ ps = paN i) ∨ ∀ ds st, F i ds st = .bad
/-- a class that makes instances by its __init__ -/
structure ClsF (A : Ad) (mg : Str → Option Value) (c : Nat) : Prop where
  cl : Cls A.K (A.ca c)
  no : ∀ f ∈ names c, NoAttr A.K (A.ca c) f
  nd : (names c).Nodup
  ln : (names c).length < 1000
  mg : mg (clN c) = some (.ref (A.ca c))
  ok : okN (clN c) = true
  mkr : Mk A.K (A.ca c) (A.fa (iniF c))
  ic : iniC (iniF c) = some c
  ka : PySem.W.findIn A.K (.ref (A.ca c)) "__class__" = some (some (.builtin "object.__class__"))
  kn : PySem.W.specialIn A.K (.builtin "object.__class__") "__get__" = some (some (.builtin "getset_descriptor.__get__"))
  kt : PySem.W.takesIn A.K (.builtin "object.__class__") = some true
  km : PySem.W.mroIn A.K (A.ca c) (.type "object") = some true
  kb : ∀ i, i < 7 → PySem.W.kitOne A.K (.ref (A.ca c)) (.type (tyN i)) = some false ∧ PySem.W.kitOne A.K (.type (tyN i)) (.ref (A.ca c)) = some false ∧ PySem.W.notFirst A.K (A.ca c) (.type (tyN i)) = true
  kk : ∀ c' ∈ A.I.cs, PySem.W.kitOne A.K (.ref (A.ca c)) (.ref (A.ca c')) = some (decide (c = c')) ∧ PySem.W.notFirst A.K (A.ca c) (.ref (A.ca c')) = true
  kf : PySem.W.keepIn A.K (.ref (A.ca c)) = true
  eq : ∀ i, eqF c = some i → PySem.W.findIn A.K (.ref (A.ca c)) "__eq__" = some (some (.ref (A.fa i))) ∧ PySem.W.isFn A.K (.ref (A.fa i)) = true ∧ iniC i = none ∧
    PySem.W.findIn A.K (.ref (A.ca c)) "__ne__" = some (some (.builtin "object.__ne__"))
  bo : PySem.W.findIn A.K (.ref (A.ca c)) "__bool__" = some none ∧ PySem.W.findIn A.K (.ref (A.ca c)) "__len__" = some none
  me : ∀ q ∈ meL, q.2.1 = c → Meth A.K (A.ca c) (Str.ofString q.2.2) (A.fa q.1) ∧ iniC q.1 = none
  pr : ∀ q ∈ prL, q.2.1 = c → ∃ p, PropOf A.K (A.ca c) (Str.ofString q.2.2) p (A.fa q.1) ∧ iniC q.1 = none
structure Facts (A : Ad) (mg : Str → Option Value) : Prop where
  fn : ∀ i ∈ A.I.fs, mg (fnN i) = some (.ref (A.fa i)) ∧ PySem.W.keepIn A.K (.ref (A.fa i)) = true ∧ iniC i = none
  co : ∀ i ∈ A.I.ks, ∃ u v, mg (coN i) = some u ∧ RelV v u ∧ ∀ w, Rep A w (coD i) v
  bl : ∀ i ∈ A.I.bs, mg (blN i) = none
  cl : ∀ c ∈ A.I.cs, ClsF A mg c
structure Ctx (A : Ad) (k : Nat) (F : FT) (X : Cx) (W : WX) : Prop where
  hK : X.K = A.K
  facts : Facts A X.mg
  calls : CallsOk A X.prog X.w X.mg X.base k F
  room : Room (2 * k + 1) X.A
  calm : X.calm = true
  nd : X.N.Nodup
  pass : ∀ t, PassesAt (L2.CX X.prog X.w) X t (fun c d H => W c d t H)

/-! ## checks -/
def visB (sc : Scope) (x : Str) : Bool := match sc.names.lookup x with
  | some .local | some .cell | some .free => true
  | _ => false
def glbB (sc : Scope) (x : Str) : Bool := match sc.names.lookup x with
  | some .globalImplicit => true
  | _ => false
def locB (sc : Scope) (x : Str) : Bool := match sc.names.lookup x with
  | some .local => true
  | _ => false
theorem visB_ok {sc : Scope} {x : Str} (h : visB sc x = true) : Vis sc x := by
  unfold visB at h
  unfold Vis
  split at h <;> simp_all
theorem glbB_ok {X : Cx} {x : Str} (h : glbB X.env.scope x = true) : Gl X x := by
  unfold glbB at h
  show X.env.scope.names.lookup x = _
  split at h <;> simp_all
theorem locB_ok {sc : Scope} {x : Str} (h : locB sc x = true) : sc.names.lookup x = some .local := by
  unfold locB at h
  split at h <;> simp_all
theorem okN_d {x : Str} (h : okN x = true) : (x == ("__debug__" : Str)) = false := by unfold okN at h; simp_all
theorem okN_c {x : Str} (h : okN x = true) : (x == ("__classdict__" : Str)) = false := by unfold okN at h; simp_all
theorem okN_n {x : Str} (h : okN x = true) : x ≠ "__name__" := by
  unfold okN at h
  simp only [Bool.and_eq_true, Bool.not_eq_true'] at h
  intro e
  rw [e] at h
  simp at h
def notStar : Expr → Bool
  | .Starred _ _ => false
  | _ => true
theorem star_cons {e : Expr} {es : List Expr} {env : Env} (h : notStar e = true) : starEach (e :: es) env = (false, eval e env) :: starEach es env := by
  cases e <;> first | rfl | cases h
theorem star_any {pos : Pos} {env : Env} : ∀ {es : List Expr}, es.all notStar = true → (backTo pos (starEach es env)).any (·.1) = false
  | [], _ => rfl
  | e :: es, h => by
    simp only [List.all_cons, Bool.and_eq_true] at h
    rw [star_cons h.1]
    have := star_any (pos := pos) (env := env) h.2
    unfold backTo at this ⊢
    rw [List.map_cons, List.any_cons, this]
    rfl
/-- as a test by its truth -/
def plainT : Expr → Bool
  | .UnaryOp _ _ _ | .BoolOp _ _ _ | .IfExp _ _ _ _ | .Compare _ _ _ _ => false
  | _ => true
theorem plainT_ok {e : Expr} {env : Env} (h : plainT e = true) (whole : Sem Value) : isTrue e env whole = (do let v ← whole; standAt e.pos; holding [v] (truthy v)) := by
  cases e <;> first | rfl | cases h
def noSup : Expr → Bool
  | .Call (.Name x _) _ _ _ => !(x == ("super" : Str))
  | _ => true
theorem base_ok {o : Expr} {m : Str} {env : Env} {whole : Sem Value} (h : noSup o = true) : attributeBase o m env whole = whole := by
  unfold attributeBase
  split
  · rename_i x p pos
    have h' : (!(x == ("super" : Str))) = true := h
    have e : (x != ("super" : Str)) = true := h'
    rw [e]
    simp
  · rfl
def plainI : Expr → Bool
  | .Slice _ _ _ _ => false
  | _ => true
theorem plainI_ok {b : Expr} (h : plainI b = true) : PlainIx b := by
  intro o i
  cases b <;> first | rfl | cases h
theorem _root_.L2.PE.imp {X : Cx} {e : Expr} {t t' : TE} (h : PE X e t) (k : ∀ σ H Q, t' σ H Q → t σ H Q) : PE X e t' := ⟨fun pins s σ H Q I q => h.run pins s σ H Q I (k σ H Q q)⟩
theorem _root_.L2.PT.imp {X : Cx} {e : Expr} {t t' : TT} (h : PT X e t) (k : ∀ σ H Q, t' σ H Q → t σ H Q) : PT X e t' := ⟨fun pins s σ H Q I q => h.run pins s σ H Q I (k σ H Q q)⟩
theorem _root_.L2.PA.imp {X : Cx} {e : List Expr} {t t' : TA} (h : PA X e t) (k : ∀ σ H Q, t' σ H Q → t σ H Q) : PA X e t' := ⟨fun pos pins s σ H Q I q => h.run pos pins s σ H Q I (k σ H Q q)⟩

/-! ## expressions -/
structure BE where
  den : FT → En → M D
  chk : Info → List Str → Scope → Expr → Bool
  snd : ∀ {A : Ad} {k : Nat} {F : FT} {X : Cx} {W : WX}, Ctx A k F X W → ∀ {e : Expr}, chk A.I X.N X.env.scope e = true → PE X e (LE A W (den F))
/-- a new container -/
structure BF where
  den : FT → En → M D
  chk : Info → List Str → Scope → Expr → Bool
  snd : ∀ {A : Ad} {k : Nat} {F : FT} {X : Cx} {W : WX}, Ctx A k F X W → ∀ {e : Expr}, chk A.I X.N X.env.scope e = true → PE X e (LF A W (den F))
structure BT where
  den : FT → En → M Bool
  chk : Info → List Str → Scope → Expr → Bool
  snd : ∀ {A : Ad} {k : Nat} {F : FT} {X : Cx} {W : WX}, Ctx A k F X W → ∀ {e : Expr}, chk A.I X.N X.env.scope e = true → PT X e (LT A W (den F))
def BF.e (b : BF) : BE := ⟨b.den, b.chk, fun C _ h => (b.snd C h).imp fun _ _ _ q => LF_LE q⟩

/-- what is only looked at -/
structure BP where
  den : FT → En → M D
  chk : Info → List Str → Scope → Expr → Bool
  snd : ∀ {A : Ad} {k : Nat} {F : FT} {X : Cx} {W : WX}, Ctx A k F X W → ∀ {e : Expr}, chk A.I X.N X.env.scope e = true → PE X e (LEP A W (den F))
def BE.p (b : BE) : BP := ⟨b.den, b.chk, fun C _ h => (b.snd C h).imp fun _ _ _ q => LE_LEP q⟩
/-- what a slot owns -/
def getO (r : En) (i : Nat) : Option D := match r[i]? with
  | some (.own d) => some d
  | _ => none
def pOwn (i : Nat) : BP where
  den _ r := opt (getO r i)
  chk _ N sc e := match e with
    | .Name x _ => (match N[i]? with
      | some y => beqS x y && visB sc x && okN x
      | none => false)
    | _ => false
  snd {A k F X W} C e h := by
    split at h
    · rename_i x pos
      split at h
      · rename_i y hy
        simp only [Bool.and_eq_true] at h
        obtain ⟨⟨h1, h2⟩, h3⟩ := h
        have e1 := beqS_eq h1
        subst e1
        refine (pe_var hy (visB_ok h2) (okN_d h3) (okN_c h3)).imp fun t H Q q => ?_
        obtain ⟨w, r, st, rfl, hr, hs, hp⟩ := q
        obtain ⟨d, e, hq⟩ := opt_post hp
        unfold getO at e
        split at e
        · rename_i d' e'
          cases e
          have hi : i < t.length := by rw [← hr.len]; exact (List.getElem?_eq_some_iff.mp e').1
          obtain ⟨a, h5, h6, h7, h8⟩ := hr.at_ i _ t[i] e' (by simp [hi])
          exact ⟨.ref a, by rw [List.getElem?_eq_getElem hi, h5], hq w _ (.refl w) hs (.inr ⟨a, rfl, h6, h7, h8⟩)⟩
        · cases e
      · cases h
    · cases h
/-- a slot's value -/
def getV (r : En) (i : Nat) : Option D := match r[i]? with
  | some (.val d) => some d
  | _ => none
def cVar (i : Nat) : BE where
  den _ r := opt (getV r i)
  chk _ N sc e := match e with
    | .Name x _ => (match N[i]? with
      | some y => beqS x y && visB sc x && okN x
      | none => false)
    | _ => false
  snd {A k F X W} C e h := by
    split at h
    · rename_i x pos
      split at h
      · rename_i y hy
        simp only [Bool.and_eq_true] at h
        obtain ⟨⟨h1, h2⟩, h3⟩ := h
        have e1 := beqS_eq h1
        subst e1
        refine (pe_var hy (visB_ok h2) (okN_d h3) (okN_c h3)).imp fun t H Q q => ?_
        obtain ⟨w, r, st, rfl, hr, hs, hp⟩ := q
        obtain ⟨d, e, hq⟩ := opt_post hp
        unfold getV at e
        split at e
        · rename_i d' e'
          cases e
          have hi : i < t.length := by rw [← hr.len]; exact (List.getElem?_eq_some_iff.mp e').1
          obtain ⟨u, h5, h6⟩ := hr.at_ i _ t[i] e' (by simp [hi])
          exact ⟨u, by rw [List.getElem?_eq_getElem hi, h5], hq w u (.refl w) hs h6⟩
        · cases e
      · cases h
    · cases h
theorem LE.const {A : Ad} {W : WX} {d : D} {v : V} (hv : ∀ w, Rep A w d v) {t : St} {H : Hp} {Q : VK} (h : LE A W (fun _ => Rf.ret d) t H Q) : tC v t H Q := by
  obtain ⟨w, r, st, rfl, hr, hs, hp⟩ := h
  exact hp w v (.refl w) hs (hv w)
def cInt (i : Int) : BE where
  den _ _ := ret (.int i)
  chk _ _ _ e := match e with
    | .Constant (.int j) _ _ => decide (i = j)
    | _ => false
  snd {A k F X W} C e h := by
    split at h
    · have e1 := of_decide_eq_true h
      subst e1
      exact pe_int.imp fun t H Q q => LE.const (fun w => rep_int _) q
    · cases h
def cBl (b : Bool) : BE where
  den _ _ := ret (.bl b)
  chk _ _ _ e := match e with
    | .Constant (.bool j) _ _ => decide (b = j)
    | _ => false
  snd {A k F X W} C e h := by
    split at h
    · have e1 := of_decide_eq_true h
      subst e1
      exact pe_bl.imp fun t H Q q => LE.const (fun w => rep_bl _) q
    · cases h
def cNon : BE where
  den _ _ := ret .non
  chk _ _ _ e := match e with
    | .Constant .none _ _ => true
    | _ => false
  snd {A k F X W} C e h := by
    split at h
    · exact pe_non.imp fun t H Q q => LE.const (fun w => rep_non) q
    · cases h
def strB (s : List Nat) : Bool := decide (s.length ≤ sizeLine) && s.all (fun c => decide (c < 1114112))
theorem strB_ok {s : List Nat} (h : strB s = true) : StrOk s := by
  unfold strB at h
  simp only [Bool.and_eq_true, decide_eq_true_eq, List.all_eq_true] at h
  exact h
def cStr (s : List Nat) : BE where
  den _ _ := ret (.str s)
  chk _ _ _ e := match e with
    | .Constant (.str x) _ _ => x.cps.toList == s && strB s
    | _ => false
  snd {A k F X W} C e h := by
    split at h
    · simp only [Bool.and_eq_true] at h
      obtain ⟨h1, h2⟩ := h
      have e1 := eq_of_beq h1
      rename_i x _ _
      have e2 : x = (⟨s.toArray⟩ : Str) := by rw [← e1]
      subst e2
      exact pe_str.imp fun t H Q q => LE.const (fun w => rep_str (strB_ok h2)) q
    · cases h
/-- a constant of the module -/
def cCon (i : Nat) : BE where
  den _ _ := ret (coD i)
  chk I _ sc e := match e with
    | .Name x _ => beqS x (coN i) && I.ks.contains i && glbB sc x && okN x
    | _ => false
  snd {A k F X W} C e h := by
    split at h
    · simp only [Bool.and_eq_true, List.contains_iff_mem] at h
      obtain ⟨⟨⟨h1, h2⟩, h3⟩, h4⟩ := h
      have e1 := beqS_eq h1
      subst e1
      obtain ⟨u, v, q1, q2, q3⟩ := C.facts.co i h2
      exact (pe_glob (glbB_ok h3) q1 q2 (okN_d h4)).imp fun t H Q q => LE.const q3 q
    · cases h

/-! ## operators -/
structure Op2 where
  op : Operator
  f : D → D → Option D
  imp : ∀ {A : Ad} {k : Nat} {F : FT} {X : Cx} {W : WX}, Ctx A k F X W → ∃ r, OpR X (binaryOp op) r ∧ Imp2 A f r
def cBin (o : Op2) (a b : BE) : BE where
  den F := den2 o.f (a.den F) (b.den F)
  chk I N sc e := match e with
    | .BinOp x op y _ => decide (op = o.op) && a.chk I N sc x && b.chk I N sc y
    | _ => false
  snd {A k F X W} C e h := by
    split at h
    · simp only [Bool.and_eq_true, decide_eq_true_eq] at h
      obtain ⟨⟨h1, h2⟩, h3⟩ := h
      subst h1
      obtain ⟨r, q1, q2⟩ := o.imp C
      exact (pe_op q1 (a.snd C h2) (b.snd C h3)).imp fun t H Q q => den2_ok q2 q
    · cases h
structure Cp2 where
  op : CmpOp
  f : D → D → Option D
  imp : ∀ {A : Ad} {k : Nat} {F : FT} {X : Cx} {W : WX}, Ctx A k F X W → ∃ r, OpR X (compareOp op) r ∧ Imp2 A f r
def notSet : Expr → Bool
  | .Set _ _ _ => false
  | _ => true
theorem notSet_ok {e : Expr} {op : CmpOp} (h : notSet e = true) : behindInMarks op e = false := by
  cases e <;> first | rfl | cases h
def cCmp (o : Cp2) (a b : BE) : BE where
  den F := den2 o.f (a.den F) (b.den F)
  chk I N sc e := match e with
    | .Compare x [op] [y] _ => decide (op = o.op) && notSet y && a.chk I N sc x && b.chk I N sc y
    | _ => false
  snd {A k F X W} C e h := by
    split at h
    · simp only [Bool.and_eq_true, decide_eq_true_eq] at h
      obtain ⟨⟨⟨h1, h0⟩, h2⟩, h3⟩ := h
      subst h1
      obtain ⟨r, q1, q2⟩ := o.imp C
      exact (pe_cmpR q1 (a.snd C h2) (b.snd C h3) (notSet_ok h0)).imp fun t H Q q => den2_ok q2 q
    · cases h
/-- a < b < c -/
def dChain (f g : D → D → Option D) (a b c : En → M D) : En → M D := bndE a fun x => bndE b fun y => bndE (fun _ => opt (f x y)) fun z => match z with
  | .bl true => bndE c fun u _ => opt (g y u)
  | .bl false => fun _ => ret (.bl false)
  | _ => fun _ => opt none
def isB (f : D → D → Option D) : Prop := ∀ a b d, f a b = some d → ∃ k, d = .bl k
def cChain (o o2 : Cp2) (a b c : BE) : BE where
  den F := dChain o.f o2.f (a.den F) (b.den F) (c.den F)
  chk I N sc e := match e with
    | .Compare x [op, op2] [y, z] _ => decide (op = o.op) && decide (op2 = o2.op) && notSet z && a.chk I N sc x && b.chk I N sc y && c.chk I N sc z
    | _ => false
  snd {A k F X W} C e h := by
    split at h
    · simp only [Bool.and_eq_true, decide_eq_true_eq] at h
      obtain ⟨⟨⟨⟨⟨h1, h6⟩, h0⟩, h2⟩, h3⟩, h4⟩ := h
      subst h1 h6
      obtain ⟨r, q1, q2⟩ := o.imp C
      obtain ⟨r', q1', q2'⟩ := o2.imp C
      refine (pe_chain q1 q1' (a.snd C h2) (b.snd C h3) (c.snd C h4) (notSet_ok h0)).imp fun t H Q q => ?_
      obtain ⟨w, r, st, rfl, hr, hs, hp⟩ := q
      refine step (.refl w) hr hs hp fun w1 st1 x vx hr1 hs1 e1 rx hp1 => ?_
      refine step e1 hr1 hs1 hp1 fun w2 st2 y vy hr2 hs2 e2 ry hp2 => ?_
      have rx2 := rx.mono hs1.wf e2
      unfold bndE bnd at hp2
      cases ez : o.f x y with
      | none => rw [ez] at hp2; exact hp2.elim
      | some z =>
        rw [ez] at hp2
        refine q2 w2 st2 x y vx vy z _ hs2 rx2 ry ez fun w3 v3 e3 hs3 r3 => ?_
        have ry3 := Rep.mono hs2.wf e3 ry
        cases z with
        | bl kb =>
          have ev : v3 = .bl kb := r3.bl
          subst ev
          refine ⟨kb, rfl, ?_⟩
          cases kb with
          | true =>
            refine iteT ?_
            have hp3 : PostG A (RD A) (fun c d H => W c d t H) w Q (bndE (c.den F) (fun u _ => opt (o2.f y u)) r st2) := hp2
            refine step ((e1.trans e2).trans e3) (hr2.mono hs2.wf e3) hs3 hp3 fun w4 st4 u vu hr4 hs4 e4 ru hp4 => ?_
            obtain ⟨d, ed, hq⟩ := opt_post hp4
            exact q2' w4 st4 y u vy vu d Q hs4 (ry3.mono hs3.wf e4) ru ed fun w5 v5 e5 s5 r5 => hq w5 v5 ((((e1.trans e2).trans e3).trans e4).trans e5) s5 r5
          | false =>
            refine iteF ?_
            exact hp2 w3 (.bl false) ((e1.trans e2).trans e3) hs3 (rep_bl _)
        | _ => exact hp2.elim
    · cases h
end Rf

set_option Elab.async false
set_option linter.all false
set_option maxRecDepth 100000
set_option maxHeartbeats 1000000
namespace Rf
open PySem L2

/-! ## data as the library compares them -/
mutual
def isData : D → Bool
  | .non | .bl _ | .int _ | .str _ => true
  | .tup l | .lst l => isDatas l
  | _ => false
def isDatas : List D → Bool
  | [] => true
  | d :: r => isData d && isDatas r
end
mutual
def toPy : D → PyData
  | .non => .none
  | .bl b => .bool b
  | .int i => .int i
  | .str s => .str ⟨s.toArray⟩
  | .tup l => .tuple (toPys l)
  | .lst l => .list (toPys l)
  | _ => .none
def toPys : List D → List PyData
  | [] => []
  | d :: r => toPy d :: toPys r
end
mutual
def dep : D → Nat
  | .tup l | .lst l => deps l + 1
  | _ => 0
def deps : List D → Nat
  | [] => 0
  | d :: r => max (dep d) (deps r)
end
mutual
def deq : D → D → Bool
  | .non, .non => true
  | .bl a, .bl b => a == b
  | .bl a, .int j => (if a then 1 else 0) == j
  | .int i, .bl b => i == (if b then 1 else 0)
  | .int i, .int j => i == j
  | .str x, .str y => x == y
  | .lst x, .lst y => deqs x y
  | .tup x, .tup y => deqs x y
  | _, _ => false
def deqs : List D → List D → Bool
  | [], [] => true
  | x :: xs, y :: ys => deq x y && deqs xs ys
  | _, _ => false
end
theorem str_beq (x y : List Nat) : ((⟨x.toArray⟩ : Str) == ⟨y.toArray⟩) = (x == y) := by
  by_cases h : x = y
  · subst h; simp
  · have h1 : ¬ ((⟨x.toArray⟩ : Str) = ⟨y.toArray⟩) := fun e => h (by injection e with e; simpa using congrArg Array.toList e)
    rw [beq_eq_false_iff_ne.mpr h1, beq_eq_false_iff_ne.mpr h]
mutual
theorem deq_py : ∀ (a b : D), isData a = true → isData b = true → deq a b = PyData.eqv (toPy a) (toPy b)
  | .non, b, _, hb => by cases b <;> first | (simp [deq, toPy, PyData.eqv]; done) | simp [isData] at hb
  | .bl x, b, _, hb => by cases b <;> first | (simp [deq, toPy, PyData.eqv]; done) | simp [isData] at hb
  | .int x, b, _, hb => by cases b <;> first | (simp [deq, toPy, PyData.eqv]; done) | simp [isData] at hb
  | .str x, b, _, hb => by cases b <;> first | (simp [deq, toPy, PyData.eqv, str_beq]; done) | simp [isData] at hb
  | .tup x, b, ha, hb => by
    cases b with
    | tup y => simp only [deq, toPy, PyData.eqv]; exact deqs_py x y (by simpa [isData] using ha) (by simpa [isData] using hb)
    | _ => first | (simp [deq, toPy, PyData.eqv]; done) | simp [isData] at hb
  | .lst x, b, ha, hb => by
    cases b with
    | lst y => simp only [deq, toPy, PyData.eqv]; exact deqs_py x y (by simpa [isData] using ha) (by simpa [isData] using hb)
    | _ => first | (simp [deq, toPy, PyData.eqv]; done) | simp [isData] at hb
  | .frl _, _, ha, _ => by simp [isData] at ha
  | .frt _, _, ha, _ => by simp [isData] at ha
  | .dct _ _ _, _, ha, _ => by simp [isData] at ha
  | .obj _ _, _, ha, _ => by simp [isData] at ha
  | .loc _, _, ha, _ => by simp [isData] at ha
  | .fn _, _, ha, _ => by simp [isData] at ha
  | .cls _, _, ha, _ => by simp [isData] at ha
  | .clo _ _, _, ha, _ => by simp [isData] at ha
theorem deqs_py : ∀ (a b : List D), isDatas a = true → isDatas b = true → deqs a b = PyData.eqvAll (toPys a) (toPys b)
  | [], [], _, _ => by simp [deqs, toPys, PyData.eqvAll]
  | [], _ :: _, _, _ => by simp [deqs, toPys, PyData.eqvAll]
  | _ :: _, [], _, _ => by simp [deqs, toPys, PyData.eqvAll]
  | x :: xs, y :: ys, ha, hb => by
    simp only [isDatas, Bool.and_eq_true] at ha hb
    simp only [deqs, toPys, PyData.eqvAll, deq_py x y ha.1 hb.1, deqs_py xs ys ha.2 hb.2]
end
mutual
theorem dep_py : ∀ (a : D), (toPy a).depth = dep a
  | .non | .bl _ | .int _ | .str _ => by simp [toPy, PyData.depth, dep]
  | .tup l => by simp only [toPy, PyData.depth, dep]; rw [deps_py l]
  | .lst l => by simp only [toPy, PyData.depth, dep]; rw [deps_py l]
  | .frl _ | .frt _ | .dct _ _ _ | .obj _ _ | .loc _ | .fn _ | .cls _ | .clo _ _ => by simp [toPy, PyData.depth, dep]
theorem deps_py : ∀ (a : List D), PyData.depthAll (toPys a) = deps a
  | [] => by simp [toPys, PyData.depthAll, deps]
  | x :: xs => by simp only [toPys, PyData.depthAll, deps]; rw [dep_py x, deps_py xs]
end
section
variable {A : Ad} {w : Wd}
mutual
theorem lay_py : ∀ (a : D) {v : V}, Rep A w a v → (toPy a).canLay0 = true
  | .non, _, _ | .bl _, _, _ | .int _, _, _ => by simp [toPy, PyData.canLay0]
  | .str s, _, h => by
    simp only [toPy, PyData.canLay0, PyData.strOk]
    have := h.str.2.2
    simpa using this
  | .tup l, _, h => by obtain ⟨_, _, _, _, h⟩ := h.tup; simp only [toPy, PyData.canLay0]; exact lays_py l h
  | .lst l, _, h => by obtain ⟨_, _, _, _, h⟩ := h.lst; simp only [toPy, PyData.canLay0]; exact lays_py l h
  | .frl _, _, _ | .frt _, _, _ | .dct _ _ _, _, _ | .obj _ _, _, _ | .loc _, _, _ | .fn _, _, _ | .cls _, _, _ | .clo _ _, _, _ => by simp [toPy, PyData.canLay0]
theorem lays_py : ∀ (a : List D) {vs : List V}, Reps A w a vs → PyData.canLayAll0 (toPys a) = true
  | [], _, _ => by simp [toPys, PyData.canLayAll0]
  | x :: xs, _, h => by
    simp only [Reps] at h
    obtain ⟨v, r, _, h1, h2⟩ := h
    simp only [toPys, PyData.canLayAll0, lay_py x h1, lays_py xs h2, Bool.and_self]
end
mutual
theorem dp_py : ∀ (a : D) {v : V}, isData a = true → Rep A w a v → Dp A.K w.H v (toPy a)
  | .non, _, _, h => by rw [h.non]; exact .non
  | .bl _, _, _, h => by rw [h.bl]; exact .bl _
  | .int _, _, _, h => by rw [h.int]; exact .int _
  | .str s, _, _, h => by rw [h.str.1]; exact .str _
  | .tup l, _, hd, h => by obtain ⟨a, vs, rfl, h1, h2⟩ := h.tup; exact .tup h1.seq (dps_py l (by simpa [isData] using hd) h2)
  | .lst l, _, hd, h => by obtain ⟨a, vs, rfl, h1, h2⟩ := h.lst; exact .lst h1.seq (dps_py l (by simpa [isData] using hd) h2)
  | .frl _, _, ha, _ => by simp [isData] at ha
  | .frt _, _, ha, _ => by simp [isData] at ha
  | .dct _ _ _, _, ha, _ => by simp [isData] at ha
  | .obj _ _, _, ha, _ => by simp [isData] at ha
  | .loc _, _, ha, _ => by simp [isData] at ha
  | .fn _, _, ha, _ => by simp [isData] at ha
  | .cls _, _, ha, _ => by simp [isData] at ha
  | .clo _ _, _, ha, _ => by simp [isData] at ha
theorem dps_py : ∀ (a : List D) {vs : List V}, isDatas a = true → Reps A w a vs → DpAll A.K w.H vs (toPys a)
  | [], _, _, h => by simp only [Reps] at h; subst h; exact .nil
  | x :: xs, _, hd, h => by
    simp only [isDatas, Bool.and_eq_true] at hd
    simp only [Reps] at h
    obtain ⟨v, r, rfl, h1, h2⟩ := h
    exact .cons (dp_py x hd.1 h1) (dps_py xs hd.2 h2)
end
end
/-- of a kind and a depth that can be compared -/
def okE (d : D) : Bool := isData d && decide (dep d ≤ 64)
theorem okE_sh {A : Ad} {w : Wd} {d : D} {v : V} (h : okE d = true) (r : Rep A w d v) : SeqAt.shaped (toPy d) = true := by
  unfold okE at h
  simp only [Bool.and_eq_true, decide_eq_true_eq] at h
  unfold SeqAt.shaped
  rw [lay_py d r, dep_py]
  simpa using h.2
def fEq (a b : D) : Option D := if okE a && okE b then some (.bl (deq a b)) else none
def fNe (a b : D) : Option D := if okE a && okE b then some (.bl (!deq a b)) else none
section
variable {A : Ad} {k : Nat} {F : FT} {X : Cx} {W : WX}
theorem Ctx.un (C : Ctx A k F X W) : X.A.units + 64 < cLine := C.room.units
def pEq : Cp2 where
  op := .Eq
  f := fEq
  imp {A k F X W} C := by
    refine ⟨_, op_eqD C.un, fun w st a b x y d Q hs ra rb e q => ?_⟩
    unfold fEq at e
    split at e
    · rename_i h
      simp only [Bool.and_eq_true] at h
      have ha := (Bool.and_eq_true_iff.mp h.1).1
      have hb := (Bool.and_eq_true_iff.mp h.2).1
      cases e
      refine ⟨toPy a, toPy b, ?_, ?_, okE_sh h.1 ra, okE_sh h.2 rb, ?_⟩
      · rw [C.hK]; exact dp_py a ha ra
      · rw [C.hK]; exact dp_py b hb rb
      · rw [← deq_py a b ha hb]; exact q w _ (.refl w) hs (rep_bl _)
    · cases e
def pNe : Cp2 where
  op := .NotEq
  f := fNe
  imp {A k F X W} C := by
    refine ⟨_, op_neD C.un, fun w st a b x y d Q hs ra rb e q => ?_⟩
    unfold fNe at e
    split at e
    · rename_i h
      simp only [Bool.and_eq_true] at h
      have ha := (Bool.and_eq_true_iff.mp h.1).1
      have hb := (Bool.and_eq_true_iff.mp h.2).1
      cases e
      refine ⟨toPy a, toPy b, ?_, ?_, okE_sh h.1 ra, okE_sh h.2 rb, ?_⟩
      · rw [C.hK]; exact dp_py a ha ra
      · rw [C.hK]; exact dp_py b hb rb
      · rw [← deq_py a b ha hb]; exact q w _ (.refl w) hs (rep_bl _)
    · cases e

/-! ## int operators -/
def fAdd : D → D → Option D
  | .int a, .int b => some (.int (a + b))
  | .str a, .str b => if a.length + b.length ≤ sizeLine then some (.str (a ++ b)) else none
  | .tup a, .tup b => if decide (a.length + b.length ≤ sizeLine) then some (.tup (a ++ b)) else none
  | .lst a, .lst b => if decide (a.length + b.length ≤ sizeLine) then some (.lst (a ++ b)) else none
  | _, _ => none
theorem strOk_app {a b : List Nat} (ha : StrOk a) (hb : StrOk b) (h : a.length + b.length ≤ sizeLine) : StrOk (a ++ b) :=
  ⟨by rw [List.length_append]; exact h, fun c hc => (List.mem_append.mp hc).elim (ha.2 c) (hb.2 c)⟩
theorem str_app (a b : List Nat) : (⟨a.toArray⟩ : Str) ++ ⟨b.toArray⟩ = ⟨(a ++ b).toArray⟩ := by
  refine TL.ext_tl ?_
  simp [TL.tl_append, TL.tl_mk]
theorem str_len (a : List Nat) : (⟨a.toArray⟩ : Str).length = a.length := by simp [Str.length]
def oAdd : Op2 where
  op := .Add
  f := fAdd
  imp {A k F X W} C := by
    refine ⟨_, op_add.or (op_add_str.or (op_catA.or op_cat)), fun w st a b x y d Q hs ra rb e q => ?_⟩
    cases a with
    | int i =>
      cases b with
      | int j =>
        cases e
        rw [ra.int, rb.int]
        exact .inl ⟨i, j, rfl, rfl, q w _ (.refl w) hs (rep_int _)⟩
      | _ => cases e
    | str s =>
      cases b with
      | str t =>
        unfold fAdd at e
        simp only at e
        split at e
        · rename_i hl
          cases e
          obtain ⟨e1, g1⟩ := ra.str
          obtain ⟨e2, g2⟩ := rb.str
          subst e1 e2
          refine .inr (.inl ⟨_, _, rfl, rfl, by rw [str_len, str_len]; exact hl, ?_⟩)
          rw [str_app]
          exact q w _ (.refl w) hs (rep_str (strOk_app g1 g2 hl))
        · cases e
      | _ => cases e
    | tup l =>
      cases b with
      | tup l' =>
        unfold fAdd at e
        simp only at e
        split at e
        · rename_i hl
          cases e
          have hl := of_decide_eq_true hl
          obtain ⟨p, vs, rfl, h1, h2⟩ := ra.tup
          obtain ⟨p', vs', rfl, h1', h2'⟩ := rb.tup
          have e1 := h2.length
          have e2 := h2'.length
          refine .inr (.inr (.inl ⟨p, p', vs, vs', rfl, rfl, by rw [C.hK]; exact h1.seq, by rw [C.hK]; exact h1'.seq, by rw [e1, e2]; exact hl, fun z => ?_, fun _ z => ?_, fun _ z a ha => ?_⟩))
          · have : l = [] := by
              rw [z] at e1
              cases l with
              | nil => rfl
              | cons _ _ => simp at e1
            subst this
            rw [List.nil_append] at q
            exact q w _ (.refl w) hs rb
          · have : l' = [] := by
              rw [z] at e2
              cases l' with
              | nil => rfl
              | cons _ _ => simp at e2
            subst this
            rw [List.append_nil] at q
            exact q w _ (.refl w) hs ra
          · exact q (w.pure a (.tup (vs ++ vs'))) (.ref a) (ext_pure ha) (hs.pure ha) (rep_tup hs.wf ha (by rw [List.length_append, e1, e2]; exact hl) (h2.append h2'))
        · cases e
      | _ => cases e
    | lst l =>
      cases b with
      | lst l' =>
        unfold fAdd at e
        simp only at e
        split at e
        · rename_i hl
          cases e
          have hl := of_decide_eq_true hl
          obtain ⟨p, vs, rfl, h1, h2⟩ := ra.lst
          obtain ⟨p', vs', rfl, h1', h2'⟩ := rb.lst
          have e1 := h2.length
          have e2 := h2'.length
          refine .inr (.inr (.inr ⟨p, p', vs, vs', rfl, rfl, h1.2.2, h1'.2.2, by rw [e1, e2]; exact hl, fun a ha => ?_⟩))
          exact q (w.pure a (.lst (vs ++ vs'))) (.ref a) (ext_pure ha) (hs.pure ha) (rep_lst hs.wf ha (by rw [List.length_append, e1, e2]; exact hl) (h2.append h2'))
        · cases e
      | _ => cases e
    | _ => cases e
def fSub : D → D → Option D
  | .int a, .int b => some (.int (a - b))
  | _, _ => none
def oSub : Op2 where
  op := .Sub
  f := fSub
  imp {A k F X W} C := by
    refine ⟨_, op_sub, fun w st a b x y d Q hs ra rb e q => ?_⟩
    cases a <;> cases b <;> cases e
    rw [ra.int, rb.int]
    exact ⟨_, _, rfl, rfl, q w _ (.refl w) hs (rep_int _)⟩
def small64 (i : Int) : Bool := decide (-(2 ^ 64) < i) && decide (i < 2 ^ 64)
def fMul : D → D → Option D
  | .int a, .int b => if small64 a || small64 b then some (.int (a * b)) else none
  | .tup l, .int k => if !l.isEmpty && decide (2 ≤ k) && decide (k ≤ 1000) && decide (l.length ≤ 1000) then some (.tup (List.replicate k.toNat l).flatten) else none
  | _, _ => none
theorem Reps.rep {A : Ad} {w : Wd} {l : List D} {vs : List V} (h : Reps A w l vs) : ∀ k : Nat, Reps A w (List.replicate k l).flatten (List.replicate k vs).flatten
  | 0 => by simpa using Reps.nil
  | k + 1 => by simp only [List.replicate_succ, List.flatten_cons]; exact h.append (Reps.rep h k)
theorem len_flat {α : Type} (l : List α) : ∀ k : Nat, (List.replicate k l).flatten.length = k * l.length
  | 0 => by simp
  | k + 1 => by simp only [List.replicate_succ, List.flatten_cons, List.length_append, len_flat l k]; rw [Nat.succ_mul, Nat.add_comm]
def oMul : Op2 where
  op := .Mult
  f := fMul
  imp {A k F X W} C := by
    refine ⟨_, op_mul.or op_repT, fun w st a b x y d Q hs ra rb e q => ?_⟩
    cases a with
    | int i =>
      cases b with
      | int j =>
        unfold fMul at e
        simp only at e
        split at e
        · rename_i hl
          cases e
          rw [ra.int, rb.int]
          refine .inl ⟨i, j, rfl, rfl, ?_, q w _ (.refl w) hs (rep_int _)⟩
          simp only [small64, Bool.or_eq_true, Bool.and_eq_true, decide_eq_true_eq] at hl
          exact hl
        · cases e
      | _ => cases e
    | tup l =>
      cases b with
      | int j =>
        unfold fMul at e
        simp only at e
        split at e
        · rename_i hl
          cases e
          simp only [Bool.and_eq_true, decide_eq_true_eq, Bool.not_eq_true', List.isEmpty_eq_false_iff] at hl
          obtain ⟨⟨⟨h0, h1⟩, h2⟩, h3⟩ := hl
          obtain ⟨p, vs, rfl, g1, g2⟩ := ra.tup
          rw [rb.int]
          have el := g2.length
          refine .inr ⟨p, j, vs, rfl, rfl, by rw [C.hK]; exact g1.seq, ?_, h1, h2, by rw [el]; exact h3, fun a ha => ?_⟩
          · rintro rfl
            cases l with
            | nil => exact h0 rfl
            | cons _ _ => simp at el
          · refine q (w.pure a _) (.ref a) (ext_pure ha) (hs.pure ha) (rep_tup hs.wf ha ?_ (g2.rep _))
            rw [len_flat, el, sizeLine_eq]
            have : j.toNat * l.length ≤ 1000 * 1000 := Nat.mul_le_mul (by omega) h3
            omega
        · cases e
      | _ => cases e
    | _ => cases e
def fDiv : D → D → Option D
  | .int a, .int b => if decide (0 < b) && decide (b < 1073741824) then some (.int (a / b)) else none
  | _, _ => none
def oDiv : Op2 where
  op := .FloorDiv
  f := fDiv
  imp {A k F X W} C := by
    refine ⟨_, op_fdiv, fun w st a b x y d Q hs ra rb e q => ?_⟩
    cases a <;> cases b <;> first | (cases e; done) | skip
    unfold fDiv at e
    simp only at e
    split at e
    · rename_i hl
      cases e
      simp only [Bool.and_eq_true, decide_eq_true_eq] at hl
      rw [ra.int, rb.int]
      exact ⟨_, _, rfl, rfl, hl, q w _ (.refl w) hs (rep_int _)⟩
    · cases e
def fMod : D → D → Option D
  | .int a, .int b => if decide (0 < b) then some (.int (a % b)) else none
  | _, _ => none
def oMod : Op2 where
  op := .Mod
  f := fMod
  imp {A k F X W} C := by
    refine ⟨_, op_mod, fun w st a b x y d Q hs ra rb e q => ?_⟩
    cases a <;> cases b <;> first | (cases e; done) | skip
    unfold fMod at e
    simp only at e
    split at e
    · rename_i hl
      cases e
      rw [ra.int, rb.int]
      exact ⟨_, _, rfl, rfl, of_decide_eq_true hl, q w _ (.refl w) hs (rep_int _)⟩
    · cases e
def fPow : D → D → Option D
  | .int a, .int b => if decide (0 ≤ b) && decide (b ≤ 1000000) && decide (a.natAbs < 2 ^ 64) then some (.int (a ^ b.toNat)) else none
  | _, _ => none
def oPow : Op2 where
  op := .Pow
  f := fPow
  imp {A k F X W} C := by
    refine ⟨_, op_pow, fun w st a b x y d Q hs ra rb e q => ?_⟩
    cases a <;> cases b <;> first | (cases e; done) | skip
    unfold fPow at e
    simp only at e
    split at e
    · rename_i hl
      cases e
      simp only [Bool.and_eq_true, decide_eq_true_eq] at hl
      rw [ra.int, rb.int]
      exact ⟨_, _, rfl, rfl, ⟨hl.1.1, hl.1.2, hl.2⟩, q w _ (.refl w) hs (rep_int _)⟩
    · cases e
/-! ## order -/
def fLt : D → D → Option D
  | .int a, .int b => some (.bl (decide (a < b)))
  | .str a, .str b => some (.bl (decide (a < b)))
  | _, _ => none
def pLt : Cp2 where
  op := .Lt
  f := fLt
  imp {A k F X W} C := by
    refine ⟨_, op_lt.or op_lt_str, fun w st a b x y d Q hs ra rb e q => ?_⟩
    cases a <;> cases b <;> cases e
    · rw [ra.int, rb.int]; exact .inl ⟨_, _, rfl, rfl, q w _ (.refl w) hs (rep_bl _)⟩
    · rw [ra.str.1, rb.str.1]; exact .inr ⟨_, _, rfl, rfl, q w _ (.refl w) hs (rep_bl _)⟩
def fGt : D → D → Option D
  | .int a, .int b => some (.bl (decide (b < a)))
  | .str a, .str b => some (.bl (decide (b < a)))
  | _, _ => none
def pGt : Cp2 where
  op := .Gt
  f := fGt
  imp {A k F X W} C := by
    refine ⟨_, op_gt.or op_gt_str, fun w st a b x y d Q hs ra rb e q => ?_⟩
    cases a <;> cases b <;> cases e
    · rw [ra.int, rb.int]; exact .inl ⟨_, _, rfl, rfl, q w _ (.refl w) hs (rep_bl _)⟩
    · rw [ra.str.1, rb.str.1]; exact .inr ⟨_, _, rfl, rfl, q w _ (.refl w) hs (rep_bl _)⟩
def fLe : D → D → Option D
  | .int a, .int b => some (.bl (decide (a ≤ b)))
  | _, _ => none
def pLe : Cp2 where
  op := .LtE
  f := fLe
  imp {A k F X W} C := by
    refine ⟨_, op_le, fun w st a b x y d Q hs ra rb e q => ?_⟩
    cases a <;> cases b <;> cases e
    rw [ra.int, rb.int]; exact ⟨_, _, rfl, rfl, q w _ (.refl w) hs (rep_bl _)⟩
def fGe : D → D → Option D
  | .int a, .int b => some (.bl (decide (b ≤ a)))
  | _, _ => none
def pGe : Cp2 where
  op := .GtE
  f := fGe
  imp {A k F X W} C := by
    refine ⟨_, op_ge, fun w st a b x y d Q hs ra rb e q => ?_⟩
    cases a <;> cases b <;> cases e
    rw [ra.int, rb.int]; exact ⟨_, _, rfl, rfl, q w _ (.refl w) hs (rep_bl _)⟩
def isNon : D → Bool
  | .non => true
  | _ => false
def fIs : D → D → Option D
  | a, .non => some (.bl (isNon a))
  | _, _ => none
def fIsNot : D → D → Option D
  | a, .non => some (.bl (!isNon a))
  | _, _ => none
theorem isNon_ok {A : Ad} {w : Wd} {a : D} {x : V} (h : Rep A w a x) : decide (x = .non) = isNon a := by
  cases a with
  | non => rw [h.non]; rfl
  | bl _ => rw [h.bl]; rfl
  | int _ => rw [h.int]; rfl
  | str _ => rw [h.str.1]; rfl
  | tup _ => obtain ⟨_, _, rfl, _⟩ := h.tup; rfl
  | lst _ => obtain ⟨_, _, rfl, _⟩ := h.lst; rfl
  | frl _ => obtain ⟨_, _, rfl, _⟩ := h.frl; rfl
  | frt _ => obtain ⟨_, _, rfl, _⟩ := h.frt; rfl
  | dct _ _ _ => obtain ⟨_, _, _, rfl, _⟩ := h.dct; rfl
  | obj _ _ => obtain ⟨_, _, _, rfl, _⟩ := h.obj; rfl
  | loc _ => obtain ⟨_, rfl, _⟩ := h.loc; rfl
  | fn _ => rw [h.fn]; rfl
  | cls _ => rw [h.cls]; rfl
  | clo _ _ => exact h.clo.elim
def pIs : Cp2 where
  op := .Is
  f := fIs
  imp {A k F X W} C := by
    refine ⟨_, op_isN, fun w st a b x y d Q hs ra rb e q => ?_⟩
    cases b <;> cases e
    refine ⟨rb.non, ?_⟩
    rw [isNon_ok ra]
    exact q w _ (.refl w) hs (rep_bl _)
def pIsNot : Cp2 where
  op := .IsNot
  f := fIsNot
  imp {A k F X W} C := by
    refine ⟨_, op_notN, fun w st a b x y d Q hs ra rb e q => ?_⟩
    cases b <;> cases e
    refine ⟨rb.non, ?_⟩
    rw [isNon_ok ra]
    exact q w _ (.refl w) hs (rep_bl _)
end
end Rf

set_option Elab.async false
set_option linter.all false
set_option maxRecDepth 100000
set_option maxHeartbeats 1000000
namespace Rf
open PySem L2

/-! ## arguments -/
def dns : List BE → FT → En → M (List D)
  | [], _ => dNil
  | b :: bs, F => dCons (b.den F) (dns bs F)
def chs (I : Info) (N : List Str) (sc : Scope) : List BE → List Expr → Bool
  | [], [] => true
  | b :: bs, e :: es => notStar e && b.chk I N sc e && chs I N sc bs es
  | _, _ => false
section
variable {A : Ad} {k : Nat} {F : FT} {X : Cx} {W : WX}
theorem chs_star : ∀ {bs : List BE} {es : List Expr}, chs A.I X.N X.env.scope bs es = true → es.all notStar = true
  | [], [], _ => rfl
  | [], _ :: _, h => by cases h
  | _ :: _, [], h => by cases h
  | b :: bs, e :: es, h => by
    simp only [chs, Bool.and_eq_true] at h
    simp only [List.all_cons, Bool.and_eq_true]
    exact ⟨h.1.1, chs_star h.2⟩
theorem pa_of (C : Ctx A k F X W) : ∀ {bs : List BE} {es : List Expr}, chs A.I X.N X.env.scope bs es = true → PA X es (LA A W (dns bs F))
  | [], [], _ => pa_nil.imp fun t H Q q => dNil_ok q
  | [], _ :: _, h => by cases h
  | _ :: _, [], h => by cases h
  | b :: bs, e :: es, h => by
    simp only [chs, Bool.and_eq_true] at h
    exact (pa_cons (b.snd C h.1.2) (pa_of C h.2) (star_cons h.1.1)).imp fun t H Q q => dCons_ok q
end
def dnsP : List BP → FT → En → M (List D)
  | [], _ => dNil
  | b :: bs, F => dCons (b.den F) (dnsP bs F)
def chsP (I : Info) (N : List Str) (sc : Scope) : List BP → List Expr → Bool
  | [], [] => true
  | b :: bs, e :: es => notStar e && b.chk I N sc e && chsP I N sc bs es
  | _, _ => false
section
variable {A : Ad} {k : Nat} {F : FT} {X : Cx} {W : WX}
theorem chsP_star : ∀ {bs : List BP} {es : List Expr}, chsP A.I X.N X.env.scope bs es = true → es.all notStar = true
  | [], [], _ => rfl
  | [], _ :: _, h => by cases h
  | _ :: _, [], h => by cases h
  | b :: bs, e :: es, h => by
    simp only [chsP, Bool.and_eq_true] at h
    simp only [List.all_cons, Bool.and_eq_true]
    exact ⟨h.1.1, chsP_star h.2⟩
theorem pa_ofP (C : Ctx A k F X W) : ∀ {bs : List BP} {es : List Expr}, chsP A.I X.N X.env.scope bs es = true → PA X es (LAP A W (dnsP bs F))
  | [], [], _ => pa_nil.imp fun t H Q q => dNilP_ok q
  | [], _ :: _, h => by cases h
  | _ :: _, [], h => by cases h
  | b :: bs, e :: es, h => by
    simp only [chsP, Bool.and_eq_true] at h
    exact (pa_cons (b.snd C h.1.2) (pa_ofP C h.2) (star_cons h.1.1)).imp fun t H Q q => dConsP_ok q
end
theorem dns_cons {b : BE} {bs : List BE} {F : FT} : dns (b :: bs) F = dCons (b.den F) (dns bs F) := rfl

/-! ## displays -/
def okLen (l : List D) : Bool := decide (l.length ≤ sizeLine)
def mkTup (l : List D) : Option D := if okLen l then some (.tup l) else none
def mkLst (l : List D) : Option D := if okLen l then some (.lst l) else none
def cTup (bs : List BE) : BE where
  den F := denL mkTup (dns bs F)
  chk I N sc e := match e with
    | .Tuple es _ _ => chs I N sc bs es
    | _ => false
  snd {A k F X W} C e h := by
    split at h
    · refine (pe_tup (pa_of C h)).imp fun t H Q q => ?_
      refine denL_ok (r := fun xs H Q => xs.length ≤ sizeLine ∧ ∀ p, H p = none → Q (.ref p) (upd H p (.tup xs))) (fun w st l xs d Q hs rp e q => ?_) q
      unfold mkTup at e
      split at e
      · rename_i hl
        cases e
        have hl' : xs.length ≤ sizeLine := by rw [rp.length]; exact of_decide_eq_true hl
        exact ⟨hl', fun p hp => q (w.pure p _) (.ref p) (ext_pure hp) (hs.pure hp) (rep_tup hs.wf hp hl' rp)⟩
      · cases e
    · cases h
theorem top_lst {A : Ad} {w : Wd} {p : Addr} {l : List D} {vs : List V} (x : Wf w) (hp : w.H p = none) (hl : vs.length ≤ sizeLine) (h : Reps A w l vs) : RF A w (w.raw p (.lst vs)) (.lst l) (.ref p) :=
  ⟨p, rfl, hp, fun q => (x.s p q).1 hp, fun q => x.m p q hp, vs, upd_same, hl, h.mono x (ext_raw hp)⟩
def fLst (bs : List BE) : BF where
  den F := denL mkLst (dns bs F)
  chk I N sc e := match e with
    | .List es _ => chs I N sc bs es
    | _ => false
  snd {A k F X W} C e h := by
    split at h
    · refine (pe_lst (pa_of C h)).imp fun t H Q q => ?_
      refine denF_ok (r := fun xs H Q => xs.length ≤ sizeLine ∧ ∀ p, H p = none → Q (.ref p) (upd H p (.lst xs))) (fun w st l xs d Q hs rp e q => ?_) q
      unfold mkLst at e
      split at e
      · rename_i hl
        cases e
        have hl' : xs.length ≤ sizeLine := by rw [rp.length]; exact of_decide_eq_true hl
        exact ⟨hl', fun p hp => q (w.raw p _) (.ref p) (ext_raw hp) (hs.raw hp) (top_lst hs.wf hp hl' rp)⟩
      · cases e
    · cases h

/-! ## places -/
def fIx : D → D → Option D
  | .str s, .int i => (atI s i).map fun c => .str [c]
  | .tup l, .int i => atI l i
  | .lst l, .int i => atI l i
  | .frl l, .int i => atI l i
  | _, _ => none
theorem atI_len {α β : Type} {xs : List α} {ys : List β} {i : Int} {v : α} (e : xs.length = ys.length) (h : atI xs i = some v) : ∃ j : Nat, xs[j]? = some v ∧ ∀ u, ys[j]? = some u → atI ys i = some u := by
  unfold atI at h ⊢
  rw [← e]
  cases hx : ixN xs.length i with
  | none => rw [hx] at h; cases h
  | some j =>
    rw [hx] at h
    exact ⟨j, h, fun u hu => hu⟩
theorem Reps.at {A : Ad} {w : Wd} {l : List D} {vs : List V} {i : Int} {d : D} (h : Reps A w l vs) (e : atI l i = some d) : ∃ v, atI vs i = some v ∧ Rep A w d v := by
  obtain ⟨j, h1, h2⟩ := atI_len (ys := vs) h.length.symm e
  obtain ⟨v, h3, h4⟩ := h.get h1
  exact ⟨v, h2 v h3, h4⟩
theorem atI_mem {α : Type} {xs : List α} {i : Int} {v : α} (h : atI xs i = some v) : v ∈ xs := by
  unfold atI at h
  cases hx : ixN xs.length i with
  | none => rw [hx] at h; cases h
  | some j => rw [hx] at h; exact List.mem_of_getElem? h
/-- a container's items at a place; what stands at n too -/
def fIxW (st : Sto) (a b : D) : Option D := match a with
  | .loc n => (match st[n]? with
    | some (.lst l) => fIx (.lst l) b
    | _ => none)
  | a => fIx a b
theorem ix_lst {A : Ad} {w : Wd} {p : Addr} {vs : List V} {l : List D} {b d : D} {y : V} {Q : VK} (g1 : SqL A.K w.H p vs) (g2 : Reps A w l vs) (rb : Rep A w b y) (e : fIx (.lst l) b = some d) (q : ∀ v, Rep A w d v → Q v w.H) : rIx A.K (.ref p) y w.H Q := by
  cases b with
  | int i =>
    rw [rb.int]
    obtain ⟨v, h1, h2⟩ := g2.at (show atI l i = some d from e)
    exact .inl ⟨p, vs, i, v, rfl, rfl, g1, h1, q v h2⟩
  | _ => cases e
theorem imp_ix {A : Ad} {K : PySem.W.Frag} (hK : K = A.K) {w : Wd} {st : Sto} {a b : D} {x y : V} {d : D} {Q : VK} (hs : SRel A w st) (ra : RepP A w a x) (rb : Rep A w b y) (e : fIxW st a b = some d) (q : ∀ v, Rep A w d v → Q v w.H) : rIx K x y w.H Q := by
  subst hK
  cases a with
  | str s =>
    cases b with
    | int i =>
      unfold fIxW fIx at e
      simp only [Option.map_eq_some_iff] at e
      obtain ⟨c, e1, rfl⟩ := e
      obtain ⟨rfl, g⟩ := ra.str
      rw [rb.int]
      refine .inr (.inr ⟨_, i, c, rfl, rfl, by rw [str_len]; exact g.1, e1, ?_⟩)
      exact q _ (rep_str ⟨by rw [sizeLine_eq]; show 1 ≤ _; omega, fun c' hc => by simp only [List.mem_singleton] at hc; subst hc; exact g.2 _ (atI_mem e1)⟩)
    | _ => cases e
  | tup l =>
    cases b with
    | int i =>
      obtain ⟨p, vs, rfl, g1, g2⟩ := ra.tup
      rw [rb.int]
      obtain ⟨v, h1, h2⟩ := g2.at (show atI l i = some d from e)
      exact .inr (.inl ⟨p, vs, i, v, rfl, rfl, g1.seq, h1, q v h2⟩)
    | _ => cases e
  | lst l =>
    obtain ⟨p, vs, rfl, g1, g2⟩ := ra.lst
    exact ix_lst g1.seq g2 rb e q
  | frl l =>
    obtain ⟨p, vs, rfl, g1, g2⟩ := ra.frl
    exact ix_lst (l := l) g1.seq g2 rb (by cases b <;> first | exact e | cases e) q
  | loc n =>
    obtain ⟨p, rfl, hm⟩ := ra.locR.loc
    unfold fIxW at e
    simp only at e
    split at e
    · rename_i l hl
      obtain ⟨vs, g1, g2, g3⟩ := hs.ob n _ p hl hm
      exact ix_lst (.inl (.inl g1)) g3 rb e q
    · cases e
  | _ => cases e
def dIx (a b : En → M D) : En → M D := bndE a fun x => bndE b fun y _ st => opt (fIxW st x y) st
def cIx (a : BP) (b : BE) : BE where
  den F := dIx (a.den F) (b.den F)
  chk I N sc e := match e with
    | .Subscript x y _ => plainI y && a.chk I N sc x && b.chk I N sc y
    | _ => false
  snd {A k F X W} C e h := by
    split at h
    · simp only [Bool.and_eq_true] at h
      refine (pe_ix ix_seq (a.snd C h.1.2) (b.snd C h.2) (plainI_ok h.1.1)).imp fun t H Q q => ?_
      obtain ⟨w, r, st, rfl, hr, hs, hp⟩ := q
      refine step (R := RDP A) (.refl w) hr hs hp fun w1 st1 a x hr1 hs1 e1 rx hp1 => ?_
      refine step (R := RD A) e1 hr1 hs1 hp1 fun w2 st2 b y hr2 hs2 e2 ry hp2 => ?_
      obtain ⟨d, e, hq⟩ := opt_post hp2
      exact imp_ix C.hK hs2 (rx.mono hs1.wf e2) ry e fun v rv => hq w2 v (e1.trans e2) hs2 rv
    · cases h

/-! ## slices -/
/-- a part of a slice -/
structure BO where
  den : FT → En → M (Option Int)
  chk : Info → List Str → Scope → Option Expr → Bool
  snd : ∀ {A : Ad} {k : Nat} {F : FT} {X : Cx} {W : WX}, Ctx A k F X W → ∀ {e : Option Expr}, chk A.I X.N X.env.scope e = true → PO X e (LG A (fun _ _ a b => a = b) W (den F))
theorem _root_.L2.PO.imp {X : Cx} {e : Option Expr} {t t' : TO} (h : PO X e t) (k : ∀ σ H Q, t' σ H Q → t σ H Q) : PO X e t' := ⟨fun pins s σ H Q I q => h.run pins s σ H Q I (k σ H Q q)⟩
def noPart : BO where
  den _ _ := ret none
  chk _ _ _ e := match e with
    | none => true
    | _ => false
  snd {A k F X W} C e h := by
    split at h
    · refine po_none.imp fun t H Q q => ?_
      obtain ⟨w, r, st, rfl, hr, hs, hp⟩ := q
      exact hp w none (.refl w) hs rfl
    · cases h
def toI : D → Option (Option Int)
  | .int i => some (some i)
  | _ => none
def part (b : BE) : BO where
  den F := bndE (b.den F) fun x _ => opt (toI x)
  chk I N sc e := match e with
    | some e => b.chk I N sc e
    | none => false
  snd {A k F X W} C e h := by
    split at h
    · refine (po_some (b.snd C h)).imp fun t H Q q => ?_
      obtain ⟨w, r, st, rfl, hr, hs, hp⟩ := q
      refine step (R := RD A) (.refl w) hr hs hp fun w1 st1 a x hr1 hs1 e1 rx hp1 => ?_
      obtain ⟨d, e, hq⟩ := opt_post hp1
      cases a <;> cases e
      exact ⟨_, rx.int, hq w1 _ e1 hs1 rfl⟩
    · cases h
def cut {α : Type} (l : List α) (lo hi : Option Int) : List α := (l.drop (HT.sIx l.length 0 lo)).take (HT.sIx l.length l.length hi - HT.sIx l.length 0 lo)
def fSl : D → Option Int → Option Int → Option D
  | .str s, lo, hi => some (.str (cut s lo hi))
  | .tup l, lo, hi => some (.tup (cut l lo hi))
  | .lst l, lo, hi => some (.lst (cut l lo hi))
  | .frl l, lo, hi => some (.lst (cut l lo hi))
  | _, _, _ => none
def rSl (K : PySem.W.Frag) : V → Option Int → Option Int → Hp → VK → Prop := fun x lo hi H Q => rSlS x lo hi H Q ∨ (rSlA K x lo hi H Q ∨ rSlL K x lo hi H Q)
theorem cut_ok {s : List Nat} (g : StrOk s) (lo hi : Option Int) : StrOk (cut s lo hi) :=
  ⟨by unfold cut; rw [List.length_take, List.length_drop]; have := g.1; omega, fun c hc => g.2 c (List.mem_of_mem_drop (List.mem_of_mem_take hc))⟩
theorem Reps.cut {A : Ad} {w : Wd} {l : List D} {vs : List V} (h : Reps A w l vs) (lo hi : Option Int) : Reps A w (cut l lo hi) (cutV vs lo hi) := by
  unfold Rf.cut cutV
  rw [h.length]
  exact (h.drop _).take _
theorem cut_whole {α : Type} {l : List α} {lo hi : Option Int} (h : HT.sIx l.length 0 lo = 0 ∧ HT.sIx l.length l.length hi = l.length) : cut l lo hi = l := by
  unfold cut
  rw [h.1, h.2]
  simp
/-- a[lo:hi] -/
def dSl (a : En → M D) (lo hi : En → M (Option Int)) : En → M D := bndE a fun x => bndE lo fun l => bndE hi fun u _ => opt (fSl x l u)
def cSl (a : BE) (lo hi : BO) : BE where
  den F := dSl (a.den F) (lo.den F) (hi.den F)
  chk I N sc e := match e with
    | .Subscript x (.Slice l h none _) _ => a.chk I N sc x && lo.chk I N sc l && hi.chk I N sc h
    | _ => false
  snd {A k F X W} C e h := by
    split at h
    · simp only [Bool.and_eq_true] at h
      refine (pe_slice (sl_str.or (sl_tupA.or sl_list)) (a.snd C h.1.1) (lo.snd C h.1.2) (hi.snd C h.2)).imp fun t H Q q => ?_
      obtain ⟨w, r, st, rfl, hr, hs, hp⟩ := q
      refine step (R := RD A) (.refl w) hr hs hp fun w1 st1 a x hr1 hs1 e1 rx hp1 => ?_
      refine step e1 hr1 hs1 hp1 fun w2 st2 l l' hr2 hs2 e2 rl hp2 => ?_
      refine step (e1.trans e2) hr2 hs2 hp2 fun w3 st3 u u' hr3 hs3 e3 ru hp3 => ?_
      subst rl ru
      obtain ⟨d, e, hq⟩ := opt_post hp3
      have rx3 := (rx.mono hs1.wf e2).mono hs2.wf e3
      have e13 := (e1.trans e2).trans e3
      cases a with
      | str s =>
        cases e
        obtain ⟨rfl, g⟩ := rx3.str
        refine .inl ⟨_, rfl, by rw [str_len]; exact g.1, ?_⟩
        have ec : cutS ⟨s.toArray⟩ l u = ⟨(cut s l u).toArray⟩ := by unfold cutS cut; rw [str_len]
        rw [ec]
        exact hq w3 _ e13 hs3 (rep_str (cut_ok g l u))
      | tup ds =>
        cases e
        obtain ⟨p, vs, rfl, g1, g2⟩ := rx3.tup
        have el := g2.length
        refine .inr (.inl ⟨p, vs, rfl, by rw [C.hK]; exact g1.seq, fun hw => ?_, fun hw a ha => ?_⟩)
        · rw [el] at hw
          refine hq w3 _ e13 hs3 ?_
          rw [cut_whole hw]
          exact rx3
        · exact hq (w3.pure a _) (.ref a) (e13.trans (ext_pure ha)) (hs3.pure ha) (rep_tup hs3.wf ha (Nat.le_trans (cutV_length _ _ _) g1.1) (g2.cut l u))
      | lst ds =>
        cases e
        obtain ⟨p, vs, rfl, g1, g2⟩ := rx3.lst
        refine .inr (.inr ⟨p, vs, rfl, by rw [C.hK]; exact g1.seq, fun a ha => ?_⟩)
        exact hq (w3.pure a _) (.ref a) (e13.trans (ext_pure ha)) (hs3.pure ha) (rep_lst hs3.wf ha (Nat.le_trans (cutV_length _ _ _) g1.1) (g2.cut l u))
      | frl ds =>
        cases e
        obtain ⟨p, vs, rfl, g1, g2⟩ := rx3.frl
        refine .inr (.inr ⟨p, vs, rfl, by rw [C.hK]; exact g1.seq, fun a ha => ?_⟩)
        exact hq (w3.pure a _) (.ref a) (e13.trans (ext_pure ha)) (hs3.pure ha) (rep_lst hs3.wf ha (Nat.le_trans (cutV_length _ _ _) g1.1) (g2.cut l u))
      | _ => cases e
    · cases h
/-- a[::-1] of a list -/
def fRev : D → Option D
  | .lst l => some (.lst l.reverse)
  | _ => none
def fRevL (a : BE) : BF where
  den F := den1 fRev (a.den F)
  chk I N sc e := match e with
    | .Subscript x (.Slice none none (some (.UnaryOp .USub (.Constant (.int 1) _ _) _)) _) _ => a.chk I N sc x
    | _ => false
  snd {A k F X W} C e h := by
    split at h
    · refine (pe_revL (a.snd C h)).imp fun t H Q q => ?_
      obtain ⟨w, r, st, rfl, hr, hs, hp⟩ := q
      refine step (R := RD A) (.refl w) hr hs hp fun w1 st1 a x hr1 hs1 e1 rx hp1 => ?_
      obtain ⟨d, e, hq⟩ := opt_post hp1
      cases a <;> cases e
      obtain ⟨p, vs, rfl, g1, g2⟩ := rx.lst
      refine ⟨p, vs, rfl, by rw [C.hK]; exact g1.seq, fun a ha => ?_⟩
      have hl : vs.reverse.length ≤ sizeLine := by rw [List.length_reverse]; exact g1.1
      exact hq (w1.raw a _) (.ref a) (e1.trans (ext_raw ha)) (hs1.raw ha) ((top_lst hs1.wf ha hl g2.reverse).later e1)
    · cases h

/-! ## a call of a def -/
theorem calls_get {A : Ad} {k : Nat} {F : FT} {X : Cx} {W : WX} (C : Ctx A k F X W) {i : Nat} (hi : iniC i = none) {w : Wd} {ds : List D} {st : Sto} {W' : XK} {Q : VK} (hp : PostG A (RD A) W' w Q (F i ds st)) :
    ∃ fd ps, FnOk X.prog X.w X.K X.mg X.base (L2.CX X.prog X.w) (2 * k) (A.fa i) fd ps (spF A (F i)) ∧ Binds X.K fd ps [] ∧ KwOk X.K fd ps ∧ ps = paN i := by
  rcases C.calls i with h | h
  · rw [C.hK]
    unfold spX at h
    rw [hi] at h
    exact h
  · rw [h ds st] at hp; exact hp.elim
/-- the def at i, called with what stands -/
theorem call_run {A : Ad} {k : Nat} {F : FT} {X : Cx} {W : WX} (C : Ctx A k F X W) {i : Nat} (hi : iniC i = none) {w0 w : Wd} {ds : List D} {st : Sto} {vs : List V} {us : List Value} {t : St} {Q : VK} {pins : List (Addr × Obj)} {s : Shared}
    (I : Inv X pins t w.H s) (r : Vals vs us) (hs : SRel A w st) (rp : Reps A w ds vs) (e0 : Ext w0 w) (hp : PostG A (RD A) (fun c d H => W c d t H) w0 Q (F i ds st)) :
    wpAny (model X.prog X.w) X.A (call (.ref (A.fa i)) us) (EP X pins t Q) X.xe s := by
  obtain ⟨fd, ps, F1, b1, _, _⟩ := calls_get C hi hp
  refine run_fnSD (E := fun t c d H => W c d t H) (dvs := []) (ds := []) F1 (C.room.mono (Nat.le_succ _)) b1 .nil (C.pass t) I r ?_
  rw [List.append_nil]
  refine ⟨w, ds, st, rfl, hs, rp, ?_⟩
  cases e : F i ds st with
  | ok d st1 => rw [e] at hp; exact fun w' v ex sr rp => hp w' v (e0.trans ex) sr rp
  | exc x st1 => rw [e] at hp; exact fun w' c dd ex sr rp => hp w' c dd (e0.trans ex) sr rp
  | bad => rw [e] at hp; exact hp
def dCall (i : Nat) (F : FT) (a : En → M (List D)) : En → M D := bndE a fun ds _ => F i ds
def cCall (i : Nat) (bs : List BE) : BE where
  den F := dCall i F (dns bs F)
  chk I N sc e := match e with
    | .Call (.Name x _) es [] _ => beqS x (fnN i) && I.fs.contains i && glbB sc x && okN x && chs I N sc bs es
    | _ => false
  snd {A k F X W} C e h := by
    split at h
    · rename_i x p es pos
      simp only [Bool.and_eq_true, List.contains_iff_mem] at h
      obtain ⟨⟨⟨⟨h1, h2⟩, h3⟩, h4⟩, h5⟩ := h
      have e1 := beqS_eq h1
      subst e1
      obtain ⟨hm, hk, hi⟩ := C.facts.fn i h2
      have hk' : PySem.W.keepIn X.K (.ref (A.fa i)) = true := by rw [C.hK]; exact hk
      refine ⟨fun pins s t H Q I q => ?_⟩
      refine wpAny_Call_Name_kw (ld_glob I (glbB_ok h3) hm ?_ (okN_d h4))
      obtain ⟨w, r, st, rfl, hr, hs, hp⟩ := q
      cases es with
      | nil =>
        cases bs with
        | cons _ _ => cases h5
        | nil =>
          exact PySem.W.callWith_K0 I.kIn hk' (call_run C hi I .nil hs .nil (.refl w) hp)
      | cons e es =>
        have st5 := chs_star h5
        have st6 := st5
        simp only [List.all_cons, Bool.and_eq_true] at st5
        refine PySem.W.callWith_K (h₀ := X.base) I.ok.mod.kin hk' ?_ (star_cons st5.1) (star_any st5.2)
        refine thn ((pa_of C h5).run pos pins s t w.H (fun vs H1 => ∃ w1 ds st1, w1.H = H1 ∧ SRel A w1 st1 ∧ Reps A w1 ds vs ∧ Ext w w1 ∧ PostG A (RD A) (fun c d H => W c d t H) w Q (F i ds st1)) I ?_) ?_
        · exact step (.refl w) hr hs hp fun w1 st1 ds vs _ hs1 e1 rp hp1 => ⟨w1, ds, st1, rfl, hs1, rp, e1, hp1⟩
        · rintro us s1 ⟨vs, H1, I1, rv, w1, ds, st1, rfl, hs1, rp, e1, hp1⟩
          exact ⟨I1.kIn, call_run C hi I1 rv hs1 rp e1 hp1⟩
    · cases h
end Rf

set_option Elab.async false
set_option linter.all false
set_option maxRecDepth 100000
set_option maxHeartbeats 1000000
namespace Rf
open PySem L2

/-! ## built-in functions, by their values -/
inductive Tgt (v : Value) : Prop where
  | b (id : String) (e : v = .builtin id) | t (T : String) (e : v = .type T)
structure Bi where
  n : Nat
  tv : Value
  f : Sto → List D → Option (D × Sto)
  tgt : Tgt tv
  boot : bootBuiltins (blN n) = some tv
  ok : okN (blN n) = true
  imp : ∀ {A : Ad} {k : Nat} {F : FT} {X : Cx} {W : WX}, Ctx A k F X W → ∃ r, CallR X tv r ∧ ImpLP A f r
/-- the value a new container -/
structure BiF where
  n : Nat
  tv : Value
  f : Sto → List D → Option (D × Sto)
  tgt : Tgt tv
  boot : bootBuiltins (blN n) = some tv
  ok : okN (blN n) = true
  imp : ∀ {A : Ad} {k : Nat} {F : FT} {X : Cx} {W : WX}, Ctx A k F X W → ∃ r, CallR X tv r ∧ ImpFP A f r
theorem pe_bi {X : Cx} {tv : Value} {r : List V → Hp → VK → Prop} {n : Nat} {t : TA} {e : Expr} {es : List Expr} {p pos : Pos} (g : Tgt tv) (hc : CallR X tv r) (hg : Gl X (blN n)) (hm : X.mg (blN n) = none) (hv : bootBuiltins (blN n) = some tv) (ho : okN (blN n) = true)
    (ha : PA X (e :: es) t) (hs : (e :: es).all notStar = true) : PE X (.Call (.Name (blN n) p) (e :: es) [] pos) (tCB r t) := by
  simp only [List.all_cons, Bool.and_eq_true] at hs
  rcases g with ⟨id, rfl⟩ | ⟨T, rfl⟩
  · exact pe_callB hc hg hm hv ha (okN_n ho) (okN_d ho) (star_cons hs.1) (star_any hs.2)
  · exact pe_callTy hc hg hm hv ha (okN_n ho) (okN_d ho) (star_cons hs.1) (star_any hs.2)
def biChk (n : Nat) (I : Info) (N : List Str) (sc : Scope) (bs : List BP) (e : Expr) : Bool := match e with
  | .Call (.Name x _) (e :: es) [] _ => beqS x (blN n) && I.bs.contains n && glbB sc x && chsP I N sc bs (e :: es)
  | _ => false
def cBi (o : Bi) (bs : List BP) : BE where
  den F := denP o.f (dnsP bs F)
  chk I N sc e := biChk o.n I N sc bs e
  snd {A k F X W} C e h := by
    unfold biChk at h
    split at h
    · simp only [Bool.and_eq_true, List.contains_iff_mem] at h
      obtain ⟨⟨⟨h1, h2⟩, h3⟩, h5⟩ := h
      have e1 := beqS_eq h1
      subst e1
      obtain ⟨r, q1, q2⟩ := o.imp C
      exact (pe_bi o.tgt q1 (glbB_ok h3) (C.facts.bl _ h2) o.boot o.ok (pa_ofP C h5) (chsP_star h5)).imp fun t H Q q => denP_ok q2 q
    · cases h
def fBi (o : BiF) (bs : List BP) : BF where
  den F := denP o.f (dnsP bs F)
  chk I N sc e := biChk o.n I N sc bs e
  snd {A k F X W} C e h := by
    unfold biChk at h
    split at h
    · simp only [Bool.and_eq_true, List.contains_iff_mem] at h
      obtain ⟨⟨⟨h1, h2⟩, h3⟩, h5⟩ := h
      have e1 := beqS_eq h1
      subst e1
      obtain ⟨r, q1, q2⟩ := o.imp C
      exact (pe_bi o.tgt q1 (glbB_ok h3) (C.facts.bl _ h2) o.boot o.ok (pa_ofP C h5) (chsP_star h5)).imp fun t H Q q => denPF_ok q2 q
    · cases h

def fLen : List D → Option D
  | [.str s] => some (.int s.length)
  | [.tup l] => some (.int l.length)
  | [.lst l] => some (.int l.length)
  | [.frl l] => some (.int l.length)
  | _ => none
/-- what stands at n too -/
def fLenW (st : Sto) (xs : List D) : Option (D × Sto) := match xs with
  | [.loc n] => (match st[n]? with
    | some (.lst l) => some (.int l.length, st)
    | _ => none)
  | xs => keepSt fLen st xs
theorem Reps.two {A : Ad} {w : Wd} {a b : D} {vs : List V} (h : Reps A w [a, b] vs) : ∃ x y, vs = [x, y] ∧ Rep A w a x ∧ Rep A w b y := by
  simp only [Reps] at h
  obtain ⟨v, r, rfl, h2, u, r2, rfl, h3, rfl⟩ := h
  exact ⟨v, u, rfl, h2, h3⟩
def bLen : Bi where
  n := 0
  tv := .builtin "len"
  f := fLenW
  tgt := .b _ rfl
  boot := by decide +kernel
  ok := by decide +kernel
  imp {A k F X W} C := by
    refine ⟨_, call_len, fun w st l xs d st' Q hs rp e q => ?_⟩
    unfold fLenW at e
    split at e
    · rename_i n
      split at e
      · rename_i l hl
        cases e
        obtain ⟨v, rfl, h⟩ := rp.one'
        obtain ⟨p, rfl, hm⟩ := h.locR.loc
        obtain ⟨vs, g1, g2, g3⟩ := hs.ob n _ p hl hm
        exact ⟨_, _, rfl, .inl ⟨vs, .inl (.inl g1), g3.length.symm⟩, q w _ (.refl w) hs (rep_int _)⟩
      · cases e
    have e9 := keepSt_eq e
    clear e
    obtain ⟨e, rfl⟩ := e9
    unfold fLen at e
    split at e <;> cases e
    · obtain ⟨v, rfl, h⟩ := rp.one'
      obtain ⟨rfl, g⟩ := h.str
      exact ⟨_, _, rfl, ⟨by rw [str_len]; exact g.1, (str_len _).symm⟩, q w _ (.refl w) hs (rep_int _)⟩
    · obtain ⟨v, rfl, h⟩ := rp.one'
      obtain ⟨p, vs, rfl, h1, h2⟩ := h.tup
      exact ⟨_, _, rfl, .inr ⟨vs, by rw [C.hK]; exact h1.seq, h2.length.symm⟩, q w _ (.refl w) hs (rep_int _)⟩
    · obtain ⟨v, rfl, h⟩ := rp.one'
      obtain ⟨p, vs, rfl, h1, h2⟩ := h.lst
      exact ⟨_, _, rfl, .inl ⟨vs, by rw [C.hK]; exact h1.seq, h2.length.symm⟩, q w _ (.refl w) hs (rep_int _)⟩
    · obtain ⟨v, rfl, h⟩ := rp.one'
      obtain ⟨p, vs, rfl, h1, h2⟩ := h.frl
      exact ⟨_, _, rfl, .inl ⟨vs, by rw [C.hK]; exact h1.seq, h2.length.symm⟩, q w _ (.refl w) hs (rep_int _)⟩
/-- a list of truths -/
def getBs : List D → Option (List Bool)
  | [] => some []
  | .bl b :: r => (getBs r).map (b :: ·)
  | _ :: _ => none
theorem getBs_rep {A : Ad} {w : Wd} : ∀ {l : List D} {bs : List Bool} {vs : List V}, getBs l = some bs → Reps A w l vs → vs = bs.map V.bl
  | [], _, _, e, h => by cases e; simp only [Reps] at h; rw [h]; rfl
  | .bl b :: r, _, _, e, h => by
    simp only [getBs, Option.map_eq_some_iff] at e
    obtain ⟨bs, e1, rfl⟩ := e
    simp only [Reps] at h
    obtain ⟨v, r', rfl, h2, h3⟩ := h
    rw [h2.bl, getBs_rep e1 h3]; rfl
  | .non :: _, _, _, e, _ | .int _ :: _, _, _, e, _ | .str _ :: _, _, _, e, _ | .tup _ :: _, _, _, e, _ | .lst _ :: _, _, _, e, _ | .frl _ :: _, _, _, e, _ | .frt _ :: _, _, _, e, _ | .dct _ _ _ :: _, _, _, e, _
  | .obj _ _ :: _, _, _, e, _ | .loc _ :: _, _, _, e, _ | .fn _ :: _, _, _, e, _ | .cls _ :: _, _, _, e, _ | .clo _ _ :: _, _, _, e, _ => by cases e
def fAll : List D → Option D
  | [.lst l] => (getBs l).map fun bs => .bl (bs.all id)
  | _ => none
def fAny : List D → Option D
  | [.lst l] => (getBs l).map fun bs => .bl (bs.any id)
  | _ => none
def bAll : Bi where
  n := 2
  tv := .builtin "all"
  f := keepSt fAll
  tgt := .b _ rfl
  boot := by decide +kernel
  ok := by decide +kernel
  imp {A k F X W} C := by
    refine ⟨_, cr_all C.calm, .keep fun w st l xs d Q hs rp e q => ?_⟩
    unfold fAll at e
    split at e
    · simp only [Option.map_eq_some_iff] at e
      obtain ⟨bs, e1, rfl⟩ := e
      obtain ⟨v, rfl, h⟩ := rp.one'
      obtain ⟨p, vs, rfl, h1, h2⟩ := h.lst
      have := getBs_rep e1 h2
      subst this
      exact ⟨p, bs, rfl, by rw [C.hK]; exact h1.seq, q w _ (.refl w) hs (rep_bl _)⟩
    · cases e
def bAny : Bi where
  n := 3
  tv := .builtin "any"
  f := keepSt fAny
  tgt := .b _ rfl
  boot := by decide +kernel
  ok := by decide +kernel
  imp {A k F X W} C := by
    refine ⟨_, cr_any C.calm, .keep fun w st l xs d Q hs rp e q => ?_⟩
    unfold fAny at e
    split at e
    · simp only [Option.map_eq_some_iff] at e
      obtain ⟨bs, e1, rfl⟩ := e
      obtain ⟨v, rfl, h⟩ := rp.one'
      obtain ⟨p, vs, rfl, h1, h2⟩ := h.lst
      have := getBs_rep e1 h2
      subst this
      exact ⟨p, bs, rfl, by rw [C.hK]; exact h1.seq, q w _ (.refl w) hs (rep_bl _)⟩
    · cases e
def fMin : List D → Option D
  | [.int i, .int j] => some (.int (if j < i then j else i))
  | _ => none
def fMax : List D → Option D
  | [.int i, .int j] => some (.int (if j > i then j else i))
  | _ => none
def bMin : Bi where
  n := 9
  tv := .builtin "min"
  f := keepSt fMin
  tgt := .b _ rfl
  boot := by decide +kernel
  ok := by decide +kernel
  imp {A k F X W} C := by
    refine ⟨_, call_min2 C.calm, .keep fun w st l xs d Q hs rp e q => ?_⟩
    unfold fMin at e
    split at e <;> cases e
    obtain ⟨v, u, rfl, h, h'⟩ := rp.two
    exact ⟨_, _, by rw [h.int, h'.int], q w _ (.refl w) hs (rep_int _)⟩
def bMax : Bi where
  n := 10
  tv := .builtin "max"
  f := keepSt fMax
  tgt := .b _ rfl
  boot := by decide +kernel
  ok := by decide +kernel
  imp {A k F X W} C := by
    refine ⟨_, call_max2 C.calm, .keep fun w st l xs d Q hs rp e q => ?_⟩
    unfold fMax at e
    split at e <;> cases e
    obtain ⟨v, u, rfl, h, h'⟩ := rp.two
    exact ⟨_, _, by rw [h.int, h'.int], q w _ (.refl w) hs (rep_int _)⟩
def fAbs : List D → Option D
  | [.int i] => some (.int (if i < 0 then -i else i))
  | _ => none
def bAbs : Bi where
  n := 11
  tv := .builtin "abs"
  f := keepSt fAbs
  tgt := .b _ rfl
  boot := by decide +kernel
  ok := by decide +kernel
  imp {A k F X W} C := by
    refine ⟨_, call_abs, .keep fun w st l xs d Q hs rp e q => ?_⟩
    unfold fAbs at e
    split at e <;> cases e
    obtain ⟨v, rfl, h⟩ := rp.one'
    exact ⟨_, by rw [h.int], q w _ (.refl w) hs (rep_int _)⟩
def fDivmod : List D → Option D
  | [.int i, .int j] => if decide (0 < j) && decide (j < 1073741824) then some (.tup [.int (i / j), .int (i % j)]) else none
  | _ => none
def bDivmod : Bi where
  n := 12
  tv := .builtin "divmod"
  f := keepSt fDivmod
  tgt := .b _ rfl
  boot := by decide +kernel
  ok := by decide +kernel
  imp {A k F X W} C := by
    refine ⟨_, call_divmod, .keep fun w st l xs d Q hs rp e q => ?_⟩
    unfold fDivmod at e
    split at e
    · split at e
      · rename_i hl
        cases e
        simp only [Bool.and_eq_true, decide_eq_true_eq] at hl
        obtain ⟨v, u, rfl, h, h'⟩ := rp.two
        refine ⟨_, _, by rw [h.int, h'.int], hl, fun p hp => ?_⟩
        exact q (w.pure p _) (.ref p) (ext_pure hp) (hs.pure hp) (rep_tup hs.wf hp (by rw [sizeLine_eq]; show 2 ≤ _; omega) (.cons (rep_int _) (.cons (rep_int _) .nil)))
      · cases e
    · cases e
def fInt : List D → Option D
  | [.int i] => some (.int i)
  | [.str s] => if s.length ≤ 640 then (PySem.intText? ⟨s.toArray⟩).map .int else none
  | _ => none
def bInt : Bi where
  n := 7
  tv := .type "int"
  f := keepSt fInt
  tgt := .t _ rfl
  boot := by decide +kernel
  ok := by decide +kernel
  imp {A k F X W} C := by
    refine ⟨_, CallR.or call_int1 call_int_str, .keep fun w st l xs d Q hs rp e q => ?_⟩
    unfold fInt at e
    split at e
    · cases e
      obtain ⟨v, rfl, h⟩ := rp.one'
      exact .inl (.inl ⟨_, by rw [h.int], q w _ (.refl w) hs (rep_int _)⟩)
    · split at e
      · rename_i hl
        simp only [Option.map_eq_some_iff] at e
        obtain ⟨n, e1, rfl⟩ := e
        obtain ⟨v, rfl, h⟩ := rp.one'
        exact .inr ⟨_, n, by rw [h.str.1], e1, by rw [str_len]; exact hl, q w _ (.refl w) hs (rep_int _)⟩
      · cases e
    · cases e
def fStr : List D → Option D
  | [.int i] => if decide (0 ≤ i) && decide (i < 1000000) then some (.str (TL.numL i.toNat)) else none
  | _ => none
theorem num_ok {n : Nat} (h : n < 1000000) : StrOk (TL.numL n) := by
  refine ⟨Nat.le_trans (TL.numL_len (k := 6) (by decide) (by simpa using h)) (by rw [sizeLine_eq]; decide), fun c hc => ?_⟩
  have h1 := TL.numL_free (n := n) (s := c)
  rcases Nat.lt_or_ge 57 c with h2 | h2
  · exact absurd hc (h1 (.inr h2))
  · omega
def bStr : Bi where
  n := 8
  tv := .type "str"
  f := keepSt fStr
  tgt := .t _ rfl
  boot := by decide +kernel
  ok := by decide +kernel
  imp {A k F X W} C := by
    refine ⟨_, call_str_int, .keep fun w st l xs d Q hs rp e q => ?_⟩
    unfold fStr at e
    split at e
    · split at e
      · rename_i hl
        cases e
        simp only [Bool.and_eq_true, decide_eq_true_eq] at hl
        obtain ⟨v, rfl, h⟩ := rp.one'
        rename_i i
        obtain ⟨n, rfl⟩ : ∃ n : Nat, i = n := ⟨i.toNat, by omega⟩
        have hn : n < 1000000 := by omega
        refine ⟨_, by rw [h.int], ?_, ?_⟩
        · rw [Int.natAbs_natCast]
          by_cases h0 : n = 0
          · subst h0; decide
          · have : n.log2 < 1920 := by
              rw [Nat.log2_lt h0]
              exact Nat.lt_of_lt_of_le hn (Nat.le_trans (by decide : 1000000 ≤ 2 ^ 20) (Nat.pow_le_pow_right (by decide) (by decide)))
            exact this
        · have e2 : (Str.ofString (toString (n : Int)) : Str) = ⟨(TL.numL n).toArray⟩ := by
            exact TL.ext_tl (TL.tl_num n)
          show Q (.str (Str.ofString (toString (n : Int)))) w.H
          rw [e2]
          rw [Int.toNat_natCast] at q
          exact q w _ (.refl w) hs (rep_str (num_ok hn))
      · cases e
    · cases e
def fTuple : List D → Option D
  | [.lst l] => some (.tup l)
  | [.tup l] => some (.tup l)
  | _ => none
def bTuple : Bi where
  n := 6
  tv := .type "tuple"
  f := keepSt fTuple
  tgt := .t _ rfl
  boot := by decide +kernel
  ok := by decide +kernel
  imp {A k F X W} C := by
    refine ⟨_, call_tuple_of, .keep fun w st l xs d Q hs rp e q => ?_⟩
    unfold fTuple at e
    split at e <;> cases e
    · obtain ⟨v, rfl, h⟩ := rp.one'
      obtain ⟨p, vs, rfl, h1, h2⟩ := h.lst
      exact ⟨p, vs, rfl, .inl ⟨by rw [C.hK]; exact h1.seq, fun a ha => q (w.pure a _) (.ref a) (ext_pure ha) (hs.pure ha) (rep_tup hs.wf ha h1.1 h2)⟩⟩
    · obtain ⟨v, rfl, h⟩ := rp.one'
      obtain ⟨p, vs, rfl, h1, h2⟩ := h.tup
      exact ⟨p, vs, rfl, .inr ⟨by rw [C.hK]; exact h1.seq, q w _ (.refl w) hs h.tupR⟩⟩
/-- list(text) -/
def signs (s : List Nat) : List D := s.map fun c => .str [c]
def fList : List D → Option D
  | [.lst l] => some (.lst l)
  | [.tup l] => some (.lst l)
  | [.str s] => some (.lst (signs s))
  | _ => none
theorem reps_signs {A : Ad} {w : Wd} : ∀ {s : List Nat}, (∀ c ∈ s, c < 1114112) → Reps A w (signs s) (s.map fun c => .str ⟨#[c]⟩)
  | [], _ => by simpa [signs] using Reps.nil
  | c :: r, h => by
    simp only [signs, List.map_cons]
    exact .cons (rep_str ⟨by rw [sizeLine_eq]; show 1 ≤ _; omega, fun c' hc => by simp only [List.mem_singleton] at hc; subst hc; exact h _ (List.mem_cons_self ..)⟩) (reps_signs fun c hc => h c (List.mem_cons_of_mem _ hc))
theorem call_list_txt {X : Cx} (hc : X.calm = true) : CallR X (.type "list") (fun xs H Q => ∃ s : List Nat, xs = [.str ⟨s.toArray⟩] ∧ s.length ≤ sizeLine ∧ ∀ p, H p = none → Q (.ref p) (upd H p (.lst (s.map fun c => .str ⟨#[c]⟩)))) := by
  intro pins s σ H xs us Q I r h
  obtain ⟨z, rfl, hz, q⟩ := h
  obtain ⟨u, rfl, t, rfl⟩ := vals1 r
  refine call_list_str (I.ok.hd hc) _ t (fun h' tk acc' c' kp e hi => ?_) (by simpa using hz)
  have hv : Vals (z.map fun c => V.str ⟨#[c]⟩) acc'.toList := by
    have h0 : acc'.size = z.length := by simpa using hi.1
    have h2 : (z.map fun c => V.str ⟨#[c]⟩).length = acc'.toList.length := by simp [h0]
    refine vals_of_at h2 fun j x u hx hu => ?_
    obtain ⟨c, t', h1, rfl⟩ := hi.2 j u (by rw [← hu, Array.getElem?_toList])
    rw [List.getElem?_map] at hx
    have h1' : z[j]? = some c := by simpa using h1
    rw [h1'] at hx
    cases hx
    exact ⟨t', rfl⟩
  exact ⟨.ref s.heap.objs.size, _, I.laid (t' := tk) kp (Nat.le_refl _) (show ObjOk X.prog X.w _ h' _ (.lst (z.map fun c => V.str ⟨#[c]⟩)) from ⟨by rw [List.length_map]; exact hz, acc'.toList, c', hv, by simpa using e⟩), rfl, q _ (I.hok.fresh (Nat.le_refl _))⟩
def bList : BiF where
  n := 5
  tv := .type "list"
  f := keepSt fList
  tgt := .t _ rfl
  boot := by decide +kernel
  ok := by decide +kernel
  imp {A k F X W} C := by
    refine ⟨_, CallR.or call_list_of (call_list_txt C.calm), .keep fun w st l xs d Q hs rp e q => ?_⟩
    unfold fList at e
    split at e <;> cases e
    · obtain ⟨v, rfl, h⟩ := rp.one'
      obtain ⟨p, vs, rfl, h1, h2⟩ := h.lst
      exact .inl ⟨p, vs, rfl, .inl (by rw [C.hK]; exact h1.seq), fun a ha => q (w.raw a _) (.ref a) (ext_raw ha) (hs.raw ha) (top_lst hs.wf ha h1.1 h2)⟩
    · obtain ⟨v, rfl, h⟩ := rp.one'
      obtain ⟨p, vs, rfl, h1, h2⟩ := h.tup
      exact .inl ⟨p, vs, rfl, .inr (by rw [C.hK]; exact h1.seq), fun a ha => q (w.raw a _) (.ref a) (ext_raw ha) (hs.raw ha) (top_lst hs.wf ha h1.1 h2)⟩
    · obtain ⟨v, rfl, h⟩ := rp.one'
      obtain ⟨rfl, g⟩ := h.str
      exact .inr ⟨_, rfl, g.1, fun a ha => q (w.raw a _) (.ref a) (ext_raw ha) (hs.raw ha) (top_lst hs.wf ha (by rw [List.length_map]; exact g.1) (reps_signs g.2))⟩
end Rf

set_option Elab.async false
set_option linter.all false
set_option maxRecDepth 100000
set_option maxHeartbeats 1000000
namespace Rf
open PySem L2

/-! ## tests -/
theorem _root_.L2.PW.imp {X : Cx} {e : Expr} {t t' : TT} (h : PW X e t) (k : ∀ σ H Q, t' σ H Q → t σ H Q) : PW X e t' := ⟨fun whole pins s σ H Q I q => h.run whole pins s σ H Q I (k σ H Q q)⟩
def toB : D → Option Bool
  | .bl b => some b
  | _ => none
def dB (a : En → M D) : En → M Bool := bndE a fun x _ => opt (toB x)
section
variable {A : Ad} {W : WX} {t : St} {H : Hp} {Q : Bool → Hp → Prop}
theorem dB_ok {a : En → M D} (h : LT A W (dB a) t H Q) : LE A W a t H fun x H1 => ∃ c, x = .bl c ∧ Q c H1 := by
  obtain ⟨w, r, st, rfl, hr, hs, hp⟩ := h
  refine step (R := RD A) (.refl w) hr hs hp fun w1 st1 a x hr1 hs1 e1 rx hp1 => ?_
  obtain ⟨d, e, hq⟩ := opt_post hp1
  cases a <;> cases e
  exact ⟨_, rx.bl, hq w1 _ e1 hs1 rfl⟩
end
/-- a truth, as a test -/
def tVal (b : BE) : BT where
  den F := dB (b.den F)
  chk I N sc e := plainT e && b.chk I N sc e
  snd {A k F X W} C e h := by
    simp only [Bool.and_eq_true] at h
    exact (pt_val (b.snd C h.2) (plainT_ok h.1)).imp fun t H Q q => dB_ok q
def tCmp (o : Cp2) (a b : BE) : BT where
  den F := dB (den2 o.f (a.den F) (b.den F))
  chk I N sc e := match e with
    | .Compare x [op] [y] _ => decide (op = o.op) && notSet y && a.chk I N sc x && b.chk I N sc y
    | _ => false
  snd {A k F X W} C e h := by
    split at h
    · simp only [Bool.and_eq_true, decide_eq_true_eq] at h
      obtain ⟨⟨⟨h1, h0⟩, h2⟩, h3⟩ := h
      subst h1
      obtain ⟨r, q1, q2⟩ := o.imp C
      exact (pt_cmpR q1 (a.snd C h2) (b.snd C h3) (notSet_ok h0)).imp fun t H Q q => den2_ok q2 (dB_ok q)
    · cases h
def tNot (a : BT) : BT where
  den F := bndE (a.den F) fun c _ => ret (!c)
  chk I N sc e := match e with
    | .UnaryOp .Not x _ => a.chk I N sc x
    | _ => false
  snd {A k F X W} C e h := by
    split at h
    · refine (pt_not (a.snd C h)).imp fun t H Q q => ?_
      obtain ⟨w, r, st, rfl, hr, hs, hp⟩ := q
      refine step (R := RB) (.refl w) hr hs hp fun w1 st1 a x hr1 hs1 e1 rx hp1 => ?_
      subst rx
      exact hp1 w1 _ e1 hs1 rfl
    · cases h
def dAnd (m : En → M Bool) (n : En → M Bool) : En → M Bool := bndE m fun c => if c then n else fun _ => ret false
def dOr (m : En → M Bool) (n : En → M Bool) : En → M Bool := bndE m fun c => if c then (fun _ => ret true) else n
def dAnds : List BT → FT → En → M Bool
  | [], _ => fun _ => opt none
  | [a], F => a.den F
  | a :: b :: r, F => dAnd (a.den F) (dAnds (b :: r) F)
def dOrs : List BT → FT → En → M Bool
  | [], _ => fun _ => opt none
  | [a], F => a.den F
  | a :: b :: r, F => dOr (a.den F) (dOrs (b :: r) F)
def cht (I : Info) (N : List Str) (sc : Scope) : List BT → List Expr → Bool
  | [], [] => true
  | b :: bs, e :: es => b.chk I N sc e && cht I N sc bs es
  | _, _ => false
section
variable {A : Ad} {k : Nat} {F : FT} {X : Cx} {W : WX}
theorem pw_ands (C : Ctx A k F X W) {pos : Pos} : ∀ {bs : List BT} {es : List Expr}, cht A.I X.N X.env.scope bs es = true → es ≠ [] → PW X (.BoolOp .And es pos) (LT A W (dAnds bs F))
  | [], [], _, n => absurd rfl n
  | [], _ :: _, h, _ => by cases h
  | _ :: _, [], h, _ => by cases h
  | [a], [e], h, _ => by
    simp only [cht, Bool.and_eq_true] at h
    exact pw_and1 (a.snd C h.1)
  | [_], _ :: _ :: _, h, _ => by simp [cht] at h
  | _ :: _ :: _, [_], h, _ => by simp [cht] at h
  | a :: b :: r, e :: e2 :: es, h, _ => by
    rw [cht, Bool.and_eq_true] at h
    refine (pw_and (a.snd C h.1) (pw_ands C h.2 (by simp))).imp fun t H Q q => ?_
    obtain ⟨w, r', st, rfl, hr, hs, hp⟩ := q
    refine step (R := RB) (.refl w) hr hs hp fun w1 st1 c x hr1 hs1 e1 rx hp1 => ?_
    subst rx
    cases c with
    | true => exact iteT (LG.of hr1 hs1 e1 (fun _ _ _ _ q => q) hp1)
    | false => exact iteF (hp1 w1 _ e1 hs1 rfl)
theorem pw_ors (C : Ctx A k F X W) {pos : Pos} : ∀ {bs : List BT} {es : List Expr}, cht A.I X.N X.env.scope bs es = true → es ≠ [] → PW X (.BoolOp .Or es pos) (LT A W (dOrs bs F))
  | [], [], _, n => absurd rfl n
  | [], _ :: _, h, _ => by cases h
  | _ :: _, [], h, _ => by cases h
  | [a], [e], h, _ => by
    simp only [cht, Bool.and_eq_true] at h
    exact pw_or1 (a.snd C h.1)
  | [_], _ :: _ :: _, h, _ => by simp [cht] at h
  | _ :: _ :: _, [_], h, _ => by simp [cht] at h
  | a :: b :: r, e :: e2 :: es, h, _ => by
    rw [cht, Bool.and_eq_true] at h
    refine (pw_or (a.snd C h.1) (pw_ors C h.2 (by simp))).imp fun t H Q q => ?_
    obtain ⟨w, r', st, rfl, hr, hs, hp⟩ := q
    refine step (R := RB) (.refl w) hr hs hp fun w1 st1 c x hr1 hs1 e1 rx hp1 => ?_
    subst rx
    cases c with
    | true => exact iteT (hp1 w1 _ e1 hs1 rfl)
    | false => exact iteF (LG.of hr1 hs1 e1 (fun _ _ _ _ q => q) hp1)
end
def notNil : List Expr → Bool
  | [] => false
  | _ => true
theorem notNil_ok {l : List Expr} (h : notNil l = true) : l ≠ [] := by
  rintro rfl
  cases h
def tAnd (bs : List BT) : BT where
  den F := dAnds bs F
  chk I N sc e := match e with
    | .BoolOp .And es _ => notNil es && cht I N sc bs es
    | _ => false
  snd {A k F X W} C e h := by
    split at h
    · simp only [Bool.and_eq_true] at h
      exact (pw_ands C h.2 (notNil_ok h.1)).pt
    · cases h
def tOr (bs : List BT) : BT where
  den F := dOrs bs F
  chk I N sc e := match e with
    | .BoolOp .Or es _ => notNil es && cht I N sc bs es
    | _ => false
  snd {A k F X W} C e h := by
    split at h
    · simp only [Bool.and_eq_true] at h
      exact (pw_ors C h.2 (notNil_ok h.1)).pt
    · cases h
/-! ## and, or, not, if as values -/
def dAndV (m : En → M D) (n : En → M D) : En → M D := bndE m fun c => match c with
  | .bl true => n
  | .bl false => fun _ => ret (.bl false)
  | _ => fun _ => opt none
def dOrV (m : En → M D) (n : En → M D) : En → M D := bndE m fun c => match c with
  | .bl true => fun _ => ret (.bl true)
  | .bl false => n
  | _ => fun _ => opt none
def dAndVs : List BE → FT → En → M D
  | [], _ => fun _ => opt none
  | [a], F => a.den F
  | a :: b :: r, F => dAndV (a.den F) (dAndVs (b :: r) F)
def dOrVs : List BE → FT → En → M D
  | [], _ => fun _ => opt none
  | [a], F => a.den F
  | a :: b :: r, F => dOrV (a.den F) (dOrVs (b :: r) F)
def che (I : Info) (N : List Str) (sc : Scope) : List BE → List Expr → Bool
  | [], [] => true
  | b :: bs, e :: es => b.chk I N sc e && che I N sc bs es
  | _, _ => false
section
variable {A : Ad} {k : Nat} {F : FT} {X : Cx} {W : WX}
theorem pe_ands (C : Ctx A k F X W) {pos : Pos} : ∀ {bs : List BE} {es : List Expr}, che A.I X.N X.env.scope bs es = true → es ≠ [] → PE X (.BoolOp .And es pos) (LE A W (dAndVs bs F))
  | [], [], _, n => absurd rfl n
  | [], _ :: _, h, _ => by cases h
  | _ :: _, [], h, _ => by cases h
  | [a], [e], h, _ => by
    simp only [che, Bool.and_eq_true] at h
    exact pe_one (a.snd C h.1)
  | [_], _ :: _ :: _, h, _ => by simp [che] at h
  | _ :: _ :: _, [_], h, _ => by simp [che] at h
  | a :: b :: r, e :: e2 :: es, h, _ => by
    rw [che, Bool.and_eq_true] at h
    refine (pe_and (a.snd C h.1) (pe_ands C h.2 (by simp))).imp fun t H Q q => ?_
    obtain ⟨w, r', st, rfl, hr, hs, hp⟩ := q
    refine step (R := RD A) (.refl w) hr hs hp fun w1 st1 c x hr1 hs1 e1 rx hp1 => ?_
    cases c with
    | bl c =>
      refine ⟨c, rx.bl, ?_⟩
      cases c with
      | true => exact iteT (LG.of hr1 hs1 e1 (fun _ _ _ _ q => q) hp1)
      | false => exact iteF (hp1 w1 _ e1 hs1 (rep_bl _))
    | _ => exact hp1.elim
theorem pe_ors (C : Ctx A k F X W) {pos : Pos} : ∀ {bs : List BE} {es : List Expr}, che A.I X.N X.env.scope bs es = true → es ≠ [] → PE X (.BoolOp .Or es pos) (LE A W (dOrVs bs F))
  | [], [], _, n => absurd rfl n
  | [], _ :: _, h, _ => by cases h
  | _ :: _, [], h, _ => by cases h
  | [a], [e], h, _ => by
    simp only [che, Bool.and_eq_true] at h
    exact pe_one (a.snd C h.1)
  | [_], _ :: _ :: _, h, _ => by simp [che] at h
  | _ :: _ :: _, [_], h, _ => by simp [che] at h
  | a :: b :: r, e :: e2 :: es, h, _ => by
    rw [che, Bool.and_eq_true] at h
    refine (pe_or (a.snd C h.1) (pe_ors C h.2 (by simp))).imp fun t H Q q => ?_
    obtain ⟨w, r', st, rfl, hr, hs, hp⟩ := q
    refine step (R := RD A) (.refl w) hr hs hp fun w1 st1 c x hr1 hs1 e1 rx hp1 => ?_
    cases c with
    | bl c =>
      refine ⟨c, rx.bl, ?_⟩
      cases c with
      | true => exact iteT (hp1 w1 _ e1 hs1 (rep_bl _))
      | false => exact iteF (LG.of hr1 hs1 e1 (fun _ _ _ _ q => q) hp1)
    | _ => exact hp1.elim
end
def cAnd (bs : List BE) : BE where
  den F := dAndVs bs F
  chk I N sc e := match e with
    | .BoolOp .And es _ => notNil es && che I N sc bs es
    | _ => false
  snd {A k F X W} C e h := by
    split at h
    · simp only [Bool.and_eq_true] at h
      exact pe_ands C h.2 (notNil_ok h.1)
    · cases h
def cOr (bs : List BE) : BE where
  den F := dOrVs bs F
  chk I N sc e := match e with
    | .BoolOp .Or es _ => notNil es && che I N sc bs es
    | _ => false
  snd {A k F X W} C e h := by
    split at h
    · simp only [Bool.and_eq_true] at h
      exact pe_ors C h.2 (notNil_ok h.1)
    · cases h
def fNot : D → Option D
  | .bl b => some (.bl (!b))
  | _ => none
def cNot (a : BE) : BE where
  den F := den1 fNot (a.den F)
  chk I N sc e := match e with
    | .UnaryOp .Not x _ => a.chk I N sc x
    | _ => false
  snd {A k F X W} C e h := by
    split at h
    · refine (pe_not (a.snd C h)).imp fun t H Q q => ?_
      refine den1_ok (r := fun x H1 Q => ∃ c, x = .bl c ∧ Q (.bl (!c)) H1) (fun w st a x d Q hs rp e q => ?_) q
      cases a <;> cases e
      exact ⟨_, rp.bl, q w _ (.refl w) hs (rep_bl _)⟩
    · cases h
def fNeg : D → Option D
  | .int b => some (.int (-b))
  | _ => none
def cNeg (a : BE) : BE where
  den F := den1 fNeg (a.den F)
  chk I N sc e := match e with
    | .UnaryOp .USub x _ => a.chk I N sc x
    | _ => false
  snd {A k F X W} C e h := by
    split at h
    · refine (pe_un un_neg (a.snd C h)).imp fun t H Q q => ?_
      refine den1_ok (fun w st a x d Q hs rp e q => ?_) q
      cases a <;> cases e
      exact ⟨_, rp.int, q w _ (.refl w) hs (rep_int _)⟩
    · cases h
def dIf {α : Type} (c : En → M Bool) (a b : En → M α) : En → M α := bndE c fun k => if k then a else b
def cIf (c : BT) (a b : BE) : BE where
  den F := dIf (c.den F) (a.den F) (b.den F)
  chk I N sc e := match e with
    | .IfExp t x y _ => c.chk I N sc t && a.chk I N sc x && b.chk I N sc y
    | _ => false
  snd {A k F X W} C e h := by
    split at h
    · simp only [Bool.and_eq_true] at h
      refine (pe_ifExp (c.snd C h.1.1) (a.snd C h.1.2) (b.snd C h.2)).imp fun t H Q q => ?_
      obtain ⟨w, r', st, rfl, hr, hs, hp⟩ := q
      refine step (R := RB) (.refl w) hr hs hp fun w1 st1 c x hr1 hs1 e1 rx hp1 => ?_
      subst rx
      cases c with
      | true => exact iteT (LG.of hr1 hs1 e1 (fun _ _ _ _ q => q) hp1)
      | false => exact iteF (LG.of hr1 hs1 e1 (fun _ _ _ _ q => q) hp1)
    · cases h

/-! ## attributes -/
theorem look_zip : ∀ {ns : List Str} {vs : List V} {i : Nat} {x : Str} {v : V}, ns.Nodup → ns[i]? = some x → vs[i]? = some v → (ns.zip vs).lookup x = some v
  | [], _, _, _, _, _, h, _ => by simp at h
  | n :: ns, [], _, _, _, _, _, h => by simp at h
  | n :: ns, u :: vs, 0, x, v, _, h1, h2 => by
    simp at h1 h2
    subst h1 h2
    simp [List.zip_cons_cons, List.lookup]
  | n :: ns, u :: vs, i + 1, x, v, nd, h1, h2 => by
    simp at h1 h2
    have hn : x ≠ n := by
      rintro rfl
      exact (List.nodup_cons.mp nd).1 (List.mem_of_getElem? h1)
    rw [List.zip_cons_cons, List.lookup_cons, beq_eq_false_iff_ne.mpr hn]
    exact look_zip (List.nodup_cons.mp nd).2 h1 h2
/-- the place of a field -/
def fldIx (c f : Nat) : Nat := (clF c).idxOf f
/-- the field f of what d stands for -/
def dAttr (f : Nat) (d : D) : M D := fun st => match d with
  | .obj c l => opt (l[fldIx c f]?) st
  | .loc n => (match st[n]? with
    | some (.ins c l) => opt (l[fldIx c f]?) st
    | _ => .bad)
  | _ => .bad
theorem idx_name {c f i : Nat} (h : fldIx c f = i) (hi : i < (clF c).length) : (names c)[i]? = some (fdN f) := by
  unfold names
  subst h
  unfold fldIx at hi ⊢
  rw [List.getElem?_map, List.getElem?_eq_getElem hi, List.getElem_idxOf]
  rfl
theorem opt_exc {α : Type} {o : Option α} {st st' : Sto} {x : Exn} : opt o st ≠ .exc x st' := by
  cases o <;> exact fun e => nomatch e
theorem attr_run {A : Ad} {k : Nat} {F : FT} {X : Cx} {W : WX} (C : Ctx A k F X W) {w : Wd} {st : Sto} {f : Nat} {d a : D} {x : V} (hs : SRel A w st) (r : Rep A w a x) {st' : Sto} (e : dAttr f a st = .ok d st') :
    st' = st ∧ ∃ p c dx fs v, x = .ref p ∧ w.H p = some (.ins c dx fs) ∧ Cls X.K c ∧ NoAttr X.K c (fdN f) ∧ fs.lookup (fdN f) = some v ∧ Rep A w d v := by
  have fin : ∀ (c : Nat) (l : List D) (p dx : Addr) (vs : List V), (c ∈ A.I.cs ∧ l.length ≤ (clF c).length) → w.H p = some (.ins (A.ca c) dx ((names c).zip vs)) → Reps A w l vs → opt (l[fldIx c f]?) st = .ok d st' →
      st' = st ∧ ∃ C dx' fs v, w.H p = some (.ins C dx' fs) ∧ Cls X.K C ∧ NoAttr X.K C (fdN f) ∧ fs.lookup (fdN f) = some v ∧ Rep A w d v := by
    intro c l p dx vs hcs hp hv eo
    have cf := C.facts.cl c hcs.1
    have cl1 := cf.cl
    have cl2 := cf.no
    have cl3 := cf.nd
    cases ex : l[fldIx c f]? with
    | none => rw [ex] at eo; cases eo
    | some d' =>
      rw [ex] at eo
      cases eo
      obtain ⟨v, hv1, hv2⟩ := hv.get ex
      have hi : fldIx c f < (clF c).length := Nat.lt_of_lt_of_le (List.getElem?_eq_some_iff.mp ex).1 hcs.2
      have hn := idx_name rfl hi
      exact ⟨rfl, A.ca c, dx, _, v, hp, by rw [C.hK]; exact cl1, by rw [C.hK]; exact cl2 _ (List.mem_of_getElem? hn), look_zip cl3 hn hv1, hv2⟩
  cases a with
  | obj c l =>
    obtain ⟨p, dx, vs, rfl, _, h0, hp, hv⟩ := r.obj
    obtain ⟨e1, c', dx', fs, v, q⟩ := fin c l p dx vs h0 hp hv e
    exact ⟨e1, p, c', dx', fs, v, rfl, q⟩
  | loc n =>
    obtain ⟨p, rfl, hm⟩ := r.loc
    unfold dAttr at e
    simp only at e
    cases eo : st[n]? with
    | none => rw [eo] at e; cases e
    | some o =>
      rw [eo] at e
      cases o with
      | lst _ => cases e
      | ins c l =>
        obtain ⟨dx, vs, h0, hp, hv⟩ := hs.ob n _ p eo hm
        obtain ⟨e1, c', dx', fs, v, q⟩ := fin c l p dx vs h0 hp hv e
        exact ⟨e1, p, c', dx', fs, v, rfl, q⟩
  | _ => cases e
def cAttr (f : Nat) (a : BE) : BE where
  den F := bndE (a.den F) fun d _ => dAttr f d
  chk I N sc e := match e with
    | .Attribute x y _ => beqS y (fdN f) && noSup x && a.chk I N sc x
    | _ => false
  snd {A k F X W} C e h := by
    split at h
    · simp only [Bool.and_eq_true] at h
      have e1 := beqS_eq h.1.1
      subst e1
      refine (pe_fld (a.snd C h.2) (base_ok h.1.2)).imp fun t H Q q => ?_
      obtain ⟨w, r', st, rfl, hr, hs, hp⟩ := q
      refine step (R := RD A) (.refl w) hr hs hp fun w1 st1 a x hr1 hs1 e1 rx hp1 => ?_
      cases ea : dAttr f a st1 with
      | ok d st2 =>
        rw [ea] at hp1
        obtain ⟨rfl, p, c, dx, fs, v, q1, q2, q3, q4, q5, q6⟩ := attr_run C hs1 rx ea
        exact ⟨p, c, dx, fs, v, q1, q2, q3, q4, q5, hp1 w1 v e1 hs1 q6⟩
      | exc _ _ =>
        cases a with
        | obj c l => exact (opt_exc ea).elim
        | loc n =>
          unfold dAttr at ea
          simp only at ea
          cases eo : st1[n]? with
          | none => rw [eo] at ea; cases ea
          | some o =>
            rw [eo] at ea
            cases o with
            | lst _ => cases ea
            | ins c l => exact (opt_exc ea).elim
        | _ => cases ea
      | bad => rw [ea] at hp1; exact hp1.elim
    · cases h
end Rf

set_option Elab.async false
set_option linter.all false
set_option maxRecDepth 100000
set_option maxHeartbeats 1000000
namespace Rf
open PySem L2

/-! ## what is walked -/
def JOk (A : Ad) (w : Wd) (l : List D) (J : It) : Prop :=
  ∃ (G : Hp → Prop) (Y : Nat → Hp → V → Hp → Prop), Walk J l.length G Y ∧ (∀ w2, Le w w2 → Wf w2 → G w2.H) ∧
    ∀ (w2 : Wd) (st : Sto) (i : Nat) (d : D) (x : V) (H' : Hp), Le w w2 → SRel A w2 st → l[i]? = some d → Y i w2.H x H' → ∃ w3, w3.H = H' ∧ Ext w2 w3 ∧ SRel A w3 st ∧ Rep A w3 d x
abbrev RJ (A : Ad) : Wd → Wd → List D → It → Prop := fun _ w' => JOk A w'
abbrev LI (A : Ad) (W : WX) (den : En → M (List D)) : TI := LG A (RJ A) W den
structure BI where
  den : FT → En → M (List D)
  chk : Info → List Str → Scope → Expr → Expr → Bool
  snd : ∀ {A : Ad} {k : Nat} {F : FT} {X : Cx} {W : WX}, Ctx A k F X W → ∀ {tg e : Expr}, chk A.I X.N X.env.scope tg e = true → PI X tg e (LI A W (den F))
theorem Le.refl (w : Wd) : Le w w := ⟨fun _ _ h => h, fun a h => ⟨h, rfl⟩⟩
theorem Le.trans {w w' w'' : Wd} (a : Le w w') (b : Le w' w'') : Le w w'' := ⟨fun n p h => b.mu n p (a.mu n p h), fun p h => ⟨(b.s p (a.s p h).1).1, ((b.s p (a.s p h).1).2).trans (a.s p h).2⟩⟩
section
variable {A : Ad} {w : Wd} {l : List D} {vs : List V} {a : Addr} {K : PySem.W.Frag}
theorem jok_at {J : It} {G : Hp → Prop} (k : Walk J l.length G (YAt vs)) (hG : ∀ w2, Le w w2 → Wf w2 → G w2.H) (h : Reps A w l vs) : JOk A w l J := by
  refine ⟨G, YAt vs, k, hG, fun w2 st i d x H' e2 s2 hd y => ?_⟩
  obtain ⟨rfl, hx⟩ := y
  obtain ⟨v, h1, h2⟩ := h.get hd
  rw [h1] at hx
  cases hx
  exact ⟨w2, rfl, .refl w2, s2, h2.le e2⟩
theorem jok_lst (hK : K = A.K) (h1 : LAt A w a vs) (h : Reps A w l vs) : JOk A w l (Itl K a) := by
  subst hK
  have k : Walk (Itl A.K a) vs.length (fun H => SqL A.K H a vs) (YAt vs) := walk_list
  rw [h.length] at k
  exact jok_at k (fun w2 e _ => (h1.le e).seq) h
theorem jok_frl (hK : K = A.K) (h1 : FAt A w a vs) (h : Reps A w l vs) : JOk A w l (Itl K a) := by
  subst hK
  have k : Walk (Itl A.K a) vs.length (fun H => SqL A.K H a vs) (YAt vs) := walk_list
  rw [h.length] at k
  exact jok_at k (fun w2 e _ => (h1.le e).seq) h
theorem jok_tup (hK : K = A.K) (h1 : TAt A w a vs) (h : Reps A w l vs) : JOk A w l (Itt K a) := by
  subst hK
  have k : Walk (Itt A.K a) vs.length (fun H => SqT A.K H a vs) (YAt vs) := walk_tup
  rw [h.length] at k
  exact jok_at k (fun w2 e _ => (h1.le e).seq) h
theorem jok_frt (hK : K = A.K) (h1 : KTup A.K a vs) (h : Reps A w l vs) : JOk A w l (Itt K a) := by
  subst hK
  have k : Walk (Itt A.K a) vs.length (fun H => SqT A.K H a vs) (YAt vs) := walk_tup
  rw [h.length] at k
  exact jok_at k (fun w2 e _ => .inr h1) h
theorem jok_str {s : List Nat} (g : StrOk s) : JOk A w (signs s) (Its ⟨s.toArray⟩) := by
  refine ⟨_, _, by have k := walk_str (z := ⟨s.toArray⟩); simpa [signs] using k, fun _ _ _ => trivial, fun w2 st i d x H' e2 s2 hd y => ?_⟩
  obtain ⟨rfl, c, hc, rfl⟩ := y
  refine ⟨w2, rfl, .refl w2, s2, ?_⟩
  have hc' : s[i]? = some c := by simpa using hc
  simp only [signs, List.getElem?_map, hc', Option.map_some, Option.some.injEq] at hd
  subst hd
  exact rep_str ⟨by rw [sizeLine_eq]; show 1 ≤ _; omega, fun c' h => by simp only [List.mem_singleton] at h; subst h; exact g.2 _ (List.mem_of_getElem? hc')⟩
end
def items : D → Option (List D)
  | .lst l => some l
  | .frl l => some l
  | .tup l => some l
  | .frt l => some l
  | .str s => some (signs s)
  | _ => none
/-- over a list, a tuple, a text -/
def iSeq (b : BE) : BI where
  den F := bndE (b.den F) fun d _ => opt (items d)
  chk I N sc _ e := b.chk I N sc e
  snd {A k F X W} C tg e h := by
    refine ⟨fun pins s t H R I q => ?_⟩
    obtain ⟨w, r, st, rfl, hr, hs, hp⟩ := q
    -- the way is chosen by what comes
    have go : ∀ (rd : TE → TI) (_ : ∀ te, PE X e te → PI X tg e (rd te)),
        (∀ te : TE, (∀ Q : VK, (∀ w' st' d v, Ext w w' → SRel A w' st' → Rep A w' d v → b.den F r st = .ok d st' → Q v w'.H) → te t w.H Q) → rd te t w.H R) →
        (∃ d st', b.den F r st = .ok d st') ∨ (∃ x st', b.den F r st = .exc x st') → wpAny (model X.prog X.w) X.A (eval e X.env) (fun v s1 => wpAny (model X.prog X.w) X.A (pyIter v) (PIE X pins t tg R) X.xe s1) X.xe s := by
      intro rd hrd hq hx
      refine (hrd _ (b.snd C h)).run pins s t w.H R I (hq _ fun Q hQ => ?_)
      refine ⟨w, r, st, rfl, hr, hs, ?_⟩
      unfold bndE bnd at hp
      cases e1 : b.den F r st with
      | ok d st1 => exact fun w' v ex sr rp => hQ w' st1 d v ex sr rp e1
      | exc x st1 => rw [e1] at hp; exact hp
      | bad => rw [e1] at hp; exact hp.elim
    have hp0 := hp
    unfold bndE bnd at hp
    cases e1 : b.den F r st with
    | bad => rw [e1] at hp; exact hp.elim
    | exc x st1 =>
      refine go (iList X.K) (fun te q => pi_list q) (fun te hte => hte _ fun w' st' d v _ _ _ e2 => ?_) (.inr ⟨x, st1, e1⟩)
      rw [e1] at e2; cases e2
    | ok d st1 =>
      rw [e1] at hp
      cases d with
      | lst l =>
        refine go (iList X.K) (fun te q => pi_list q) (fun te hte => hte _ fun w' st' d v ex sr rp e2 => ?_) (.inl ⟨_, st1, e1⟩)
        rw [e1] at e2; cases e2
        obtain ⟨a, vs, rfl, h1, h2⟩ := rp.lst
        exact ⟨a, rfl, ⟨vs, by rw [C.hK]; exact h1.seq⟩, hp w' _ ex sr (jok_lst C.hK h1 h2)⟩
      | frl l =>
        refine go (iList X.K) (fun te q => pi_list q) (fun te hte => hte _ fun w' st' d v ex sr rp e2 => ?_) (.inl ⟨_, st1, e1⟩)
        rw [e1] at e2; cases e2
        obtain ⟨a, vs, rfl, h1, h2⟩ := rp.frl
        exact ⟨a, rfl, ⟨vs, by rw [C.hK]; exact h1.seq⟩, hp w' _ ex sr (jok_frl C.hK h1 h2)⟩
      | tup l =>
        refine go (iTup X.K) (fun te q => pi_tup q) (fun te hte => hte _ fun w' st' d v ex sr rp e2 => ?_) (.inl ⟨_, st1, e1⟩)
        rw [e1] at e2; cases e2
        obtain ⟨a, vs, rfl, h1, h2⟩ := rp.tup
        exact ⟨a, rfl, ⟨vs, by rw [C.hK]; exact h1.seq⟩, hp w' _ ex sr (jok_tup C.hK h1 h2)⟩
      | frt l =>
        refine go (iTup X.K) (fun te q => pi_tup q) (fun te hte => hte _ fun w' st' d v ex sr rp e2 => ?_) (.inl ⟨_, st1, e1⟩)
        rw [e1] at e2; cases e2
        obtain ⟨a, vs, rfl, h0, h1, h2⟩ := rp.frt
        exact ⟨a, rfl, ⟨vs, by rw [C.hK]; exact .inr h1⟩, hp w' _ ex sr (jok_frt C.hK h1 h2)⟩
      | str l =>
        refine go iStr (fun te q => pi_str q) (fun te hte => hte _ fun w' st' d v ex sr rp e2 => ?_) (.inl ⟨_, st1, e1⟩)
        rw [e1] at e2; cases e2
        obtain ⟨rfl, g⟩ := rp.str
        exact ⟨_, rfl, hp w' _ ex sr (jok_str g)⟩
      | _ => exact hp.elim
def intsD (lo : Int) (n : Nat) : List D := (List.range n).map fun i => .int (lo + (i : Nat))
theorem jok_range {A : Ad} {w : Wd} {lo : Int} {n : Nat} : JOk A w (intsD lo n) (Itr lo n) := by
  refine ⟨_, _, by have k := walk_range (lo := lo) (n := n); simpa [intsD] using k, fun _ _ _ => trivial, fun w2 st i d x H' e2 s2 hd y => ?_⟩
  obtain ⟨rfl, rfl⟩ := y
  refine ⟨w2, rfl, .refl w2, s2, ?_⟩
  simp only [intsD, List.getElem?_map, Option.map_eq_some_iff] at hd
  obtain ⟨j, h1, rfl⟩ := hd
  obtain ⟨h2, h3⟩ := List.getElem?_eq_some_iff.mp h1
  rw [List.getElem_range] at h3
  subst h3
  exact rep_int _
def inR (i : Int) : Bool := decide (-(2 ^ 62) ≤ i) && decide (i < 2 ^ 62)
def fRng1 : List D → Option (List D)
  | [.int j] => if inR j then some (intsD 0 j.toNat) else none
  | _ => none
def fRng2 : List D → Option (List D)
  | [.int i, .int j] => if inR i && inR j then some (intsD i (j - i).toNat) else none
  | _ => none
theorem blN4 : blN 4 = ("range" : Str) := by decide +kernel
/-- range(n) -/
def iRng1 (a : BE) : BI where
  den F := bndE (dns [a] F) fun l _ => opt (fRng1 l)
  chk I N sc _ e := match e with
    | .Call (.Name x _) [e] [] _ => beqS x (blN 4) && I.bs.contains 4 && glbB sc x && notStar e && a.chk I N sc e
    | _ => false
  snd {A k F X W} C tg e h := by
    split at h
    · rename_i x p e1 pos
      simp only [Bool.and_eq_true, List.contains_iff_mem] at h
      obtain ⟨⟨⟨⟨h1, h2⟩, h3⟩, h4⟩, h5⟩ := h
      have ex := beqS_eq h1
      subst ex
      have hm := C.facts.bl _ h2
      have hg := glbB_ok (X := X) h3
      rw [blN4] at hm hg ⊢
      have ha : PA X [e1] (LA A W (dns [a] F)) := pa_of C (by simp [chs, h4, h5])
      refine ⟨fun pins s t H R I q => (pi_range1 hg hm ha (star_cons h4)).run pins s t H R I ?_⟩
      obtain ⟨w, r, st, rfl, hr, hs, hp⟩ := q
      refine step (R := RL A) (.refl w) hr hs hp fun w1 st1 a x hr1 hs1 e1 rx hp1 => ?_
      obtain ⟨l, el, hq⟩ := opt_post hp1
      unfold fRng1 at el
      split at el
      · split at el
        · rename_i hj
          cases el
          obtain ⟨v, rfl, hv⟩ := rx.one'
          simp only [inR, Bool.and_eq_true, decide_eq_true_eq] at hj
          exact ⟨_, by rw [hv.int], hj.1, hj.2, hq w1 _ e1 hs1 jok_range⟩
        · cases el
      · cases el
    · cases h
/-- range(a, b) -/
def iRng2 (a b : BE) : BI where
  den F := bndE (dns [a, b] F) fun l _ => opt (fRng2 l)
  chk I N sc _ e := match e with
    | .Call (.Name x _) [e, e'] [] _ => beqS x (blN 4) && I.bs.contains 4 && glbB sc x && notStar e && a.chk I N sc e && notStar e' && b.chk I N sc e'
    | _ => false
  snd {A k F X W} C tg e h := by
    split at h
    · rename_i x p e1 e2 pos
      simp only [Bool.and_eq_true, List.contains_iff_mem] at h
      obtain ⟨⟨⟨⟨⟨⟨h1, h2⟩, h3⟩, h4⟩, h5⟩, h6⟩, h7⟩ := h
      have ex := beqS_eq h1
      subst ex
      have hm := C.facts.bl _ h2
      have hg := glbB_ok (X := X) h3
      rw [blN4] at hm hg ⊢
      have ha : PA X [e1, e2] (LA A W (dns [a, b] F)) := pa_of C (by simp [chs, h4, h5, h6, h7])
      refine ⟨fun pins s t H R I q => (pi_range2 hg hm ha (by rw [star_cons h4, star_cons h6]; rfl) (by rw [star_cons h6]; rfl)).run pins s t H R I ?_⟩
      obtain ⟨w, r, st, rfl, hr, hs, hp⟩ := q
      refine step (R := RL A) (.refl w) hr hs hp fun w1 st1 a x hr1 hs1 e1 rx hp1 => ?_
      obtain ⟨l, el, hq⟩ := opt_post hp1
      unfold fRng2 at el
      split at el
      · split at el
        · rename_i hj
          cases el
          obtain ⟨v, u, rfl, hv, hu⟩ := rx.two
          simp only [inR, Bool.and_eq_true, decide_eq_true_eq] at hj
          exact ⟨_, _, by rw [hv.int, hu.int], ⟨hj.1.1, hj.1.2, hj.2.1, hj.2.2⟩, hq w1 _ e1 hs1 jok_range⟩
        · cases el
      · cases el
    · cases h

/-! ## the frame -/
theorem EnvR.set {A : Ad} {w : Wd} {r : En} {t : St} {i : Nat} {d : D} {v : V} (h : EnvR A w r t) (hv : Rep A w d v) : EnvR A w (r.set i (.val d)) (t.set i (some v)) := by
  refine ⟨by simp [h.len], fun j x u h1 h2 => ?_, fun a b d1 d2 u hab h1 h2 h3 h4 => ?_⟩
  · by_cases e : i = j
    · subst e
      have hi : i < r.length := by
        have := (List.getElem?_eq_some_iff.mp h1).1
        simpa using this
      rw [List.getElem?_set_self hi] at h1
      rw [List.getElem?_set_self (by rw [← h.len]; exact hi)] at h2
      cases h1; cases h2
      exact ⟨v, rfl, hv⟩
    · rw [List.getElem?_set_ne e] at h1 h2
      exact h.at_ j x u h1 h2
  · have ea : i ≠ a := by
      rintro rfl
      have hi : i < r.length := by
        have := (List.getElem?_eq_some_iff.mp h1).1
        simpa using this
      rw [List.getElem?_set_self hi] at h1
      cases h1
    have eb : i ≠ b := by
      rintro rfl
      have hi : i < r.length := by
        have := (List.getElem?_eq_some_iff.mp h2).1
        simpa using this
      rw [List.getElem?_set_self hi] at h2
      cases h2
    rw [List.getElem?_set_ne ea] at h1 h3
    rw [List.getElem?_set_ne eb] at h2 h4
    exact h.dis a b d1 d2 u hab h1 h2 h3 h4

/-! ## targets -/
def stoB (sc : Scope) (x : Str) : Bool := match sc.names.lookup x with
  | some .local | some .cell => true
  | _ => false
theorem stoB_ok {sc : Scope} {x : Str} (h : stoB sc x = true) : L2.Loc sc x := by
  unfold stoB at h
  unfold L2.Loc
  split at h <;> simp_all
structure BG where
  set : D → En → Option En
  /-- the first: at a def's own level, where a name kept in a cell may stand -/
  chk : Bool → List Str → Scope → Expr → Bool
  nn : Expr → Bool
  ws : List Nat
  /-- only the slots ws change -/
  out : ∀ {d r r'}, set d r = some r' → r'.length = r.length ∧ ∀ i, i ∉ ws → r'[i]? = r[i]?
  nov : ∀ {d r r'}, set d r = some r' → ∀ i ∈ ws, ∀ d', r'[i]? ≠ some (.own d')
  snd : ∀ {A : Ad} {X : Cx} {o : Bool}, (o = true → ∀ x, X.fn x = true) → X.K = A.K → X.N.Nodup → X.calm = true → ∀ {e : Expr}, chk o X.N X.env.scope e = true →
    PG X e fun v t H Q => ∃ (w : Wd) (r r' : En) (d : D), w.H = H ∧ EnvR A w r t ∧ Rep A w d v ∧ set d r = some r' ∧ ∀ t', EnvR A w r' t' → (∀ i, i ∉ ws → t'[i]? = t[i]?) → Q t' H
def gNm (i : Nat) : BG where
  set d r := if i < r.length then some (r.set i (.val d)) else none
  chk o N sc e := match e with
    | .Name x _ => (match N[i]? with
      | some y => beqS x y && if o then stoB sc x else locB sc x
      | none => false)
    | _ => false
  nn _ := true
  ws := [i]
  out {d r r'} h := by
    split at h
    · cases h
      exact ⟨by simp, fun j hj => List.getElem?_set_ne (by simpa using fun e => hj (by simp [e]))⟩
    · cases h
  nov {d r r'} h j hj d' := by
    split at h
    · cases h
      have e : j = i := by simpa using hj
      subst e
      rw [List.getElem?_set_self (by assumption)]
      simp
    · cases h
  snd {A X o} hf hK nd hc e h := by
    split at h
    · rename_i x pos
      split at h
      · rename_i y hy
        simp only [Bool.and_eq_true] at h
        have e1 := beqS_eq h.1
        subst e1
        have hl : L2.Loc X.env.scope x ∧ (X.fn x = true ∨ X.env.scope.names.lookup x = some .local) := by
          cases o with
          | true => exact ⟨stoB_ok h.2, .inl (hf rfl x)⟩
          | false => exact ⟨.inl (locB_ok h.2), .inr (locB_ok h.2)⟩
        refine ⟨fun pins s t H v u Q I rv q => (pg_name nd hy hl.1 hl.2).run pins s t H v u Q I rv ?_⟩
        obtain ⟨w, r, r', d, rfl, hr, hv, e, q⟩ := q
        split at e
        · cases e
          exact q _ (hr.set hv) fun j hj => List.getElem?_set_ne (by simpa using fun e => hj (by simp [e]))
        · cases e
      · cases h
    · cases h
/-- several, one after another -/
def sets : List BG → List D → En → Option En
  | [], [], r => some r
  | g :: gs, d :: ds, r => (g.set d r).bind fun r' => sets gs ds r'
  | _, _, _ => none
def chg (o : Bool) (N : List Str) (sc : Scope) : List BG → List Expr → Bool
  | [], [] => true
  | g :: gs, e :: es => notStar e && g.chk o N sc e && chg o N sc gs es
  | _, _ => false
end Rf

set_option Elab.async false
set_option linter.all false
set_option maxRecDepth 100000
set_option maxHeartbeats 1000000
namespace Rf
open PySem L2

theorem as_cons {e : Expr} {es : List Expr} {env : Env} (h : notStar e = true) : assignEach (e :: es) env = (false, assign e env) :: assignEach es env := by
  cases e <;> first | rfl | cases h
abbrev TGsL (A : Ad) (gs : List BG) : TGs := fun vs t H Q => ∃ (w : Wd) (r r' : En) (ds : List D), w.H = H ∧ EnvR A w r t ∧ Reps A w ds vs ∧ sets gs ds r = some r' ∧ ∀ t', EnvR A w r' t' → (∀ i, i ∉ gs.flatMap (·.ws) → t'[i]? = t[i]?) → Q t' H
theorem _root_.L2.PGs.imp {X : Cx} {e : List Expr} {t t' : TGs} (h : PGs X e t) (k : ∀ v σ H Q, t' v σ H Q → t v σ H Q) : PGs X e t' := ⟨fun pins s σ H v u Q I rv q => h.run pins s σ H v u Q I rv (k v σ H Q q)⟩
theorem _root_.L2.PG.imp {X : Cx} {e : Expr} {t t' : TG} (h : PG X e t) (k : ∀ v σ H Q, t' v σ H Q → t v σ H Q) : PG X e t' := ⟨fun pins s σ H v u Q I rv q => h.run pins s σ H v u Q I rv (k v σ H Q q)⟩
theorem pgs_of {A : Ad} {X : Cx} {o : Bool} (hf : o = true → ∀ x, X.fn x = true) (hK : X.K = A.K) (nd : X.N.Nodup) (hc : X.calm = true) : ∀ {gs : List BG} {es : List Expr}, chg o X.N X.env.scope gs es = true → PGs X es (TGsL A gs)
  | [], [], _ => pgs_nil.imp fun v t H Q q => by
    obtain ⟨w, r, r', ds, rfl, hr, hv, e, q⟩ := q
    cases ds with
    | nil =>
      cases e
      simp only [Reps] at hv
      exact ⟨hv, q t hr fun _ _ => rfl⟩
    | cons _ _ => cases e
  | [], _ :: _, h => by cases h
  | _ :: _, [], h => by cases h
  | g :: gs, e :: es, h => by
    simp only [chg, Bool.and_eq_true] at h
    refine (pgs_cons (g.snd hf hK nd hc h.1.2) (pgs_of hf hK nd hc h.2) (by rw [as_cons h.1.1]; rfl)).imp fun v t H Q q => ?_
    obtain ⟨w, r, r', ds, rfl, hr, hv, e, q⟩ := q
    cases ds with
    | nil => cases e
    | cons d ds =>
      simp only [Reps] at hv
      obtain ⟨u, us, rfl, h1, h2⟩ := hv
      simp only [sets, Option.bind_eq_some_iff] at e
      obtain ⟨r1, e1, e2⟩ := e
      refine ⟨u, us, rfl, w, r, r1, d, rfl, hr, h1, e1, fun t1 hr1 ho1 => ?_⟩
      refine ⟨w, r1, r', ds, rfl, hr1, h2, e2, fun t2 hr2 ho2 => q t2 hr2 fun i hi => ?_⟩
      simp only [List.flatMap_cons, List.mem_append, not_or] at hi
      rw [ho2 i hi.2, ho1 i hi.1]
theorem as_len {X : Env} : ∀ {es : List Expr}, (assignEach es X).length = es.length
  | [] => rfl
  | e :: es => by
    cases e <;> simp [assignEach, as_len (es := es)]
theorem as_star {X : Env} : ∀ {es : List Expr}, es.all notStar = true → (assignEach es X).findIdx? (·.1) = none
  | [], _ => rfl
  | e :: es, h => by
    simp only [List.all_cons, Bool.and_eq_true] at h
    rw [as_cons h.1, List.findIdx?_cons]
    simp [as_star h.2]
theorem chg_star {o : Bool} {N : List Str} {sc : Scope} : ∀ {gs : List BG} {es : List Expr}, chg o N sc gs es = true → es.all notStar = true ∧ es.length = gs.length
  | [], [], _ => ⟨rfl, rfl⟩
  | [], _ :: _, h => by cases h
  | _ :: _, [], h => by cases h
  | g :: gs, e :: es, h => by
    simp only [chg, Bool.and_eq_true] at h
    obtain ⟨h1, h2⟩ := chg_star h.2
    exact ⟨by simp [h.1.1, h1], by simp [h2]⟩
theorem sets_out : ∀ {gs : List BG} {ds : List D} {r r' : En}, sets gs ds r = some r' → r'.length = r.length ∧ ds.length = gs.length ∧ ∀ i, i ∉ gs.flatMap (·.ws) → r'[i]? = r[i]?
  | [], [], _, _, h => by cases h; exact ⟨rfl, rfl, fun _ _ => rfl⟩
  | [], _ :: _, _, _, h => by cases h
  | _ :: _, [], _, _, h => by cases h
  | g :: gs, d :: ds, r, r', h => by
    simp only [sets, Option.bind_eq_some_iff] at h
    obtain ⟨r1, e1, e2⟩ := h
    obtain ⟨a1, a2⟩ := g.out e1
    obtain ⟨b1, b2, b3⟩ := sets_out e2
    refine ⟨b1.trans a1, by simp [b2], fun i hi => ?_⟩
    simp only [List.flatMap_cons, List.mem_append, not_or] at hi
    rw [b3 i hi.2, a2 i hi.1]
theorem sets_nov : ∀ {gs : List BG} {ds : List D} {r r' : En}, sets gs ds r = some r' → ∀ i ∈ gs.flatMap (·.ws), ∀ d', r'[i]? ≠ some (.own d')
  | [], [], _, _, h, i, hi, _ => by simp at hi
  | [], _ :: _, _, _, h, _, _, _ => by cases h
  | _ :: _, [], _, _, h, _, _, _ => by cases h
  | g :: gs, d :: ds, r, r', h, i, hi, d' => by
    simp only [sets, Option.bind_eq_some_iff] at h
    obtain ⟨r1, e1, e2⟩ := h
    by_cases hg : i ∈ gs.flatMap (·.ws)
    · exact sets_nov e2 i hg d'
    · obtain ⟨_, _, b3⟩ := sets_out e2
      rw [b3 i hg]
      simp only [List.flatMap_cons, List.mem_append] at hi
      exact g.nov e1 i (hi.resolve_right hg) d'
/-- (a, b, ..) out of a tuple, a list -/
def gTp (gs : List BG) : BG where
  set d r := match d with
    | .tup l => sets gs l r
    | _ => none
  chk o N sc e := match e with
    | .Tuple es _ _ => chg o N sc gs es
    | _ => false
  nn _ := true
  ws := gs.flatMap (·.ws)
  out {d r r'} h := by
    split at h
    · obtain ⟨h1, _, h2⟩ := sets_out h
      exact ⟨h1, h2⟩
    · cases h
  nov {d r r'} h := by
    split at h
    · exact sets_nov h
    · cases h
  snd {A X o} hf hK nd hc e h := by
    split at h
    · rename_i es k pos
      obtain ⟨h1, h2⟩ := chg_star h
      refine (pg_tup hc (pgs_of hf hK nd hc h) (n := es.length) as_len (as_star h1)).imp fun v t H Q q => ?_
      obtain ⟨w, r, r', d, rfl, hr, hv, e, q⟩ := q
      split at e
      · rename_i l
        obtain ⟨a, vs, rfl, g1, g2⟩ := hv.tup
        obtain ⟨_, g3, _⟩ := sets_out e
        exact ⟨a, vs, rfl, by rw [hK]; exact g1.seq, by rw [g2.length, g3, h2], w, r, r', l, rfl, hr, g2, e, q⟩
      · cases e
    · cases h

/-! ## comprehensions -/
/-- the block's own slots forgotten -/
def wipeE (r : En) : List Nat → En
  | [] => r
  | v :: vs => (wipeE r vs).set v .none
theorem wipe_env {A : Ad} {w : Wd} {r : En} {t : St} (h : EnvR A w r t) : ∀ vs : List Nat, EnvR A w (wipeE r vs) (wipe t vs)
  | [] => h
  | i :: vs => by
    have ih := wipe_env h vs
    unfold wipeE wipe
    refine ⟨by simp [ih.len], fun j x u h1 h2 => ?_, fun a b d1 d2 u hab h1 h2 h3 h4 => ?_⟩
    · by_cases e : i = j
      · subst e
        have hi : i < (wipeE r vs).length := by
          have := (List.getElem?_eq_some_iff.mp h1).1
          simpa using this
        rw [List.getElem?_set_self hi] at h1
        cases h1
        trivial
      · rw [List.getElem?_set_ne e] at h1 h2
        exact ih.at_ j x u h1 h2
    · have ea : i ≠ a := by
        rintro rfl
        have hi : i < (wipeE r vs).length := by
          have := (List.getElem?_eq_some_iff.mp h1).1
          simpa using this
        rw [List.getElem?_set_self hi] at h1
        cases h1
      have eb : i ≠ b := by
        rintro rfl
        have hi : i < (wipeE r vs).length := by
          have := (List.getElem?_eq_some_iff.mp h2).1
          simpa using this
        rw [List.getElem?_set_self hi] at h2
        cases h2
      rw [List.getElem?_set_ne ea] at h1 h3
      rw [List.getElem?_set_ne eb] at h2 h4
      exact ih.dis a b d1 d2 u hab h1 h2 h3 h4
theorem wipe_get {t : St} {i : Nat} : ∀ {vs : List Nat}, i ∉ vs → (wipe t vs)[i]? = t[i]?
  | [], _ => rfl
  | v :: vs, h => by
    simp only [List.mem_cons, not_or] at h
    unfold wipe
    rw [List.getElem?_set_ne (fun e => h.1 e.symm), wipe_get h.2]
theorem wipe_at {t : St} {i : Nat} : ∀ {vs : List Nat}, i ∈ vs → i < t.length → (wipe t vs)[i]? = some none
  | [], h, _ => by cases h
  | v :: vs, h, hl => by
    unfold wipe
    by_cases e : v = i
    · subst e
      rw [List.getElem?_set_self (by rw [wipe_length]; exact hl)]
    · rw [List.getElem?_set_ne e]
      rcases List.mem_cons.mp h with q | q
      · exact absurd q.symm e
      · exact wipe_at q hl
/-- two frames that differ at slots that are wiped -/
theorem wipe_same {t t' : St} {vs ws : List Nat} (hs : ∀ i ∈ ws, i ∈ vs) (hl : t'.length = t.length) (h : ∀ i, i ∉ ws → t'[i]? = (wipe t vs)[i]?) : wipe t' vs = wipe t vs := by
  refine List.ext_getElem? fun i => ?_
  by_cases hi : i ∈ vs
  · by_cases hlt : i < t.length
    · rw [wipe_at hi hlt, wipe_at hi (by rw [hl]; exact hlt)]
    · rw [List.getElem?_eq_none (by rw [wipe_length]; omega), List.getElem?_eq_none (by rw [wipe_length]; omega)]
  · rw [wipe_get hi, h i fun q => hi (hs i q)]
/-- one turn after another -/
def compGo (set : D → En → Option En) (test : En → M Bool) (elt : En → M D) (r : En) : List D → List D → M (List D)
  | [], acc => ret acc
  | d :: ds, acc => bnd (opt (set d r)) fun r' => bnd (test r') fun c => if c then bnd (elt r') fun y => bnd (opt (if acc.length < sizeLine then some () else none)) fun _ => compGo set test elt r ds (acc ++ [y]) else compGo set test elt r ds acc
/-- what raises within a comprehension is not told -/
def noX {α : Type} (m : M α) : M α := fun st => match m st with
  | .exc _ _ => .bad
  | o => o
def dComp (it : En → M (List D)) (vs : List Nat) (set : D → En → Option En) (test : En → M Bool) (elt : En → M D) : En → M D := fun r => bnd (it r) fun l => bnd (noX (compGo set test elt (wipeE r vs) l [])) fun acc => ret (.lst acc)
/-- the tests of a comprehension: none or one -/
inductive BC where
  | no | one (b : BT)
def BC.den (b : BC) (F : FT) : En → M Bool := match b with
  | .no => fun _ => ret true
  | .one b => b.den F
def BC.chk (b : BC) (I : Info) (N : List Str) (sc : Scope) (es : List Expr) : Bool := match b, es with
  | .no, [] => true
  | .one b, [e] => b.chk I N sc e
  | _, _ => false
theorem BC.snd {b : BC} {A : Ad} {k : Nat} {F : FT} {X : Cx} {W : WX} (C : Ctx A k F X W) {es : List Expr} (h : b.chk A.I X.N X.env.scope es = true) : PTs X es (LT A W (b.den F)) := by
  cases b with
  | no =>
    cases es with
    | nil =>
      refine ⟨fun pins s t H Q I q => pts_nil.run pins s t H Q I ?_⟩
      obtain ⟨w, r, st, rfl, hr, hs, hp⟩ := q
      exact hp w true (.refl w) hs rfl
    | cons _ _ => cases h
  | one b =>
    match es, h with
    | [], h => cases h
    | [e], h => exact pts_one (b.snd C h)
    | _ :: _ :: _, h => cases h
def notSetD : Expr → Bool
  | .Set _ _ _ => false
  | _ => true
theorem folded_ok {e : Expr} {env : Env} (h : notSetD e = true) (x : Value) : foldedSetIterable e env x = pure x := by
  cases e <;> first | rfl | cases h
abbrev noWX : WX := fun _ _ _ _ => False
theorem Ctx.blk {A : Ad} {k : Nat} {F : FT} {X : Cx} {W : WX} (C : Ctx A k F X W) (s : Shared) (H : Hp) (scope : Scope) (env : Env) (fp : List Addr) : Ctx A k F (X.blk s H scope env fp) noWX where
  hK := C.hK
  facts := C.facts
  calls := C.calls
  room := C.room
  calm := C.calm
  nd := C.nd
  pass t pins H s e s' I c := by
    obtain ⟨_, _, _, _, _, _, _, _, _, _, _, _, z⟩ := c
    exact z
theorem le_put {w : Wd} {p : Addr} {o : HO} (h : ¬ w.S p) : Le w (w.raw p o) := ⟨fun _ _ q => q, fun a q => ⟨q, upd_ne fun e => h (e ▸ q)⟩⟩
theorem ext_put {w0 w : Wd} {p : Addr} {o : HO} (e : Ext w0 w) (h : w0.H p = none) : Ext w0 (w.raw p o) :=
  ⟨e.mu, e.s, e.sn, fun a q m => (upd_ne fun z => q (by rw [z]; exact h)).trans (e.keep a q m), fun a q => upd_trk (e.trk a q)⟩
theorem srel_put {A : Ad} {w : Wd} {st : Sto} {p : Addr} {o : HO} (s : SRel A w st) (h : ¬ w.S p) (hm : p ∉ w.mu) (ho : noT o := by exact True.intro) : SRel A (w.raw p o) st :=
  ⟨⟨fun a q => ⟨upd_trk (s.wf.s a q).1, (s.wf.s a q).2⟩, fun a q => upd_trk (s.wf.m a q), s.wf.nd, s.wf.tRaw ho⟩, s.len, fun n ob a h1 h2 => (s.ob n ob a h1 h2).le (le_put h) (upd_ne fun e => hm (e ▸ List.mem_of_getElem? h2))⟩
theorem nox_step {α β γ δ : Type} {A : Ad} {R2 : Wd → Wd → γ → δ → Prop} {W : XK} {w0 : Wd} {Q : δ → Hp → Prop} {m : M α} {f : α → M β} {g : β → M γ} {st : Sto} (hp : PostG A R2 W w0 Q (bnd (noX (bnd m f)) g st)) :
    ∃ a st', m st = .ok a st' ∧ PostG A R2 W w0 Q (bnd (noX (f a)) g st') := by
  cases e : m st with
  | ok a st' =>
    have e2 : bnd (noX (bnd m f)) g st = bnd (noX (f a)) g st' := by simp only [bnd, noX, e]
    rw [e2] at hp
    exact ⟨a, st', rfl, hp⟩
  | exc x st' =>
    have e2 : bnd (noX (bnd m f)) g st = .bad := by simp only [bnd, noX, e]
    rw [e2] at hp
    exact hp.elim
  | bad =>
    have e2 : bnd (noX (bnd m f)) g st = .bad := by simp only [bnd, noX, e]
    rw [e2] at hp
    exact hp.elim
theorem opt_ok {α : Type} {o : Option α} {st st' : Sto} {a : α} (h : opt o st = .ok a st') : o = some a ∧ st' = st := by
  cases o with
  | none => cases h
  | some b => cases h; exact ⟨rfl, rfl⟩
theorem lg_ok {α β : Type} {A : Ad} {R : Wd → Wd → α → β → Prop} {W : WX} {m : En → M α} {Q : β → Hp → Prop} {w : Wd} {r : En} {st st' : Sto} {t : St} {a : α} (hr : EnvR A w r t) (hs : SRel A w st) (e : m r st = .ok a st')
    (h : ∀ w' v, Ext w w' → SRel A w' st' → R w w' a v → Q v w'.H) : LG A R W m t w.H Q := ⟨w, r, st, rfl, hr, hs, by rw [e]; exact h⟩
theorem drop_cons {α : Type} {l : List α} {i : Nat} {d : α} (h : l[i]? = some d) : l.drop i = d :: l.drop (i + 1) := by
  obtain ⟨h1, h2⟩ := List.getElem?_eq_some_iff.mp h
  rw [List.drop_eq_getElem_cons h1, h2]
abbrev gR (A : Ad) (g : BG) : TG := fun v t H Q => ∃ (w : Wd) (r r' : En) (d : D), w.H = H ∧ EnvR A w r t ∧ Rep A w d v ∧ g.set d r = some r' ∧ ∀ t', EnvR A w r' t' → (∀ i, i ∉ g.ws → t'[i]? = t[i]?) → Q t' H
theorem comp_ok {A : Ad} {W : WX} {it : En → M (List D)} {vs : List Nat} {g : BG} {test : En → M Bool} {elt : En → M D} {t : St} {H : Hp} {Q : VK} (hws : ∀ i ∈ g.ws, i ∈ vs)
    (h : LF A W (dComp it vs g.set test elt) t H Q) : tLc (LI A W it) (gR A g) (LT A noWX test) (LE A noWX elt) vs t H Q := by
  obtain ⟨w, r, st, rfl, hr, hs, hp⟩ := h
  refine step (R := RJ A) (f := fun l r => bnd (noX (compGo g.set test elt (wipeE r vs) l [])) fun acc => ret (D.lst acc)) (.refl w) hr hs hp fun w1 st1 l J hr1 hs1 e1 hJ hp1 => ?_
  intro D0 hD
  obtain ⟨G, Y, wk, hG, hY⟩ := hJ
  have hwe := wipe_env hr1 vs
  have hw0 : w.H D0 = none := Classical.byContradiction fun q => e1.trk D0 q hD
  refine lc_it wk (fun i H => ∃ (w2 : Wd) (st2 : Sto) (acc : List D) (vs' : List V), w2.H = H ∧ Ext w1 w2 ∧ SRel A w2 st2 ∧ w2.H D0 = some (.lst vs') ∧ Reps A w2 acc vs' ∧ ¬ w2.S D0 ∧ D0 ∉ w2.mu ∧ vs'.length ≤ sizeLine ∧
      PostG A (RF A) (fun c d H => W c d t H) w Q (bnd (noX (compGo g.set test elt (wipeE r vs) (l.drop i) acc)) (fun acc => ret (D.lst acc)) st2))
    ⟨w1.raw D0 (.lst []), st1, [], [], rfl, ext_raw hD, hs1.raw hD, upd_same, .nil, fun q => (hs1.wf.s D0 q).1 hD, fun q => hs1.wf.m D0 q hD, by simp, hp1⟩
    (fun i H _ ⟨w2, st2, acc, vs', e, ex, sr, _⟩ => e ▸ hG w2 (ex.le hs1.wf) sr.wf) ?_ ?_
  · rintro i x H H' hi ⟨w2, st2, acc, vs', rfl, ex, sr, hd, hv, nS, nM, hz, hp2⟩ y
    have hd' : l[i]? = some l[i] := by simp [hi]
    obtain ⟨w3, rfl, ex3, sr3, rx⟩ := hY w2 st2 i l[i] x H' (ex.le hs1.wf) sr hd' y
    rw [drop_cons hd'] at hp2
    obtain ⟨r', st3, eset, hp3⟩ := nox_step hp2
    obtain ⟨es2, rfl⟩ := opt_ok eset
    have hr3 := (hwe.mono hs1.wf ex).mono sr.wf ex3
    refine ⟨w3, wipeE r vs, r', l[i], rfl, hr3, rx, es2, fun t' ht' hout => ⟨?_, ?_⟩⟩
    · refine wipe_same hws ?_ hout
      have a1 := (g.out es2).1
      rw [← ht'.len, a1, hwe.len, wipe_length]
    · obtain ⟨c, st4, etest, hp4⟩ := nox_step hp3
      refine lg_ok (R := RB) ht' sr3 etest fun w4 b ex4 sr4 eb => ?_
      subst eb
      have hD3 : w3.H D0 = some (.lst vs') := (ex3.keep D0 (by rw [hd]; simp) nM).trans hd
      have nM3 := ex3.nmu (by rw [hd]; simp) nM
      have nS3 : ¬ w3.S D0 := fun q => (ex3.sn D0 q).elim nS fun z => by rw [hd] at z; cases z
      have hD4 : w4.H D0 = some (.lst vs') := (ex4.keep D0 (by rw [hD3]; simp) nM3).trans hD3
      have nM4 := ex4.nmu (by rw [hD3]; simp) nM3
      have nS4 : ¬ w4.S D0 := fun q => (ex4.sn D0 q).elim nS3 fun z => by rw [hD3] at z; cases z
      have hv4 := (hv.mono sr.wf ex3).mono sr3.wf ex4
      cases c with
      | false => exact iteF ⟨w4, st4, acc, vs', rfl, (ex.trans ex3).trans ex4, sr4, hD4, hv4, nS4, nM4, hz, hp4⟩
      | true =>
        refine iteT ?_
        obtain ⟨y, st5, eelt, hp5⟩ := nox_step hp4
        obtain ⟨_, st6, elen, hp6⟩ := nox_step hp5
        obtain ⟨el2, rfl⟩ := opt_ok elen
        refine lg_ok (R := RD A) (ht'.mono sr3.wf ex4) sr4 eelt fun w5 yv ex5 sr5 ry => ?_
        have hD5 : w5.H D0 = some (.lst vs') := (ex5.keep D0 (by rw [hD4]; simp) nM4).trans hD4
        have nM5 := ex5.nmu (by rw [hD4]; simp) nM4
        have nS5 : ¬ w5.S D0 := fun q => (ex5.sn D0 q).elim nS4 fun z => by rw [hD4] at z; cases z
        have hl : acc.length < sizeLine := by
          split at el2
          · assumption
          · cases el2
        have el := hv.length
        have hv6 : Reps A (w5.raw D0 (.lst (vs' ++ [yv]))) (acc ++ [y]) (vs' ++ [yv]) := ((hv4.mono sr4.wf ex5).append (.one ry)).le (le_put nS5)
        refine ⟨vs', hD5, by omega, w5.raw D0 (.lst (vs' ++ [yv])), _, acc ++ [y], vs' ++ [yv], rfl, ext_put (((ex.trans ex3).trans ex4).trans ex5) hD, srel_put sr5 nS5 nM5, upd_same, hv6, nS5, nM5, ?_, hp6⟩
        rw [List.length_append]; show vs'.length + 1 ≤ sizeLine; omega
  · rintro H ⟨w2, st2, acc, vs', rfl, ex, sr, hd, hv, nS, nM, hz, hp2⟩
    rw [List.drop_length] at hp2
    exact hp2 w2 (.ref D0) (e1.trans ex) sr ⟨D0, rfl, hw0, nS, nM, vs', hd, hz, hv⟩
def ownOf (N : List Str) (vs : List Nat) : List (Str × Nat) := vs.filterMap fun i => (N[i]?).map fun x => (x, i)
theorem ownOf_snd {N : List Str} : ∀ {vs : List Nat}, (vs.all fun i => decide (i < N.length)) = true → (ownOf N vs).map (·.2) = vs
  | [], _ => rfl
  | i :: vs, h => by
    simp only [List.all_cons, Bool.and_eq_true, decide_eq_true_eq] at h
    unfold ownOf
    rw [List.filterMap_cons, List.getElem?_eq_getElem h.1]
    simp only [Option.map_some, List.map_cons]
    congr 1
    exact ownOf_snd h.2
def compChk (it : BI) (vs : List Nat) (g : BG) (c : BC) (elt : BE) (I : Info) (N : List Str) (sc : Scope) (e : Expr) : Bool := match e with
  | .ListComp el [⟨tg, iter, ifs, 0⟩] scope _ => notSetD iter && it.chk I N sc tg iter && g.chk false N (relS scope sc) tg && c.chk I N (relS scope sc) ifs && elt.chk I N (relS scope sc) el && blkC N sc scope (ownOf N vs) &&
      vs.all (fun i => decide (i < N.length)) && g.ws.all (fun i => vs.contains i)
  | _ => false
/-- [elt for g in it if c] -/
def fComp (it : BI) (vs : List Nat) (g : BG) (c : BC) (elt : BE) : BF where
  den F := dComp (it.den F) vs g.set (c.den F) (elt.den F)
  chk I N sc e := compChk it vs g c elt I N sc e
  snd {A k F X W} C e h := by
    unfold compChk at h
    split at h
    · rename_i el tg iter ifs scope pos
      simp only [Bool.and_eq_true] at h
      obtain ⟨⟨⟨⟨⟨⟨⟨h1, h2⟩, h3⟩, h4⟩, h5⟩, h6⟩, h7⟩, h8⟩ := h
      refine (pe_lc (g := gR A g) (tt := LT A noWX (c.den F)) (te := LE A noWX (elt.den F)) C.calm C.nd (it.snd C h2) (blkOk_by h6)
        (fun s H D cl fp => g.snd (X := X.blk s H scope (compEnvC scope cl D X.env) fp) (fun z => by cases z) C.hK C.nd C.calm h3)
        (fun s H D cl fp => BC.snd (C.blk s H scope (compEnvC scope cl D X.env) fp) h4)
        (fun s H D cl fp => elt.snd (C.blk s H scope (compEnvC scope cl D X.env) fp) h5) (folded_ok h1)).imp fun t H Q q => ?_
      rw [ownOf_snd h7]
      refine comp_ok (fun i hi => ?_) q
      have := List.all_eq_true.mp h8 i hi
      simpa using this
    · cases h
end Rf

set_option Elab.async false
set_option linter.all false
set_option maxRecDepth 100000
set_option maxHeartbeats 1000000
namespace Rf
open PySem L2

/-! ## statements -/
inductive Fl where
  | nx (r : En) | rt (d : D) | bk (r : En) | ct (r : En)
abbrev MS := En → M Fl
/-- the world at the def's entry; where an __init__'s instance stands -/
structure W0 where
  w : Wd
  x : Addr
def OwnF (w0 : W0) (r : En) (t : St) : Prop := ∀ (i : Nat) d a, r[i]? = some (.own d) → t[i]? = some (some (.ref a)) → w0.w.H a = none
structure FR (A : Ad) (w0 : W0) (w : Wd) (r : En) (t : St) (st : Sto) : Prop where
  env : EnvR A w r t
  sr : SRel A w st
  ex : Ext w0.w w
  ow : OwnF w0 r t
  slf : ∀ d, r[0]? = some (.own d) → t[0]? = some (some (.ref w0.x))
/-- w0: the def's entry; w: where the statement begins -/
def PostS (A : Ad) (W : WX) (w0 : W0) (w : Wd) (E : Ends) : Out Fl → Prop
  | .ok (.nx r) st => ∀ w' t, Le w w' → FR A w0 w' r t st → E.nx t w'.H
  | .ok (.bk r) st => ∀ w' t, Le w w' → FR A w0 w' r t st → E.bk t w'.H
  | .ok (.ct r) st => ∀ w' t, Le w w' → FR A w0 w' r t st → E.ct t w'.H
  | .ok (.rt d) st => ∀ w' v, Ext w0.w w' → SRel A w' st → Rep A w' d v → E.rt v w'.H
  | .exc x st => ∀ w' t cls dd, Ext w0.w w' → SRel A w' st → RepX A w' x cls dd → W cls dd t w'.H
  | .bad => False
def LS (A : Ad) (w0 : W0) (W : WX) (den : MS) : TS := fun E t H => ∃ (w : Wd) (r : En) (st : Sto), w.H = H ∧ FR A w0 w r t st ∧ PostS A W w0 w E (den r st)
structure CtxS (A : Ad) (k : Nat) (F : FT) (X : Cx) (W : WX) : Prop where
  c : Ctx A k F X W
  po : PassesOwn (model X.prog X.w) X.A X.env X.xe
  fn : ∀ x, X.fn x = true
  kind : X.env.scope.kind = .function
structure BS where
  den : FT → MS
  chk : Info → List Str → Scope → Stmt → Bool
  snd : ∀ {A : Ad} {k : Nat} {F : FT} {X : Cx} {W : WX}, CtxS A k F X W → ∀ {s : Stmt}, chk A.I X.N X.env.scope s = true → ∀ w0, PS X s (LS A w0 W (den F))
def dSeq (a b : MS) : MS := fun r => bnd (a r) fun o => match o with
  | .nx r' => b r'
  | o => ret o
def dBlk : List BS → FT → MS
  | [], _ => fun r => ret (.nx r)
  | s :: ss, F => dSeq (s.den F) (dBlk ss F)
def chb (I : Info) (N : List Str) (sc : Scope) : List BS → List Stmt → Bool
  | [], [] => true
  | b :: bs, s :: ss => b.chk I N sc s && chb I N sc bs ss
  | _, _ => false
theorem _root_.L2.PS.imp {X : Cx} {s : Stmt} {t t' : TS} (h : PS X s t) (k : ∀ D σ H, t' D σ H → t D σ H) : PS X s t' := ⟨fun pins s σ H D I q => h.run pins s σ H D I (k D σ H q)⟩
theorem _root_.L2.PSs.imp {X : Cx} {s : List Stmt} {t t' : TS} (h : PSs X s t) (k : ∀ D σ H, t' D σ H → t D σ H) : PSs X s t' := ⟨fun pins s σ H D I q => h.run pins s σ H D I (k D σ H q)⟩
section
variable {A : Ad} {k : Nat} {F : FT} {X : Cx} {W : WX} {w0 : W0} {E : Ends} {t : St}
theorem FR.mono {w w' : Wd} {r : En} {st st' : Sto} (h : FR A w0 w r t st) (e : Ext w w') (s : SRel A w' st') : FR A w0 w' r t st' := ⟨h.env.mono h.sr.wf e, s, h.ex.trans e, h.ow, h.slf⟩
theorem PostS.later {w w1 : Wd} {o : Out Fl} (h : PostS A W w0 w E o) (l : Le w w1) : PostS A W w0 w1 E o := by
  cases o with
  | ok o st =>
    cases o with
    | nx r => exact fun w' t l' fr => h w' t (l.trans l') fr
    | bk r => exact fun w' t l' fr => h w' t (l.trans l') fr
    | ct r => exact fun w' t l' fr => h w' t (l.trans l') fr
    | rt d => exact h
  | exc x st => exact h
  | bad => exact h
theorem seq_ok {a b : MS} {H : Hp} (h : LS A w0 W (dSeq a b) E t H) : LS A w0 W a { E with nx := LS A w0 W b E } t H := by
  obtain ⟨w, r, st, rfl, fr, hp⟩ := h
  refine ⟨w, r, st, rfl, fr, ?_⟩
  unfold dSeq bnd at hp
  cases e : a r st with
  | ok o st1 =>
    rw [e] at hp
    cases o with
    | nx r1 => exact fun w1 t1 l1 fr1 => ⟨w1, r1, st1, rfl, fr1, hp.later l1⟩
    | rt d => exact hp
    | bk r1 => exact hp
    | ct r1 => exact hp
  | exc x st1 => rw [e] at hp; exact hp
  | bad => rw [e] at hp; exact hp
theorem blk_of (C : CtxS A k F X W) (w0 : W0) : ∀ {bs : List BS} {ss : List Stmt}, chb A.I X.N X.env.scope bs ss = true → PSs X ss (LS A w0 W (dBlk bs F))
  | [], [], _ => pss_nil.imp fun E t H q => by
    obtain ⟨w, r, st, rfl, fr, hp⟩ := q
    exact hp w t (.refl w) fr
  | [], _ :: _, h => by cases h
  | _ :: _, [], h => by cases h
  | b :: bs, s :: ss, h => by
    simp only [chb, Bool.and_eq_true] at h
    exact (pss_cons (b.snd C h.1 w0) (blk_of C w0 h.2)).imp fun E t H q => seq_ok q
/-- an expression within a statement -/
theorem stepS {α β : Type} {R : Wd → Wd → α → β → Prop} {m : En → M α} {f : α → M Fl} {w : Wd} {r : En} {st : Sto} {Q1 : β → Hp → Prop} (fr : FR A w0 w r t st) (hp : PostS A W w0 w E (bnd (m r) f st))
    (k : ∀ (w' : Wd) (st' : Sto) (a : α) (b : β), FR A w0 w' r t st' → Ext w w' → R w w' a b → Le w w' → PostS A W w0 w' E (f a st') → Q1 b w'.H) : LG A R W m t w.H Q1 := by
  refine ⟨w, r, st, rfl, fr.env, fr.sr, ?_⟩
  unfold bnd at hp
  cases e : m r st with
  | ok a st1 =>
    rw [e] at hp
    exact fun w' v ex sr rp => k w' st1 a v (fr.mono ex sr) ex rp (ex.le fr.sr.wf) (hp.later (ex.le fr.sr.wf))
  | exc x st1 => rw [e] at hp; exact fun w' c dd ex sr rp => hp w' t c dd (fr.ex.trans ex) sr rp
  | bad => rw [e] at hp; exact hp
theorem postS_opt {α : Type} {o : Option α} {f : α → M Fl} {w : Wd} {st : Sto} (hp : PostS A W w0 w E (bnd (opt o) f st)) : ∃ a, o = some a ∧ PostS A W w0 w E (f a st) := by
  cases o with
  | none => exact hp.elim
  | some a => exact ⟨a, rfl, hp⟩
theorem FR.set {w : Wd} {r : En} {st : Sto} {i : Nat} {d : D} {v : V} (h : FR A w0 w r t st) (hv : Rep A w d v) : FR A w0 w (r.set i (.val d)) (t.set i (some v)) st := by
  refine ⟨h.env.set hv, h.sr, h.ex, fun j d' a h1 h2 => ?_, fun d' h1 => ?_⟩
  rotate_left
  · by_cases e : i = 0
    · subst e
      have hi : 0 < r.length := by
        have := (List.getElem?_eq_some_iff.mp h1).1
        simpa using this
      rw [List.getElem?_set_self hi] at h1
      cases h1
    · rw [List.getElem?_set_ne e] at h1 ⊢
      exact h.slf d' h1
  by_cases e : i = j
  · subst e
    have hi : i < r.length := by
      have := (List.getElem?_eq_some_iff.mp h1).1
      simpa using this
    rw [List.getElem?_set_self hi] at h1
    cases h1
  · rw [List.getElem?_set_ne e] at h1 h2
    exact h.ow j d' a h1 h2
/-- a slot takes a new container as its own -/
theorem FR.setOwn {w w' : Wd} {r : En} {st : Sto} {i : Nat} {d : D} {v : V} (h0i : i ≠ 0) (h : FR A w0 w r t st) (e : Ext w w') {st' : Sto} (s : SRel A w' st') (hv : RF A w w' d v) : FR A w0 w' (r.set i (.own d)) (t.set i (some v)) st' := by
  obtain ⟨p, rfl, h1, h2, h3, h4⟩ := hv
  have hp0 : w0.w.H p = none := Classical.byContradiction fun q => h.ex.trk p q h1
  have h' := h.mono e s
  refine ⟨⟨by simp [h.env.len], fun j x u g1 g2 => ?_, fun a b d1 d2 u hab g1 g2 g3 g4 => ?_⟩, s, h'.ex, fun j d' a g1 g2 => ?_, fun d' h1 => by rw [List.getElem?_set_ne h0i] at h1 ⊢; exact h.slf d' h1⟩
  · by_cases eij : i = j
    · subst eij
      have hi : i < r.length := by
        have := (List.getElem?_eq_some_iff.mp g1).1
        simpa using this
      rw [List.getElem?_set_self hi] at g1
      rw [List.getElem?_set_self (by rw [← h.env.len]; exact hi)] at g2
      cases g1; cases g2
      exact ⟨p, rfl, h2, h3, h4⟩
    · rw [List.getElem?_set_ne eij] at g1 g2
      exact h'.env.at_ j x u g1 g2
  · -- an old own slot stands elsewhere
    have old : ∀ (j : Nat) d', i ≠ j → r[j]? = some (.own d') → ∀ u', t[j]? = some u' → u' ≠ some (.ref p) := by
      intro j d' hij q1 u' q2 q3
      subst q3
      obtain ⟨a', ea, _, _, ht⟩ := h.env.at_ j _ _ q1 q2
      cases ea
      exact ht.trk h1
    by_cases ea : i = a
    · subst ea
      have eb : i ≠ b := hab
      have hi : i < r.length := by
        have := (List.getElem?_eq_some_iff.mp g1).1
        simpa using this
      rw [List.getElem?_set_self (by rw [← h.env.len]; exact hi)] at g3
      rw [List.getElem?_set_ne eb] at g2 g4
      cases g3
      exact old b d2 eb g2 _ g4 rfl
    · rw [List.getElem?_set_ne ea] at g1 g3
      by_cases eb : i = b
      · subst eb
        have hi : i < r.length := by
          have := (List.getElem?_eq_some_iff.mp g2).1
          simpa using this
        rw [List.getElem?_set_self (by rw [← h.env.len]; exact hi)] at g4
        cases g4
        exact old a d1 ea g1 _ g3 rfl
      · rw [List.getElem?_set_ne eb] at g2 g4
        exact h.env.dis a b d1 d2 u hab g1 g2 g3 g4
  · by_cases eij : i = j
    · subst eij
      have hi : i < r.length := by
        have := (List.getElem?_eq_some_iff.mp g1).1
        simpa using this
      rw [List.getElem?_set_self (by rw [← h.env.len]; exact hi)] at g2
      cases g2
      exact hp0
    · rw [List.getElem?_set_ne eij] at g1 g2
      exact h.ow j d' a g1 g2
end
def noComp : Expr → Bool
  | .ListComp _ _ _ _ | .SetComp _ _ _ _ | .DictComp _ _ _ _ _ => false
  | _ => true
theorem noComp_ok {e : Expr} (h : noComp e = true) (tg : Option Expr) (l : Nat) (env : Env) : swapsWith e tg l env = pure false := by
  cases e <;> first | rfl | cases h
def nameAt (N : List Str) (sc : Scope) (i : Nat) (e : Expr) : Bool := match e with
  | .Name x _ => (match N[i]? with
    | some y => beqS x y && stoB sc x
    | none => false)
  | _ => false
theorem nameAt_ok {N : List Str} {sc : Scope} {i : Nat} {e : Expr} (h : nameAt N sc i e = true) : ∃ x p, e = .Name x p ∧ N[i]? = some x ∧ L2.Loc sc x := by
  unfold nameAt at h
  split at h
  · split at h
    · rename_i hy
      simp only [Bool.and_eq_true] at h
      have := beqS_eq h.1
      subst this
      exact ⟨_, _, rfl, hy, stoB_ok h.2⟩
    · cases h
  · cases h
/-- x = e -/
def sSet (i : Nat) (b : BE) : BS where
  den F r := bnd (b.den F r) fun d => ret (.nx (r.set i (.val d)))
  chk I N sc s := match s with
    | .Assign [tg] e _ => nameAt N sc i tg && noComp e && b.chk I N sc e
    | _ => false
  snd {A k F X W} C s h w0 := by
    split at h
    · simp only [Bool.and_eq_true] at h
      obtain ⟨x, p, rfl, h1, h2⟩ := nameAt_ok h.1.1
      refine (ps_set C.c.nd h1 h2 (b.snd C.c h.2) (noComp_ok h.1.2 _ _ _) (.inl (C.fn x))).imp fun E t H q => ?_
      obtain ⟨w, r, st, rfl, fr, hp⟩ := q
      exact stepS (R := RD A) fr hp fun w1 st1 d v fr1 e1 rv _ hp1 => hp1 w1 _ (.refl w1) (fr1.set rv)
    · cases h
/-- x = e, e a new container that x alone tells -/
def sOwn (i : Nat) (b : BF) : BS where
  den F r := bnd (b.den F r) fun d => ret (.nx (r.set i (.own d)))
  chk I N sc s := match s with
    | .Assign [tg] e _ => decide (i ≠ 0) && nameAt N sc i tg && noComp e && b.chk I N sc e
    | _ => false
  snd {A k F X W} C s h w0 := by
    split at h
    · simp only [Bool.and_eq_true, decide_eq_true_eq] at h
      obtain ⟨x, p, rfl, h1, h2⟩ := nameAt_ok h.1.1.2
      refine (ps_set C.c.nd h1 h2 (b.snd C.c h.2) (noComp_ok h.1.2 _ _ _) (.inl (C.fn x))).imp fun E t H q => ?_
      obtain ⟨w, r, st, rfl, fr, hp⟩ := q
      exact stepS (R := RF A) fr hp fun w1 st1 d v fr1 e1 rv _ hp1 => hp1 w1 _ (.refl w1) (fr.setOwn h.1.1.1 e1 fr1.sr rv)
    · cases h
def sRet (b : BE) : BS where
  den F r := bnd (b.den F r) fun d => ret (.rt d)
  chk I N sc s := match s with
    | .Return (some e) _ => b.chk I N sc e
    | _ => false
  snd {A k F X W} C s h w0 := by
    split at h
    · refine (ps_ret (b.snd C.c h)).imp fun E t H q => ?_
      obtain ⟨w, r, st, rfl, fr, hp⟩ := q
      exact stepS (R := RD A) fr hp fun w1 st1 d v fr1 e1 rv _ hp1 => hp1 w1 v fr1.ex fr1.sr rv
    · cases h
def sRetN : BS where
  den F r := ret (.rt .non)
  chk I N sc s := match s with
    | .Return none _ => true
    | _ => false
  snd {A k F X W} C s h w0 := by
    split at h
    · refine ps_retN.imp fun E t H q => ?_
      obtain ⟨w, r, st, rfl, fr, hp⟩ := q
      exact hp w .non fr.ex fr.sr rep_non
    · cases h
def sExp (b : BE) : BS where
  den F r := bnd (b.den F r) fun _ => ret (.nx r)
  chk I N sc s := match s with
    | .Expr e _ => noComp e && b.chk I N sc e
    | _ => false
  snd {A k F X W} C s h w0 := by
    split at h
    · simp only [Bool.and_eq_true] at h
      refine (ps_expr (b.snd C.c h.2) (noComp_ok h.1 _ _ _)).imp fun E t H q => ?_
      obtain ⟨w, r, st, rfl, fr, hp⟩ := q
      exact stepS (R := RD A) fr hp fun w1 st1 d v fr1 e1 rv _ hp1 => hp1 w1 t (.refl w1) fr1
    · cases h
def sPass : BS where
  den F r := ret (.nx r)
  chk I N sc s := match s with
    | .Pass _ => true
    | _ => false
  snd {A k F X W} C s h w0 := by
    split at h
    · refine ps_pass.imp fun E t H q => ?_
      obtain ⟨w, r, st, rfl, fr, hp⟩ := q
      exact hp w t (.refl w) fr
    · cases h
/-- what is never come to -/
def sNev : BS where
  den _ _ _ := .bad
  chk _ _ _ _ := true
  snd {A k F X W} C s h w0 := ps_never.imp fun E t H q => by
    obtain ⟨w, r, st, rfl, fr, hp⟩ := q
    exact hp
def sIf (c : BT) (a b : List BS) : BS where
  den F r := bnd (c.den F r) fun k => if k then dBlk a F r else dBlk b F r
  chk I N sc s := match s with
    | .If t x y _ => c.chk I N sc t && chb I N sc a x && chb I N sc b y
    | _ => false
  snd {A k F X W} C s h w0 := by
    split at h
    · simp only [Bool.and_eq_true] at h
      refine (ps_if (c.snd C.c h.1.1) (blk_of C w0 h.1.2) (blk_of C w0 h.2)).imp fun E t H q => ?_
      obtain ⟨w, r, st, rfl, fr, hp⟩ := q
      refine stepS (R := RB) fr hp fun w1 st1 d v fr1 e1 rv _ hp1 => ?_
      subst rv
      cases d with
      | true => exact iteT ⟨w1, r, st1, rfl, fr1, hp1⟩
      | false => exact iteF ⟨w1, r, st1, rfl, fr1, hp1⟩
    · cases h
/-- the slots i stand told from here on: nobody changes them any more -/
def frzE (r : En) (i : Nat) : En := match r[i]? with
  | some (.own d) => r.set i (.val d)
  | _ => r
theorem FR.frz {A : Ad} {w0 : W0} {w : Wd} {r : En} {t : St} {st : Sto} (h : FR A w0 w r t st) (i : Nat) : ∃ w', w'.H = w.H ∧ Le w w' ∧ FR A w0 w' (frzE r i) t st := by
  unfold frzE
  split
  · rename_i d hd
    have hi := (List.getElem?_eq_some_iff.mp hd).1
    have hi' : i < t.length := by rw [← h.env.len]; exact hi
    obtain ⟨p, hp, h2, h3, h4⟩ := h.env.at_ i _ t[i] hd (by simp [hi'])
    have ht : t[i]? = some (some (.ref p)) := by rw [List.getElem?_eq_getElem hi', hp]
    have hp0 := h.ow i d p hd ht
    have x := h.sr.wf
    have hx : Le w (w.frz p) := ⟨fun _ _ q => q, fun a q => ⟨.inl q, rfl⟩⟩
    have x2 : Wf (w.frz p) := ⟨fun a q => q.elim (x.s a) fun e => by rw [e]; exact ⟨h4.trk, h3⟩, x.m, x.nd, fun a vs h => .inl (x.t a vs h)⟩
    have s2 : SRel A (w.frz p) st := ⟨x2, h.sr.len, fun n o a q1 q2 => (h.sr.ob n o a q1 q2).le hx rfl⟩
    refine ⟨w.frz p, rfl, hx, ⟨by simp [h.env.len], fun j s u g1 g2 => ?_, fun a b d1 d2 u hab g1 g2 g3 g4 => ?_⟩, s2, ⟨h.ex.mu, fun a q => .inl (h.ex.s a q), fun a q => q.elim (h.ex.sn a) fun e => .inr (e ▸ hp0), h.ex.keep, h.ex.trk⟩, fun j d' a g1 g2 => ?_, fun d' h1 => ?_⟩
    rotate_right
    · by_cases e : i = 0
      · subst e
        rw [List.getElem?_set_self hi] at h1
        cases h1
      · rw [List.getElem?_set_ne e] at h1
        exact h.slf d' h1
    · by_cases e : i = j
      · subst e
        rw [List.getElem?_set_self hi] at g1
        cases g1
        rw [ht] at g2
        cases g2
        exact ⟨.ref p, rfl, (h4.le hx rfl).rep (.inr rfl)⟩
      · rw [List.getElem?_set_ne e] at g1
        have q := h.env.at_ j s u g1 g2
        cases s with
        | none => trivial
        | val d' => obtain ⟨u', q1, q2⟩ := q; exact ⟨u', q1, q2.le hx⟩
        | own d' =>
          obtain ⟨a', q1, q2, q3, q4⟩ := q
          refine ⟨a', q1, fun z => ?_, q3, q4.le hx rfl⟩
          rcases z with z | z
          · exact q2 z
          · subst z
            subst q1
            exact h.env.dis i j d d' _ e hd g1 ht g2
    · have ea : i ≠ a := by
        rintro rfl
        rw [List.getElem?_set_self hi] at g1
        cases g1
      have eb : i ≠ b := by
        rintro rfl
        rw [List.getElem?_set_self hi] at g2
        cases g2
      rw [List.getElem?_set_ne ea] at g1
      rw [List.getElem?_set_ne eb] at g2
      exact h.env.dis a b d1 d2 u hab g1 g2 g3 g4
    · have e : i ≠ j := by
        rintro rfl
        rw [List.getElem?_set_self hi] at g1
        cases g1
      rw [List.getElem?_set_ne e] at g1
      exact h.ow j d' a g1 g2
  · exact ⟨w, rfl, .refl w, h⟩
/-- ahead of s the slot i is told -/
def sFrz (i : Nat) (b : BS) : BS where
  den F r := b.den F (frzE r i)
  chk I N sc s := b.chk I N sc s
  snd {A k F X W} C s h w0 := (b.snd C h w0).imp fun E t H q => by
    obtain ⟨w, r, st, rfl, fr, hp⟩ := q
    obtain ⟨w', e, l, fr'⟩ := fr.frz i
    exact ⟨w', frzE r i, st, e, fr', hp.later l⟩
end Rf

set_option Elab.async false
set_option linter.all false
set_option maxRecDepth 100000
set_option maxHeartbeats 1000000
namespace Rf
open PySem L2

/-! ## for -/
def forGo (set : D → En → Option En) (body : MS) : List D → MS
  | [], r => ret (.nx r)
  | d :: ds, r => bnd (opt (set d r)) fun r' => bnd (body r') fun o => match o with
    | .nx r2 => forGo set body ds r2
    | .ct r2 => forGo set body ds r2
    | .bk r2 => ret (.nx r2)
    | .rt d => ret (.rt d)
section
variable {A : Ad} {k : Nat} {F : FT} {X : Cx} {W : WX} {w0 : W0} {E : Ends} {t : St}
theorem FR.tgt {w : Wd} {r r' : En} {st : Sto} {g : BG} {d : D} {t' : St} (h : FR A w0 w r t st) (e : g.set d r = some r') (he : EnvR A w r' t') (ho : ∀ i, i ∉ g.ws → t'[i]? = t[i]?) : FR A w0 w r' t' st := by
  refine ⟨he, h.sr, h.ex, fun j d' a h1 h2 => ?_, fun d' h1 => ?_⟩
  rotate_left
  · by_cases hj : 0 ∈ g.ws
    · exact absurd h1 (g.nov e 0 hj d')
    · rw [(g.out e).2 0 hj] at h1
      rw [ho 0 hj]
      exact h.slf d' h1
  by_cases hj : j ∈ g.ws
  · exact absurd h1 (g.nov e j hj d')
  · rw [(g.out e).2 j hj] at h1
    rw [ho j hj] at h2
    exact h.ow j d' a h1 h2
theorem for_ok {it : En → M (List D)} {g : BG} {body : MS} {H : Hp} (h : LS A w0 W (fun r => bnd (it r) fun l => forGo g.set body l r) E t H) : tFor (LI A W it) (gR A g) (LS A w0 W body) E t H := by
  obtain ⟨w, r, st, rfl, fr, hp⟩ := h
  refine stepS (R := RJ A) (f := fun l => forGo g.set body l r) fr hp fun w1 st1 l J fr1 e1 hJ l1 hp1 => ?_
  obtain ⟨G, Y, wk, hG, hY⟩ := hJ
  refine for_it wk (fun i t H => ∃ (w2 : Wd) (r2 : En) (st2 : Sto), w2.H = H ∧ FR A w0 w2 r2 t st2 ∧ Le w1 w2 ∧ PostS A W w0 w2 E (forGo g.set body (l.drop i) r2 st2))
    ⟨w1, r, st1, rfl, fr1, .refl w1, hp1⟩ (fun i t H _ ⟨w2, r2, st2, e, fr2, l2, _⟩ => e ▸ hG w2 l2 fr2.sr.wf) ?_ ?_
  · rintro i x t2 H H' hi ⟨w2, r2, st2, rfl, fr2, l2, hp2⟩ y
    have hd' : l[i]? = some l[i] := by simp [hi]
    obtain ⟨w3, rfl, ex3, sr3, rx⟩ := hY w2 st2 i l[i] x H' l2 fr2.sr hd' y
    rw [drop_cons hd'] at hp2
    have fr3 := fr2.mono ex3 sr3
    have l3 := ex3.le fr2.sr.wf
    have hp3 := hp2.later l3
    cases es : g.set l[i] r2 with
    | none =>
      have e2 : forGo g.set body (l[i] :: l.drop (i + 1)) r2 st2 = .bad := by simp only [forGo, bnd, opt, es]
      rw [e2] at hp3
      exact hp3.elim
    | some r' =>
      refine ⟨w3, r2, r', l[i], rfl, fr3.env, rx, es, fun t' ht' ho => ?_⟩
      have fr4 := fr3.tgt es ht' ho
      refine ⟨w3, r', st2, rfl, fr4, ?_⟩
      have e2 : forGo g.set body (l[i] :: l.drop (i + 1)) r2 st2 = bnd (body r') (fun o => match o with
        | .nx r2 => forGo g.set body (l.drop (i + 1)) r2
        | .ct r2 => forGo g.set body (l.drop (i + 1)) r2
        | .bk r2 => ret (.nx r2)
        | .rt d => ret (.rt d)) st2 := by simp only [forGo, opt, es]; rfl
      rw [e2] at hp3
      unfold bnd at hp3
      cases eb : body r' st2 with
      | bad => rw [eb] at hp3; exact hp3
      | exc x st5 => rw [eb] at hp3; exact hp3
      | ok o st5 =>
        rw [eb] at hp3
        cases o with
        | nx r5 => exact fun w5 t5 l5 fr5 => ⟨w5, r5, st5, rfl, fr5, (l2.trans l3).trans l5, hp3.later l5⟩
        | ct r5 => exact fun w5 t5 l5 fr5 => ⟨w5, r5, st5, rfl, fr5, (l2.trans l3).trans l5, hp3.later l5⟩
        | bk r5 => exact hp3
        | rt d => exact hp3
  · rintro t2 H ⟨w2, r2, st2, rfl, fr2, l2, hp2⟩
    rw [List.drop_length] at hp2
    exact hp2 w2 t2 (.refl w2) fr2
end
def sFor (it : BI) (g : BG) (body : List BS) : BS where
  den F r := bnd (it.den F r) fun l => forGo g.set (dBlk body F) l r
  chk I N sc s := match s with
    | .For tg iter b [] _ => notSetD iter && it.chk I N sc tg iter && g.chk true N sc tg && chb I N sc body b
    | _ => false
  snd {A k F X W} C s h w0 := by
    split at h
    · simp only [Bool.and_eq_true] at h
      obtain ⟨⟨⟨h1, h2⟩, h3⟩, h4⟩ := h
      exact (ps_for C.po C.c.calm (it.snd C.c h2) (g.snd (fun _ => C.fn) C.c.hK C.c.nd C.c.calm h3) (blk_of C w0 h4) (folded_ok h1)).imp fun E t H q => for_ok q
    · cases h

/-! ## while -/
def whGo (test : En → M Bool) (body : MS) : Nat → MS
  | 0, _ => fun _ => .bad
  | n + 1, r => bnd (test r) fun c => if c then bnd (body r) (fun o => match o with
    | .nx r2 => whGo test body n r2
    | .ct r2 => whGo test body n r2
    | .bk r2 => ret (.nx r2)
    | .rt d => ret (.rt d)) else ret (.nx r)
theorem while_ok {A : Ad} {W : WX} {w0 : W0} {E : Ends} {t : St} {test : En → M Bool} {body : MS} {n : Nat} {H : Hp} (h : LS A w0 W (whGo test body n) E t H) : tWhile (LT A W test) (LS A w0 W body) E t H := by
  refine ⟨fun m t H => ∃ (w : Wd) (r : En) (st : Sto), w.H = H ∧ FR A w0 w r t st ∧ PostS A W w0 w E (whGo test body m r st), ⟨n, h⟩, ?_⟩
  rintro m t H ⟨w, r, st, rfl, fr, hp⟩
  cases m with
  | zero => exact hp.elim
  | succ m =>
    refine stepS (R := RB) (m := test) (f := fun c => if c then bnd (body r) (fun o => match o with
      | .nx r2 => whGo test body m r2
      | .ct r2 => whGo test body m r2
      | .bk r2 => ret (.nx r2)
      | .rt d => ret (.rt d)) else ret (.nx r)) fr hp fun w1 st1 c b fr1 e1 eb l1 hp1 => ?_
    subst eb
    cases c with
    | false => exact iteF (hp1 w1 t (.refl w1) fr1)
    | true =>
      refine iteT ⟨fun t H => ∃ (w : Wd) (r : En) (st : Sto), w.H = H ∧ FR A w0 w r t st ∧ PostS A W w0 w E (whGo test body m r st), fun t' H' q => ⟨m, Nat.lt_succ_self m, q⟩, w1, r, st1, rfl, fr1, ?_⟩
      have hp2 : PostS A W w0 w1 E (bnd (body r) (fun o => match o with
        | .nx r2 => whGo test body m r2
        | .ct r2 => whGo test body m r2
        | .bk r2 => ret (.nx r2)
        | .rt d => ret (.rt d)) st1) := hp1
      unfold bnd at hp2
      cases eb : body r st1 with
      | bad => rw [eb] at hp2; exact hp2
      | exc x st5 => rw [eb] at hp2; exact hp2
      | ok o st5 =>
        rw [eb] at hp2
        cases o with
        | nx r5 => exact fun w5 t5 l5 fr5 => ⟨w5, r5, st5, rfl, fr5, hp2.later l5⟩
        | ct r5 => exact fun w5 t5 l5 fr5 => ⟨w5, r5, st5, rfl, fr5, hp2.later l5⟩
        | bk r5 => exact hp2
        | rt d => exact hp2
def fuel : Nat := 16777216
def sWhile (c : BT) (body : List BS) : BS where
  den F := whGo (c.den F) (dBlk body F) fuel
  chk I N sc s := match s with
    | .While t b [] _ => c.chk I N sc t && chb I N sc body b
    | _ => false
  snd {A k F X W} C s h w0 := by
    split at h
    · simp only [Bool.and_eq_true] at h
      exact (ps_while C.po (c.snd C.c h.1) (blk_of C w0 h.2)).imp fun E t H q => while_ok q
    · cases h

/-! ## several names at once -/
def noTup : Expr → Bool
  | .Tuple _ _ _ => false
  | _ => true
theorem sw_none {tg e : Expr} {env : Env} (h : noTup e = true) : swappedStores [tg] e env = pure none := by
  cases e <;> first | (cases tg <;> rfl) | cases h
theorem asg_one {tg : Expr} {env : Env} (h : notStar tg = true) : (assignEach [tg] env).map (·.2) = [assign tg env] := by
  rw [as_cons h]; rfl
/-- a, b = e, e no display -/
def sTgt (g : BG) (b : BE) : BS where
  den F r := bnd (b.den F r) fun d => bnd (opt (g.set d r)) fun r' => ret (.nx r')
  chk I N sc s := match s with
    | .Assign [tg] e _ => notStar tg && noTup e && noComp e && g.chk true N sc tg && b.chk I N sc e
    | _ => false
  snd {A k F X W} C s h w0 := by
    split at h
    · simp only [Bool.and_eq_true] at h
      obtain ⟨⟨⟨⟨h1, h2⟩, h3⟩, h4⟩, h5⟩ := h
      refine (ps_asg (b.snd C.c h5) (g.snd (fun _ => C.fn) C.c.hK C.c.nd C.c.calm h4) (noComp_ok h3 _ _ _) (sw_none h2) (asg_one h1)).imp fun E t H q => ?_
      obtain ⟨w, r, st, rfl, fr, hp⟩ := q
      refine stepS (R := RD A) fr hp fun w1 st1 d v fr1 e1 rv _ hp1 => ?_
      cases es : g.set d r with
      | none =>
        have e2 : bnd (opt (g.set d r)) (fun r' => ret (Fl.nx r')) st1 = .bad := by simp only [bnd, opt, es]
        rw [e2] at hp1
        exact hp1.elim
      | some r' =>
        have e2 : bnd (opt (g.set d r)) (fun r' => ret (Fl.nx r')) st1 = .ok (.nx r') st1 := by simp only [bnd, opt, es]; rfl
        rw [e2] at hp1
        exact ⟨w1, r, r', d, rfl, fr1.env, rv, es, fun t' ht' ho => hp1 w1 t' (.refl w1) (fr1.tgt es ht' ho)⟩
    · cases h
/-- two stores that change places -/
def parB (sc : Scope) (x y : Str) (px py : Pos) (a b : Expr) : Bool :=
  locB sc x && locB sc y && !(x == y) && px.line == py.line && !((foldedForSure 8 a) && (foldedForSure 8 b)) && !((constantsAlone 8 a) && (constantsAlone 8 b)) && notStar a && notStar b
theorem par_ok {env : Env} {x y : Str} {px py pt pt2 : Pos} {kt k2 : Nat} {a b : Expr} (hk : env.scope.kind = .function) (h : parB env.scope x y px py a b = true) :
    swappedStores [.Tuple [.Name x px, .Name y py] kt pt] (.Tuple [a, b] k2 pt2) env = pure (some [x, y]) := by
  unfold parB at h
  simp only [Bool.and_eq_true, Bool.not_eq_true', beq_eq_false_iff_ne, ne_eq] at h
  obtain ⟨⟨⟨⟨⟨⟨⟨h1, h2⟩, h3⟩, h4⟩, h5⟩, h6⟩, h7⟩, h8⟩ := h
  have hb : env.blockKind = .function := by unfold Env.blockKind; rw [hk]; rfl
  have k1 : env.kindOf x = some .local := locB_ok h1
  have k2 : env.kindOf y = some .local := locB_ok h2
  have h4' := eq_of_beq h4
  have s1 : ([a, b].any fun e => match e with | .Starred .. => true | _ => false) = false := by
    have q : ∀ e : Expr, notStar e = true → (match e with | .Starred .. => true | _ => false) = false := fun e h => by cases e <;> first | rfl | cases h
    simp only [List.any_cons, List.any_nil, q a h7, q b h8, Bool.or_self]
  have e1 : (env.kindOf x == some NameKind.local) = true := by rw [k1]; rfl
  have e2 : (env.kindOf y == some NameKind.local) = true := by rw [k2]; rfl
  have e3 : (py.line == px.line) = true := by rw [h4']; simp
  have e4 : [x, y].eraseDups = [x, y] := by
    have q : (y == x) = false := beq_eq_false_iff_ne.mpr fun z => h3 z.symm
    simp [List.eraseDups_cons, q]
  have e5 : [a, b].all (foldedForSure 8) = false := by simpa [Bool.and_comm] using h5
  have e6 : [a, b].all (constantsAlone 8) = false := by simpa using h6
  have e7 : ([Expr.Name x px, Expr.Name y py].filterMap fun e => match e with
    | .Name id pos => if (env.kindOf id == some NameKind.local && pos.line == px.line) = true then some id else none
    | _ => none) = [x, y] := by
    rw [List.filterMap_cons, List.filterMap_cons, List.filterMap_nil]
    simp only [e1, e2, e3, beq_self_eq_true, Bool.and_self, if_true]
  unfold swappedStores
  simp only [hb]
  rw [if_neg (by simp)]
  rw [if_neg (fun h => Bool.noConfusion (h.symm.trans s1))]
  generalize hfm : List.filterMap _ [Expr.Name x px, Expr.Name y py] = fm
  have hfm2 : fm = [x, y] := hfm.symm.trans e7
  subst hfm2
  rw [e4, if_neg (by simp), if_neg (by rw [e5]; decide), if_neg (by rw [e6]; decide)]
end Rf

set_option Elab.async false
set_option linter.all false
set_option maxRecDepth 100000
set_option maxHeartbeats 1000000
namespace Rf
open PySem L2

/-! ## a value or a new container -/
def RX (A : Ad) (o : Bool) : Wd → Wd → D → V → Prop := match o with
  | true => RF A
  | false => RD A
def mkS (o : Bool) (d : D) : Slt := match o with
  | true => .own d
  | false => .val d
structure BX where
  o : Bool
  den : FT → En → M D
  chk : Info → List Str → Scope → Expr → Bool
  snd : ∀ {A : Ad} {k : Nat} {F : FT} {X : Cx} {W : WX}, Ctx A k F X W → ∀ {e : Expr}, chk A.I X.N X.env.scope e = true → PE X e (LG A (RX A o) W (den F))
def BE.x (b : BE) : BX := ⟨false, b.den, b.chk, fun C _ h => b.snd C h⟩
def BF.x (b : BF) : BX := ⟨true, b.den, b.chk, fun C _ h => b.snd C h⟩
section
variable {A : Ad} {k : Nat} {F : FT} {X : Cx} {W : WX} {w0 : W0} {E : Ends} {t : St}
theorem RX.up {o : Bool} {w w1 w2 : Wd} {d : D} {v : V} (x1 : Wf w1) (h : RX A o w w1 d v) (e : Ext w1 w2) : RX A o w w2 d v := by
  cases o with
  | false => exact Rep.mono x1 e h
  | true =>
    obtain ⟨p, h1, h2, h3, h4, h5⟩ := h
    refine ⟨p, h1, h2, fun q => ?_, e.nmu h5.trk h4, h5.mono x1 e (e.keep p h5.trk h4)⟩
    rcases e.sn p q with z | z
    · exact h3 z
    · exact h5.trk z
theorem FR.setX {o : Bool} {w w' : Wd} {r : En} {st st' : Sto} {i : Nat} {d : D} {v : V} (h0i : o = true → i ≠ 0) (h : FR A w0 w r t st) (e : Ext w w') (s : SRel A w' st') (hv : RX A o w w' d v) : FR A w0 w' (r.set i (mkS o d)) (t.set i (some v)) st' := by
  cases o with
  | false => exact (h.mono e s).set hv
  | true => exact h.setOwn (h0i rfl) e s hv
end
/-- a, b = e, e' -/
def sPar (i j : Nat) (a b : BX) : BS where
  den F r := bnd (a.den F r) fun x => bnd (b.den F r) fun y => ret (.nx ((r.set i (mkS a.o x)).set j (mkS b.o y)))
  chk I N sc s := match s with
    | .Assign [.Tuple [.Name x px, .Name y py] _ _] (.Tuple [e, e'] _ _) _ => decide (a.o = true → i ≠ 0) && decide (b.o = true → j ≠ 0) && decide (N[i]? = some x) && decide (N[j]? = some y) && decide (i ≠ j) && parB sc x y px py e e' && a.chk I N sc e && b.chk I N sc e'
    | _ => false
  snd {A k F X W} C s h w0 := by
    split at h
    · rename_i x px y py kt pt e e' k2 pt2 pos
      simp only [Bool.and_eq_true, decide_eq_true_eq] at h
      obtain ⟨⟨⟨⟨⟨⟨⟨z1, z2⟩, h1⟩, h2⟩, h3⟩, h4⟩, h5⟩, h6⟩ := h
      have hp0 := h4
      unfold parB at hp0
      simp only [Bool.and_eq_true] at hp0
      obtain ⟨⟨⟨⟨⟨⟨⟨l1, l2⟩, _⟩, _⟩, _⟩, _⟩, n1⟩, n2⟩ := hp0
      refine (ps_par C.c.calm C.c.nd h1 h2 h3 (locB_ok l1) (locB_ok l2) (pa_cons (a.snd C.c h5) (pa_cons (b.snd C.c h6) pa_nil (star_cons n2)) (star_cons n1)) (par_ok C.kind h4) rfl).imp fun E t H q => ?_
      obtain ⟨w, r, st, rfl, fr, hp⟩ := q
      refine stepS (R := RX A a.o) fr hp fun w1 st1 d v fr1 e1 rv _ hp1 => ?_
      refine stepS (R := RX A b.o) fr1 hp1 fun w2 st2 d2 v2 fr2 e2 rv2 _ hp2 => ?_
      refine ⟨v, v2, rfl, hp2 w2 _ (.refl w2) ?_⟩
      exact (fr.setX z1 e1 fr1.sr rv).setX z2 e2 fr2.sr rv2
    · cases h
/-- x = [elt for ..] -/
def sLc (o : Bool) (i : Nat) (it : BI) (vs : List Nat) (g : BG) (c : BC) (elt : BE) : BS where
  den F r := bnd (dComp (it.den F) vs g.set (c.den F) (elt.den F) r) fun d => ret (.nx (r.set i (mkS o d)))
  chk I N sc s := match s with
    | .Assign [.Name y py] e pos => decide (o = true → i ≠ 0) && decide (N[i]? = some y) && locB sc y && compChk it vs g c elt I N sc e && (match e with
      | .ListComp _ _ scope ep => py.line == ep.line && !(scope.names.any fun q => q.1 == y && (q.2 == .local || q.2 == .cell))
      | _ => false)
    | _ => false
  snd {A k F X W} C s h w0 := by
    split at h
    · rename_i y py e pos
      simp only [Bool.and_eq_true, decide_eq_true_eq] at h
      obtain ⟨⟨⟨⟨z0, g1⟩, g2⟩, g3⟩, g4⟩ := h
      unfold compChk at g3
      split at g3
      · rename_i el tg iter ifs scope epos
        simp only [Bool.and_eq_true, Bool.not_eq_true'] at g3 g4
        obtain ⟨⟨⟨⟨⟨⟨⟨h1, h2⟩, h3⟩, h4⟩, h5⟩, h6⟩, h7⟩, h8⟩ := g3
        refine (ps_setLc (g := gR A g) (tt := LT A noWX (c.den F)) (te := LE A noWX (elt.den F)) C.c.calm C.c.nd g1 (locB_ok g2) (sw_true C.kind (locB_ok g2) g4.1 g4.2) (it.snd C.c h2) (blkOk_by h6)
          (fun s H D cl fp => g.snd (X := X.blk s H scope (compEnvC scope cl D X.env) fp) (fun z => by cases z) C.c.hK C.c.nd C.c.calm h3)
          (fun s H D cl fp => BC.snd (C.c.blk s H scope (compEnvC scope cl D X.env) fp) h4)
          (fun s H D cl fp => elt.snd (C.c.blk s H scope (compEnvC scope cl D X.env) fp) h5) (folded_ok h1)).imp fun E t H q => ?_
        rw [ownOf_snd h7]
        obtain ⟨w, r, st, rfl, fr, hp⟩ := q
        have hws : ∀ i ∈ g.ws, i ∈ vs := fun i hi => by
          have := List.all_eq_true.mp h8 i hi
          simpa using this
        refine comp_ok hws (stepS (R := RF A) fr hp fun w1 st1 d v fr1 e1 rv _ hp1 => ?_)
        cases o with
        | true => exact hp1 w1 _ (.refl w1) (fr.setOwn (z0 rfl) e1 fr1.sr rv)
        | false =>
          obtain ⟨p, rfl, q1, q2, q3, q4⟩ := rv
          have x := fr1.sr.wf
          have hx : Le w1 (w1.frz p) := ⟨fun _ _ q => q, fun a q => ⟨.inl q, rfl⟩⟩
          have x2 : Wf (w1.frz p) := ⟨fun a q => q.elim (x.s a) fun e => by rw [e]; exact ⟨q4.trk, q3⟩, x.m, x.nd, fun a vs h => .inl (x.t a vs h)⟩
          have s2 : SRel A (w1.frz p) st1 := ⟨x2, fr1.sr.len, fun n o a z1 z2 => (fr1.sr.ob n o a z1 z2).le hx rfl⟩
          have e2 : Ext w (w1.frz p) := ⟨e1.mu, fun a q => .inl (e1.s a q), fun a q => q.elim (e1.sn a) fun e => .inr (e ▸ q1), e1.keep, e1.trk⟩
          exact hp1 (w1.frz p) _ hx ((fr.mono e2 s2).set ((q4.le hx rfl).rep (.inr rfl)))
      · cases g3
    · cases h

/-! ## a list that a slot owns -/
def ownL (r : En) (i : Nat) : Option (List D) := match r[i]? with
  | some (.own (.lst l)) => some l
  | _ => none
theorem ownL_eq {r : En} {i : Nat} {l : List D} (h : ownL r i = some l) : r[i]? = some (.own (.lst l)) := by
  unfold ownL at h
  split at h
  · cases h; assumption
  · cases h
section
variable {A : Ad} {k : Nat} {F : FT} {X : Cx} {W : WX} {w0 : W0} {E : Ends} {t : St}
theorem FR.own {w : Wd} {r : En} {st : Sto} {i : Nat} {d : D} (h : FR A w0 w r t st) (e : r[i]? = some (.own d)) : ∃ a, t[i]? = some (some (.ref a)) ∧ ¬ w.S a ∧ a ∉ w.mu ∧ Top A w d a ∧ w0.w.H a = none := by
  have hi := (List.getElem?_eq_some_iff.mp e).1
  have hi' : i < t.length := by rw [← h.env.len]; exact hi
  obtain ⟨p, hp, h2, h3, h4⟩ := h.env.at_ i _ t[i] e (by simp [hi'])
  have ht : t[i]? = some (some (.ref p)) := by rw [List.getElem?_eq_getElem hi', hp]
  exact ⟨p, ht, h2, h3, h4, h.ow i d p e ht⟩
theorem EnvR.own {w : Wd} {r : En} {i : Nat} {d : D} (h : EnvR A w r t) (e : r[i]? = some (.own d)) : ∃ a, t[i]? = some (some (.ref a)) ∧ ¬ w.S a ∧ a ∉ w.mu ∧ Top A w d a := by
  have hi := (List.getElem?_eq_some_iff.mp e).1
  have hi' : i < t.length := by rw [← h.len]; exact hi
  obtain ⟨p, hp, h2, h3, h4⟩ := h.at_ i _ t[i] e (by simp [hi'])
  have ht : t[i]? = some (some (.ref p)) := by rw [List.getElem?_eq_getElem hi', hp]
  exact ⟨p, ht, h2, h3, h4⟩
/-- what a slot owns is changed -/
theorem FR.putOwn {w : Wd} {r : En} {st : Sto} {i : Nat} {d d' : D} {a : Addr} {o : HO} (h : FR A w0 w r t st) (e : r[i]? = some (.own d)) (ht : t[i]? = some (some (.ref a))) (hT : Top A (w.raw a o) d' a) : FR A w0 (w.raw a o) (r.set i (.own d')) t st := by
  obtain ⟨p, hp, nS, nM, _, h0⟩ := h.own e
  rw [ht] at hp
  cases hp
  have hi := (List.getElem?_eq_some_iff.mp e).1
  refine ⟨⟨by simp [h.env.len], fun j s u g1 g2 => ?_, fun b c d1 d2 u hbc g1 g2 g3 g4 => ?_⟩, srel_put h.sr nS nM hT.noT, ext_put h.ex h0, fun j d'' b g1 g2 => ?_, fun d'' h1 => ?_⟩
  rotate_right
  · by_cases ej : i = 0
    · subst ej
      exact h.slf d e
    · rw [List.getElem?_set_ne ej] at h1
      exact h.slf d'' h1
  · by_cases ej : i = j
    · subst ej
      rw [List.getElem?_set_self hi] at g1
      cases g1
      rw [ht] at g2
      cases g2
      exact ⟨a, rfl, nS, nM, hT⟩
    · rw [List.getElem?_set_ne ej] at g1
      have q := h.env.at_ j s u g1 g2
      cases s with
      | none => trivial
      | val d' => obtain ⟨u', q1, q2⟩ := q; exact ⟨u', q1, q2.le (le_put nS)⟩
      | own d' =>
        obtain ⟨a', q1, q2, q3, q4⟩ := q
        refine ⟨a', q1, q2, q3, q4.le (le_put nS) (upd_ne ?_)⟩
        rintro rfl
        subst q1
        exact h.env.dis i j d d' _ ej e g1 ht g2
  · have old : ∀ (j : Nat) dj, (r.set i (.own d'))[j]? = some (.own dj) → ∃ dj', r[j]? = some (.own dj') := by
      intro j dj q
      by_cases ej : i = j
      · subst ej; exact ⟨d, e⟩
      · rw [List.getElem?_set_ne ej] at q; exact ⟨dj, q⟩
    obtain ⟨_, q1⟩ := old b d1 g1
    obtain ⟨_, q2⟩ := old c d2 g2
    exact h.env.dis b c _ _ u hbc q1 q2 g3 g4
  · by_cases ej : i = j
    · subst ej
      rw [ht] at g2
      cases g2
      exact h0
    · rw [List.getElem?_set_ne ej] at g1
      exact h.ow j d'' b g1 g2
end
def varB (N : List Str) (sc : Scope) (i : Nat) (e : Expr) : Bool := match e with
  | .Name x _ => (match N[i]? with
    | some y => beqS x y && visB sc x && okN x
    | none => false)
  | _ => false
theorem varB_ok {X : Cx} {i : Nat} {e : Expr} (h : varB X.N X.env.scope i e = true) : PE X e (tVar i) ∧ noSup e = true ∧ notStar e = true := by
  unfold varB at h
  split at h
  · split at h
    · rename_i hy
      simp only [Bool.and_eq_true] at h
      obtain ⟨⟨h1, h2⟩, h3⟩ := h
      have := beqS_eq h1
      subst this
      exact ⟨pe_var hy (visB_ok h2) (okN_d h3) (okN_c h3), rfl, rfl⟩
    · cases h
  · cases h
/-- a method of one argument of a built-in -/
theorem pe_m {X : Cx} {o e : Expr} {to : TE} {ta : TA} {T id : String} {name : Str} {r : V → List V → Hp → VK → Prop} {apos pos : Pos} (pa : PlainAttrs T) (slot : Slot T name id) (hty : typeOf (.builtin id) = pure (.type "method_descriptor")) (hm : MtR X id r)
    (ho : PE X o to) (ha : PA X [e] ta) (hs : noSup o = true) (hn : notStar e = true) (hl : (apos.endLine == pos.line) = true) : PE X (.Call (.Attribute o name apos) [e] [] pos) (tBM X.K T r to ta) :=
  pe_bm pa slot hty hm ho ha (base_ok hs) (by rw [star_cons hn]; rfl) hl (star_cons hn) rfl
theorem ext_none {w : Wd} : True := trivial
def methB (name : String) (e : Expr) : Option (Expr × Expr) := match e with
  | .Call (.Attribute o m apos) [a] [] pos => if beqS m (Str.ofString name) && apos.endLine == pos.line && noSup o && notStar a then some (o, a) else none
  | _ => none
theorem methB_ok {name : String} {e o a : Expr} (h : methB name e = some (o, a)) : ∃ apos pos, e = .Call (.Attribute o (Str.ofString name) apos) [a] [] pos ∧ (apos.endLine == pos.line) = true ∧ noSup o = true ∧ notStar a = true := by
  unfold methB at h
  split at h
  · split at h
    · rename_i hc
      cases h
      simp only [Bool.and_eq_true] at hc
      have := beqS_eq hc.1.1.1
      subst this
      exact ⟨_, _, rfl, hc.1.1.2, hc.1.2, hc.2⟩
    · cases h
  · cases h
/-- x.append(e) -/
def sApp (i : Nat) (b : BE) : BS where
  den F r := bnd (opt (ownL r i)) fun l => bnd (b.den F r) fun d => bnd (opt (if l.length < sizeLine then some () else none)) fun _ => ret (.nx (r.set i (.own (.lst (l ++ [d])))))
  chk I N sc s := match s with
    | .Expr e _ => (match methB "append" e with
      | some (o, a) => varB N sc i o && b.chk I N sc a
      | none => false)
    | _ => false
  snd {A k F X W} C s h w0 := by
    split at h
    · split at h
      · rename_i o a hm
        obtain ⟨apos, pos, rfl, hl, hs, hn⟩ := methB_ok hm
        simp only [Bool.and_eq_true] at h
        obtain ⟨hv, _, _⟩ := varB_ok h.1
        refine (ps_expr (pe_m PySem.F.plainAttrs_list PySem.F.slot_list_append PySem.F.type_list_append mt_append hv (pa_cons (b.snd C.c h.2) pa_nil (star_cons hn)) hs hn hl) rfl).imp fun E t H q => ?_
        obtain ⟨w, r, st, rfl, fr, hp⟩ := q
        obtain ⟨l, eo, hp⟩ := postS_opt hp
        have er := ownL_eq eo
        obtain ⟨a0, ht, nS, nM, ⟨vs, hd, hz, hvs⟩, h0⟩ := fr.own er
        refine ⟨_, ht, .inl ⟨rfl, vs, .inl (.inl hd)⟩, ?_⟩
        refine stepS (R := RD A) fr hp fun w1 st1 d v fr1 e1 rv l1 hp1 => ?_
        obtain ⟨_, el, hp2⟩ := postS_opt hp1
        have hl2 : l.length < sizeLine := by
          split at el
          · assumption
          · cases el
        have hd1 : w1.H a0 = some (.lst vs) := (e1.keep a0 (by rw [hd]; simp) nM).trans hd
        have el := hvs.length
        obtain ⟨_, ht1, nS1, nM1, _, _⟩ := fr1.own er
        rw [ht] at ht1
        cases ht1
        refine ⟨a0, vs, v, rfl, rfl, hd1, by omega, hp2 (w1.raw a0 _) t (le_put nS1) (fr1.putOwn er ht ⟨vs ++ [v], upd_same, by rw [List.length_append]; show vs.length + 1 ≤ _; omega, ?_⟩)⟩
        exact ((hvs.mono fr.sr.wf e1).append (.one rv)).le (le_put nS1)
      · cases h
    · cases h
end Rf

set_option Elab.async false
set_option linter.all false
set_option maxRecDepth 100000
set_option maxHeartbeats 1000000
namespace Rf
open PySem L2

/-! ## how arguments are bound -/
theorem zip_look {ps : List Str} {us : List Value} (nd : ps.Nodup) (hl : us.length = ps.length) : ∀ (i : Nat) (x : Str), ps[i]? = some x → ∃ u, us[i]? = some u ∧ (ps.zip us).lookup x = some u := by
  induction ps generalizing us with
  | nil => intro i x h; simp at h
  | cons p ps ih =>
    cases us with
    | nil => simp at hl
    | cons u us =>
      have nd' := List.nodup_cons.mp nd
      intro i x h
      cases i with
      | zero =>
        simp at h
        subst h
        exact ⟨u, rfl, by simp [List.lookup]⟩
      | succ i =>
        simp at h
        obtain ⟨v, h1, h2⟩ := ih nd'.2 (by simpa using hl) i x h
        have hn : x ≠ p := by rintro rfl; exact nd'.1 (List.mem_of_getElem? h)
        exact ⟨v, by simpa using h1, by rw [List.zip_cons_cons, List.lookup_cons, beq_eq_false_iff_ne.mpr hn]; exact h2⟩
theorem zip_fm {ps : List Str} {us : List Value} (nd : ps.Nodup) (hl : us.length = ps.length) : (ps.filterMap fun n => ((ps.zip us).lookup n).map (n, ·)) = ps.zip us := by
  have key : ∀ (l : List (Str × Value)) (qs : List Str) (ws : List Value), ws.length = qs.length → (∀ (i : Nat) x, qs[i]? = some x → ∃ u, ws[i]? = some u ∧ l.lookup x = some u) → (qs.filterMap fun n => (l.lookup n).map (n, ·)) = qs.zip ws := by
    intro l qs
    induction qs with
    | nil => intro ws _ _; rfl
    | cons q qs ih =>
      intro ws hw h
      cases ws with
      | nil => simp at hw
      | cons u ws =>
        obtain ⟨v, h1, h2⟩ := h 0 q rfl
        simp at h1
        subst h1
        rw [List.filterMap_cons, h2]
        simp only [Option.map_some, List.zip_cons_cons]
        congr 1
        exact ih ws (by simpa using hw) fun i x hx => by
          obtain ⟨v, g1, g2⟩ := h (i + 1) x (by simpa using hx)
          exact ⟨v, by simpa using g1, g2⟩
  exact key _ ps us hl (zip_look nd hl)
theorem zip_miss {ps : List Str} {us : List Value} (nd : ps.Nodup) (hl : us.length = ps.length) : (ps.filter fun n => ((ps.zip us).lookup n).isNone) = [] := by
  rw [List.filter_eq_nil_iff]
  intro x hx
  obtain ⟨i, hi⟩ := List.getElem?_of_mem hx
  obtain ⟨u, _, h⟩ := zip_look nd hl i x hi
  simp [h]
theorem bind_plain {fd : FuncData} {as : List Arg} (hp : fd.params = { posonlyargs := [], args := as, vararg := none, kwonlyargs := [], kw_defaults := [], kwarg := none, defaults := [] }) (hd : fd.defaults = .none) (nd : (as.map (·.arg)).Nodup) (us : List Value)
    (hl : us.length = (as.map (·.arg)).length) : bindArgs fd ⟨us, []⟩ = pure ((as.map (·.arg)).zip us) := by
  unfold bindArgs
  rw [hp, hd]
  have e1 : seqItems? .none = pure none := rfl
  have h1 : ¬ us.length > as.length := by simp at hl; omega
  have e2 := zip_miss nd hl
  have e3 := zip_fm nd hl
  have e4 : ∀ n, as.length ≤ n → (as.map (·.arg)).take n = as.map (·.arg) := fun n h => List.take_of_length_le (by simpa using h)
  have e5 := e4 as.length (Nat.le_refl _)
  have e6 : (as.filterMap ((fun n => Option.map (fun x => (n, x)) (List.lookup n ((as.map (·.arg)).zip us))) ∘ (·.arg))) = (as.map (·.arg)).zip us := by rw [← List.filterMap_map]; exact e3
  simp only [List.map_nil, List.nil_append, List.append_nil, e1, pure_bind, Option.getD_none, List.toList_toArray, List.length_nil, Nat.zero_sub, List.drop_nil, List.isEmpty_nil, Bool.not_true, List.length_map]
  simp [h1, e5, e2, e6]

abbrev KV2 := List (Str × Value)
theorem forIn_slots {body : Str × Value → KV2 × KV2 → Sem (ForInStep (KV2 × KV2))} {P : Str → Prop} (hb : ∀ x s, P x.1 → List.lookup x.1 s.1 = none → body x s = pure (.yield (s.1 ++ [x], s.2))) :
    ∀ (kws : KV2) (s : KV2 × KV2), (∀ x ∈ kws, P x.1) → ((s.1 ++ kws).map (·.1)).Nodup → forIn kws s body = pure (s.1 ++ kws, s.2)
  | [], s, _, _ => by simp
  | x :: kws, s, h, nd => by
    have hn : List.lookup x.1 s.1 = none := by
      rw [List.lookup_eq_none_iff]
      intro p hp
      have h1 : p.1 ∈ s.1.map (·.1) := List.mem_map_of_mem hp
      rw [List.map_append] at nd
      have := (List.nodup_append.mp nd).2.2 p.1 h1 x.1 (by simp)
      simpa [bne_iff_ne] using fun e => this e.symm
    rw [List.forIn_cons, hb x s (h x (List.mem_cons_self ..)) hn, pure_bind]
    have := forIn_slots hb kws (s.1 ++ [x], s.2) (fun y hy => h y (List.mem_cons_of_mem _ hy)) (by simpa using nd)
    simpa using this
theorem zip_lookI {ps : List Str} (nd : ps.Nodup) : ∀ {us : List Value} {i : Nat} {x : Str} {u : Value}, ps[i]? = some x → us[i]? = some u → (ps.zip us).lookup x = some u := by
  induction ps with
  | nil => intro us i x u h; simp at h
  | cons p ps ih =>
    intro us i x u h1 h2
    have nd' := List.nodup_cons.mp nd
    cases us with
    | nil => simp at h2
    | cons v us =>
      cases i with
      | zero => simp at h1 h2; subst h1 h2; simp [List.lookup]
      | succ i =>
        simp at h1 h2
        have hn : x ≠ p := by rintro rfl; exact nd'.1 (List.mem_of_getElem? h1)
        rw [List.zip_cons_cons, List.lookup_cons, beq_eq_false_iff_ne.mpr hn]
        exact ih nd'.2 h1 h2
theorem zip_lookN {ps : List Str} {us : List Value} {x : Str} (h : x ∉ ps.take us.length) : (ps.zip us).lookup x = none := by
  rw [List.lookup_eq_none_iff]
  intro p hp
  have : p.1 ∈ ps.take us.length := by
    induction ps generalizing us with
    | nil => simp at hp
    | cons q ps ih =>
      cases us with
      | nil => simp at hp
      | cons u us =>
        rw [List.zip_cons_cons] at hp
        rcases List.mem_cons.mp hp with rfl | hp
        · simp
        · have h' : x ∉ ps.take us.length := fun z => h (by simp [z])
          have := ih h' hp
          simp [this]
  simpa [bne_iff_ne] using fun e : x = p.1 => h (e ▸ this)
theorem lookup_app {α β : Type} [BEq α] {x : α} {b : List (α × β)} : ∀ {a : List (α × β)}, (a ++ b).lookup x = (a.lookup x).orElse fun _ => b.lookup x
  | [] => rfl
  | (y, v) :: a => by
    rw [List.cons_append, List.lookup_cons, List.lookup_cons]
    cases x == y
    · exact lookup_app
    · rfl
theorem zip_fst {α β : Type} : ∀ {ps : List α} {us : List β}, (ps.zip us).map (·.1) = ps.take us.length
  | [], _ => by simp
  | _ :: _, [] => by simp
  | p :: ps, u :: us => by simp [zip_fst]
theorem fm_zip {f : Str → Option (Str × Value)} : ∀ {ps : List Str} {vs : List Value}, vs.length = ps.length → (∀ (m : Nat) x, ps[m]? = some x → ∃ v, vs[m]? = some v ∧ f x = some (x, v)) → ps.filterMap f = ps.zip vs
  | [], _, _, _ => rfl
  | p :: ps, [], h, _ => by simp at h
  | p :: ps, v :: vs, h, k => by
    obtain ⟨u, e1, e2⟩ := k 0 p rfl
    simp at e1
    subst e1
    rw [List.filterMap_cons, e2]
    simp only [List.zip_cons_cons]
    congr 1
    exact fm_zip (by simpa using h) fun m x hx => by
      obtain ⟨u, e1, e2⟩ := k (m + 1) x (by simpa using hx)
      exact ⟨u, by simpa using e1, e2⟩
theorem pm_look {ps ks : List Str} {us ws : List Value} {pm : List Nat} (nd : ps.Nodup) (h : pmOk ps us.length ks pm = true) (hw : ws.length = ks.length) :
    ∀ (m : Nat) (x : Str), ps[m]? = some x → ∃ j u, pm[m]? = some j ∧ (us ++ ws)[j]? = some u ∧ (ps.zip us ++ ks.zip ws).lookup x = some u := by
  unfold pmOk at h
  simp only [Bool.and_eq_true, decide_eq_true_eq, List.all_eq_true, List.mem_range] at h
  obtain ⟨⟨⟨⟨h1, h2⟩, h3⟩, h4⟩, h5⟩ := h
  intro m x hx
  have hm : m < ps.length := (List.getElem?_eq_some_iff.mp hx).1
  have q := h5 m hm
  by_cases hn : m < us.length
  · rw [if_pos hn] at q
    have q := of_decide_eq_true q
    have hu : us[m]? = some us[m] := by simp [hn]
    refine ⟨m, us[m], q, by rw [List.getElem?_append_left hn, hu], ?_⟩
    rw [lookup_app, zip_lookI nd hx hu]; rfl
  · rw [if_neg hn] at q
    split at q
    · rename_i j x' e1 e2
      simp only [Bool.and_eq_true, decide_eq_true_eq] at q
      obtain ⟨q1, q2⟩ := q
      rw [hx] at e2
      cases e2
      split at q2
      · rename_i k hk
        have := beqS_eq q2
        subst this
        have hj : j - us.length < ws.length := by rw [hw]; exact (List.getElem?_eq_some_iff.mp hk).1
        have hu : ws[j - us.length]? = some ws[j - us.length] := by simp [hj]
        refine ⟨j, _, e1, by rw [List.getElem?_append_right q1, hu], ?_⟩
        have nin : k ∉ ps.take us.length := fun z => by
          obtain ⟨i, hi⟩ := List.getElem?_of_mem z
          rw [List.getElem?_take] at hi
          split at hi
          · rename_i hlt
            have hp := List.pairwise_iff_getElem.mp nd
            obtain ⟨i1, i2⟩ := List.getElem?_eq_some_iff.mp hi
            obtain ⟨j1, j2⟩ := List.getElem?_eq_some_iff.mp hx
            exact hp i m i1 j1 (by omega) (i2.trans j2.symm)
          · cases hi
        rw [lookup_app, zip_lookN nin]
        show (ks.zip ws).lookup k = _
        exact zip_lookI (nodB_ok h3) hk hu
      · cases q2
    · cases q
theorem bind_kw {fd : FuncData} {as : List Arg} (hp : fd.params = { posonlyargs := [], args := as, vararg := none, kwonlyargs := [], kw_defaults := [], kwarg := none, defaults := [] }) (hd : fd.defaults = .none) (nd : (as.map (·.arg)).Nodup) (us ws : List Value) (ks : List Str) (pm : List Nat)
    (hw : ws.length = ks.length) (h : pmOk (as.map (·.arg)) us.length ks pm = true) : bindArgs fd ⟨us, ks.zip ws⟩ = pure ((as.map (·.arg)).zip (arr .none pm (us ++ ws))) := by
  have hk := pm_look nd h hw
  have h0 := h
  unfold pmOk at h0
  simp only [Bool.and_eq_true, decide_eq_true_eq, List.all_eq_true, List.mem_range] at h0
  obtain ⟨⟨⟨⟨h1, h2⟩, h3⟩, h4⟩, _⟩ := h0
  have hle : ¬ us.length > as.length := by simp at h2; omega
  have kmem : ∀ x ∈ ks.zip ws, x.1 ∈ as.map (·.arg) := fun x hx => by
    have hx1 : x.1 ∈ ks := (List.of_mem_zip hx).1
    have := h4 x.1 hx1
    rw [List.any_eq_true] at this
    obtain ⟨p, q1, q2⟩ := this
    rw [beqS_eq q2]
    exact List.mem_of_mem_drop q1
  have knd : (((as.map (·.arg)).zip us ++ ks.zip ws).map (·.1)).Nodup := by
    rw [List.map_append]
    have e1 : ((as.map (·.arg)).zip us).map (·.1) = (as.map (·.arg)).take us.length := zip_fst
    have e2 : (ks.zip ws).map (·.1) = ks := List.map_fst_zip (by omega)
    rw [e1, e2]
    refine List.nodup_append.mpr ⟨nd.sublist (List.take_sublist _ _), nodB_ok h3, fun a ha b hb e => ?_⟩
    subst e
    have := h4 a hb
    rw [List.any_eq_true] at this
    obtain ⟨p, q1, q2⟩ := this
    have e := beqS_eq q2
    subst e
    have nd2 := nd
    rw [← List.take_append_drop us.length (as.map (·.arg))] at nd2
    exact (List.nodup_append.mp nd2).2.2 a ha a q1 rfl
  have e2 : ((as.map (·.arg)).filter fun n => (((as.map (·.arg)).zip us ++ ks.zip ws).lookup n).isNone) = [] := by
    rw [List.filter_eq_nil_iff]
    intro x hx
    obtain ⟨m, hm⟩ := List.getElem?_of_mem hx
    obtain ⟨_, u, _, _, q⟩ := hk m x hm
    simp [q]
  have e3 : ((as.map (·.arg)).filterMap fun n => (((as.map (·.arg)).zip us ++ ks.zip ws).lookup n).map (n, ·)) = (as.map (·.arg)).zip (arr .none pm (us ++ ws)) := by
    refine fm_zip (by unfold arr; rw [List.length_map]; exact h1) fun m x hx => ?_
    obtain ⟨j, u, q1, q2, q3⟩ := hk m x hx
    refine ⟨u, ?_, by rw [q3]; rfl⟩
    unfold arr
    rw [List.getElem?_map, q1, Option.map_some, List.getD_eq_getElem?_getD, q2]; rfl
  unfold bindArgs
  rw [hp, hd]
  have es1 : seqItems? .none = pure none := rfl
  simp only [List.map_nil, List.nil_append, List.append_nil, List.length_map]
  rw [forIn_slots (P := fun x => x ∈ as.map (·.arg)) (fun x s hx hs => ?_) _ _ kmem (by simpa using knd)]
  rotate_left
  · rw [if_pos (by rw [Bool.or_eq_true]; exact .inl (List.contains_iff_mem.mpr hx)), if_neg (by simp [hs])]
  have e4 : ∀ n, as.length ≤ n → (as.map (·.arg)).take n = as.map (·.arg) := fun n h => List.take_of_length_le (by simpa using h)
  have e5 := e4 as.length (Nat.le_refl _)
  have e6 : (as.filterMap ((fun n => Option.map (fun x => (n, x)) (List.lookup n ((as.map (·.arg)).zip us ++ ks.zip ws))) ∘ (·.arg))) = (as.map (·.arg)).zip (arr .none pm (us ++ ws)) := by rw [← List.filterMap_map]; exact e3
  simp only [es1, pure_bind, Option.getD_none, List.toList_toArray, List.length_nil, Nat.zero_sub, List.drop_nil, List.isEmpty_nil, Bool.not_true]
  simp [hle, e5, e2, e6]

/-! ## defs -/
structure DB where
  ns : List String
  np : Nat
  body : List BS
def DB.N (d : DB) : List Str := d.ns.map Str.ofString
def DB.ps (d : DB) : List Str := d.N.take d.np
def flD : Out Fl → Out D
  | .ok (.nx _) st => .ok .non st
  | .ok (.rt v) st => .ok v st
  | .ok _ _ => .bad
  | .exc x st => .exc x st
  | .bad => .bad
def entE (d : DB) (ds : List D) : En := ds.map .val ++ List.replicate (d.ns.length - d.np) .none
def runB (d : DB) (F : FT) (ds : List D) : M D := fun st => if ds.length = d.np then flD (dBlk d.body F (entE d ds) st) else .bad
def isFun : ScopeKind → Bool
  | .function => true
  | _ => false
def fsB (N P : List Str) (sc : Scope) : Bool :=
  isFun sc.kind && !sc.isCoroutine && !sc.isGenerator && nodB N && P.all (fun x => stoB sc x) && sc.names.all (fun y => match y.2 with | .free => false | _ => true)
theorem fsB_ok {N : List Str} {n : Nat} {sc : Scope} (h : fsB N (N.take n) sc = true) : FnScope N (N.take n) sc := by
  unfold fsB at h
  simp only [Bool.and_eq_true, Bool.not_eq_true', List.all_eq_true] at h
  obtain ⟨⟨⟨⟨⟨h1, h2⟩, h3⟩, h4⟩, h5⟩, h6⟩ := h
  refine ⟨?_, h2, h3, nodB_ok h4, ?_, fun x hx => ?_, fun y hy e => ?_⟩
  · unfold isFun at h1; split at h1 <;> first | assumption | cases h1
  · rw [List.length_take]
    by_cases q : n ≤ N.length
    · rw [Nat.min_eq_left q]
    · rw [Nat.min_eq_right (by omega), List.take_of_length_le (by omega), List.take_of_length_le (by omega)]
  · exact stoB_ok (h5 x hx)
  · have := h6 y hy
    rw [e] at this
    cases this
def strsB : List Str → List Str → Bool
  | [], [] => true
  | x :: xs, y :: ys => beqS x y && strsB xs ys
  | _, _ => false
theorem strsB_eq : ∀ {a b : List Str}, strsB a b = true → a = b
  | [], [], _ => rfl
  | [], _ :: _, h => by cases h
  | _ :: _, [], h => by cases h
  | x :: xs, y :: ys, h => by
    simp only [strsB, Bool.and_eq_true] at h
    rw [beqS_eq h.1, strsB_eq h.2]
def argsB (P : List Str) (a : Arguments) : Bool := a.posonlyargs.isEmpty && a.vararg.isNone && a.kwonlyargs.isEmpty && a.kw_defaults.isEmpty && a.kwarg.isNone && a.defaults.isEmpty && strsB (a.args.map (·.arg)) P
def chkDef (I : Info) (d : DB) (st : Stmt) : Bool := decide (d.np ≤ d.ns.length) && fsB d.N d.ps (defScope st) && argsB d.ps (defArgs st) && chb I d.N (defScope st) d.body (defBody st)
theorem ent_env {A : Ad} {w : Wd} {d : DB} {ds : List D} {vs : List V} (h : Reps A w ds vs) (hn : ds.length = d.np) : EnvR A w (entE d ds) (L2.start d.N vs) := by
  have hl := h.length
  unfold entE L2.start
  refine ⟨by simp [DB.N, hl, hn], fun i x v h1 h2 => ?_, fun i j d1 d2 u hij h1 h2 h3 h4 => ?_⟩
  · by_cases q : i < ds.length
    · rw [List.getElem?_append_left (by simpa using q), List.getElem?_map] at h1
      rw [List.getElem?_append_left (by simpa [hl] using q), List.getElem?_map] at h2
      rw [List.getElem?_eq_getElem q] at h1
      rw [List.getElem?_eq_getElem (by rw [hl]; exact q)] at h2
      simp only [Option.map_some, Option.some.injEq] at h1 h2
      subst h1 h2
      obtain ⟨u, g1, g2⟩ := h.get (i := i) (d := ds[i]) (by simp [q])
      rw [List.getElem?_eq_getElem (by rw [hl]; exact q)] at g1
      cases g1
      exact ⟨_, rfl, g2⟩
    · rw [List.getElem?_append_right (by simpa using q)] at h1
      have := List.mem_of_getElem? h1
      rw [List.mem_replicate] at this
      rw [this.2]
      trivial
  · have := List.mem_of_getElem? h1
    simp at this
/-- an __init__: its instance is the first slot's own -/
def entI (d : DB) (c : Nat) (ds : List D) : En := .own (.obj c []) :: (ds.map .val ++ List.replicate (d.ns.length - d.np) .none)
def flI : Out Fl → Out D
  | .ok (.nx r) st => (match (r[0]? : Option Slt) with
    | some (Slt.own o) => .ok o st
    | _ => .bad)
  | .ok _ _ => .bad
  | .exc x st => .exc x st
  | .bad => .bad
def runI (d : DB) (c : Nat) (F : FT) (ds : List D) : M D := fun st => if ds.length + 1 = d.np then flI (dBlk d.body F (entI d c ds) st) else .bad
def runX (i : Nat) (d : DB) (F : FT) : List D → M D := match iniC i with
  | none => runB d F
  | some c => runI d c F
section
variable {A : Ad} {P : Program} {w : World} {mg : Str → Option Value} {base : Heap} {k : Nat} {F : FT} {d : DB} {st : Stmt} {x qual : Str} {f : Addr} {fd : FuncData}
theorem def_binds (hF : FunD A.K x qual (defArgs st) (defBody st) (defScope st) [] [] f fd) (hc : chkDef A.I d st = true) : Binds A.K fd d.ps [] := by
  unfold chkDef at hc
  simp only [Bool.and_eq_true, decide_eq_true_eq] at hc
  obtain ⟨⟨⟨h0, h1⟩, h2⟩, h3⟩ := hc
  have S : FnScope d.N d.ps (defScope st) := fsB_ok h1
  refine hF.bindsN fun kV doc pm an cdv ct us hl => ?_
  unfold argsB at h2
  simp only [Bool.and_eq_true] at h2
  obtain ⟨⟨⟨⟨⟨⟨a1, a2⟩, a3⟩, a4⟩, a5⟩, a6⟩, a7⟩ := h2
  have ep := strsB_eq a7
  have ea : defArgs st = { posonlyargs := [], args := (defArgs st).args, vararg := none, kwonlyargs := [], kw_defaults := [], kwarg := none, defaults := [] } := by
    generalize defArgs st = a at *
    obtain ⟨b1, b2, b3, b4, b5, b6, b7⟩ := a
    simp only [List.isEmpty_iff, Option.isNone_iff_eq_none] at a1 a2 a3 a4 a5 a6
    subst a1 a2 a3 a4 a5 a6
    rfl
  have nd : ((defArgs st).args.map (·.arg)).Nodup := by
    rw [ep]
    exact S.nd.sublist (List.take_sublist _ _)
  have := bind_plain (fd := PySem.W.fnOf x qual (defArgs st) (defBody st) (defScope st) .none kV doc pm an cdv ct) (as := (defArgs st).args) (by exact ea) rfl nd us (by rw [ep]; exact hl)
  rw [ep] at this
  exact this
theorem def_kw (hF : FunD A.K x qual (defArgs st) (defBody st) (defScope st) [] [] f fd) (hc : chkDef A.I d st = true) : KwOk A.K fd d.ps := by
  unfold chkDef at hc
  simp only [Bool.and_eq_true, decide_eq_true_eq] at hc
  obtain ⟨⟨⟨h0, h1⟩, h2⟩, h3⟩ := hc
  have S : FnScope d.N d.ps (defScope st) := fsB_ok h1
  obtain ⟨oc, od, dV, kV, doc, pmd, an, cdv, ct, osl, rfl, lk, hcd, hD, hK⟩ := hF.ex
  rcases hD with ⟨_, rfl⟩ | ⟨e, _⟩
  · intro s us ws ks pm hX hw hp
    unfold argsB at h2
    simp only [Bool.and_eq_true] at h2
    obtain ⟨⟨⟨⟨⟨⟨a1, a2⟩, a3⟩, a4⟩, a5⟩, a6⟩, a7⟩ := h2
    have ep := strsB_eq a7
    have ea : defArgs st = { posonlyargs := [], args := (defArgs st).args, vararg := none, kwonlyargs := [], kw_defaults := [], kwarg := none, defaults := [] } := by
      generalize defArgs st = a at *
      obtain ⟨b1, b2, b3, b4, b5, b6, b7⟩ := a
      simp only [List.isEmpty_iff, Option.isNone_iff_eq_none] at a1 a2 a3 a4 a5 a6
      subst a1 a2 a3 a4 a5 a6
      rfl
    have nd : ((defArgs st).args.map (·.arg)).Nodup := by
      rw [ep]
      exact S.nd.sublist (List.take_sublist _ _)
    rw [← ep] at hp ⊢
    exact .of_eq (bind_kw (as := (defArgs st).args) (by exact ea) rfl nd us ws ks pm hw hp)
  · exact absurd rfl e
theorem def_okB (hF : FunD A.K x qual (defArgs st) (defBody st) (defScope st) [] [] f fd)
    (hc : chkDef A.I d st = true) (fa : Facts A mg) (hk : CallsOk A P w mg base k F) : FnOk P w A.K mg base (L2.CX P w) (2 * (k + 1)) f fd d.ps (spF A (runB d F)) := by
  unfold chkDef at hc
  simp only [Bool.and_eq_true, decide_eq_true_eq] at hc
  obtain ⟨⟨⟨h0, h1⟩, h2⟩, h3⟩ := hc
  have S : FnScope d.N d.ps (defScope st) := fsB_ok h1
  have lps : d.ps.length = d.np := by unfold DB.ps DB.N; simp [h0]
  have len : ∀ vs H Q E, spF A (runB d F) vs H Q E → vs.length = d.ps.length := by
    rintro vs H Q E ⟨w, ds, st, _, _, rp, hp⟩
    rw [rp.length, lps]
    by_cases q : ds.length = d.np
    · exact q
    · unfold runB at hp
      rw [if_neg q] at hp
      exact hp.elim
  refine hF.ok S len fun cdv Ar outer s H vs Q E hr hsp => ?_
  have len' := len vs H Q E hsp
  obtain ⟨w0, ds, sto, rfl, sr, rp, hp⟩ := hsp
  have C : CtxS A k F (cxOf (L2.CX P w) P w A.K mg base d.N qual (defScope st) f cdv Ar outer s w0.H E) (fun c dd _ H => E c dd H) :=
    ⟨⟨rfl, fa, hk, hr, rfl, S.nd, fun t => passAt (takes_of rfl rfl rfl rfl) t⟩, passes_of rfl, fun _ => rfl, S.kind⟩
  refine ⟨LS A ⟨w0, 0⟩ (fun c dd _ H => E c dd H) (dBlk d.body F), blk_of C ⟨w0, 0⟩ h3, ?_⟩
  have hn : ds.length = d.np := by rw [← rp.length, len', lps]
  have he := ent_env (d := d) rp hn
  have noown : ∀ (i : Nat) d', (entE d ds)[i]? ≠ some (.own d') := fun i d' h1 => by
    have := List.mem_of_getElem? h1
    simp [entE] at this
  refine ⟨w0, entE d ds, sto, rfl, ⟨he, sr, .refl w0, fun i d' a h1 _ => absurd h1 (noown i d'), fun d' h1 => absurd h1 (noown 0 d')⟩, ?_⟩
  unfold runB at hp
  rw [if_pos hn] at hp
  cases eb : dBlk d.body F (entE d ds) sto with
  | bad => rw [eb] at hp; exact hp
  | exc z st1 => rw [eb] at hp; exact fun w' t c dd ex s' r => hp w' c dd ex s' r
  | ok o st1 =>
    rw [eb] at hp
    cases o with
    | nx r => exact fun w' t l fr => hp w' .non fr.ex fr.sr rep_non
    | rt v => exact hp
    | bk r => exact hp.elim
    | ct r => exact hp.elim
theorem def_okI {c : Nat} (hF : FunD A.K x qual (defArgs st) (defBody st) (defScope st) [] [] f fd)
    (hc : chkDef A.I d st = true) (fa : Facts A mg) (hk : CallsOk A P w mg base k F) : FnOk P w A.K mg base (L2.CX P w) (2 * (k + 1)) f fd d.ps (spI A c (runI d c F)) := by
  unfold chkDef at hc
  simp only [Bool.and_eq_true, decide_eq_true_eq] at hc
  obtain ⟨⟨⟨h0, h1⟩, h2⟩, h3⟩ := hc
  have S : FnScope d.N d.ps (defScope st) := fsB_ok h1
  have lps : d.ps.length = d.np := by unfold DB.ps DB.N; simp [h0]
  have len : ∀ vs H Q E, spI A c (runI d c F) vs H Q E → vs.length = d.ps.length := by
    rintro vs H Q E ⟨w, xa, dx, vs', ds, st, rfl, _, _, _, _, _, _, rp, hp⟩
    rw [List.length_cons, rp.length, lps]
    by_cases q : ds.length + 1 = d.np
    · exact q
    · unfold runI at hp
      rw [if_neg q] at hp
      exact hp.elim
  refine hF.ok S len fun cdv Ar outer s H vs Q E hr hsp => ?_
  have len' := len vs H Q E hsp
  obtain ⟨w0, xa, dx, vs', ds, sto, rfl, hx, hdx, hne, rfl, hcs, sr, rp, hp⟩ := hsp
  have C : CtxS A k F (cxOf (L2.CX P w) P w A.K mg base d.N qual (defScope st) f cdv Ar outer s (upd (upd w0.H dx (.own xa)) xa (.ins (A.ca c) dx [])) E) (fun c dd _ H => E c dd H) :=
    ⟨⟨rfl, fa, hk, hr, rfl, S.nd, fun t => passAt (takes_of rfl rfl rfl rfl) t⟩, passes_of rfl, fun _ => rfl, S.kind⟩
  refine ⟨LS A ⟨w0, xa⟩ (fun c dd _ H => E c dd H) (dBlk d.body F), blk_of C ⟨w0, xa⟩ h3, ?_⟩
  have hn : ds.length + 1 = d.np := by rw [← rp.length, ← lps, ← len']; rfl
  have e1 := ext_raw (o := .own xa) hdx
  have hx1 : (w0.raw dx (.own xa)).H xa = none := (upd_ne fun e => hne e.symm).trans hx
  have e2 := ext_raw (o := .ins (A.ca c) dx []) hx1
  have s2 : SRel A ((w0.raw dx (.own xa)).raw xa (.ins (A.ca c) dx [])) sto := (sr.raw hdx).raw hx1
  have rp2 := (rp.mono sr.wf e1).mono (sr.raw (o := .own xa) hdx).wf e2
  have nS : ¬ w0.S xa := fun q => (sr.wf.s xa q).1 hx
  have nM : xa ∉ w0.mu := fun q => sr.wf.m xa q hx
  have hlen := rp.length
  -- the first slot holds the instance, the others what is passed
  have env : EnvR A ((w0.raw dx (.own xa)).raw xa (.ins (A.ca c) dx [])) (entI d c ds) (L2.start d.N (.ref xa :: vs')) := by
    unfold entI L2.start
    refine ⟨by simp [DB.N, hlen]; omega, fun i y v g1 g2 => ?_, fun i j d1 d2 u hij g1 g2 g3 g4 => ?_⟩
    · cases i with
      | zero =>
        simp at g1 g2
        subst g1 g2
        exact ⟨xa, rfl, nS, nM, dx, [], ⟨hcs, Nat.zero_le _⟩, by rw [List.zip_nil_right]; exact upd_same, .nil⟩
      | succ i =>
        simp only [List.map_cons, List.cons_append, List.getElem?_cons_succ] at g1 g2
        by_cases q : i < ds.length
        · rw [List.getElem?_append_left (by simpa using q), List.getElem?_map, List.getElem?_eq_getElem q] at g1
          rw [List.getElem?_append_left (by simpa [hlen] using q), List.getElem?_map, List.getElem?_eq_getElem (by rw [hlen]; exact q)] at g2
          simp only [Option.map_some, Option.some.injEq] at g1 g2
          subst g1 g2
          obtain ⟨u, q1, q2⟩ := rp2.get (i := i) (d := ds[i]) (by simp [q])
          rw [List.getElem?_eq_getElem (by rw [hlen]; exact q)] at q1
          cases q1
          exact ⟨_, rfl, q2⟩
        · rw [List.getElem?_append_right (by simpa using q)] at g1
          have := List.mem_of_getElem? g1
          rw [List.mem_replicate] at this
          rw [this.2]
          trivial
    · cases i with
      | zero =>
        cases j with
        | zero => exact absurd rfl hij
        | succ j =>
          simp only [List.getElem?_cons_succ] at g2
          have := List.mem_of_getElem? g2
          simp at this
      | succ i =>
        simp only [List.getElem?_cons_succ] at g1
        have := List.mem_of_getElem? g1
        simp at this
  have t0 : (L2.start d.N (.ref xa :: vs'))[0]? = some (some (.ref xa)) := by simp [L2.start]
  refine ⟨(w0.raw dx (.own xa)).raw xa (.ins (A.ca c) dx []), entI d c ds, sto, rfl, ⟨env, s2, e1.trans e2, fun i d' a g1 g2 => ?_, fun d' _ => t0⟩, ?_⟩
  · cases i with
    | zero =>
      rw [t0] at g2
      cases g2
      exact hx
    | succ i =>
      simp only [entI, List.getElem?_cons_succ] at g1
      have := List.mem_of_getElem? g1
      simp at this
  · unfold runI at hp
    rw [if_pos hn] at hp
    cases eb : dBlk d.body F (entI d c ds) sto with
    | bad => rw [eb] at hp; exact hp
    | exc z st1 => rw [eb] at hp; exact fun w' t c dd ex s' r => hp w' c dd ex s' r
    | ok o st1 =>
      rw [eb] at hp
      cases o with
      | rt v => exact hp.elim
      | bk r => exact hp.elim
      | ct r => exact hp.elim
      | nx r =>
        intro w' t l fr
        simp only [flI] at hp
        cases e0 : r[0]? with
        | none => rw [e0] at hp; exact hp.elim
        | some sl =>
          rw [e0] at hp
          cases sl with
          | none => exact hp.elim
          | val _ => exact hp.elim
          | own o =>
            have t0' := fr.slf o e0
            obtain ⟨a, ht, q1, q2, q3, _⟩ := fr.own e0
            rw [t0'] at ht
            cases ht
            exact hp w' (.ref xa) fr.ex fr.sr ⟨xa, rfl, hx, q1, q2, q3⟩ rfl
end
theorem def_ok {A : Ad} {P : Program} {w : World} {mg : Str → Option Value} {base : Heap} {k i : Nat} {F : FT} {d : DB} {st : Stmt} {x qual : Str} {f : Addr} {fd : FuncData} (hF : FunD A.K x qual (defArgs st) (defBody st) (defScope st) [] [] f fd)
    (hc : chkDef A.I d st = true) (fa : Facts A mg) (hk : CallsOk A P w mg base k F) : FnOk P w A.K mg base (L2.CX P w) (2 * (k + 1)) f fd d.ps (spX A i (runX i d F)) ∧ Binds A.K fd d.ps [] ∧ KwOk A.K fd d.ps := by
  refine ⟨?_, def_binds hF hc, def_kw hF hc⟩
  unfold spX runX
  cases iniC i with
  | none => exact def_okB hF hc fa hk
  | some c => exact def_okI hF hc fa hk
/-- the defs of the text, to the depth k -/
def FTab (PT : Nat → Option DB) : Nat → FT
  | 0 => fun _ _ _ => .bad
  | k + 1 => fun i => match PT i with
    | none => fun _ _ => .bad
    | some d => runX i d (FTab PT k)
theorem calls_all {A : Ad} {P : Program} {w : World} {mg : Str → Option Value} {base : Heap} {PT : Nat → Option DB} (fa : Facts A mg)
    (h : ∀ i d, PT i = some d → ∃ st x qual fd, FunD A.K x qual (defArgs st) (defBody st) (defScope st) [] [] (A.fa i) fd ∧ chkDef A.I d st = true ∧ d.ps = paN i) : ∀ k, CallsOk A P w mg base k (FTab PT k)
  | 0 => fun i => .inr fun _ _ => rfl
  | k + 1 => fun i => by
    cases e : PT i with
    | none => exact .inr fun ds st => by simp only [FTab, e]
    | some d =>
      obtain ⟨st, x, qual, fd, h1, h2, h3⟩ := h i d e
      have q := def_ok (P := P) (w := w) (base := base) (i := i) h1 h2 fa (calls_all fa h k)
      have e2 : FTab PT (k + 1) i = runX i d (FTab PT k) := by simp only [FTab, e]
      rw [e2]
      exact .inl ⟨fd, d.ps, q.1, q.2.1, q.2.2, h3⟩
end Rf

set_option Elab.async false
set_option linter.all false
set_option maxRecDepth 100000
set_option maxHeartbeats 1000000
namespace Rf
open PySem L2

/-! ## where a def stands in the text -/
structure Pl where
  st : Stmt
  nm : Str
  qual : Str
structure TE1 where
  i : Nat
  d : DB
  p : Pl
def fnP (i : Nat) : Str × Option Str := (Str.ofString (fnPL.getD i ("", none)).1, (fnPL.getD i ("", none)).2.map Str.ofString)
def isPr (i : Nat) : Bool := prL.any fun q => q.1 == i
/-- where a def's function stands; a property's getter stands in the property -/
def fnAd (K : PySem.W.Frag) (i : Nat) : Addr := if isPr i then (match PySem.W.recIn K (He.fAd K (fnP i)) "property" with
  | some (.ref g :: _) => g
  | _ => 0) else He.fAd K (fnP i)
theorem fnAd_eq {K : PySem.W.Frag} {i : Nat} (h : isPr i = false) : fnAd K i = He.fAd K (fnP i) := by unfold fnAd; rw [h]; rfl
def seenAt (K : PySem.W.Frag) (a : Addr) : He.FnW := match K.lookup a with
  | some ⟨_, _, .func g, _⟩ => some (g.name, g.qualname, g.params, g.body, g.scope, g.globals, g.closure, g.builtins)
  | _ => none
def TE1.dueAt (e : TE1) : He.FnW := some (e.p.nm, e.p.qual, defArgs e.p.st, .stmts (defBody e.p.st), defScope e.p.st, mainGlobals, [], builtinsNs)
def TE1.okAt (K : PySem.W.Frag) (e : TE1) : Bool := PySem.W.keepIn K (.ref (fnAd K e.i)) && (match K.lookup (fnAd K e.i) with
  | some ⟨_, _, .func g, _⟩ => PySem.W.codeIn K g.code e.p.qual && (He.dflB K g.defaults [] && He.kwdB K g.kwdefaults [])
  | _ => false)
theorem TE1.fun_ok {K : PySem.W.Frag} {e : TE1} (h : seenAt K (fnAd K e.i) = e.dueAt) (c : e.okAt K = true) : ∃ fd, FunD K e.p.nm e.p.qual (defArgs e.p.st) (defBody e.p.st) (defScope e.p.st) [] [] (fnAd K e.i) fd := by
  obtain ⟨kp, c2⟩ := Bool.and_eq_true_iff.mp c
  unfold seenAt at h
  cases q : K.lookup (fnAd K e.i) with
  | none => rw [q] at c2; cases c2
  | some o =>
    obtain ⟨o1, o2, dt, o3⟩ := o
    rw [q] at c2 h
    cases dt with
    | func g =>
      obtain ⟨g1, g2, g3, g4, g5, g6, g7, g8, g9, g10, g11, g12, g13, g14, g15⟩ := g
      have h2 : (some (g1, g2, g3, g4, g5, g6, g7, g15) : He.FnW) = e.dueAt := h
      unfold TE1.dueAt at h2
      simp only [Option.some.injEq, Prod.mk.injEq] at h2
      obtain ⟨rfl, rfl, rfl, rfl, rfl, rfl, rfl, rfl⟩ := h2
      have c3 : (PySem.W.codeIn K g13 e.p.qual && (He.dflB K g8 [] && He.kwdB K g9 [])) = true := c2
      simp only [Bool.and_eq_true] at c3
      exact ⟨_, ⟨o1, o2, g8, g9, g10, g11, g12, g13, g14, o3, rfl, q, c3.1, He.dflB_ok c3.2.1, He.kwdB_ok c3.2.2⟩, kp⟩
    | _ => cases c2
def mkA (I : Info) (K : PySem.W.Frag) : Ad := ⟨I, K, fnAd K, fun c => He.ga K (clN c), fun c => .ref (He.ga K (clN c))⟩
/-! ## facts -/
def dvOf : D → He.Dv
  | .int i => .int i
  | .str s => .str ⟨s.toArray⟩
  | .bl b => .bl b
  | _ => .non
def flatB : D → Bool
  | .int _ | .bl _ | .non => true
  | .str s => strB s
  | _ => false
theorem rep_dv {A : Ad} {w : Wd} {K : PySem.W.Frag} {d : D} (h : flatB d = true) : Rep A w d (He.Dv.v K (dvOf d)) := by
  cases d <;> first | cases h | skip
  · exact rep_non
  · exact rep_bl _
  · exact rep_int _
  · exact rep_str (strB_ok h)
theorem reps_dv {A : Ad} {w : Wd} {K : PySem.W.Frag} : ∀ {l : List D}, l.all flatB = true → Reps A w l ((l.map dvOf).map (He.Dv.v K))
  | [], _ => .nil
  | d :: r, h => by
    simp only [List.all_cons, Bool.and_eq_true] at h
    exact .cons (rep_dv h.1) (reps_dv h.2)
def conB (K : PySem.W.Frag) (i : Nat) : Bool := match coD i with
  | .int j => (He.Fa.int (coN i) j).ok K
  | .str s => (He.Fa.str (coN i) ⟨s.toArray⟩).ok K && strB s
  | .frt l => (He.Fa.glo (coN i)).ok K && He.tupB K (coN i) (l.map dvOf) && l.all flatB && decide (l.length ≤ sizeLine)
  | _ => false
def clsB (K : PySem.W.Frag) (c : Nat) : Bool := (He.Fa.cls (clN c)).ok K && (names c).all (fun f => (He.Fa.noat (clN c) f).ok K) && nodB (names c) && decide ((names c).length < 1000) &&
  (He.Fa.glo (clN c)).ok K && okN (clN c) && (He.Fa.mkr (clN c)).ok K && decide (fnP (iniF c) = (clN c, some ("__init__" : Str))) && decide (iniC (iniF c) = some c) && !isPr (iniF c)
def isiB (I : Info) (K : PySem.W.Frag) (c : Nat) : Bool :=
  He.eqO (PySem.W.findIn K (.ref (He.ga K (clN c))) "__class__") (some (some (.builtin "object.__class__"))) && He.eqO (PySem.W.specialIn K (.builtin "object.__class__") "__get__") (some (some (.builtin "getset_descriptor.__get__"))) &&
  decide (PySem.W.takesIn K (.builtin "object.__class__") = some true) && decide (PySem.W.mroIn K (He.ga K (clN c)) (.type "object") = some true) &&
  (List.range 7).all (fun i => decide (PySem.W.kitOne K (.ref (He.ga K (clN c))) (.type (tyN i)) = some false) && decide (PySem.W.kitOne K (.type (tyN i)) (.ref (He.ga K (clN c))) = some false) && PySem.W.notFirst K (He.ga K (clN c)) (.type (tyN i))) &&
  I.cs.all (fun c' => decide (PySem.W.kitOne K (.ref (He.ga K (clN c))) (.ref (He.ga K (clN c'))) = some (decide (c = c'))) && PySem.W.notFirst K (He.ga K (clN c)) (.ref (He.ga K (clN c')))) && PySem.W.keepIn K (.ref (He.ga K (clN c))) &&
  (match eqF c with
  | none => true
  | some i => He.eqO (PySem.W.findIn K (.ref (He.ga K (clN c))) "__eq__") (some (some (.ref (He.fAd K (fnP i))))) && PySem.W.isFn K (.ref (He.fAd K (fnP i))) && decide (iniC i = none) &&
    He.eqO (PySem.W.findIn K (.ref (He.ga K (clN c))) "__ne__") (some (some (.builtin "object.__ne__"))) && !isPr i)
def noB (K : PySem.W.Frag) (c : Nat) : Bool := He.eqO (PySem.W.findIn K (.ref (He.ga K (clN c))) "__bool__") (some none) && He.eqO (PySem.W.findIn K (.ref (He.ga K (clN c))) "__len__") (some none)
def meB (K : PySem.W.Frag) (c : Nat) : Bool := meL.all fun q => decide (q.2.1 ≠ c) || ((He.Fa.meth (clN c) (Str.ofString q.2.2)).ok K && decide (fnP q.1 = (clN c, some (Str.ofString q.2.2))) && decide (iniC q.1 = none) && !isPr q.1)
def prB (K : PySem.W.Frag) (c : Nat) : Bool := prL.all fun q => decide (q.2.1 ≠ c) || (He.eqO (PySem.W.findIn K (.ref (He.ga K (clN c))) (Str.ofString q.2.2)) (some (some (.ref (He.fAd K (fnP q.1))))) && He.eqO (PySem.W.specialIn K (.ref (He.fAd K (fnP q.1))) "__get__") (some (some (.builtin "property.__get__"))) &&
  decide (PySem.W.takesIn K (.ref (He.fAd K (fnP q.1))) = some true) && (match PySem.W.recIn K (He.fAd K (fnP q.1)) "property" with
  | some (.ref _ :: _) => true
  | _ => false) && decide (iniC q.1 = none) && isPr q.1)
def factB (I : Info) (K : PySem.W.Frag) : Bool :=
  I.fs.all (fun i => (He.Fa.glo (fnN i)).ok K && (He.Fa.keep (fnN i)).ok K && decide (fnP i = (fnN i, none)) && decide (iniC i = none) && !isPr i) && I.ks.all (conB K) && I.bs.all (fun i => (He.Fa.free (blN i)).ok K) && I.cs.all (fun c => (clsB K c && isiB I K c) && (noB K c && meB K c && prB K c))
theorem facts_of {I : Info} {K : PySem.W.Frag} {h : Heap} {mg : Str → Option Value} (X : K.In h) (G : h.Ns mainGlobals mg) (c : factB I K = true) : Facts (mkA I K) mg := by
  unfold factB at c
  simp only [Bool.and_eq_true, List.all_eq_true, decide_eq_true_eq] at c
  obtain ⟨⟨⟨c1, c2⟩, c3⟩, c4⟩ := c
  refine ⟨fun i hi => ?_, fun i hi => ?_, fun i hi => He.free_ok X G (c3 i hi), fun i hi => ?_⟩
  · obtain ⟨⟨⟨⟨h1, h2⟩, h3⟩, h4⟩, h5⟩ := c1 i hi
    have e : (mkA I K).fa i = He.ga K (fnN i) := by
      show fnAd K i = _
      rw [fnAd_eq (by simpa using h5), h3]; rfl
    rw [e]
    exact ⟨He.glo_ok X G h1, He.keep_ok h2, h4⟩
  · have := c2 i hi
    unfold conB at this
    split at this
    · rename_i j ej
      obtain ⟨t, ht⟩ := He.int_ok X G this
      exact ⟨_, .int j, ht, ⟨t, rfl⟩, fun w => by rw [ej]; exact rep_int j⟩
    · rename_i s ej
      simp only [Bool.and_eq_true] at this
      obtain ⟨t, ht⟩ := He.str_ok X G this.1
      exact ⟨_, .str ⟨s.toArray⟩, ht, ⟨t, rfl⟩, fun w => by rw [ej]; exact rep_str (strB_ok this.2)⟩
    · rename_i l ej
      simp only [Bool.and_eq_true, decide_eq_true_eq] at this
      obtain ⟨⟨⟨h1, h2⟩, h3⟩, h4⟩ := this
      refine ⟨_, .ref (He.ga K (coN i)), He.glo_ok X G h1, rfl, fun w => ?_⟩
      rw [ej]
      unfold Rep
      refine ⟨_, (l.map dvOf).map (He.Dv.v K), rfl, by simpa using h4, ?_, reps_dv h3⟩
      rcases He.tupB_ok h2 (fun _ => none) with (q | ⟨_, q⟩) | q
      · cases q
      · cases q
      · exact q
    · cases this
  · obtain ⟨c4', ⟨b1, b2⟩, b3⟩ := c4 i hi
    have := c4'.1
    have c5 := c4'.2
    unfold isiB at c5
    simp only [Bool.and_eq_true, decide_eq_true_eq, List.all_eq_true, List.mem_range] at c5
    obtain ⟨⟨⟨⟨⟨⟨⟨k1, k2⟩, k3⟩, k4⟩, k5⟩, k6⟩, k7⟩, k8⟩ := c5
    unfold clsB at this
    simp only [Bool.and_eq_true, decide_eq_true_eq, List.all_eq_true] at this
    obtain ⟨⟨⟨⟨⟨⟨⟨⟨⟨h1, h2⟩, h3⟩, h4⟩, h5⟩, h6⟩, h7⟩, h8⟩, h9⟩, h10⟩ := this
    have e : (mkA I K).fa (iniF i) = He.ma K (He.ga K (clN i)) "__init__" := by
      show fnAd K (iniF i) = _
      rw [fnAd_eq (by simpa using h10), h8]; rfl
    refine ⟨He.cls_ok h1, fun f hf => He.noat_ok (h2 f hf), nodB_ok h3, h4, He.glo_ok X G h5, h6, by rw [e]; exact He.mkr_ok h7, h9, He.eqO_ok k1, He.eqO_ok k2, k3, k4, fun j hj => ⟨(k5 j hj).1.1, (k5 j hj).1.2, (k5 j hj).2⟩, fun c' hc' => k6 c' hc', k7, fun j hj => ?_, ?_, fun q hq e => ?_, fun q hq e => ?_⟩
    rw [hj] at k8
    simp only [Bool.and_eq_true, decide_eq_true_eq] at k8
    obtain ⟨⟨⟨⟨z1, z2⟩, z3⟩, z4⟩, z5⟩ := k8
    have ez : (mkA I K).fa j = He.fAd K (fnP j) := fnAd_eq (by simpa using z5)
    rw [ez]
    exact ⟨He.eqO_ok z1, z2, z3, He.eqO_ok z4⟩
    · unfold noB at b1
      simp only [Bool.and_eq_true] at b1
      exact ⟨He.eqO_ok b1.1, He.eqO_ok b1.2⟩
    · unfold meB at b2
      have z := List.all_eq_true.mp b2 q hq
      simp only [Bool.or_eq_true, Bool.and_eq_true, decide_eq_true_eq] at z
      rcases z with z | ⟨⟨⟨z1, z2⟩, z3⟩, z4⟩
      · exact absurd e z
      · have ez : (mkA I K).fa q.1 = He.ma K (He.ga K (clN i)) (Str.ofString q.2.2) := by
          show fnAd K q.1 = _
          rw [fnAd_eq (by simpa using z4), z2]; rfl
        rw [ez]
        unfold He.Fa.ok at z1
        simp only [Bool.and_eq_true] at z1
        exact ⟨⟨He.eqO_ok z1.1, z1.2.1, z1.2.2⟩, z3⟩
    · unfold prB at b3
      have z := List.all_eq_true.mp b3 q hq
      simp only [Bool.or_eq_true, Bool.and_eq_true, decide_eq_true_eq] at z
      rcases z with z | ⟨⟨⟨⟨⟨z1, z2⟩, z3⟩, z4⟩, z5⟩, z6⟩
      · exact absurd e z
      · split at z4
        · rename_i g rest eg
          have ez : (mkA I K).fa q.1 = g := by
            show fnAd K q.1 = _
            unfold fnAd
            rw [z6, eg]; rfl
          exact ⟨_, ⟨He.eqO_ok z1, He.eqO_ok z2, z3, rest, by rw [ez]; exact eg⟩, z5⟩
        · cases z4
/-! ## the hook -/
def obsR (I : Info) (tab : List TE1) (K : PySem.W.Frag) : He.AlD := (factB I K && tab.all fun e => e.okAt K, tab.map fun e => seenAt K (fnAd K e.i))
def valR (tab : List TE1) : He.AlD := (true, tab.map fun e => e.dueAt)
def hookR (n : Nat) (I : Info) (tab : List TE1) : PySem.W.Hook where
  α := He.AlD
  obs := fun s => obsR I tab (He.frG s.heap.get? (He.asD s.heap.get? n))
  val := fun _ => valR tab
  says := fun _ h => ∃ K : PySem.W.Frag, K.In h ∧ obsR I tab K = valR tab
  of := fun _ _ e => ⟨_, He.frG_in, e⟩
  keeps := fun _ _ _ ⟨K, hK, c⟩ k => ⟨K, PySem.W.Frag.In.keeps hK k, c⟩
def obR (n : Nat) (I : Info) (tab : List TE1) (s : PySem.W.SharedT) : He.AlD := obsR I tab (He.frG (HandSHeadRun.getT s) (He.asD (HandSHeadRun.getT s) n))
theorem obR_eq (n : Nat) (I : Info) (tab : List TE1) (s : PySem.W.SharedT) : obR n I tab s = (hookR n I tab).obs s.abs := by
  have e : HandSHeadRun.getT s = s.abs.heap.get? := funext (HandSHeadRun.getT_eq s)
  unfold obR
  rw [e]; rfl
theorem saysR_def {I : Info} {tab : List TE1} {K : PySem.W.Frag} (c : obsR I tab K = valR tab) {e : TE1} (he : e ∈ tab) : ∃ fd, FunD K e.p.nm e.p.qual (defArgs e.p.st) (defBody e.p.st) (defScope e.p.st) [] [] (fnAd K e.i) fd := by
  have c1 : (factB I K && tab.all fun e => e.okAt K) = true := congrArg Prod.fst c
  have c2 : (tab.map fun e => seenAt K (fnAd K e.i)) = tab.map fun e => e.dueAt := congrArg Prod.snd c
  simp only [Bool.and_eq_true, List.all_eq_true] at c1
  obtain ⟨j, hj⟩ := List.getElem?_of_mem he
  have e2 : (tab.map fun e => seenAt K (fnAd K e.i))[j]? = (tab.map fun e => e.dueAt)[j]? := by rw [c2]
  rw [List.getElem?_map, List.getElem?_map, hj] at e2
  exact TE1.fun_ok (Option.some.inj e2) (c1.2 e he)
def PTof (tab : List TE1) (i : Nat) : Option DB := (tab.find? fun e => e.i == i).map (·.d)
theorem ptof_mem {tab : List TE1} {i : Nat} {d : DB} (h : PTof tab i = some d) : ∃ e ∈ tab, e.i = i ∧ e.d = d := by
  unfold PTof at h
  simp only [Option.map_eq_some_iff] at h
  obtain ⟨e, h1, h2⟩ := h
  exact ⟨e, List.mem_of_find?_eq_some h1, by have := List.find?_some h1; simpa using this, h2⟩
def chkTab (I : Info) (tab : List TE1) : Bool := tab.all fun e => chkDef I e.d e.p.st && strsB e.d.ps (paN e.i)
theorem calls_tab {I : Info} {tab : List TE1} {K : PySem.W.Frag} {h : Heap} {mg : Str → Option Value} {P : Program} {w : World} {base : Heap} (X : K.In h) (G : h.Ns mainGlobals mg) (c : obsR I tab K = valR tab) (hc : chkTab I tab = true) (k : Nat) :
    CallsOk (mkA I K) P w mg base k (FTab (PTof tab) k) := by
  have c1 : (factB I K && tab.all fun e => e.okAt K) = true := congrArg Prod.fst c
  simp only [Bool.and_eq_true] at c1
  refine calls_all (facts_of X G c1.1) (fun i d hd => ?_) k
  obtain ⟨e, he, rfl, rfl⟩ := ptof_mem hd
  obtain ⟨fd, hF⟩ := saysR_def c he
  have q := List.all_eq_true.mp hc e he
  simp only [Bool.and_eq_true] at q
  exact ⟨e.p.st, e.p.nm, e.p.qual, fd, hF, q.1, strsB_eq q.2⟩
end Rf

set_option Elab.async false
set_option linter.all false
set_option maxRecDepth 100000
set_option maxHeartbeats 1000000
namespace Rf
open PySem L2

theorem reps_ints {A : Ad} {w : Wd} : ∀ ns : List Int, Reps A w (ns.map D.int) (ns.map V.int)
  | [] => .nil
  | n :: ns => .cons (rep_int n) (reps_ints ns)
theorem cx_out {P : Program} {w : World} {H : Hp} {s : Shared} {e : Value} {s' : Shared} (h : L2.CX P w [] H s (fun _ _ _ => False) e s') : False := by
  obtain ⟨_, _, _, _, _, _, _, _, _, _, _, _, z⟩ := h
  exact z
/-- the law's call, from the table -/
theorem law_walk {l : PySem.W.OpenLaw} {q : Program} {loose : List Str} {XP : (Str → Option Value) → Heap → Prop} {d : DefRec} {I : Info} {tab : List TE1} {n k : Nat} {e : TE1} (hn : l.most = some 63) (hdf : d.params.defaults = []) (hc : chkTab I tab = true)
    (he : e ∈ tab) (hf : e.i ∈ I.fs) (hp : PTof tab e.i = some e.d) (hnp : e.d.np = 1) (hname : d.name = fnN e.i) (hr : Room (2 * (k + 1)) callerA) (hi : iniC e.i = none)
    (run : ∀ ns : List Int, ns.length ≤ 63 → ∃ st', FTab (PTof tab) (k + 1) e.i [.frl (ns.map .int)] [] = .ok (.bl true) st') :
    PySem.W.WalkO q loose XP (hookR n I tab).says l.row.toRowW d [] (fun f vs => PySem.call f vs) := by
  refine Att.attach_call hn hdf fun w s₀ s₁ mg mb fa o pm cd doc a vs ns G Y ho hd hcd hmg hobj hints hlen hg => ?_
  obtain ⟨K, KX, c⟩ := Y
  have c1 : (factB I K && tab.all fun e => e.okAt K) = true := congrArg Prod.fst c
  simp only [Bool.and_eq_true] at c1
  have fac := facts_of KX G.T.g c1.1
  obtain ⟨fd, hF⟩ := saysR_def c he
  have efa : fa = (mkA I K).fa e.i := by
    have h1 := (fac.fn e.i hf).1
    rw [← hname, hmg] at h1
    injection h1 with h1
    injection h1
  have hck0 := List.all_eq_true.mp hc e he
  simp only [Bool.and_eq_true] at hck0
  have hck := hck0.1
  have hck2 := hck
  unfold chkDef at hck2
  simp only [Bool.and_eq_true, decide_eq_true_eq] at hck2
  obtain ⟨⟨⟨h0, h1⟩, h2⟩, h3⟩ := hck2
  obtain ⟨x, hx⟩ : ∃ x, e.d.ps = [x] := by
    have : e.d.ps.length = 1 := by unfold DB.ps DB.N; simp [hnp] at h0 ⊢; omega
    match h : e.d.ps, this with
    | [x], _ => exact ⟨x, rfl⟩
  have eT : FTab (PTof tab) (k + 1) e.i = runB e.d (FTab (PTof tab) k) := by simp only [FTab, hp, runX, hi]
  subst efa
  refine law_call (CX := L2.CX l.prog w) (k := 2 * (k + 1)) (x := x) (fd := fd) (sp := spF (mkA I K) (FTab (PTof tab) (k + 1) e.i)) KX G.T.g G.T.b G.T.builtins G.T.nolimit hg hobj hints (Nat.le_trans hlen (by rw [sizeLine_eq]; decide)) hr
    (fun base b1 b2 => ?_) (fun s u => ?_) (fun H hO hS => ?_) fun H z s' hz => cx_out hz
  · rw [eT, ← hx]
    exact def_okB hF hck fac (calls_tab KX G.T.g c hc k)
  · have := hF.bindsA (ps := e.d.ps) (fun kV doc pm an cdv ct us hl => ?_) s [u] (by rw [hx]; rfl)
    · rw [hx] at this
      exact this
    · unfold argsB at h2
      simp only [Bool.and_eq_true] at h2
      obtain ⟨⟨⟨⟨⟨⟨a1, a2⟩, a3⟩, a4⟩, a5⟩, a6⟩, a7⟩ := h2
      have ep := strsB_eq a7
      have ea : defArgs e.p.st = { posonlyargs := [], args := (defArgs e.p.st).args, vararg := none, kwonlyargs := [], kw_defaults := [], kwarg := none, defaults := [] } := by
        generalize defArgs e.p.st = a at *
        obtain ⟨b1, b2, b3, b4, b5, b6, b7⟩ := a
        simp only [List.isEmpty_iff, Option.isNone_iff_eq_none] at a1 a2 a3 a4 a5 a6
        subst a1 a2 a3 a4 a5 a6
        rfl
      have nd : ((defArgs e.p.st).args.map (·.arg)).Nodup := by
        rw [ep, hx]
        exact List.nodup_cons.mpr ⟨by simp, List.nodup_nil⟩
      have := bind_plain (fd := PySem.W.fnOf e.p.nm e.p.qual (defArgs e.p.st) (defBody e.p.st) (defScope e.p.st) .none kV doc pm an cdv ct) (as := (defArgs e.p.st).args) (by exact ea) rfl nd us (by rw [ep]; exact hl)
      rw [ep] at this
      exact this
  · obtain ⟨st', hrun⟩ := run ns hlen
    have hz : (ns.map V.int).length ≤ sizeLine := by rw [List.length_map]; exact Nat.le_trans hlen (by rw [sizeLine_eq]; decide)
    refine ⟨⟨[], fun b => b = a ∧ H b ≠ none, H⟩, [.frl (ns.map .int)], [], rfl, ⟨⟨fun b hb => ⟨hb.2, by simp⟩, by simp, List.nodup_nil, fun b us (e : H b = some (.tup us)) => by rcases hO b with q | ⟨_, _, q⟩ <;> (rw [q] at e; cases e)⟩, rfl, fun n o b h _ => by simp at h⟩, .one ?_, ?_⟩
    · unfold Rep
      refine ⟨a, ns.map V.int, rfl, ⟨hz, ?_⟩, reps_ints ns⟩
      rcases hS with hS | hS
      · refine .inl ⟨⟨rfl, ?_⟩, hS⟩
        rcases hS with hS | ⟨_, hS⟩ <;> (show H a ≠ none; rw [hS]; simp)
      · exact .inr hS
    · rw [hrun]
      intro w' v _ _ hv
      exact hv.bl
end Rf

set_option Elab.async false
set_option linter.all false
set_option maxRecDepth 100000
set_option maxHeartbeats 1000000
namespace Rf
open PySem L2

/-! ## in, not in -/
def flatD : D → Bool
  | .non | .bl _ | .int _ | .str _ => true
  | _ => false
def hasD (x : D) (l : List D) : Bool := l.any fun y => deq y x
theorem flat_V {A : Ad} {w : Wd} {d : D} {v : V} (h : flatD d = true) (r : Rep A w d v) : flatV v = true := by
  cases d <;> first | cases h | skip
  · rw [r.non]; rfl
  · rw [r.bl]; rfl
  · rw [r.int]; rfl
  · rw [r.str.1]; rfl
theorem flats_V {A : Ad} {w : Wd} : ∀ {l : List D} {vs : List V}, l.all flatD = true → Reps A w l vs → vs.all flatV = true
  | [], _, _, r => by simp only [Reps] at r; rw [r]; rfl
  | d :: l, _, h, r => by
    simp only [List.all_cons, Bool.and_eq_true] at h
    simp only [Reps] at r
    obtain ⟨v, rs, rfl, h1, h2⟩ := r
    rw [List.all_cons, flat_V h.1 h1, flats_V h.2 h2]; rfl
theorem eq_VD {A : Ad} {w : Wd} {d e : D} {v u : V} (hd : flatD d = true) (he : flatD e = true) (r : Rep A w d v) (q : Rep A w e u) : eqV v u = deq d e := by
  cases d <;> first | cases hd | skip
  · rw [r.non]
    cases e <;> first | cases he | skip
    · rw [q.non]; simp [eqV, deq]
    · rw [q.bl]; simp [eqV, deq]
    · rw [q.int]; simp [eqV, deq]
    · rw [q.str.1]; simp [eqV, deq]
  · rw [r.bl]
    cases e <;> first | cases he | skip
    · rw [q.non]; simp [eqV, deq]
    · rw [q.bl]; simp [eqV, deq]
    · rw [q.int]; simp [eqV, deq]
    · rw [q.str.1]; simp [eqV, deq]
  · rw [r.int]
    cases e <;> first | cases he | skip
    · rw [q.non]; simp [eqV, deq]
    · rw [q.bl]; simp [eqV, deq]
    · rw [q.int]; simp [eqV, deq]
    · rw [q.str.1]; simp [eqV, deq]
  · rw [r.str.1]
    cases e <;> first | cases he | skip
    · rw [q.non]; simp [eqV, deq]
    · rw [q.bl]; simp [eqV, deq]
    · rw [q.int]; simp [eqV, deq]
    · rw [q.str.1]
      show ((⟨_⟩ : Str) == ⟨_⟩) = _
      rw [str_beq]; simp [deq]
theorem in_VD {A : Ad} {w : Wd} {x : D} {v : V} (hx : flatD x = true) (rx : Rep A w x v) : ∀ {l : List D} {vs : List V}, l.all flatD = true → Reps A w l vs → inV v vs = hasD x l
  | [], _, _, r => by simp only [Reps] at r; rw [r]; rfl
  | d :: l, _, h, r => by
    simp only [List.all_cons, Bool.and_eq_true] at h
    simp only [Reps] at r
    obtain ⟨u, rs, rfl, h1, h2⟩ := r
    have ih := in_VD hx rx h.2 h2
    unfold inV hasD at ih ⊢
    rw [List.any_cons, List.any_cons, ih, eq_VD h.1 hx h1 rx]
theorem has_py {x : D} (hx : isData x = true) : ∀ {l : List D}, isDatas l = true → (toPys l).any (fun z => PyData.eqv z (toPy x)) = hasD x l
  | [], _ => by simp [toPys, hasD]
  | d :: l, h => by
    simp only [isDatas, Bool.and_eq_true] at h
    have ih := has_py hx h.2
    unfold hasD at ih ⊢
    rw [toPys, List.any_cons, List.any_cons, ih, deq_py d x h.1 hx]
def fHas (x y : D) : Option Bool := match y with
  | .str s => (match x with
    | .str [c] => some (s.contains c)
    | _ => none)
  | .tup l => if flatD x && l.all flatD then some (hasD x l) else none
  | .frt l => if flatD x && l.all flatD then some (hasD x l) else none
  | .lst l => if flatD x && l.all flatD then some (hasD x l) else if okE x && okE (.lst l) then some (hasD x l) else none
  | _ => none
def fIn (x y : D) : Option D := (fHas x y).map fun b => .bl b
def fNotIn (x y : D) : Option D := (fHas x y).map fun b => .bl (!b)
theorem has_sq {A : Ad} {w : Wd} {x y : D} {b : Bool} {vx vy : V} (rx : Rep A w x vx) (ry : Rep A w y vy) (e : fHas x y = some b) :
    (∃ (c : Nat) (z : Str), vx = .str ⟨#[c]⟩ ∧ vy = .str z ∧ decide (c ∈ z.cps.toList) = b) ∨
    (∃ p xs, vy = .ref p ∧ (SqL A.K w.H p xs ∨ SqT A.K w.H p xs) ∧ flatV vx = true ∧ xs.all flatV = true ∧ inV vx xs = b) ∨
    (∃ d ds, Dp A.K w.H vx d ∧ Dp A.K w.H vy (.list ds) ∧ SeqAt.shaped d = true ∧ SeqAt.shaped (.list ds) = true ∧ (ds.any fun z => PyData.eqv z d) = b) := by
  unfold fHas at e
  split at e
  · split at e
    · rename_i s c
      cases e
      refine .inl ⟨c, _, rx.str.1, ry.str.1, ?_⟩
      simp [List.contains_eq_mem]
    · cases e
  · split at e
    · rename_i l h
      cases e
      simp only [Bool.and_eq_true] at h
      obtain ⟨p, vs, rfl, h1, h2⟩ := ry.tup
      exact .inr (.inl ⟨p, vs, rfl, .inr h1.seq, flat_V h.1 rx, flats_V h.2 h2, in_VD h.1 rx h.2 h2⟩)
    · cases e
  · split at e
    · rename_i l h
      cases e
      simp only [Bool.and_eq_true] at h
      obtain ⟨p, vs, rfl, h0, h1, h2⟩ := ry.frt
      exact .inr (.inl ⟨p, vs, rfl, .inr (.inr h1), flat_V h.1 rx, flats_V h.2 h2, in_VD h.1 rx h.2 h2⟩)
    · cases e
  · split at e
    · rename_i l h
      cases e
      simp only [Bool.and_eq_true] at h
      obtain ⟨p, vs, rfl, h1, h2⟩ := ry.lst
      exact .inr (.inl ⟨p, vs, rfl, .inl h1.seq, flat_V h.1 rx, flats_V h.2 h2, in_VD h.1 rx h.2 h2⟩)
    · split at e
      · rename_i l _ h
        cases e
        simp only [Bool.and_eq_true] at h
        have ha := (Bool.and_eq_true_iff.mp h.1).1
        have hb := (Bool.and_eq_true_iff.mp h.2).1
        have hb2 : isDatas l = true := by simpa [isData] using hb
        refine .inr (.inr ⟨toPy x, toPys l, dp_py x ha rx, by have := dp_py _ hb ry; simpa [toPy] using this, okE_sh h.1 rx, by have := okE_sh h.2 ry; simpa [toPy] using this, has_py ha hb2⟩)
      · cases e
  · cases e
theorem Room.u65 {k : Nat} {A : Around} (r : Room k A) : A.units + 65 < cLine := by have := r.un; omega
def pIn : Cp2 where
  op := .In
  f := fIn
  imp {A k F X W} C := by
    refine ⟨_, op_inS.or (op_in_seq.or (op_inD (Room.u65 C.room))), fun w st a b x y d Q hs ra rb e q => ?_⟩
    unfold fIn at e
    simp only [Option.map_eq_some_iff] at e
    obtain ⟨b, e1, rfl⟩ := e
    have q' := q w _ (.refl w) hs (rep_bl b)
    rcases has_sq ra rb e1 with ⟨c, z, h1, h2, h3⟩ | ⟨p, xs, h1, h2, h3, h4, h5⟩ | ⟨d, ds, h1, h2, h3, h4, h5⟩
    · exact .inl ⟨c, z, h1, h2, by rw [h3]; exact q'⟩
    · exact .inr (.inl ⟨p, xs, h1, by rw [C.hK]; exact h2, h3, h4, by rw [h5]; exact q'⟩)
    · exact .inr (.inr ⟨d, ds, by rw [C.hK]; exact h1, by rw [C.hK]; exact h2, h3, h4, by rw [h5]; exact q'⟩)
def pNotIn : Cp2 where
  op := .NotIn
  f := fNotIn
  imp {A k F X W} C := by
    refine ⟨_, op_notInS.or (op_notIn_seq.or (op_notInD (Room.u65 C.room))), fun w st a b x y d Q hs ra rb e q => ?_⟩
    unfold fNotIn at e
    simp only [Option.map_eq_some_iff] at e
    obtain ⟨b, e1, rfl⟩ := e
    have q' := q w _ (.refl w) hs (rep_bl (!b))
    rcases has_sq ra rb e1 with ⟨c, z, h1, h2, h3⟩ | ⟨p, xs, h1, h2, h3, h4, h5⟩ | ⟨d, ds, h1, h2, h3, h4, h5⟩
    · exact .inl ⟨c, z, h1, h2, by rw [h3]; exact q'⟩
    · exact .inr (.inl ⟨p, xs, h1, by rw [C.hK]; exact h2, h3, h4, by rw [if_pos rfl, h5]; exact q'⟩)
    · exact .inr (.inr ⟨d, ds, by rw [C.hK]; exact h1, by rw [C.hK]; exact h2, h3, h4, by rw [h5]; exact q'⟩)

/-! ## isinstance -/
/-- what d is: a built-in type of tyL, a class of its own -/
abbrev Ty := Nat ⊕ Nat
def tyOf (st : Sto) : D → Option Ty
  | .non => some (.inl 0)
  | .bl _ => some (.inl 1)
  | .int _ => some (.inl 2)
  | .str _ => some (.inl 3)
  | .tup _ => some (.inl 4)
  | .lst _ => some (.inl 5)
  | .frl _ => some (.inl 5)
  | .frt _ => some (.inl 4)
  | .dct _ _ _ => some (.inl 6)
  | .obj c _ => some (.inr c)
  | .loc n => (match st[n]? with
    | some (.lst _) => some (.inl 5)
    | some (.ins c _) => some (.inr c)
    | none => none)
  | _ => none
def isTy (x t : Ty) : Bool := decide (x = t) || (decide (x = .inl 1) && decide (t = .inl 2))
def tyV (A : Ad) : Ty → Value
  | .inl n => .type (tyN n)
  | .inr c => .ref (A.ca c)
def okTy (A : Ad) : Ty → Prop
  | .inl n => n < 7
  | .inr c => c ∈ A.I.cs
theorem ty_rep {A : Ad} {mg : Str → Option Value} (fa : Facts A mg) {w : Wd} {st : Sto} {d : D} {v : V} {t : Ty} (hs : SRel A w st) (r : Rep A w d v) (e : tyOf st d = some t) : TyX A.K w.H v (tyV A t) ∧ okTy A t := by
  have ins : ∀ (c : Nat) (p dx : Addr) (fs : List (Str × V)), c ∈ A.I.cs → w.H p = some (.ins (A.ca c) dx fs) → TyX A.K w.H (.ref p) (tyV A (.inr c)) ∧ okTy A (.inr c) := fun c p dx fs hc hp =>
    ⟨.base (.ins hp (fa.cl c hc).cl (fa.cl c hc).ka (fa.cl c hc).kn (fa.cl c hc).kt (fa.cl c hc).km), hc⟩
  cases d with
  | non => cases e; rw [r.non]; exact ⟨.base .non, (by decide : _ < 7)⟩
  | bl b => cases e; rw [r.bl]; exact ⟨.base (.bl b), (by decide : _ < 7)⟩
  | int i => cases e; rw [r.int]; exact ⟨.base (.int i), (by decide : _ < 7)⟩
  | str s => cases e; rw [r.str.1]; exact ⟨.base (.str _), (by decide : _ < 7)⟩
  | tup l =>
    cases e
    obtain ⟨a, vs, rfl, h1, _⟩ := r.tup
    refine ⟨?_, (by decide : _ < 7)⟩
    exact .base (.tup h1.2.2)
  | frt l =>
    cases e
    obtain ⟨a, vs, rfl, _, h1, _⟩ := r.frt
    refine ⟨?_, (by decide : _ < 7)⟩
    obtain ⟨o, its, n, h1, h2, _⟩ := h1
    exact .kTuple h1 h2
  | lst l =>
    cases e
    obtain ⟨a, vs, rfl, h1, _⟩ := r.lst
    exact ⟨.base (.lst h1.2.2), (by decide : _ < 7)⟩
  | frl l =>
    cases e
    obtain ⟨a, vs, rfl, h1, _⟩ := r.frl
    refine ⟨?_, (by decide : _ < 7)⟩
    rcases h1.2 with ⟨_, h | ⟨o, h⟩⟩ | ⟨o, its, n, h1, h2, _⟩
    · exact .base (.lst h)
    · exact .base (.frz h)
    · exact .kList h1 h2
  | dct b ks l =>
    cases e
    obtain ⟨a, vs, o, rfl, _, h1, h2, _⟩ := r.dct
    refine ⟨?_, (by decide : _ < 7)⟩
    cases b with
    | true => obtain ⟨kl, _, _, _, _, _, rfl⟩ := h2; exact .base (.dT h1)
    | false => obtain ⟨kl, _, _, _, _, _, rfl⟩ := h2; exact .base (.dK h1)
  | obj c l =>
    cases e
    obtain ⟨p, dx, vs, rfl, _, h0, hp, _⟩ := r.obj
    exact ins c p dx _ h0.1 hp
  | loc n =>
    obtain ⟨p, rfl, hm⟩ := r.loc
    unfold tyOf at e
    simp only at e
    split at e
    · rename_i l hl
      cases e
      obtain ⟨vs, h1, _⟩ := hs.ob n _ p hl hm
      exact ⟨.base (.lst h1), (by decide : _ < 7)⟩
    · rename_i c l hl
      cases e
      obtain ⟨dx, vs, h0, hp, _⟩ := hs.ob n _ p hl hm
      exact ins c p dx _ h0.1 hp
    · cases e
  | _ => cases e
theorem kit_bb : ∀ a < 7, ∀ b < 7, kitB (tyN a) (tyN b) = some (isTy (.inl a) (.inl b)) := by decide +kernel
theorem kit_ok {A : Ad} {mg : Str → Option Value} (fa : Facts A mg) {x t : Ty} (hx : okTy A x) (ht : okTy A t) : PySem.W.kitOne A.K (tyV A x) (tyV A t) = some (isTy x t) := by
  cases x with
  | inl n =>
    cases t with
    | inl m => exact kit_ty (kit_bb n hx m ht)
    | inr c => rw [show isTy (.inl n) (.inr c) = false by simp [isTy]]; exact ((fa.cl c ht).kb n hx).2.1
  | inr c =>
    cases t with
    | inl m => rw [show isTy (.inr c) (.inl m) = false by simp [isTy]]; exact ((fa.cl c hx).kb m ht).1
    | inr c' =>
      rw [show isTy (.inr c) (.inr c') = decide (c = c') by simp [isTy]]
      exact ((fa.cl c hx).kk c' ht).1
/-- the name of a built-in type, as blL has it -/
def tyB (n : Nat) : Nat := [99, 18, 7, 8, 6, 5, 15].getD n 99
/-- the class that is asked for -/
def tgB (I : Info) (sc : Scope) (t : Ty) (e : Expr) : Bool := match e, t with
  | .Name x _, .inl n => decide (0 < n) && decide (n < 7) && beqS x (blN (tyB n)) && I.bs.contains (tyB n) && glbB sc x
  | .Name x _, .inr c => beqS x (clN c) && I.cs.contains c && glbB sc x
  | _, _ => false
theorem ty_boot : ∀ n < 7, 0 < n → bootBuiltins (blN (tyB n)) = some (.type (tyN n)) ∧ okN (blN (tyB n)) = true := by decide +kernel
theorem tg_pe {A : Ad} {k : Nat} {F : FT} {X : Cx} {W : WX} (C : Ctx A k F X W) {t : Ty} {e : Expr} (h : tgB A.I X.env.scope t e = true) : ∃ c, PE X e (tC c) ∧ ClsV c (tyV A t) ∧ okTy A t ∧ notStar e = true := by
  unfold tgB at h
  split at h
  · simp only [Bool.and_eq_true, decide_eq_true_eq, List.contains_iff_mem] at h
    obtain ⟨⟨⟨⟨h0, h1⟩, h2⟩, h3⟩, h4⟩ := h
    have := beqS_eq h2
    subst this
    obtain ⟨b1, b2⟩ := ty_boot _ h1 h0
    exact ⟨.ty _, pe_bltn (glbB_ok h4) (C.facts.bl _ h3) b1 rfl (okN_n b2) (okN_d b2), .ty _, h1, rfl⟩
  · simp only [Bool.and_eq_true, List.contains_iff_mem] at h
    obtain ⟨⟨h2, h3⟩, h4⟩ := h
    have := beqS_eq h2
    subst this
    have f := C.facts.cl _ h3
    exact ⟨.ref _, pe_glob (glbB_ok h4) f.mg rfl (okN_d f.ok), .own _, h3, rfl⟩
  · cases h
theorem blN1 : blN 1 = ("isinstance" : Str) ∧ bootBuiltins (blN 1) = some (.builtin "isinstance") ∧ okN (blN 1) = true := by decide +kernel
def dIsi (t : Ty) (a : En → M D) : En → M D := bndE a fun d _ st => opt ((tyOf st d).map fun x => .bl (isTy x t)) st
/-- isinstance(a, T) -/
def cIsi (t : Ty) (a : BE) : BE where
  den F := dIsi t (a.den F)
  chk I N sc e := match e with
    | .Call (.Name x _) [e, T] [] _ => beqS x (blN 1) && I.bs.contains 1 && glbB sc x && notStar e && a.chk I N sc e && tgB I sc t T
    | _ => false
  snd {A k F X W} C e h := by
    split at h
    · rename_i x p e1 T pos
      simp only [Bool.and_eq_true, List.contains_iff_mem] at h
      obtain ⟨⟨⟨⟨⟨h1, h2⟩, h3⟩, h4⟩, h5⟩, h6⟩ := h
      have ex := beqS_eq h1
      subst ex
      obtain ⟨c, hT, hc, ht, hn⟩ := tg_pe C h6
      refine (pe_callB call_isi (glbB_ok h3) (C.facts.bl _ h2) blN1.2.1 (pa_cons (a.snd C h5) (pa_cons hT pa_nil (star_cons hn)) (by rw [star_cons h4, star_cons hn])) (okN_n blN1.2.2) (okN_d blN1.2.2) (star_cons h4) (star_any (by simp [hn]))).imp fun t' H Q q => ?_
      obtain ⟨w, r, st, rfl, hr, hs, hp⟩ := q
      refine step (R := RD A) (.refl w) hr hs hp fun w1 st1 d v hr1 hs1 e1 rv hp1 => ?_
      obtain ⟨d', e, hq⟩ := opt_post hp1
      simp only [Option.map_eq_some_iff] at e
      obtain ⟨x, e2, rfl⟩ := e
      obtain ⟨q1, q2⟩ := ty_rep C.facts hs1 rv e2
      refine ⟨v, c, tyV A x, tyV A t, isTy x t, rfl, hc, by rw [C.hK]; exact q1, by rw [C.hK]; exact kit_ok C.facts q2 ht, hq w1 _ e1 hs1 (rep_bl _)⟩
    · cases h
end Rf

set_option Elab.async false
set_option linter.all false
set_option maxRecDepth 100000
set_option maxHeartbeats 1000000
namespace Rf
open PySem L2

/-! ## a new instance -/
section
variable {A : Ad} {k : Nat} {F : FT} {X : Cx} {W : WX}
theorem calls_init (C : Ctx A k F X W) {i c : Nat} (hi : iniC i = some c) {w : Wd} {ds : List D} {st : Sto} {W' : XK} {Q : VK} (hp : PostG A (RF A) W' w Q (F i ds st)) :
    ∃ fd ps, FnOk X.prog X.w X.K X.mg X.base (L2.CX X.prog X.w) (2 * k) (A.fa i) fd ps (spI A c (F i)) ∧ Binds X.K fd ps [] ∧ KwOk X.K fd ps ∧ ps = paN i := by
  rcases C.calls i with h | h
  · rw [C.hK]
    unfold spX at h
    rw [hi] at h
    exact h
  · rw [h ds st] at hp; exact hp.elim
/-- the class at c, called with what stands -/
theorem make_run (C : Ctx A k F X W) {c : Nat} (hc : c ∈ A.I.cs) {w0 w : Wd} {ds : List D} {st : Sto} {vs : List V} {us : List Value} {t : St} {Q : VK} {pins : List (Addr × Obj)} {s : Shared}
    (I : Inv X pins t w.H s) (r : Vals vs us) (hs : SRel A w st) (rp : Reps A w ds vs) (e0 : Ext w0 w) (hp : PostG A (RF A) (fun c d H => W c d t H) w0 Q (F (iniF c) ds st)) :
    wpAny (model X.prog X.w) X.A (call (.ref (A.ca c)) us) (EP X pins t Q) X.xe s := by
  have cf := C.facts.cl c hc
  obtain ⟨fd, ps, F1, b1, _, _⟩ := calls_init C cf.ic hp
  have mk := cf.mkr
  rw [← C.hK] at mk
  have f1 := I.hok.fresh (Nat.le_succ s.heap.objs.size)
  have f0 := I.hok.fresh (Nat.le_refl s.heap.objs.size)
  have I2 := Inv.made (C := A.ca c) I
  have hq : spI A c (F (iniF c)) (.ref (s.heap.objs.size + 1) :: vs) (upd (upd w.H s.heap.objs.size (.own (s.heap.objs.size + 1))) (s.heap.objs.size + 1) (.ins (A.ca c) s.heap.objs.size []))
      (fun v H2 => v = .non ∧ Q (.ref (s.heap.objs.size + 1)) H2) (fun c d H => W c d t H) := by
    refine ⟨w, _, _, vs, ds, st, rfl, f1, f0, Nat.ne_of_lt (Nat.lt_succ_self _), rfl, hc, hs, rp, ?_⟩
    cases e : F (iniF c) ds st with
    | ok d st1 => rw [e] at hp; exact fun w' v ex sr rv ev => ⟨rfl, ev ▸ hp w' v (e0.trans ex) sr (rv.later e0)⟩
    | exc x st1 => rw [e] at hp; exact fun w' c dd ex sr rx => hp w' c dd (e0.trans ex) sr rx
    | bad => rw [e] at hp; exact hp
  have r2 : Vals (V.ref (s.heap.objs.size + 1) :: vs) (Value.ref (s.heap.objs.size + 1) :: us) := .cons rfl r
  have hl : (Value.ref (s.heap.objs.size + 1) :: us).length = ps.length := r2.length.symm.trans (F1.len _ _ _ _ hq)
  have hb := b1 _ (Value.ref (s.heap.objs.size + 1) :: us) I2.kIn (by rw [List.append_nil]; exact hl)
  rw [List.append_nil] at hb
  have run := F1.run _ X.stack _ _ ⟨Value.ref (s.heap.objs.size + 1) :: us, []⟩ _ _ _ _ (C.room.make (A.ca c) us []) (I2.env0.make (A.ca c) us []) hb r2 hq
  refine wpAny_call (make_map (f := A.fa (iniF c)) I.kIn mk.makes mk.init (beq_iff_eq.mp mk.fn) (codeAny_mono run fun o s' ho => ?_))
  cases o with
  | error z => exact C.pass t pins _ _ z s' I2 ho
  | ok fl =>
    cases fl with
    | ret u =>
      obtain ⟨v, H', I3, rv, ev, q3⟩ := I2.after ho
      subst ev
      exact ⟨rv, V.ref (s.heap.objs.size + 1), H', I3, rfl, q3⟩
    | next => cases ho
    | brk => cases ho
    | cont => cases ho
end
def dMk (c : Nat) (F : FT) (a : En → M (List D)) : En → M D := bndE a fun ds _ => F (iniF c) ds
/-- C(e, ..) -/
def fMk (c : Nat) (bs : List BE) : BF where
  den F := dMk c F (dns bs F)
  chk I N sc e := match e with
    | .Call (.Name x _) (e :: es) [] _ => beqS x (clN c) && I.cs.contains c && glbB sc x && okN x && chs I N sc bs (e :: es)
    | _ => false
  snd {A k F X W} C e h := by
    split at h
    · rename_i x p e es pos
      simp only [Bool.and_eq_true, List.contains_iff_mem] at h
      obtain ⟨⟨⟨⟨h1, h2⟩, h3⟩, h4⟩, h5⟩ := h
      have e1 := beqS_eq h1
      subst e1
      have cf := C.facts.cl c h2
      have hk' : PySem.W.keepIn X.K (.ref (A.ca c)) = true := by rw [C.hK]; exact cf.kf
      refine ⟨fun pins s t H Q I q => ?_⟩
      refine wpAny_Call_Name_kw (ld_glob I (glbB_ok h3) cf.mg ?_ (okN_d h4))
      obtain ⟨w, r, st, rfl, hr, hs, hp⟩ := q
      have st5 := chs_star h5
      have st6 := st5
      simp only [List.all_cons, Bool.and_eq_true] at st5
      refine PySem.W.callWith_K (h₀ := X.base) I.ok.mod.kin hk' ?_ (star_cons st5.1) (star_any st5.2)
      refine thn ((pa_of C h5).run pos pins s t w.H (fun vs H1 => ∃ w1 ds st1, w1.H = H1 ∧ SRel A w1 st1 ∧ Reps A w1 ds vs ∧ Ext w w1 ∧ PostG A (RF A) (fun c d H => W c d t H) w Q (F (iniF c) ds st1)) I ?_) ?_
      · exact step (.refl w) hr hs hp fun w1 st1 ds vs _ hs1 e1 rp hp1 => ⟨w1, ds, st1, rfl, hs1, rp, e1, hp1⟩
      · rintro us s1 ⟨vs, H1, I1, rv, w1, ds, st1, rfl, hs1, rp, e1, hp1⟩
        exact ⟨I1.kIn, make_run C h2 I1 rv hs1 rp e1 hp1⟩
    · cases h

/-! ## a new container that is kept in the store -/
def toSo : D → Option SO
  | .lst l => some (.lst l)
  | .obj c l => some (.ins c l)
  | _ => none
theorem toSo_eq {d : D} {o : SO} (h : toSo d = some o) : soD o = d := by
  cases d <;> cases h <;> rfl
def dSto (d : D) : M D := fun st => match toSo d with
  | some o => .ok (.loc st.length) (st ++ [o])
  | none => .bad
theorem sto_ok {A : Ad} {w w' : Wd} {st : Sto} {d : D} {v : V} {o : SO} (ex : Ext w w') (hs : SRel A w' st) (rf : RF A w w' d v) (e : toSo d = some o) :
    ∃ w'', w''.H = w'.H ∧ Ext w w'' ∧ SRel A w'' (st ++ [o]) ∧ Rep A w'' (.loc st.length) v := by
  obtain ⟨p, rfl, h1, h2, h3, h4⟩ := rf
  have hx : Le w' ⟨w'.mu ++ [p], w'.S, w'.H⟩ := ⟨fun n a q => by rw [List.getElem?_append_left (List.getElem?_eq_some_iff.mp q).1, q], fun a q => ⟨q, rfl⟩⟩
  refine ⟨⟨w'.mu ++ [p], w'.S, w'.H⟩, rfl, ?_, ⟨?_, ?_, ?_⟩, ?_⟩
  · obtain ⟨l, q1, q2⟩ := ex.mu
    refine ⟨⟨l ++ [p], by show w'.mu ++ [p] = _; rw [q1, List.append_assoc], fun a q => ?_⟩, ex.s, ex.sn, ex.keep, ex.trk⟩
    rcases List.mem_append.mp q with q | q
    · exact q2 a q
    · rw [List.mem_singleton.mp q]; exact h1
  · refine ⟨fun a q => ⟨(hs.wf.s a q).1, fun z => ?_⟩, fun a q => ?_, ?_, hs.wf.t⟩
    · rcases List.mem_append.mp z with z | z
      · exact (hs.wf.s a q).2 z
      · rw [List.mem_singleton.mp z] at q; exact h2 q
    · rcases List.mem_append.mp q with q | q
      · exact hs.wf.m a q
      · rw [List.mem_singleton.mp q]; exact h4.trk
    · show (w'.mu ++ [p]).Nodup
      refine List.nodup_append.mpr ⟨hs.wf.nd, by simp, fun a ha b hb e => ?_⟩
      rw [List.mem_singleton.mp hb] at e
      exact h3 (e ▸ ha)
  · show (w'.mu ++ [p]).length = _
    rw [List.length_append, List.length_append, hs.len]; rfl
  · intro n ob a g1 g2
    by_cases hn : n < st.length
    · rw [List.getElem?_append_left hn] at g1
      have hn' : n < w'.mu.length := by rw [hs.len]; exact hn
      have g2' : w'.mu[n]? = some a := by
        have : (w'.mu ++ [p])[n]? = some a := g2
        rwa [List.getElem?_append_left hn'] at this
      exact (hs.ob n ob a g1 g2').le hx rfl
    · rw [List.getElem?_append_right (by omega)] at g1
      have g2' : (w'.mu ++ [p])[n]? = some a := g2
      rw [List.getElem?_append_right (by rw [hs.len]; omega), hs.len] at g2'
      have h0 : n - st.length = 0 := by
        by_cases z : n - st.length = 0
        · exact z
        · rw [List.getElem?_eq_none (by simp; omega)] at g1; cases g1
      rw [h0] at g1 g2'
      simp at g1 g2'
      subst g1 g2'
      rw [toSo_eq e]
      exact h4.le hx rfl
  · unfold Rep
    exact ⟨p, rfl, by rw [← hs.len]; show (w'.mu ++ [p])[w'.mu.length]? = _; simp⟩
def BF.s (b : BF) : BE where
  den F := bndE (b.den F) fun d _ => dSto d
  chk := b.chk
  snd {A k F X W} C e h := (b.snd C h).imp fun t H Q q => by
    obtain ⟨w, r, st, rfl, hr, hs, hp⟩ := q
    refine step (R := RF A) (.refl w) hr hs hp fun w1 st1 d v hr1 hs1 e1 rv hp1 => ?_
    cases eo : toSo d with
    | none =>
      have e2 : dSto d st1 = .bad := by unfold dSto; rw [eo]
      rw [e2] at hp1
      exact hp1.elim
    | some o =>
      have e2 : dSto d st1 = .ok (.loc st1.length) (st1 ++ [o]) := by unfold dSto; rw [eo]
      rw [e2] at hp1
      obtain ⟨w2, g1, g2, g3, g4⟩ := sto_ok e1 hs1 rv eo
      rw [← g1]
      exact hp1 w2 v g2 g3 g4
end Rf

set_option Elab.async false
set_option linter.all false
set_option maxRecDepth 100000
set_option maxHeartbeats 1000000
namespace Rf
open PySem L2

/-! ## sorted(text) -/
section
open PyProof.Rows
theorem rising_pw : ∀ {r : List Nat} {c : Nat}, risingS ⟨#[c]⟩ (r.map fun c => (⟨#[c]⟩ : Str)) = true → (c :: r).Pairwise (· ≤ ·)
  | [], c, _ => by simp
  | d :: r, c, h => by
    have h' : (!Spec.ltCps [d] [c] && risingS ⟨#[d]⟩ (r.map fun c => (⟨#[c]⟩ : Str))) = true := h
    simp only [Bool.and_eq_true, Bool.not_eq_true'] at h'
    have ih := rising_pw h'.2
    have hd : c ≤ d := by
      have := h'.1
      rw [ltCps_eq] at this
      have h2 : ¬ ([d] < [c]) := of_decide_eq_false this
      rcases Nat.lt_or_ge d c with q | q
      · exact absurd (List.cons_lt_cons_iff.mpr (.inl q)) h2
      · exact q
    refine List.pairwise_cons.mpr ⟨fun x hx => ?_, ih⟩
    rcases List.mem_cons.mp hx with q | q
    · rw [q]; exact hd
    · exact Nat.le_trans hd (List.rel_of_pairwise_cons ih q)
theorem sorted_pw {l : List Nat} (h : sortedS (l.map fun c => (⟨#[c]⟩ : Str)) = true) : l.Pairwise (· ≤ ·) := by
  cases l with
  | nil => simp
  | cons c r => exact rising_pw h
theorem perm_signs {zs : List Str} {s : List Nat} (h : zs.Perm (s.map fun c => (⟨#[c]⟩ : Str))) : ∃ ys : List Nat, ys.Perm s ∧ zs = ys.map fun c => (⟨#[c]⟩ : Str) := by
  refine ⟨zs.map fun z => z.cps.toList.headD 0, ?_, ?_⟩
  · have := h.map fun z => z.cps.toList.headD 0
    rw [List.map_map] at this
    have e : ((fun z : Str => z.cps.toList.headD 0) ∘ fun c => (⟨#[c]⟩ : Str)) = id := by funext c; rfl
    rw [e, List.map_id] at this
    exact this
  · rw [List.map_map]
    refine (List.map_id zs).symm.trans (List.map_congr_left fun z hz => ?_)
    obtain ⟨c, _, rfl⟩ := List.mem_map.mp (h.mem_iff.mp hz)
    rfl
theorem strs_signs : ∀ {s : List Nat} {us : List Value}, us.length = s.length → (∀ (j : Nat) (u : Value), us[j]? = some u → ∃ c t, s[j]? = some c ∧ u = .str ⟨#[c]⟩ t) → StrsAre us (s.map fun c => (⟨#[c]⟩ : Str))
  | [], [], _, _ => .nil
  | c :: s, u :: us, hl, h => by
    obtain ⟨c', t, e1, e2⟩ := h 0 u rfl
    have : c = c' := Option.some.inj e1
    subst this
    subst e2
    exact .cons _ _ (strs_signs (by simpa using hl) fun j v e => by
      obtain ⟨c', t, a, b⟩ := h (j + 1) v (by simpa using e)
      exact ⟨c', t, by simpa using a, b⟩)
  | [], _ :: _, h, _ => by simp at h
  | _ :: _, [], h, _ => by simp at h
theorem call_sorted_txt {X : Cx} (hc : X.calm = true) : CallR X (.builtin "sorted") (fun xs H Q => ∃ s : List Nat, xs = [.str ⟨s.toArray⟩] ∧ s.length < 64 ∧
    ∀ ys : List Nat, ys.Perm s → ys.Pairwise (· ≤ ·) → ∀ p, H p = none → Q (.ref p) (upd H p (.lst (ys.map fun c => .str ⟨#[c]⟩)))) := by
  intro pins s σ H xs us Q I r h
  obtain ⟨z, rfl, hz, q⟩ := h
  obtain ⟨u, rfl, t, rfl⟩ := vals1 r
  have hsz : z.length ≤ sizeLine := by rw [sizeLine_eq]; omega
  refine Calls.call_function_entry kind_sorted plain_sorted entry_sorted (args_sorted1 _) ?_
  unfold Builtin.«sorted»
  refine wpAny_bind (m := checkCount "sorted" 1 1 _) (wpAny_pure ?_)
  refine wpAny_bind (wpAny_collect_str (A := X.A.in1) (s := s) (I.ok.hd hc) ⟨z.toArray⟩ t (fun s1 acc kp hg hd ho hi => ?_) (by simpa using hsz))
  have h0 : acc.size = z.length := by simpa using hi.1
  refine wpAny_bind (wpAny_newList ?_ (by simp [h0]; exact hsz))
  have hS : StrsAre acc.toList (z.map fun c => (⟨#[c]⟩ : Str)) := by
    refine strs_signs (by simpa using h0) fun j u e => ?_
    obtain ⟨c, t', h1, h2⟩ := hi.2 j u (by rw [← e, Array.getElem?_toList])
    exact ⟨c, t', by simpa using h1, h2⟩
  have e1 : s1 = { s with heap := s1.heap, toks := s1.toks } := by
    cases s1; cases s; simp at hg hd ho; subst hg hd ho; rfl
  have I1 : Inv X pins σ H s1 := by rw [e1]; exact I.kept kp
  have hoL : (s1.heap.push (seqObj "list" acc.toList.toArray 0)).get? s1.heap.objs.size = some (seqObj "list" acc.toList.toArray 0) := Heap.get?_push_size _ rfl
  refine wpAny_bind (wpAny_holding (wpAny_call_entry PyProof.Rows.slot_list_sort ⟨_, hoL, rfl⟩ PyProof.Rows.entry_list_sort
    (list_sort_treeK (s := { s1 with heap := s1.heap.push (seqObj "list" acc.toList.toArray 0) }) strKind_oneLt hoL hS.keysOf (fun v₁ v₂ rest e => keyKind_strs (by rw [← e]; exact hS)) (by simp [h0]; exact hz) fun st' hp hs => ⟨_, rfl, ?_⟩) (PyProof.Rows.args_list_sort _)))
  obtain ⟨zs, g1, g2, g3⟩ := sorted_out_str hS hp hs
  obtain ⟨ys, g4, rfl⟩ := perm_signs g2
  obtain ⟨ep, he'⟩ := PyProof.Rows.sortedHeap_at (vs := acc.toList) (out := (arrOf st').map (·.2)) hoL
  have fr := I1.hok.fresh (Nat.le_refl s1.heap.objs.size)
  refine wpAny_pure ⟨_, rfl, .ref s1.heap.objs.size, upd H s1.heap.objs.size (.lst (ys.map fun c => .str ⟨#[c]⟩)), I1.laid (t' := s1.toks) (fun b u hu => ?_) (Nat.le_refl _) ?_, rfl, q ys g4 (sorted_pw g3) _ fr⟩
  · rw [PyProof.Rows.sortedHeap_old (Nat.ne_of_lt (Heap.lt_size hu)) (by rw [size_push']; exact Nat.lt_succ_of_lt (Heap.lt_size hu))]
    exact Heap.get?_push_of_some _ hu
  · refine ⟨by rw [List.length_map, g4.length_eq]; exact hsz, ((arrOf st').map (·.2)).toList, ep, ?_, by rw [Array.toArray_toList]; exact he'⟩
    have := vals_of_strs g1
    rw [List.map_map] at this
    exact this
end
def sortN (s : List Nat) : List Nat := s.mergeSort fun a b => decide (a ≤ b)
theorem sortN_pw (s : List Nat) : (sortN s).Pairwise (· ≤ ·) := by
  have := List.pairwise_mergeSort (le := fun a b : Nat => decide (a ≤ b)) (fun a b c h1 h2 => by simp at *; omega) (fun a b => by simp; omega) s
  exact this.imp fun h => by simpa using h
theorem sortN_eq {ys s : List Nat} (h : ys.Perm s) (hp : ys.Pairwise (· ≤ ·)) : ys = sortN s :=
  List.Perm.eq_of_pairwise (le := (· ≤ ·)) (fun a b _ _ h1 h2 => Nat.le_antisymm h1 h2) hp (sortN_pw s) (h.trans (List.mergeSort_perm s _).symm)
def fSorted : List D → Option D
  | [.str s] => if s.length < 64 then some (.lst (signs (sortN s))) else none
  | _ => none
def bSorted : BiF where
  n := 13
  tv := .builtin "sorted"
  f := keepSt fSorted
  tgt := .b _ rfl
  boot := by decide +kernel
  ok := by decide +kernel
  imp {A k F X W} C := by
    refine ⟨_, call_sorted_txt C.calm, .keep fun w st l xs d Q hs rp e q => ?_⟩
    unfold fSorted at e
    split at e
    · split at e
      · rename_i s h64
        cases e
        obtain ⟨v, rfl, h⟩ := rp.one'
        obtain ⟨rfl, g⟩ := h.str
        refine ⟨s, rfl, h64, fun ys hp hw p hpn => ?_⟩
        rw [sortN_eq hp hw]
        have hm : ∀ c ∈ sortN s, c < 1114112 := fun c hc => g.2 c ((List.mergeSort_perm s _).mem_iff.mp hc)
        have hl : (sortN s).length = s.length := List.length_mergeSort s
        exact q (w.raw p _) (.ref p) (ext_raw hpn) (hs.raw hpn) (top_lst hs.wf hpn (by rw [List.length_map, hl]; exact g.1) (reps_signs hm))
      · cases e
    · cases e

/-! ## methods of texts -/
theorem spl_mem (S : List Nat) : ∀ (l : List Nat) (k : Nat) (acc p : List Nat), p ∈ TL.spl S k acc l → p.length ≤ acc.length + l.length ∧ ∀ c ∈ p, c ∈ acc ∨ c ∈ l
  | [], k, acc, p, h => by
    rw [TL.spl_nil, List.mem_singleton] at h
    subst h
    exact ⟨by simp, fun c hc => .inl hc⟩
  | x :: r, 0, acc, p, h => by
    cases hp : TL.pre S (x :: r) with
    | true =>
      rw [TL.spl_hit hp] at h
      rcases List.mem_cons.mp h with rfl | h
      · exact ⟨by simp, fun c hc => .inl hc⟩
      · obtain ⟨h1, h2⟩ := spl_mem S r _ [] p h
        refine ⟨by simp at h1 ⊢; omega, fun c hc => ?_⟩
        rcases h2 c hc with q | q
        · cases q
        · exact .inr (List.mem_cons_of_mem _ q)
    | false =>
      rw [TL.spl_miss hp] at h
      obtain ⟨h1, h2⟩ := spl_mem S r _ _ p h
      refine ⟨by simp at h1 ⊢; omega, fun c hc => ?_⟩
      rcases h2 c hc with q | q
      · rcases List.mem_append.mp q with q | q
        · exact .inl q
        · rw [List.mem_singleton.mp q]; exact .inr (List.mem_cons_self ..)
      · exact .inr (List.mem_cons_of_mem _ q)
  | x :: r, k + 1, acc, p, h => by
    have h' : p ∈ TL.spl S k acc r := h
    obtain ⟨h1, h2⟩ := spl_mem S r _ _ p h'
    refine ⟨by simp; omega, fun c hc => ?_⟩
    rcases h2 c hc with q | q
    · exact .inl q
    · exact .inr (List.mem_cons_of_mem _ q)
def fSplit (x y : D) : Option D := match x, y with
  | .str s, .str p => if !p.isEmpty && p.all (fun c => decide (c < 256)) && decide (s.length + 2 ≤ sizeLine) && decide ((TL.spl p 0 [] s).length ≤ sizeLine) then some (.lst ((TL.spl p 0 [] s).map .str)) else none
  | _, _ => none
theorem reps_strs {A : Ad} {w : Wd} : ∀ {zs : List Str}, (∀ z ∈ zs, StrOk z.cps.toList) → Reps A w ((zs.map fun z => z.cps.toList).map .str) (zs.map V.str)
  | [], _ => .nil
  | z :: zs, h => .cons (by have := rep_str (A := A) (w := w) (h z (List.mem_cons_self ..)); simpa using this) (reps_strs fun y hy => h y (List.mem_cons_of_mem _ hy))
def isStr : D → Bool
  | .str _ => true
  | _ => false
/-- the receiver is looked at first -/
def denM (ok : D → Bool) (f : D → D → Option D) (a b : En → M D) : En → M D := bndE a fun x => if ok x then bndE b fun y _ => opt (f x y) else fun _ _ => .bad
/-- x.split(y) -/
def fSpl (a : BE) (b : BE) : BF where
  den F := denM isStr fSplit (a.den F) (b.den F)
  chk I N sc e := match methB "split" e with
    | some (o, x) => a.chk I N sc o && b.chk I N sc x
    | none => false
  snd {A k F X W} C e h := by
    split at h
    · rename_i o x hm
      obtain ⟨apos, pos, rfl, hl, hs, hn⟩ := methB_ok hm
      simp only [Bool.and_eq_true] at h
      refine (pe_m PySem.F.plainAttrs_str PySem.F.slot_str_split PySem.F.type_str_split mt_split (a.snd C h.1) (pa_cons (b.snd C h.2) pa_nil (star_cons hn)) hs hn hl).imp fun t H Q q => ?_
      obtain ⟨w, r, st, rfl, hr, hs, hp⟩ := q
      refine step (R := RD A) (.refl w) hr hs hp fun w1 st1 x vx hr1 hs1 e1 rx hp1 => ?_
      cases x with
      | str s =>
        obtain ⟨rfl, g⟩ := rx.str
        refine ⟨rfl, ?_⟩
        have hp1' : PostG A (RF A) (fun c d H => W c d t H) w Q (bndE (b.den F) (fun y _ => opt (fSplit (.str s) y)) r st1) := hp1
        refine step (R := RD A) e1 hr1 hs1 hp1' fun w2 st2 y vy hr2 hs2 e2 ry hp2 => ?_
        obtain ⟨d, e, hq⟩ := opt_post hp2
        cases y with
        | str p =>
          unfold fSplit at e
          simp only at e
          split at e
          · rename_i hc
            cases e
            simp only [Bool.and_eq_true, decide_eq_true_eq, Bool.not_eq_true', List.isEmpty_eq_false_iff] at hc
            obtain ⟨⟨⟨c1, c2⟩, c3⟩, c4⟩ := hc
            obtain ⟨rfl, g'⟩ := ry.str
            have hk : ¬ Builtin.Str.strKind ⟨s.toArray⟩ < Builtin.Str.strKind ⟨p.toArray⟩ := TL.kind_ok (by simpa using c2)
            have es := TL.split_spl ⟨s.toArray⟩ ⟨p.toArray⟩ c1 hk
            refine ⟨_, _, rfl, rfl, by rw [str_len]; simpa using c1, by rw [str_len]; exact c3, fun a ha => ?_⟩
            have es2 : (Txt.split ⟨s.toArray⟩ ⟨p.toArray⟩).map (fun z => z.cps.toList) = TL.spl p 0 [] s := es
            rw [← es2] at hq c4
            rw [List.length_map] at c4
            have hz : ∀ z ∈ Txt.split ⟨s.toArray⟩ ⟨p.toArray⟩, StrOk z.cps.toList := fun z hz => by
              have : z.cps.toList ∈ TL.spl p 0 [] s := by rw [← es2]; exact List.mem_map_of_mem hz
              obtain ⟨m1, m2⟩ := spl_mem p s 0 [] _ this
              refine ⟨by rw [List.length_nil] at m1; omega, fun c hc => ?_⟩
              rcases m2 c hc with q | q
              · cases q
              · exact g.2 c q
            exact hq (w2.raw a _) (.ref a) ((e1.trans e2).trans (ext_raw ha)) (hs2.raw ha) ((top_lst hs2.wf ha (by rw [List.length_map]; exact c4) (reps_strs hz)).later (e1.trans e2))
          · cases e
        | _ => cases e
      | _ => exact hp1.elim
    · cases h
/-- the texts of a list -/
def getSs : List D → Option (List (List Nat))
  | [] => some []
  | .str b :: r => (getSs r).map (b :: ·)
  | _ :: _ => none
theorem getSs_eq : ∀ {l : List D} {zs : List (List Nat)}, getSs l = some zs → l = zs.map .str
  | [], _, e => by cases e; rfl
  | d :: r, zs, e => by
    cases d <;> first | (cases e; done) | skip
    simp only [getSs, Option.map_eq_some_iff] at e
    obtain ⟨bs, e1, rfl⟩ := e
    rw [getSs_eq e1]; rfl
theorem reps_getSs {A : Ad} {w : Wd} : ∀ {zs : List (List Nat)} {vs : List V}, Reps A w (zs.map .str) vs → vs = (zs.map fun z => (⟨z.toArray⟩ : Str)).map V.str ∧ ∀ z ∈ zs, StrOk z
  | [], _, h => by simp only [List.map_nil, Reps] at h; rw [h]; exact ⟨rfl, fun _ q => by cases q⟩
  | z :: zs, _, h => by
    simp only [List.map_cons, Reps] at h
    obtain ⟨v, r, rfl, h1, h2⟩ := h
    obtain ⟨g1, g2⟩ := reps_getSs h2
    obtain ⟨g3, g4⟩ := h1.str
    refine ⟨by rw [g1, g3]; rfl, fun y hy => ?_⟩
    rcases List.mem_cons.mp hy with q | q
    · rw [q]; exact g4
    · exact g2 y q
theorem join_len (S : List Nat) : ∀ zs : List (List Nat), (TL.joinL S zs).length ≤ (zs.map (·.length)).sum + zs.length * S.length
  | [] => by simp [TL.joinL]
  | [p] => by simp [TL.joinL]
  | p :: q :: r => by
    have ih := join_len S (q :: r)
    show (p ++ (S ++ TL.joinL S (q :: r))).length ≤ _
    rw [List.length_append, List.length_append, List.map_cons, List.sum_cons, List.length_cons, Nat.succ_mul]
    omega
theorem join_mem (S : List Nat) : ∀ zs : List (List Nat), ∀ c ∈ TL.joinL S zs, c ∈ S ∨ ∃ z ∈ zs, c ∈ z
  | [], c, h => by cases h
  | [p], c, h => .inr ⟨p, List.mem_cons_self .., h⟩
  | p :: q :: r, c, h => by
    have h' : c ∈ p ++ (S ++ TL.joinL S (q :: r)) := h
    rcases List.mem_append.mp h' with z | z
    · exact .inr ⟨p, List.mem_cons_self .., z⟩
    · rcases List.mem_append.mp z with z | z
      · exact .inl z
      · rcases join_mem S (q :: r) c z with y | ⟨x, y1, y2⟩
        · exact .inl y
        · exact .inr ⟨x, List.mem_cons_of_mem _ y1, y2⟩
def joinB (p : List Nat) (zs : List (List Nat)) : Bool := decide ((zs.map (·.length)).sum + zs.length * p.length ≤ 16777216)
def itemsJ : D → Option (List D)
  | .lst l => some l
  | .tup l => some l
  | .frl l => some l
  | _ => none
def fJoin (x y : D) : Option D := match x with
  | .str p => (itemsJ y).bind fun l => (getSs l).bind fun zs => if joinB p zs then some (.str (TL.joinL p zs)) else none
  | _ => none
/-- x.join(y) -/
def cJoin (a : BE) (b : BP) : BE where
  den F := denM isStr fJoin (a.den F) (b.den F)
  chk I N sc e := match methB "join" e with
    | some (o, x) => a.chk I N sc o && b.chk I N sc x
    | none => false
  snd {A k F X W} C e h := by
    split at h
    · rename_i o x hm
      obtain ⟨apos, pos, rfl, hl, hs, hn⟩ := methB_ok hm
      simp only [Bool.and_eq_true] at h
      refine (pe_m PySem.F.plainAttrs_str PySem.F.slot_str_join PySem.F.type_str_join mt_join (a.snd C h.1) (pa_cons (b.snd C h.2) pa_nil (star_cons hn)) hs hn hl).imp fun t H Q q => ?_
      obtain ⟨w, r, st, rfl, hr, hs, hp⟩ := q
      refine step (R := RD A) (.refl w) hr hs hp fun w1 st1 x vx hr1 hs1 e1 rx hp1 => ?_
      cases x with
      | str s =>
        obtain ⟨rfl, g⟩ := rx.str
        refine ⟨rfl, ?_⟩
        have hp1' : PostG A (RD A) (fun c d H => W c d t H) w Q (bndE (b.den F) (fun y _ => opt (fJoin (.str s) y)) r st1) := hp1
        refine step (R := RDP A) e1 hr1 hs1 hp1' fun w2 st2 y vy hr2 hs2 e2 ry hp2 => ?_
        obtain ⟨d, e, hq⟩ := opt_post hp2
        have key : ∀ (l : List D) (p : Addr) (vs : List V), itemsJ y = some l → vy = .ref p → (SqL X.K w2.H p vs ∨ SqT X.K w2.H p vs) → Reps A w2 l vs → ∃ a p, ∃ ys : List Str, V.str ⟨s.toArray⟩ = .str a ∧ [vy] = [.ref p] ∧ (SqL X.K w2.H p (ys.map V.str) ∨ SqT X.K w2.H p (ys.map V.str)) ∧
            (ys.map (·.length)).sum + ys.length * a.length ≤ 16777216 ∧ Q (.str (Txt.join a ys)) w2.H := by
          intro l p vs ei ev hsq hv
          unfold fJoin at e
          simp only [ei, Option.bind_some, Option.bind_eq_some_iff] at e
          obtain ⟨zs, e3, e4⟩ := e
          split at e4
          · rename_i hj
            cases e4
            rw [getSs_eq e3] at hv
            obtain ⟨g1, g2⟩ := reps_getSs hv
            subst g1 ev
            have hb : (zs.map (·.length)).sum + zs.length * s.length ≤ 16777216 := of_decide_eq_true hj
            have el : ((zs.map fun z => (⟨z.toArray⟩ : Str)).map (·.length)) = zs.map (·.length) := by rw [List.map_map]; exact List.map_congr_left fun z _ => str_len z
            refine ⟨_, p, _, rfl, rfl, hsq, by rw [el, List.length_map, str_len]; exact hb, ?_⟩
            have ej : Txt.join ⟨s.toArray⟩ (zs.map fun z => (⟨z.toArray⟩ : Str)) = ⟨(TL.joinL s zs).toArray⟩ := by
              rw [TL.join_eq]
              refine TL.ext_tl ?_
              rw [TL.tl_join, List.map_map, TL.tl_mk]
              have : (zs.map (TL.tl ∘ fun z => (⟨z.toArray⟩ : Str))) = zs := by
                refine (List.map_congr_left fun z _ => ?_).trans (List.map_id zs)
                rfl
              rw [this]
            rw [ej]
            refine hq w2 _ (e1.trans e2) hs2 (rep_str ⟨?_, fun c hc => ?_⟩)
            · have := join_len s zs
              rw [sizeLine_eq]; omega
            · rcases join_mem s zs c hc with q | ⟨z, q1, q2⟩
              · exact g.2 c q
              · exact (g2 z q1).2 c q2
          · cases e4
        cases y with
        | lst l =>
          obtain ⟨p, vs, h1, h2, h3⟩ := ry.lst
          exact key l p vs rfl h1 (.inl (by rw [C.hK]; exact h2.seq)) h3
        | tup l =>
          obtain ⟨p, vs, h1, h2, h3⟩ := ry.tup
          exact key l p vs rfl h1 (.inr (by rw [C.hK]; exact h2.seq)) h3
        | frl l =>
          obtain ⟨p, vs, h1, h2, h3⟩ := ry.frl
          exact key l p vs rfl h1 (.inl (by rw [C.hK]; exact h2.seq)) h3
        | _ => cases e
      | _ => exact hp1.elim
    · cases h
end Rf

set_option Elab.async false
set_option linter.all false
set_option maxRecDepth 100000
set_option maxHeartbeats 1000000
namespace Rf
open PySem L2

/-! ## the store is changed -/
theorem nodup_at {l : List Addr} (h : l.Nodup) {i j : Nat} {a : Addr} (hi : l[i]? = some a) (hj : l[j]? = some a) : i = j := by
  have hp := List.pairwise_iff_getElem.mp h
  obtain ⟨i1, i2⟩ := List.getElem?_eq_some_iff.mp hi
  obtain ⟨j1, j2⟩ := List.getElem?_eq_some_iff.mp hj
  rcases Nat.lt_trichotomy i j with q | q | q
  · exact absurd (i2.trans j2.symm) (hp i j i1 j1 q)
  · exact q
  · exact absurd (j2.trans i2.symm) (hp j i j1 i1 q)
theorem put_mu {A : Ad} {w : Wd} {st : Sto} {n : Nat} {a : Addr} {o : HO} {ob : SO} (hs : SRel A w st) (hm : w.mu[n]? = some a) (hT : Top A (w.raw a o) (soD ob) a) :
    Ext w (w.raw a o) ∧ Le w (w.raw a o) ∧ SRel A (w.raw a o) (st.set n ob) := by
  have ha : a ∈ w.mu := List.mem_of_getElem? hm
  have nS : ¬ w.S a := fun q => (hs.wf.s a q).2 ha
  refine ⟨⟨⟨[], by simp [Wd.raw], by simp⟩, fun _ h => h, fun _ h => .inl h, fun b _ hb => upd_ne fun e => hb (e ▸ ha), fun _ h => upd_trk h⟩, le_put nS, ⟨⟨fun b q => ⟨upd_trk (hs.wf.s b q).1, (hs.wf.s b q).2⟩, fun b q => upd_trk (hs.wf.m b q), hs.wf.nd, hs.wf.tRaw hT.noT⟩, by rw [List.length_set]; exact hs.len, fun m ob' b g1 g2 => ?_⟩⟩
  have g2' : w.mu[m]? = some b := g2
  by_cases e : n = m
  · subst e
    have hn : n < st.length := by rw [← hs.len]; exact (List.getElem?_eq_some_iff.mp hm).1
    rw [List.getElem?_set_self hn] at g1
    cases g1
    rw [hm] at g2'
    cases g2'
    exact hT
  · rw [List.getElem?_set_ne e] at g1
    refine (hs.ob m ob' b g1 g2').le (le_put nS) (upd_ne fun z => e ?_)
    subst z
    exact nodup_at hs.wf.nd hm g2'

/-! ## targets that change things -/
def PostT (A : Ad) (W : WX) (w0 : W0) (w : Wd) (Q : St → Hp → Prop) : Out En → Prop
  | .ok r st => ∀ w' t, Le w w' → FR A w0 w' r t st → Q t w'.H
  | .exc x st => ∀ w' t cls dd, Ext w0.w w' → SRel A w' st → RepX A w' x cls dd → W cls dd t w'.H
  | .bad => False
abbrev MT := D → En → M En
def TGX (A : Ad) (w0 : W0) (W : WX) (set : MT) : TG := fun v t H Q => ∃ (w : Wd) (r : En) (st : Sto) (d : D), w.H = H ∧ FR A w0 w r t st ∧ Rep A w d v ∧ PostT A W w0 w Q (set d r st)
structure BGX where
  set : FT → MT
  chk : Info → List Str → Scope → Expr → Bool
  snd : ∀ {A : Ad} {k : Nat} {F : FT} {X : Cx} {W : WX}, CtxS A k F X W → ∀ {e : Expr}, chk A.I X.N X.env.scope e = true → ∀ w0, PG X e (TGX A w0 W (set F))
section
variable {A : Ad} {k : Nat} {F : FT} {X : Cx} {W : WX} {w0 : W0} {t : St} {Q : St → Hp → Prop}
theorem PostT.later {w w1 : Wd} {o : Out En} (h : PostT A W w0 w Q o) (l : Le w w1) : PostT A W w0 w1 Q o := by
  cases o with
  | ok r st => exact fun w' t l' fr => h w' t (l.trans l') fr
  | exc x st => exact h
  | bad => exact h
/-- an expression within a target -/
theorem stepT {α β : Type} {R : Wd → Wd → α → β → Prop} {m : En → M α} {f : α → M En} {w : Wd} {r : En} {st : Sto} {Q1 : β → Hp → Prop} (fr : FR A w0 w r t st) (hp : PostT A W w0 w Q (bnd (m r) f st))
    (k : ∀ (w' : Wd) (st' : Sto) (a : α) (b : β), FR A w0 w' r t st' → Ext w w' → R w w' a b → Le w w' → PostT A W w0 w' Q (f a st') → Q1 b w'.H) : LG A R W m t w.H Q1 := by
  refine ⟨w, r, st, rfl, fr.env, fr.sr, ?_⟩
  unfold bnd at hp
  cases e : m r st with
  | ok a st1 =>
    rw [e] at hp
    exact fun w' v ex sr rp => k w' st1 a v (fr.mono ex sr) ex rp (ex.le fr.sr.wf) (hp.later (ex.le fr.sr.wf))
  | exc x st1 => rw [e] at hp; exact fun w' c dd ex sr rp => hp w' t c dd (fr.ex.trans ex) sr rp
  | bad => rw [e] at hp; exact hp
theorem postT_opt {α : Type} {o : Option α} {f : α → M En} {w : Wd} {st : Sto} (hp : PostT A W w0 w Q (bnd (opt o) f st)) : ∃ a, o = some a ∧ PostT A W w0 w Q (f a st) := by
  cases o with
  | none => exact hp.elim
  | some a => exact ⟨a, rfl, hp⟩
end
/-- a target without effects -/
def BG.x (g : BG) : BGX where
  set _ d r := opt (g.set d r)
  chk _ N sc e := g.chk true N sc e
  snd {A k F X W} C e h w0 := (g.snd (fun _ => C.fn) C.c.hK C.c.nd C.c.calm h).imp fun v t H Q q => by
    obtain ⟨w, r, st, d, rfl, fr, rv, hp⟩ := q
    have hp : PostT A W w0 w Q (opt (g.set d r) st) := hp
    cases es : g.set d r with
    | none => rw [es] at hp; exact hp.elim
    | some r' => rw [es] at hp; exact ⟨w, r, r', d, rfl, fr.env, rv, es, fun t' ht' ho => hp w t' (.refl w) (fr.tgt es ht' ho)⟩
/-- one item of a list that stands in the store -/
def setL (d x y : D) : M Unit := fun st => match x, y with
  | .loc n, .int i => (match st[n]? with
    | some (.lst l) => (match ixN l.length i with
      | some j => .ok () (st.set n (.lst (l.set j d)))
      | none => .bad)
    | _ => .bad)
  | _, _ => .bad
def gIx (a b : BE) : BGX where
  set F d r := bnd (a.den F r) fun x => bnd (b.den F r) fun y => bnd (setL d x y) fun _ => ret r
  chk I N sc e := match e with
    | .Subscript x y _ => plainI y && a.chk I N sc x && b.chk I N sc y
    | _ => false
  snd {A k F X W} C e h w0 := by
    split at h
    · rename_i o i pos
      simp only [Bool.and_eq_true] at h
      refine (pg_sub (a.snd C.c h.1.2) (b.snd C.c h.2) set_list (fun v => by cases i <;> first | rfl | cases h.1.1)).imp fun v t H Q q => ?_
      obtain ⟨w, r, st, d, rfl, fr, rv, hp⟩ := q
      refine stepT (R := RD A) fr hp fun w1 st1 x vx fr1 e1 rx _ hp1 => ?_
      refine stepT (R := RD A) fr1 hp1 fun w2 st2 y vy fr2 e2 ry _ hp2 => ?_
      have rx2 := rx.mono fr1.sr.wf e2
      have rv2 := (rv.mono fr.sr.wf e1).mono fr1.sr.wf e2
      unfold bnd setL at hp2
      split at hp2
      · rename_i u st3 hst
        split at hst
        · rename_i n i
          split at hst
          · rename_i l hl
            split at hst
            · rename_i j hj
              cases hst
              obtain ⟨p, rfl, hm⟩ := rx2.loc
              obtain ⟨vs, g1, g2, g3⟩ := fr2.sr.ob n _ p hl hm
              rw [ry.int]
              have hl2 := g3.length
              refine ⟨p, vs, i, j, rfl, rfl, g1, by rw [hl2]; exact hj, ?_⟩
              have nS : ¬ w2.S p := fun q => (fr2.sr.wf.s p q).2 (List.mem_of_getElem? hm)
              obtain ⟨q1, q2, q3⟩ := put_mu (o := .lst (vs.set j v)) (ob := .lst (l.set j d)) fr2.sr hm ⟨_, upd_same, by rw [List.length_set]; exact g2, (Reps.set rv2 j g3).le (le_put nS)⟩
              exact hp2 (w2.raw p _) t q2 (fr2.mono q1 q3)
            · cases hst
          · cases hst
        · cases hst
      · rename_i hst
        split at hst
        · split at hst
          · split at hst <;> cases hst
          · cases hst
        · cases hst
      · exact hp2.elim
    · cases h
/-- one item of a list that a slot owns -/
def gOwn (i : Nat) (b : BE) : BGX where
  set F d r := bnd (opt (ownL r i)) fun l => bnd (b.den F r) fun y => bnd (opt (match y with
    | .int k => (ixN l.length k).map fun j => l.set j d
    | _ => none)) fun l' => ret (r.set i (.own (.lst l')))
  chk I N sc e := match e with
    | .Subscript x y _ => plainI y && varB N sc i x && b.chk I N sc y
    | _ => false
  snd {A k F X W} C e h w0 := by
    split at h
    · rename_i o ix pos
      simp only [Bool.and_eq_true] at h
      obtain ⟨hv, _, _⟩ := varB_ok h.1.2
      refine (pg_sub hv (b.snd C.c h.2) set_list (fun v => by cases ix <;> first | rfl | cases h.1.1)).imp fun v t H Q q => ?_
      obtain ⟨w, r, st, d, rfl, fr, rv, hp⟩ := q
      obtain ⟨l, eo, hp⟩ := postT_opt hp
      have er := ownL_eq eo
      obtain ⟨a0, ht, nS, nM, ⟨vs, hd, hz, hvs⟩, h0⟩ := fr.own er
      refine ⟨_, ht, ?_⟩
      refine stepT (R := RD A) fr hp fun w1 st1 y vy fr1 e1 ry l1 hp1 => ?_
      obtain ⟨l', el, hp2⟩ := postT_opt hp1
      split at el
      · rename_i kk
        simp only [Option.map_eq_some_iff] at el
        obtain ⟨j, hj, rfl⟩ := el
        have hd1 : w1.H a0 = some (.lst vs) := (e1.keep a0 (by rw [hd]; simp) nM).trans hd
        obtain ⟨_, ht1, nS1, nM1, _, _⟩ := fr1.own er
        rw [ht] at ht1
        cases ht1
        have hl2 := hvs.length
        rw [ry.int]
        refine ⟨a0, vs, kk, j, rfl, rfl, hd1, by rw [hl2]; exact hj, hp2 (w1.raw a0 _) t (le_put nS1) (fr1.putOwn er ht ⟨_, upd_same, by rw [List.length_set]; exact hz, ?_⟩)⟩
        exact (Reps.set (rv.mono fr.sr.wf e1) j (hvs.mono fr.sr.wf e1)).le (le_put nS1)
      · cases el
    · cases h
/-- several, one after another -/
def setXs (F : FT) : List BGX → List D → En → M En
  | [], [], r => ret r
  | g :: gs, d :: ds, r => bnd (g.set F d r) fun r' => setXs F gs ds r'
  | _, _, _ => fun _ => .bad
def chgX (I : Info) (N : List Str) (sc : Scope) : List BGX → List Expr → Bool
  | [], [] => true
  | g :: gs, e :: es => notStar e && g.chk I N sc e && chgX I N sc gs es
  | _, _ => false
abbrev TGsX (A : Ad) (w0 : W0) (W : WX) (F : FT) (gs : List BGX) : TGs := fun vs t H Q => ∃ (w : Wd) (r : En) (st : Sto) (ds : List D), w.H = H ∧ FR A w0 w r t st ∧ Reps A w ds vs ∧ PostT A W w0 w Q (setXs F gs ds r st)
theorem pgs_ofX {A : Ad} {k : Nat} {F : FT} {X : Cx} {W : WX} (C : CtxS A k F X W) (w0 : W0) : ∀ {gs : List BGX} {es : List Expr}, chgX A.I X.N X.env.scope gs es = true → PGs X es (TGsX A w0 W F gs)
  | [], [], _ => pgs_nil.imp fun v t H Q q => by
    obtain ⟨w, r, st, ds, rfl, fr, hv, hp⟩ := q
    cases ds with
    | nil =>
      simp only [Reps] at hv
      exact ⟨hv, hp w t (.refl w) fr⟩
    | cons _ _ => exact hp.elim
  | [], _ :: _, h => by cases h
  | _ :: _, [], h => by cases h
  | g :: gs, e :: es, h => by
    simp only [chgX, Bool.and_eq_true] at h
    refine (pgs_cons (g.snd C h.1.2 w0) (pgs_ofX C w0 h.2) (by rw [as_cons h.1.1]; rfl)).imp fun v t H Q q => ?_
    obtain ⟨w, r, st, ds, rfl, fr, hv, hp⟩ := q
    cases ds with
    | nil => exact hp.elim
    | cons d ds =>
      simp only [Reps] at hv
      obtain ⟨u, us, rfl, h1, h2⟩ := hv
      refine ⟨u, us, rfl, w, r, st, d, rfl, fr, h1, ?_⟩
      have hp' : PostT A W w0 w Q (bnd (g.set F d r) (fun r' => setXs F gs ds r') st) := hp
      unfold bnd at hp'
      cases es : g.set F d r st with
      | ok r' st1 =>
        rw [es] at hp'
        exact fun w1 t1 l1 fr1 => ⟨w1, r', st1, ds, rfl, fr1, h2.le l1, hp'.later l1⟩
      | exc x st1 => rw [es] at hp'; exact hp'
      | bad => rw [es] at hp'; exact hp'
theorem chgX_star {I : Info} {N : List Str} {sc : Scope} : ∀ {gs : List BGX} {es : List Expr}, chgX I N sc gs es = true → es.all notStar = true ∧ es.length = gs.length
  | [], [], _ => ⟨rfl, rfl⟩
  | [], _ :: _, h => by cases h
  | _ :: _, [], h => by cases h
  | g :: gs, e :: es, h => by
    simp only [chgX, Bool.and_eq_true] at h
    obtain ⟨h1, h2⟩ := chgX_star h.2
    exact ⟨by simp [h.1.1, h1], by simp [h2]⟩
def gTpX (gs : List BGX) : BGX where
  set F d r := match d with
    | .tup l => if l.length = gs.length then setXs F gs l r else fun _ => .bad
    | _ => fun _ => .bad
  chk I N sc e := match e with
    | .Tuple es _ _ => chgX I N sc gs es
    | _ => false
  snd {A k F X W} C e h w0 := by
    split at h
    · rename_i es k pos
      obtain ⟨h1, h2⟩ := chgX_star h
      refine (pg_tup C.c.calm (pgs_ofX C w0 h) (n := es.length) as_len (as_star h1)).imp fun v t H Q q => ?_
      obtain ⟨w, r, st, d, rfl, fr, hv, hp⟩ := q
      cases d with
      | tup l =>
        have hp : PostT A W w0 w Q ((if l.length = gs.length then setXs F gs l r else fun _ => .bad) st) := hp
        split at hp
        · rename_i hl
          obtain ⟨a, vs, rfl, g1, g2⟩ := hv.tup
          exact ⟨a, vs, rfl, by rw [C.c.hK]; exact g1.seq, by rw [g2.length, hl, h2], w, r, st, l, rfl, fr, g2, hp⟩
        · exact hp.elim
      | _ => exact hp.elim
    · cases h
/-- target = e, e no display where the target is one -/
def sAsg (g : BGX) (b : BE) : BS where
  den F r := bnd (b.den F r) fun d => bnd (g.set F d r) fun r' => ret (.nx r')
  chk I N sc s := match s with
    | .Assign [tg] e _ => notStar tg && noTup e && noComp e && g.chk I N sc tg && b.chk I N sc e
    | _ => false
  snd {A k F X W} C s h w0 := by
    split at h
    · simp only [Bool.and_eq_true] at h
      obtain ⟨⟨⟨⟨h1, h2⟩, h3⟩, h4⟩, h5⟩ := h
      refine (ps_asg (b.snd C.c h5) (g.snd C h4 w0) (noComp_ok h3 _ _ _) (sw_none h2) (asg_one h1)).imp fun E t H q => ?_
      obtain ⟨w, r, st, rfl, fr, hp⟩ := q
      refine stepS (R := RD A) fr hp fun w1 st1 d v fr1 e1 rv _ hp1 => ?_
      refine ⟨w1, r, st1, d, rfl, fr1, rv, ?_⟩
      unfold bnd at hp1
      cases es : g.set F d r st1 with
      | ok r' st2 => rw [es] at hp1; exact fun w' t' l' fr' => hp1 w' t' l' fr'
      | exc x st2 => rw [es] at hp1; exact hp1
      | bad => rw [es] at hp1; exact hp1
    · cases h
end Rf

set_option Elab.async false
set_option linter.all false
set_option maxRecDepth 100000
set_option maxHeartbeats 1000000
namespace Rf
open PySem L2

/-! ## fields are set -/
def setF (l : List D) (i : Nat) (d : D) : Option (List D) := if i < l.length then some (l.set i d) else if i = l.length then some (l ++ [d]) else none
theorem putF_zip : ∀ {ns : List Str} {vs : List V} {i : Nat} {f : Str} {y : V}, ns.Nodup → ns[i]? = some f → i ≤ vs.length → vs.length ≤ ns.length → putF f y (ns.zip vs) = ns.zip (if i < vs.length then vs.set i y else vs ++ [y])
  | [], _, _, _, _, _, h, _, _ => by simp at h
  | n :: ns, [], 0, f, y, _, h, _, _ => by
    simp at h
    subst h
    simp [putF]
  | n :: ns, [], i + 1, f, y, _, _, h, _ => by simp at h
  | n :: ns, v :: vs, 0, f, y, _, h, _, _ => by
    simp at h
    subst h
    simp [putF]
  | n :: ns, v :: vs, i + 1, f, y, nd, h, hi, hl => by
    have nd' := List.nodup_cons.mp nd
    simp at h hi hl
    have hn : n ≠ f := by rintro rfl; exact nd'.1 (List.mem_of_getElem? h)
    rw [List.zip_cons_cons]
    show (if n = f then _ else (n, v) :: putF f y (ns.zip vs)) = _
    rw [if_neg hn, putF_zip nd'.2 h hi hl]
    by_cases q : i < vs.length
    · rw [if_pos q, if_pos (by simpa using q)]; simp
    · rw [if_neg q, if_neg (by simpa using q)]; simp
theorem setF_rep {A : Ad} {w : Wd} {l l' : List D} {vs : List V} {i : Nat} {d : D} {y : V} (e : setF l i d = some l') (h : Reps A w l vs) (hd : Rep A w d y) : i ≤ vs.length ∧ Reps A w l' (if i < vs.length then vs.set i y else vs ++ [y]) := by
  have hl := h.length
  unfold setF at e
  split at e
  · rename_i q
    cases e
    rw [hl, if_pos q]
    exact ⟨Nat.le_of_lt q, Reps.set hd i h⟩
  · split at e
    · rename_i q q2
      cases e
      rw [hl, if_neg q]
      exact ⟨Nat.le_of_eq q2, h.append (.one hd)⟩
    · cases e
theorem setF_len {l l' : List D} {i : Nat} {d : D} {n : Nat} (e : setF l i d = some l') (h : l.length ≤ n) (hi : i < n) : l'.length ≤ n := by
  unfold setF at e
  split at e
  · cases e; rw [List.length_set]; exact h
  · split at e
    · cases e; rw [List.length_append]; show l.length + 1 ≤ n; omega
    · cases e
/-- self.f = e, within an __init__: self is the first slot's own -/
def sSelf (f : Nat) (b : BE) : BS where
  den F r := bnd (b.den F r) fun d => bnd (opt (match r[0]? with
    | some (Slt.own (.obj c l)) => if fldIx c f < (clF c).length then (setF l (fldIx c f) d).map fun l' => r.set 0 (.own (.obj c l')) else none
    | _ => none)) fun r' => ret (.nx r')
  chk I N sc s := match s with
    | .Assign [.Attribute x y _] e _ => beqS y (fdN f) && varB N sc 0 x && noComp e && b.chk I N sc e
    | _ => false
  snd {A k F X W} C s h w0 := by
    split at h
    · rename_i x y pos' e pos
      simp only [Bool.and_eq_true] at h
      obtain ⟨⟨⟨h1, h2⟩, h3⟩, h4⟩ := h
      have := beqS_eq h1
      subst this
      obtain ⟨hv, _, _⟩ := varB_ok h2
      refine (ps_fld hv (b.snd C.c h4) (noComp_ok h3 _ _ _)).imp fun E t H q => ?_
      obtain ⟨w, r, st, rfl, fr, hp⟩ := q
      refine stepS (R := RD A) fr hp fun w1 st1 d v fr1 e1 rv l1 hp1 => ?_
      obtain ⟨r', er, hp2⟩ := postS_opt hp1
      split at er
      · rename_i c l e0
        split at er
        · rename_i hi
          simp only [Option.map_eq_some_iff] at er
          obtain ⟨l', el, rfl⟩ := er
          obtain ⟨a, ht, nS, nM, ⟨dx, vs, h0, hp0, hvs⟩, hw0⟩ := fr1.own e0
          have cf := C.c.facts.cl c h0.1
          have hn := idx_name (f := f) rfl hi
          have lv := hvs.length
          have ln : (names c).length = (clF c).length := by unfold names; rw [List.length_map]
          obtain ⟨g1, g2⟩ := setF_rep el hvs rv
          refine ⟨.ref a, by rw [ht], a, A.ca c, dx, _, rfl, hp0, by rw [C.c.hK]; exact cf.cl, by rw [C.c.hK]; exact cf.no _ (List.mem_of_getElem? hn), ?_, ?_⟩
          · have := cf.ln
            rw [List.length_zip]; omega
          · rw [putF_zip cf.nd hn g1 (by rw [lv, ln]; exact h0.2)]
            refine hp2 (w1.raw a _) t (le_put nS) (fr1.putOwn e0 ht ?_)
            exact ⟨dx, _, ⟨h0.1, setF_len el h0.2 hi⟩, upd_same, g2.le (le_put nS)⟩
        · cases er
      · cases er
    · cases h
/-- x.f = e, x stands in the store -/
def setFld (f : Nat) (x d : D) : M Unit := fun st => match x with
  | .loc n => (match st[n]? with
    | some (.ins c l) => if fldIx c f < (clF c).length then (match setF l (fldIx c f) d with
      | some l' => .ok () (st.set n (.ins c l'))
      | none => .bad) else .bad
    | _ => .bad)
  | _ => .bad
theorem setFld_ok {f : Nat} {x d : D} {st st' : Sto} (h : setFld f x d st = .ok () st') : ∃ n c l l', x = .loc n ∧ st[n]? = some (.ins c l) ∧ fldIx c f < (clF c).length ∧ setF l (fldIx c f) d = some l' ∧ st' = st.set n (.ins c l') := by
  unfold setFld at h
  split at h
  · split at h
    · split at h
      · split at h
        · cases h
          exact ⟨_, _, _, _, rfl, by assumption, by assumption, by assumption, rfl⟩
        · cases h
      · cases h
    · cases h
  · cases h
theorem setFld_exc {f : Nat} {x d : D} {st st' : Sto} {z : Exn} (h : setFld f x d st = .exc z st') : False := by
  unfold setFld at h
  split at h
  · split at h
    · split at h
      · split at h <;> cases h
      · cases h
    · cases h
  · cases h
def sFldS (f : Nat) (a b : BE) : BS where
  den F r := bnd (b.den F r) fun d => bnd (a.den F r) fun x => bnd (setFld f x d) fun _ => ret (.nx r)
  chk I N sc s := match s with
    | .Assign [.Attribute x y _] e _ => beqS y (fdN f) && a.chk I N sc x && noComp e && b.chk I N sc e
    | _ => false
  snd {A k F X W} C s h w0 := by
    split at h
    · rename_i x y pos' e pos
      simp only [Bool.and_eq_true] at h
      obtain ⟨⟨⟨h1, h2⟩, h3⟩, h4⟩ := h
      have := beqS_eq h1
      subst this
      refine (ps_fld (a.snd C.c h2) (b.snd C.c h4) (noComp_ok h3 _ _ _)).imp fun E t H q => ?_
      obtain ⟨w, r, st, rfl, fr, hp⟩ := q
      refine stepS (R := RD A) fr hp fun w1 st1 d v fr1 e1 rv l1 hp1 => ?_
      refine stepS (R := RD A) fr1 hp1 fun w2 st2 x vx fr2 e2 rx l2 hp2 => ?_
      unfold bnd at hp2
      cases es : setFld f x d st2 with
      | ok u st3 =>
        rw [es] at hp2
        obtain ⟨n, c, l, l', rfl, g1, g2, g3, rfl⟩ := setFld_ok es
        obtain ⟨p, rfl, hm⟩ := rx.loc
        obtain ⟨dx, vs, h0, hp0, hvs⟩ := fr2.sr.ob n _ p g1 hm
        have cf := C.c.facts.cl c h0.1
        have hn := idx_name (f := f) rfl g2
        have lv := hvs.length
        have ln : (names c).length = (clF c).length := by unfold names; rw [List.length_map]
        obtain ⟨k1, k2⟩ := setF_rep g3 hvs (rv.mono fr1.sr.wf e2)
        refine ⟨p, A.ca c, dx, _, rfl, hp0, by rw [C.c.hK]; exact cf.cl, by rw [C.c.hK]; exact cf.no _ (List.mem_of_getElem? hn), ?_, ?_⟩
        · have := cf.ln
          rw [List.length_zip]; omega
        · rw [putF_zip cf.nd hn k1 (by rw [lv, ln]; exact h0.2)]
          have nS : ¬ w2.S p := fun q => (fr2.sr.wf.s p q).2 (List.mem_of_getElem? hm)
          obtain ⟨q1, q2, q3⟩ := put_mu (o := .ins (A.ca c) dx ((names c).zip (if fldIx c f < vs.length then vs.set (fldIx c f) v else vs ++ [v]))) (ob := .ins c l') fr2.sr hm ⟨dx, _, ⟨h0.1, setF_len g3 h0.2 g2⟩, upd_same, k2.le (le_put nS)⟩
          exact hp2 (w2.raw p _) t q2 (fr2.mono q1 q3)
      | exc z st3 => exact (setFld_exc es).elim
      | bad => rw [es] at hp2; exact hp2.elim
    · cases h

/-! ## lists of a slot -/
def popI (l : List D) : D → Option (D × List D)
  | .int i => if decide (-(2 ^ 63) ≤ i) && decide (i < 2 ^ 63) then (seqIndex? i l.length).bind fun k => (l[k]?).map fun d => (d, l.eraseIdx k) else none
  | _ => none
theorem Reps.erase {A : Ad} {w : Wd} : ∀ {l : List D} {vs : List V} (i : Nat), Reps A w l vs → Reps A w (l.eraseIdx i) (vs.eraseIdx i)
  | [], _, _, h => by simp only [Reps] at h; subst h; simpa using Reps.nil
  | x :: ds, _, 0, h => by
    simp only [Reps] at h
    obtain ⟨u, r, rfl, h2, h3⟩ := h
    simpa using h3
  | x :: ds, _, i + 1, h => by
    simp only [Reps] at h
    obtain ⟨u, r, rfl, h2, h3⟩ := h
    simpa using Reps.cons h2 (Reps.erase i h3)
theorem len_erase_le {α : Type} (l : List α) (i : Nat) : (l.eraseIdx i).length ≤ l.length := by
  rw [List.length_eraseIdx]; split <;> omega
/-- y = x.pop(e) -/
def sPop (j i : Nat) (b : BE) : BS where
  den F r := bnd (opt (ownL r i)) fun l => bnd (b.den F r) fun d => bnd (opt (popI l d)) fun p => ret (.nx ((r.set i (.own (.lst p.2))).set j (.val p.1)))
  chk I N sc s := match s with
    | .Assign [tg] e _ => decide (i ≠ j) && nameAt N sc j tg && (match methB "pop" e with
      | some (o, a) => varB N sc i o && b.chk I N sc a
      | none => false)
    | _ => false
  snd {A k F X W} C s h w0 := by
    split at h
    · simp only [Bool.and_eq_true, decide_eq_true_eq] at h
      obtain ⟨⟨hij, hn⟩, h⟩ := h
      obtain ⟨y, p, rfl, n1, n2⟩ := nameAt_ok hn
      split at h
      · rename_i o a hm
        obtain ⟨apos, pos, rfl, hl, hs, hst⟩ := methB_ok hm
        simp only [Bool.and_eq_true] at h
        obtain ⟨hv, _, _⟩ := varB_ok h.1
        refine (ps_set C.c.nd n1 n2 (pe_m PySem.F.plainAttrs_list PySem.F.slot_list_pop PySem.F.type_list_pop mt_popAt hv (pa_cons (b.snd C.c h.2) pa_nil (star_cons hst)) hs hst hl) (noComp_ok rfl _ _ _) (.inl (C.fn y))).imp fun E t H q => ?_
        obtain ⟨w, r, st, rfl, fr, hp⟩ := q
        obtain ⟨l, eo, hp⟩ := postS_opt hp
        have er := ownL_eq eo
        obtain ⟨a0, ht, nS, nM, ⟨vs, hd, hz, hvs⟩, h0⟩ := fr.own er
        refine ⟨_, ht, .inl ⟨rfl, vs, .inl (.inl hd)⟩, ?_⟩
        refine stepS (R := RD A) fr hp fun w1 st1 d v fr1 e1 rv l1 hp1 => ?_
        obtain ⟨⟨x, l'⟩, el, hp2⟩ := postS_opt hp1
        cases d with
        | int kk =>
          unfold popI at el
          simp only at el
          split at el
          · rename_i hb
            simp only [Bool.and_eq_true, decide_eq_true_eq] at hb
            simp only [Option.bind_eq_some_iff, Option.map_eq_some_iff, Prod.mk.injEq] at el
            obtain ⟨ix, g1, dd, g2, rfl, rfl⟩ := el
            have hd1 : w1.H a0 = some (.lst vs) := (e1.keep a0 (by rw [hd]; simp) nM).trans hd
            obtain ⟨_, ht1, nS1, nM1, _, _⟩ := fr1.own er
            rw [ht] at ht1
            cases ht1
            have hv1 := hvs.mono fr.sr.wf e1
            have hl2 := hvs.length
            obtain ⟨u, g3, g4⟩ := hv1.get g2
            rw [rv.int]
            have hT : Top A (w1.raw a0 (.lst (vs.eraseIdx ix))) (.lst (l.eraseIdx ix)) a0 := ⟨_, upd_same, Nat.le_trans (len_erase_le _ _) hz, (Reps.erase ix hv1).le (le_put nS1)⟩
            exact ⟨a0, vs, kk, ix, u, rfl, rfl, hd1, hb.1, hb.2, by rw [hl2]; exact g1, g3, hp2 (w1.raw a0 _) _ (le_put nS1) ((fr1.putOwn er ht hT).set (g4.le (le_put nS1)))⟩
          · cases el
        | _ => cases el
      · cases h
    · cases h
/-- a list, some times over -/
def fRepD : D → D → Option D
  | .lst l, .int k => if decide (-(2 ^ 63) ≤ k) && decide (k < 2 ^ 63) && decide (l.length * k.toNat ≤ sizeLine) then some (.lst (List.replicate k.toNat l).flatten) else none
  | _, _ => none
def fRep (a b : BE) : BF where
  den F := den2 fRepD (a.den F) (b.den F)
  chk I N sc e := match e with
    | .BinOp x op y _ => decide (op = .Mult) && a.chk I N sc x && b.chk I N sc y
    | _ => false
  snd {A k F X W} C e h := by
    split at h
    · simp only [Bool.and_eq_true, decide_eq_true_eq] at h
      obtain ⟨⟨h1, h2⟩, h3⟩ := h
      subst h1
      refine (pe_op op_rep (a.snd C h2) (b.snd C h3)).imp fun t H Q q => ?_
      obtain ⟨w, r, st, rfl, hr, hs, hp⟩ := q
      refine step (R := RD A) (.refl w) hr hs hp fun w1 st1 x vx hr1 hs1 e1 rx hp1 => ?_
      refine step (R := RD A) e1 hr1 hs1 hp1 fun w2 st2 y vy hr2 hs2 e2 ry hp2 => ?_
      obtain ⟨d, e, hq⟩ := opt_post hp2
      have rx2 := rx.mono hs1.wf e2
      unfold fRepD at e
      split at e
      · split at e
        · rename_i l kk hc
          cases e
          simp only [Bool.and_eq_true, decide_eq_true_eq] at hc
          obtain ⟨p, vs, rfl, g1, g2⟩ := rx2.lst
          have el := g2.length
          rw [ry.int]
          refine ⟨p, kk, vs, rfl, rfl, g1.2.2, hc.1.1, hc.1.2, by rw [el]; exact hc.2, fun a ha => ?_⟩
          exact hq (w2.raw a _) (.ref a) ((e1.trans e2).trans (ext_raw ha)) (hs2.raw ha) ((top_lst hs2.wf ha (by rw [len_flat, el, Nat.mul_comm]; exact hc.2) (g2.rep _)).later (e1.trans e2))
        · cases e
      · cases e
    · cases h
end Rf

set_option Elab.async false
set_option linter.all false
set_option maxRecDepth 100000
set_option maxHeartbeats 1000000
namespace Rf
open PySem L2

/-! ## calls by names -/
section
variable {A : Ad} {w : Wd}
theorem reps_getD {l : List D} {xs : List V} (h : Reps A w l xs) (j : Nat) : Rep A w (l.getD j .non) (xs.getD j .non) := by
  have hl := h.length
  rw [List.getD_eq_getElem?_getD, List.getD_eq_getElem?_getD]
  by_cases q : j < l.length
  · obtain ⟨v, h1, h2⟩ := h.get (i := j) (d := l[j]) (by simp [q])
    rw [h1, List.getElem?_eq_getElem q]
    exact h2
  · rw [List.getElem?_eq_none (by omega), List.getElem?_eq_none (by omega)]
    exact rep_non
theorem reps_arr {l : List D} {xs : List V} (h : Reps A w l xs) : ∀ pm : List Nat, Reps A w (arr .non pm l) (arr .non pm xs)
  | [] => .nil
  | j :: pm => .cons (reps_getD h j) (reps_arr h pm)
theorem vals_arr {xs : List V} {us : List Value} (h : Vals xs us) : ∀ pm : List Nat, Vals (arr .non pm xs) (arr .none pm us)
  | [] => .nil
  | j :: pm => by
    refine .cons ?_ (vals_arr h pm)
    show RelV (xs.getD j .non) (us.getD j .none)
    have hl := h.length
    rw [List.getD_eq_getElem?_getD, List.getD_eq_getElem?_getD]
    by_cases q : j < xs.length
    · obtain ⟨u, h1, h2⟩ := h.get (i := j) (x := xs[j]) (by simp [q])
      rw [h1, List.getElem?_eq_getElem q]
      exact h2
    · rw [List.getElem?_eq_none (by omega), List.getElem?_eq_none (by omega)]
      exact (rfl : Value.none = Value.none)
end
def kwB (I : Info) (N : List Str) (sc : Scope) : List Str → List BE → List Keyword → Bool
  | [], [], [] => true
  | k :: ks, b :: bs, ⟨some y, e, _⟩ :: kws => beqS y k && b.chk I N sc e && kwB I N sc ks bs kws
  | _, _, _ => false
section
variable {A : Ad} {k : Nat} {F : FT} {X : Cx} {W : WX}
theorem kw_facts {pos : Pos} : ∀ {ks : List Str} {bs : List BE} {kws : List Keyword}, kwB A.I X.N X.env.scope ks bs kws = true →
    (backToKw pos (keywordEach kws X.env)).all (·.1.isSome) = true ∧ (backToKw pos (keywordEach kws X.env)).filterMap (·.1) = ks ∧ (backToKw pos (keywordEach kws X.env)).any (·.1.isNone) = false
  | [], [], [], _ => ⟨rfl, rfl, rfl⟩
  | [], [], _ :: _, h => by cases h
  | [], _ :: _, _, h => by cases h
  | _ :: _, [], _, h => by cases h
  | _ :: _, _ :: _, [], h => by cases h
  | _ :: _, _ :: _, ⟨none, _, _⟩ :: _, h => by cases h
  | k :: ks, b :: bs, ⟨some y, e, p⟩ :: kws, h => by
    simp only [kwB, Bool.and_eq_true] at h
    have := beqS_eq h.1.1
    subst this
    obtain ⟨h1, h2, h3⟩ := kw_facts (pos := pos) h.2
    refine ⟨?_, ?_, ?_⟩
    · show (true && _) = true
      exact h1
    · show y :: (backToKw pos (keywordEach kws X.env)).filterMap (·.1) = _
      rw [h2]
    · show (false || _) = false
      exact h3
theorem pk_of (C : Ctx A k F X W) : ∀ {ks : List Str} {bs : List BE} {kws : List Keyword}, kwB A.I X.N X.env.scope ks bs kws = true → PK X kws (LA A W (dns bs F))
  | [], [], [], _ => ⟨fun pos pins s t H Q I q => pk_nil.run pos pins s t H Q I (dNil_ok q)⟩
  | [], [], _ :: _, h => by cases h
  | [], _ :: _, _, h => by cases h
  | _ :: _, [], _, h => by cases h
  | _ :: _, _ :: _, [], h => by cases h
  | _ :: _, _ :: _, ⟨none, _, _⟩ :: _, h => by cases h
  | k :: ks, b :: bs, ⟨some y, e, p⟩ :: kws, h => by
    simp only [kwB, Bool.and_eq_true] at h
    exact ⟨fun pos pins s t H Q I q => (pk_cons (b.snd C h.1.2) (pk_of C h.2)).run pos pins s t H Q I (dCons_ok q)⟩
theorem kcall_run (C : Ctx A k F X W) {i : Nat} (hi : iniC i = none) {w0 w : Wd} {ds : List D} {st : Sto} {vs : List V} {us ws : List Value} {ks : List Str} {pm : List Nat} {t : St} {Q : VK} {pins : List (Addr × Obj)} {s : Shared}
    (I : Inv X pins t w.H s) (r : Vals vs (us ++ ws)) (hw : ws.length = ks.length) (hpm : pmOk (paN i) us.length ks pm = true) (hs : SRel A w st) (rp : Reps A w ds vs) (e0 : Ext w0 w) (hp : PostG A (RD A) (fun c d H => W c d t H) w0 Q (F i (arr .non pm ds) st)) :
    wpAny (model X.prog X.w) X.A (call (.ref (A.fa i)) us (ks.zip ws)) (EP X pins t Q) X.xe s := by
  obtain ⟨fd, ps, F1, b1, b2, rfl⟩ := calls_get C hi hp
  have hsp : spF A (F i) (arr .non pm vs) w.H Q (fun c d H => W c d t H) := by
    refine ⟨w, arr .non pm ds, st, rfl, hs, reps_arr rp pm, ?_⟩
    cases e : F i (arr .non pm ds) st with
    | ok d st1 => rw [e] at hp; exact fun w' v ex sr rp => hp w' v (e0.trans ex) sr rp
    | exc x st1 => rw [e] at hp; exact fun w' c dd ex sr rp => hp w' c dd (e0.trans ex) sr rp
    | bad => rw [e] at hp; exact hp
  have run := F1.run X.A X.stack s w.H ⟨us, ks.zip ws⟩ _ _ Q _ (C.room.mono (Nat.le_succ _)) I.env0 (b2 s us ws ks pm I.kIn hw hpm) (vals_arr r pm) hsp
  refine wpAny_call (codeAny_mono run fun o s' ho => ?_)
  cases o with
  | error z => exact C.pass t pins w.H s z s' I ho
  | ok fl =>
    cases fl with
    | ret u => exact I.after ho
    | next => cases ho
    | brk => cases ho
    | cont => cases ho
theorem kmake_run (C : Ctx A k F X W) {c : Nat} (hc : c ∈ A.I.cs) {w0 w : Wd} {ds : List D} {st : Sto} {vs : List V} {us ws : List Value} {ks : List Str} {pm : List Nat} {t : St} {Q : VK} {pins : List (Addr × Obj)} {s : Shared}
    (I : Inv X pins t w.H s) (r : Vals vs (us ++ ws)) (hw : ws.length = ks.length) (hpm : pmOk (paN (iniF c)) (us.length + 1) ks (0 :: pm.map (· + 1)) = true) (hs : SRel A w st) (rp : Reps A w ds vs) (e0 : Ext w0 w) (hp : PostG A (RF A) (fun c d H => W c d t H) w0 Q (F (iniF c) (arr .non pm ds) st)) :
    wpAny (model X.prog X.w) X.A (call (.ref (A.ca c)) us (ks.zip ws)) (EP X pins t Q) X.xe s := by
  have cf := C.facts.cl c hc
  obtain ⟨fd, ps, F1, b1, b2, rfl⟩ := calls_init C cf.ic hp
  have mk := cf.mkr
  rw [← C.hK] at mk
  have f1 := I.hok.fresh (Nat.le_succ s.heap.objs.size)
  have f0 := I.hok.fresh (Nat.le_refl s.heap.objs.size)
  have I2 := Inv.made (C := A.ca c) I
  have ea : ∀ {α : Type} (d : α) (x : α) (l : List α), arr d (0 :: pm.map (· + 1)) (x :: l) = x :: arr d pm l := by
    intro α d x l
    unfold arr
    rw [List.map_cons, List.map_map]
    rfl
  have hq : spI A c (F (iniF c)) (arr .non (0 :: pm.map (· + 1)) (.ref (s.heap.objs.size + 1) :: vs)) (upd (upd w.H s.heap.objs.size (.own (s.heap.objs.size + 1))) (s.heap.objs.size + 1) (.ins (A.ca c) s.heap.objs.size []))
      (fun v H2 => v = .non ∧ Q (.ref (s.heap.objs.size + 1)) H2) (fun c d H => W c d t H) := by
    rw [ea]
    refine ⟨w, _, _, arr .non pm vs, arr .non pm ds, st, rfl, f1, f0, Nat.ne_of_lt (Nat.lt_succ_self _), rfl, hc, hs, reps_arr rp pm, ?_⟩
    cases e : F (iniF c) (arr .non pm ds) st with
    | ok d st1 => rw [e] at hp; exact fun w' v ex sr rv ev => ⟨rfl, ev ▸ hp w' v (e0.trans ex) sr (rv.later e0)⟩
    | exc x st1 => rw [e] at hp; exact fun w' c dd ex sr rx => hp w' c dd (e0.trans ex) sr rx
    | bad => rw [e] at hp; exact hp
  have r2 : Vals (V.ref (s.heap.objs.size + 1) :: vs) (Value.ref (s.heap.objs.size + 1) :: us ++ ws) := .cons rfl r
  have run := F1.run _ X.stack _ _ ⟨Value.ref (s.heap.objs.size + 1) :: us, ks.zip ws⟩ _ _ _ _ (C.room.make (A.ca c) us (ks.zip ws)) (I2.env0.make (A.ca c) us (ks.zip ws)) (b2 _ (Value.ref (s.heap.objs.size + 1) :: us) ws ks (0 :: pm.map (· + 1)) I2.kIn hw hpm) (vals_arr r2 _) hq
  refine wpAny_call (make_map (f := A.fa (iniF c)) I.kIn mk.makes mk.init (beq_iff_eq.mp mk.fn) (codeAny_mono run fun o s' ho => ?_))
  cases o with
  | error z => exact C.pass t pins _ _ z s' I2 ho
  | ok fl =>
    cases fl with
    | ret u =>
      obtain ⟨v, H', I3, rv, ev, q3⟩ := I2.after ho
      subst ev
      exact ⟨rv, V.ref (s.heap.objs.size + 1), H', I3, rfl, q3⟩
    | next => cases ho
    | brk => cases ho
    | cont => cases ho
/-- what is called, by positions and by names -/
theorem callkw_run (C : Ctx A k F X W) {f : Value} (hk : PySem.W.keepIn X.K f = true) {bs zs : List BE} {es : List Expr} {kws : List Keyword} {ks : List Str} {pos : Pos} {pins : List (Addr × Obj)} {s : Shared} {t : St} {Q : VK} {w : Wd} {r : En} {st : Sto}
    {R : Wd → Wd → D → V → Prop} {g : List D → M D} (I : Inv X pins t w.H s) (h5 : chs A.I X.N X.env.scope bs es = true) (h6 : kwB A.I X.N X.env.scope ks zs kws = true) (hr : EnvR A w r t) (hs : SRel A w st)
    (hp : PostG A R (fun c d H => W c d t H) w Q (bndE (dns bs F) (fun ds => bndE (dns zs F) fun ys _ => g (ds ++ ys)) r st))
    (run : ∀ (s2 : Shared) (w2 : Wd) (st2 : Sto) (ds : List D) (vs : List V) (us ws : List Value), Inv X pins t w2.H s2 → Vals vs (us ++ ws) → us.length = bs.length → ws.length = ks.length → SRel A w2 st2 → Reps A w2 ds vs → Ext w w2 → PostG A R (fun c d H => W c d t H) w Q (g ds st2) →
      wpAny (model X.prog X.w) X.A (call f us (ks.zip ws)) (EP X pins t Q) X.xe s2) :
    wpAny (model X.prog X.w) X.A (callWith pos f [] (backTo pos (starEach es X.env)) (backToKw pos (keywordEach kws X.env))) (EP X pins t Q) X.xe s := by
  obtain ⟨k1, k2, k3⟩ := kw_facts (A := A) (X := X) (pos := pos) h6
  have lks : ∀ {ks : List Str} {bs : List BE} {kws : List Keyword}, kwB A.I X.N X.env.scope ks bs kws = true → bs.length = ks.length := by
    intro ks
    induction ks with
    | nil => intro bs kws h; cases bs with
      | nil => rfl
      | cons _ _ => cases kws <;> cases h
    | cons k ks ih => intro bs kws h; cases bs with
      | nil => cases kws <;> cases h
      | cons b bs => cases kws with
        | nil => cases h
        | cons q kws =>
          obtain ⟨y, e, p⟩ := q
          cases y with
          | none => cases h
          | some y =>
            simp only [kwB, Bool.and_eq_true] at h
            simp [ih h.2]
  have dlen : ∀ {bs : List BE} {r : En} {st st' : Sto} {ds : List D}, dns bs F r st = .ok ds st' → ds.length = bs.length := by
    intro bs
    induction bs with
    | nil => intro r st st' ds h; cases h; rfl
    | cons b bs ih =>
      intro r st st' ds h
      simp only [dns, dCons, bndE, bnd] at h
      split at h
      · rename_i a st1 e1
        split at h
        · rename_i l st2 e2
          cases h
          simp [ih e2]
        · cases h
        · cases h
      · cases h
      · cases h
  have fin : ∀ (s1 : Shared) (w1 : Wd) (st1 : Sto) (ds : List D) (vs : List V) (us : List Value), Inv X pins t w1.H s1 → Vals vs us → us.length = bs.length → EnvR A w1 r t → SRel A w1 st1 → Reps A w1 ds vs → Ext w w1 →
      PostG A R (fun c d H => W c d t H) w Q (bndE (dns zs F) (fun ys _ => g (ds ++ ys)) r st1) →
      wpAny (model X.prog X.w) X.A (evalAll ((backToKw pos (keywordEach kws X.env)).map (·.2))) (fun ws s₂ => X.K.In s₂.heap ∧ wpAny (model X.prog X.w) X.A (call f us (((backToKw pos (keywordEach kws X.env)).filterMap (·.1)).zip ws)) (EP X pins t Q) X.xe s₂) X.xe s1 := by
    intro s1 w1 st1 ds vs us I1 rv hu hr1 hs1 rp e1 hp1
    refine thn ((pk_of C h6).run pos pins s1 t w1.H (fun vz H2 => ∃ w2 ys st2, w2.H = H2 ∧ SRel A w2 st2 ∧ Reps A w2 (ds ++ ys) (vs ++ vz) ∧ Ext w w2 ∧ vz.length = ks.length ∧ PostG A R (fun c d H => W c d t H) w Q (g (ds ++ ys) st2)) I1 ?_) ?_
    · refine ⟨w1, r, st1, rfl, hr1, hs1, ?_⟩
      unfold bndE bnd at hp1
      cases e : dns zs F r st1 with
      | ok ys st2 =>
        rw [e] at hp1
        intro w2 vz ex sr rz
        exact ⟨w2, ys, st2, rfl, sr, (rp.mono hs1.wf ex).append rz, e1.trans ex, by rw [rz.length, dlen e, lks h6], hp1⟩
      | exc x st2 => rw [e] at hp1; exact fun w2 c dd ex sr rx => hp1 w2 c dd (e1.trans ex) sr rx
      | bad => rw [e] at hp1; exact hp1
    · rintro ws s2 ⟨vz, H2, I2, rz, w2, ys, st2, rfl, hs2, rp2, e2, hl, hp2⟩
      refine ⟨I2.kIn, ?_⟩
      rw [k2]
      exact run s2 w2 st2 _ _ us ws I2 (rv.append rz) hu (by rw [← rz.length, hl]) hs2 rp2 e2 hp2
  cases es with
  | nil =>
    cases bs with
    | cons _ _ => cases h5
    | nil =>
      exact PySem.W.callWith_KW0 (h₀ := X.base) I.ok.mod.kin hk k1 (fin s w st [] [] [] I .nil rfl hr hs .nil (.refl w) hp) (by show (false || _) = false; exact k3)
  | cons e es =>
    have st5 := chs_star h5
    have st6 := st5
    simp only [List.all_cons, Bool.and_eq_true] at st5
    refine PySem.W.callWith_KW (h₀ := X.base) I.ok.mod.kin hk k1 ?_ (by rw [star_any st6]; exact k3) (star_cons st5.1)
    refine thn ((pa_of C h5).run pos pins s t w.H (fun vs H1 => ∃ w1 ds st1, w1.H = H1 ∧ EnvR A w1 r t ∧ SRel A w1 st1 ∧ Reps A w1 ds vs ∧ Ext w w1 ∧ vs.length = bs.length ∧ PostG A R (fun c d H => W c d t H) w Q (bndE (dns zs F) (fun ys _ => g (ds ++ ys)) r st1)) I ?_) ?_
    · refine ⟨w, r, st, rfl, hr, hs, ?_⟩
      unfold bndE bnd at hp
      cases e : dns bs F r st with
      | ok ds st1 =>
        rw [e] at hp
        intro w1 vs ex sr rp
        exact ⟨w1, ds, st1, rfl, hr.mono hs.wf ex, sr, rp, ex, by rw [rp.length, dlen e], hp⟩
      | exc x st2 => rw [e] at hp; exact hp
      | bad => rw [e] at hp; exact hp
    · rintro us s1 ⟨vs, H1, I1, rv, w1, ds, st1, rfl, hr1, hs1, rp, e1, hl, hp1⟩
      exact fin s1 w1 st1 ds vs us I1 rv (by rw [← rv.length, hl]) hr1 hs1 rp e1 hp1
end
/-- f(e, .., k = v, ..) -/
def cCallK (i : Nat) (bs : List BE) (ks : List Str) (zs : List BE) (pm : List Nat) : BE where
  den F := bndE (dns bs F) fun ds => bndE (dns zs F) fun ys _ => F i (arr .non pm (ds ++ ys))
  chk I N sc e := match e with
    | .Call (.Name x _) es kws _ => beqS x (fnN i) && I.fs.contains i && glbB sc x && okN x && chs I N sc bs es && kwB I N sc ks zs kws && pmOk (paN i) bs.length ks pm
    | _ => false
  snd {A k F X W} C e h := by
    split at h
    · rename_i x p es kws pos
      simp only [Bool.and_eq_true, List.contains_iff_mem] at h
      obtain ⟨⟨⟨⟨⟨⟨h1, h2⟩, h3⟩, h4⟩, h5⟩, h6⟩, h7⟩ := h
      have e1 := beqS_eq h1
      subst e1
      obtain ⟨hm, hk, hi⟩ := C.facts.fn i h2
      have hk' : PySem.W.keepIn X.K (.ref (A.fa i)) = true := by rw [C.hK]; exact hk
      refine ⟨fun pins s t H Q I q => ?_⟩
      refine wpAny_Call_Name_kw (ld_glob I (glbB_ok h3) hm ?_ (okN_d h4))
      obtain ⟨w, r, st, rfl, hr, hs, hp⟩ := q
      exact callkw_run C hk' (g := fun l => F i (arr .non pm l)) I h5 h6 hr hs hp fun s2 w2 st2 ds vs us ws I2 rv hu hw hs2 rp e2 hp2 => kcall_run C hi I2 rv hw (by rw [hu]; exact h7) hs2 rp e2 hp2
    · cases h
/-- C(e, .., k = v, ..) -/
def fMkK (c : Nat) (bs : List BE) (ks : List Str) (zs : List BE) (pm : List Nat) : BF where
  den F := bndE (dns bs F) fun ds => bndE (dns zs F) fun ys _ => F (iniF c) (arr .non pm (ds ++ ys))
  chk I N sc e := match e with
    | .Call (.Name x _) es kws _ => beqS x (clN c) && I.cs.contains c && glbB sc x && okN x && chs I N sc bs es && kwB I N sc ks zs kws && pmOk (paN (iniF c)) (bs.length + 1) ks (0 :: pm.map (· + 1))
    | _ => false
  snd {A k F X W} C e h := by
    split at h
    · rename_i x p es kws pos
      simp only [Bool.and_eq_true, List.contains_iff_mem] at h
      obtain ⟨⟨⟨⟨⟨⟨h1, h2⟩, h3⟩, h4⟩, h5⟩, h6⟩, h7⟩ := h
      have e1 := beqS_eq h1
      subst e1
      have cf := C.facts.cl c h2
      have hk' : PySem.W.keepIn X.K (.ref (A.ca c)) = true := by rw [C.hK]; exact cf.kf
      refine ⟨fun pins s t H Q I q => ?_⟩
      refine wpAny_Call_Name_kw (ld_glob I (glbB_ok h3) cf.mg ?_ (okN_d h4))
      obtain ⟨w, r, st, rfl, hr, hs, hp⟩ := q
      exact callkw_run C hk' (g := fun l => F (iniF c) (arr .non pm l)) I h5 h6 hr hs hp fun s2 w2 st2 ds vs us ws I2 rv hu hw hs2 rp e2 hp2 => kmake_run C h2 I2 rv hw (by rw [hu]; exact h7) hs2 rp e2 hp2
    · cases h
end Rf

set_option Elab.async false
set_option linter.all false
set_option maxRecDepth 100000
set_option maxHeartbeats 1000000
namespace Rf
open PySem L2

/-! ## enumerate(a tuple) -/
set_option maxHeartbeats 1000000 in
theorem meets_enumT (t : Addr) (items : Array Value) :
    Meets (Builtin.«enumerate.__new__» ⟨[.type "enumerate", .ref t], []⟩) (fun _ R s => s.heap.IsTuple t items ∧
      R (.ok (.ret (.ref (s.heap.push { cls := .type "tuple_iterator", data := .fields #[.ref t, .int 0 0] }).objs.size)))
        { s with heap := (s.heap.push { cls := .type "tuple_iterator", data := .fields #[.ref t, .int 0 0] }).push { cls := .type "enumerate", data := .fields #[.none, .bool false, .ref s.heap.objs.size, rawInt 0, .none, .none] } }) :=
  .of_wp fun prog w A R s h => by
    obtain ⟨hp, g, d, tk, os⟩ := s; obtain ⟨h1, h⟩ := h
    have hsub := sub_enumerate
    have q1 : ∀ {A' : Around} {E : Value → Shared → Prop} {Q : Value → Shared → Prop}, Q (.ref hp.objs.size) ⟨hp.push { cls := .type "tuple_iterator", data := .fields #[.ref t, .int 0 0] }, g, d, tk, os⟩ → wpAny (model prog w) A' (pyIter (.ref t)) Q E ⟨hp, g, d, tk, os⟩ :=
      fun q => (begins_tuple t items).iter prog w _ _ ⟨hp, g, d, tk, os⟩ _ h1 q
    wp_walk using q1
    refine wpAny_stack_any fun st => wpAny_pure ?_
    split
    · rename_i c _ _ _ _ _
      cases (c == Value.type "enumerate")
      · wp_walk using q1
        exact ⟨_, rfl, h⟩
      · wp_walk using q1
        exact ⟨_, rfl, h⟩
    · wp_walk using q1
      exact ⟨_, rfl, h⟩
/-- the tuple's items in new pairs -/
def Ien (K : PySem.W.Frag) (a : Addr) (xs : List V) : It :=
  ⟨fun i H => i < xs.length ∧ SqT K H a xs, fun i H v H' => ∃ T x, v = .ref T ∧ H T = none ∧ H' = upd H T (.tup [.int (i : Nat), x]) ∧ xs[i]? = some x, fun i H => xs.length ≤ i ∧ SqT K H a xs⟩
theorem turn_enT {P : Program} {w : World} {K : PySem.W.Frag} {elts : List Expr} {kk : Nat} {tpos : Pos} (a e it : Addr) (xs : List V) (hai : a ≠ it) (hae : a ≠ e) :
    Turn P w K (.Tuple elts kk tpos) (Ien K a xs) [e, it] e (fun i h => (∃ old, IsEnum h e it ((i : Nat) : Int) old) ∧ h.IsTupleIter it a i ∧ e ≠ it) where
  mem := by simp
  obj := fun i h st b hb => by
    obtain ⟨⟨old, he⟩, ⟨o, ho, hc, hd⟩, _⟩ := st
    rcases (by simpa using hb : b = e ∨ b = it) with z | z
    · subst z; exact ⟨_, he, fun v q => nomatch q⟩
    · subst z; exact ⟨o, ho, fun v q => by rw [hd] at q; cases q⟩
  keep := fun i h h' st k => by
    obtain ⟨⟨old, he⟩, hi, hne⟩ := st
    exact ⟨⟨old, k e (by simp) _ he⟩, hi.at fun o q => k it (by simp) o q, hne⟩
  item := by
    intro X hP hw hK hc i pins s σ H E I hf st hg
    subst hP hw hK
    obtain ⟨⟨old, he⟩, hit, hne⟩ := st
    obtain ⟨hi, hq⟩ := hg
    obtain ⟨its, rv, p, hz⟩ := I.tuple hq
    have hl := rv.length
    have hel : e < s.heap.objs.size := Heap.lt_size he
    have hil : it < s.heap.objs.size := by obtain ⟨_, q, _⟩ := hit; exact Heap.lt_size q
    have D : Draws X.prog X.w X.A.in1 it [it, a] its.toArray.size (fun j v => its.toArray[j]? = some v) (fun j h => h.IsTupleIter it a j ∧ h.IsTuple a its.toArray) := Draws.tuple (A := X.A.in1) (I.ok.hd hc) it a hai its.toArray
    refine wpAny_pyNext_enum_itemC D he ⟨hit, p⟩ (by rw [List.size_toArray]; omega) hne (by simp [hne, Ne.symm hae]) fun u h' tk hu ho hs' hT hsz hk => ?_
    refine ⟨_, rfl, wpAny_letOwnedTupleGo_enum (s := { s with heap := h', toks := tk + 1 }) ho fun h'' he' sb => ?_⟩
    obtain ⟨x, hx⟩ : ∃ x, xs[i]? = some x := ⟨xs[i], by simp [hi]⟩
    obtain ⟨u', hu', ru⟩ := rv.get hx
    have eu : u' = u := by
      have q : its[i]? = some u := by simpa using hu
      rw [q] at hu'
      exact (Option.some.inj hu').symm
    subst eu
    have hT2 : h''.get? s.heap.objs.size = some { cls := .type "tuple", data := .seq #[.int i tk, u'] } := (sb.2 _ (Nat.ne_of_gt hel)).trans hT
    have new : ObjOk X.prog X.w (upd H s.heap.objs.size (.tup [.int (i : Nat), x])) h'' s.heap.objs.size (.tup [.int (i : Nat), x]) :=
      ⟨by show 2 ≤ sizeLine; decide, [.int i tk, u'], .cons ⟨_, rfl⟩ (.cons ru .nil), ⟨_, hT2, rfl, _, rfl⟩⟩
    have I1 : Inv X pins σ (upd H s.heap.objs.size (.tup [.int (i : Nat), x])) { s with heap := h'', toks := tk + 1 } :=
      I.turnedNew (ch := [e, it]) (fun b ob hb q => (sb.2 b (fun z => hb (by simp [z]))).trans (hk b ob (fun z => hb (by simp [z])) (fun z => hb (by simp [z])) q)) hf (Nat.le_refl _) new
    refine ⟨.ref s.heap.objs.size, _, I1, rfl, ⟨_, x, rfl, I.hok.fresh (Nat.le_refl _), rfl, hx⟩, ⟨⟨u', ?_⟩, hs'.1.at fun o q => (sb.2 it (Ne.symm hne)).trans q, hne⟩, fun b hb => ?_⟩
    · have e1 : ((i + 1 : Nat) : Int) = (i : Int) + 1 := by omega
      rw [e1]; exact he'
    · have hb' : b < s.heap.objs.size := by
        rcases (by simpa using hb : b = e ∨ b = it) with z | z
        · subst z; exact hel
        · subst z; exact hil
      rw [upd_ne (Nat.ne_of_lt hb')]
      exact (hf b hb).1
  done := by
    intro X hP hw hK hc i pins s σ H E I hf st hg
    subst hP hw hK
    obtain ⟨⟨old, he⟩, hit, hne⟩ := st
    obtain ⟨hi, hq⟩ := hg
    obtain ⟨its, rv, p, hz⟩ := I.tuple hq
    obtain ⟨f0, f1, f2, f3, f4, f5⟩ := hf it (by simp)
    have hl := rv.length
    have hx : its.toArray[i]? = none := by simp; omega
    have hT : s.TypeIs (.ref e) "enumerate" := ⟨_, he, rfl⟩
    unfold pyNext
    refine wpAny_bind (wpAny_attempt (wpAny_callSpecial?_slot (name := Str.ofString "__next__") hT F.slot_enumerate_next (wpAny_call_entry F.slot_enumerate_next hT F.entry_enumerate_next ?_ (F.args_enumerate_next_1 _))))
    show wpAny _ _ (field (.ref e) 2 >>= _) _ _ _
    refine wpAny_bind (wpAny_field he rfl (x := .ref it) rfl ?_)
    refine wpAny_bind (wpAny_nextOf_tuple_end (I.ok.hd hc) hit p hx fun h' x he' hx' => ?_)
    obtain ⟨o, ho, hcl⟩ := hx'
    refine wpAny_bind (wpAny_isInstance (T := "StopIteration") (b := true) ⟨o, ho, hcl⟩ isSubtype_stop ?_)
    exact wpAny_pure ⟨rfl, I.turned (t' := s.toks) (fun b o hb q => he' b o hb q) f0 f1 f3 f4 f5⟩
  self := fun A i s Q E st h => let ⟨⟨_, he⟩, _⟩ := st; wpAny_pyIter_enum he h
theorem walk_enT {K : PySem.W.Frag} {a : Addr} {xs : List V} : Walk (Ien K a xs) xs.length (fun H => SqT K H a xs) (YPair (fun i => some (.int (i : Nat))) (fun i => xs[i]?)) := by
  refine ⟨fun i _ hi q => ⟨hi, q⟩, fun _ q => ⟨Nat.le_refl _, q⟩, fun i H v H' _ q y => ?_⟩
  obtain ⟨T, x, h1, h2, h3, h4⟩ := y
  exact ⟨T, .int (i : Nat), x, h1, h2, h3, rfl, h4⟩
def iEnT (K : PySem.W.Frag) (ta : TA) : TI := fun σ H R => ta σ H fun vs H1 => ∃ a xs, vs = [.ref a] ∧ ((SqL K H1 a xs ∧ R (Ite K a) H1) ∨ (SqT K H1 a xs ∧ R (Ien K a xs) H1))
theorem pi_enT {X : Cx} {e : Expr} {ta : TA} {p pos tpos : Pos} {elts : List Expr} {kk : Nat} (hg : Gl X "enumerate") (hm : X.mg "enumerate" = none) (ha : PA X [e] ta) (hs : starEach [e] X.env = [(false, eval e X.env)]) :
    PI X (.Tuple elts kk tpos) (.Call (.Name "enumerate" p) [e] [] pos) (iEnT X.K ta) := by
  refine ⟨fun pins s σ H R I h => ?_⟩
  refine PyProof.Rows.Call_ (ld_blt I hg hm PyProof.Rows.boot_enumerate (PyProof.Rows.callWith_type1 (thn (ha.run pos pins s σ H _ I h) fun us s1 ⟨vs, H1, I1, r1, q1⟩ => ?_) hs rfl))
  obtain ⟨a, xs, ex, q⟩ := q1
  subst ex
  obtain ⟨u, rfl, ru⟩ := r1.one
  cases ru
  have fp : ∀ b ∈ [s1.heap.objs.size + 1, s1.heap.objs.size], FpOk X pins H1 b := fun b hb => by
    have hle : s1.heap.objs.size ≤ b := by
      rcases (by simpa using hb : b = s1.heap.objs.size + 1 ∨ b = s1.heap.objs.size) with z | z
      · rw [z]; exact Nat.le_add_right _ _
      · rw [z]; exact Nat.le_refl _
    exact I1.fpOk hle (I1.hok.fresh hle)
  rcases q with ⟨hq, q⟩ | ⟨hq, q⟩
  · obtain ⟨its, rv, p', hz⟩ := I1.list hq
    refine call_enumerate_list p'.isList fun h' he hit hsz hk => wpAny_pyIter_enum he ?_
    exact ⟨s1.heap.objs.size + 1, [s1.heap.objs.size + 1, s1.heap.objs.size], _, _, H1, rfl, I1.kept (t' := s1.toks) hk, turn_enum a (s1.heap.objs.size + 1) s1.heap.objs.size, ⟨⟨.none, he⟩, hit, Nat.succ_ne_self _⟩, fp, q⟩
  · obtain ⟨its, rv, p', hz⟩ := I1.tuple hq
    have hal : a < s1.heap.objs.size := by obtain ⟨o, ho, _⟩ := p'; exact Heap.lt_size ho
    refine callType_new F.called_enumerate (by decide) (F.typeCall_enumerate_1 _) (F.newCall_enumerate_1 _) (fun obj => F.args_object_init_2 obj _) F.entry_enumerate_new (meets_enumT a its.toArray) ⟨p', ?_⟩
    have hzz : (s1.heap.push { cls := .type "tuple_iterator", data := .fields #[.ref a, .int 0 0] }).objs.size = s1.heap.objs.size + 1 := Heap.size_push ..
    show _ ∧ _
    rw [hzz]
    generalize hh' : (s1.heap.push { cls := .type "tuple_iterator", data := .fields #[.ref a, .int 0 0] }).push { cls := .type "enumerate", data := .fields #[.none, .bool false, .ref s1.heap.objs.size, rawInt 0, .none, .none] } = h'
    have he : IsEnum h' (s1.heap.objs.size + 1) s1.heap.objs.size 0 .none := by
      have := Heap.get?_push_size (s1.heap.push { cls := .type "tuple_iterator", data := .fields #[.ref a, .int 0 0] }) (o := { cls := .type "enumerate", data := .fields #[.none, .bool false, .ref s1.heap.objs.size, rawInt 0, .none, .none] }) rfl
      rw [hzz, hh'] at this
      exact this
    have hk : ∀ b o, s1.heap.get? b = some o → h'.get? b = some o := fun b o x => by rw [← hh']; exact Heap.get?_push_of_some _ (Heap.get?_push_of_some _ x)
    have hit : h'.IsTupleIter s1.heap.objs.size a 0 := ⟨_, by rw [← hh']; exact Heap.get?_push_of_some _ (Heap.get?_push_size _ rfl), rfl, rfl⟩
    refine ⟨⟨_, he, rfl⟩, wpAny_pyIter_enum he ?_⟩
    exact ⟨s1.heap.objs.size + 1, [s1.heap.objs.size + 1, s1.heap.objs.size], _, _, H1, rfl, I1.kept (t' := s1.toks) hk, turn_enT a (s1.heap.objs.size + 1) s1.heap.objs.size xs (Nat.ne_of_lt hal) (Nat.ne_of_lt (Nat.lt_succ_of_lt hal)),
      ⟨⟨.none, he⟩, hit, Nat.succ_ne_self _⟩, fp, q⟩
/-- (0, a), (1, b), .. -/
def numsD : Nat → List D → List D
  | _, [] => []
  | n, d :: r => .tup [.int n, d] :: numsD (n + 1) r
theorem numsD_len : ∀ (n : Nat) (l : List D), (numsD n l).length = l.length
  | _, [] => rfl
  | n, d :: r => by simp [numsD, numsD_len (n + 1) r]
theorem numsD_at : ∀ (n : Nat) (l : List D) (i : Nat), (numsD n l)[i]? = (l[i]?).map fun d => .tup [.int ((n + i : Nat) : Int), d]
  | n, [], i => by simp [numsD]
  | n, d :: r, 0 => by simp [numsD]
  | n, d :: r, i + 1 => by
    simp only [numsD, List.getElem?_cons_succ, numsD_at (n + 1) r i]
    rw [show n + 1 + i = n + (i + 1) by omega]
theorem jok_pair {A : Ad} {w : Wd} {l : List D} {vs : List V} {J : It} {G : Hp → Prop} (k : Walk J l.length G (YPair (fun i => some (.int (i : Nat))) (fun i => vs[i]?))) (hG : ∀ w2, Le w w2 → Wf w2 → G w2.H) (h : Reps A w l vs) : JOk A w (numsD 0 l) J := by
  refine ⟨G, _, by rw [numsD_len]; exact k, hG, fun w2 st i d x H' e2 s2 hd y => ?_⟩
  obtain ⟨T, x1, x2, rfl, hT, rfl, y1, y2⟩ := y
  rw [numsD_at] at hd
  simp only [Option.map_eq_some_iff, Nat.zero_add] at hd
  obtain ⟨d', hd', rfl⟩ := hd
  cases y1
  obtain ⟨v, h1, h2⟩ := h.get hd'
  have y2 : vs[i]? = some x2 := y2
  rw [h1] at y2
  cases y2
  exact ⟨w2.pure T _, rfl, ext_pure hT, s2.pure hT, rep_tup s2.wf hT (by rw [sizeLine_eq]; show 2 ≤ _; omega) (.cons (rep_int _) (.one (h2.le e2)))⟩
theorem blN14 : blN 14 = ("enumerate" : Str) := by decide +kernel
def fEnum : List D → Option (List D)
  | [.lst l] => some (numsD 0 l)
  | [.tup l] => some (numsD 0 l)
  | _ => none
/-- enumerate(e), the target a tuple -/
def iEnum2 (a : BE) : BI where
  den F := bndE (dns [a] F) fun l _ => opt (fEnum l)
  chk I N sc tg e := match tg, e with
    | .Tuple _ _ _, .Call (.Name x _) [e] [] _ => beqS x (blN 14) && I.bs.contains 14 && glbB sc x && notStar e && a.chk I N sc e
    | _, _ => false
  snd {A k F X W} C tg e h := by
    split at h
    · rename_i elts kk tpos x p e1 pos
      simp only [Bool.and_eq_true, List.contains_iff_mem] at h
      obtain ⟨⟨⟨⟨h1, h2⟩, h3⟩, h4⟩, h5⟩ := h
      have ex := beqS_eq h1
      subst ex
      have hm := C.facts.bl _ h2
      have hg := glbB_ok (X := X) h3
      rw [blN14] at hm hg ⊢
      have ha : PA X [e1] (LA A W (dns [a] F)) := pa_of C (by simp [chs, h4, h5])
      refine ⟨fun pins s t H R I q => (pi_enT hg hm ha (star_cons h4)).run pins s t H R I ?_⟩
      obtain ⟨w, r, st, rfl, hr, hs, hp⟩ := q
      refine step (R := RL A) (.refl w) hr hs hp fun w1 st1 a x hr1 hs1 e1 rx hp1 => ?_
      obtain ⟨l, el, hq⟩ := opt_post hp1
      unfold fEnum at el
      split at el
      · cases el
        obtain ⟨v, rfl, hv⟩ := rx.one'
        obtain ⟨p, vs, rfl, g1, g2⟩ := hv.lst
        refine ⟨p, vs, rfl, .inl ⟨by rw [C.hK]; exact g1.seq, hq w1 _ e1 hs1 (jok_pair (vs := vs) (G := fun H => SqL X.K H p vs) ?_ (fun w2 e _ => ?_) g2)⟩⟩
        · rw [← g2.length]; exact walk_enum
        · rw [C.hK]; exact (g1.le e).seq
      · cases el
        obtain ⟨v, rfl, hv⟩ := rx.one'
        obtain ⟨p, vs, rfl, g1, g2⟩ := hv.tup
        refine ⟨p, vs, rfl, .inr ⟨by rw [C.hK]; exact g1.seq, hq w1 _ e1 hs1 (jok_pair (vs := vs) (G := fun H => SqT X.K H p vs) ?_ (fun w2 e _ => ?_) g2)⟩⟩
        · rw [← g2.length]; exact walk_enT
        · rw [C.hK]; exact (g1.le e).seq
      · cases el
    · cases h
end Rf

set_option Elab.async false
set_option linter.all false
set_option maxRecDepth 100000
set_option maxHeartbeats 1000000
namespace Rf
open PySem L2

/-! ## == and != by an own __eq__ -/
section
open PySem.W
variable {prog : Program} {w : World} {A : Around} {E : Value → Shared → Prop} {s : Shared} {K : Frag} {x C f : Addr} {ox : Obj} {od : Option Obj} {b tb : Value}
theorem ne_bind (self : Value) : bindSpecial (.builtin "object.__ne__") self = pure (.builtin "object.__ne__", [self]) :=
  (Slot.of (T := "object") (name := "__ne__") (owner := "object") (n := "__ne__") (by rw [typeLookup_type, builtinLookup_eq_fast]; kernel_rfl) (by decide +kernel) (by decide +kernel) (by decide +kernel) (.inl (by decide +kernel)) (by rw [isSubtype_type]; kernel_rfl)).bind self
theorem ne_plain : plainId "object.__ne__" = true := by decide +kernel
theorem bound_B {M : Model} {args : List Value} {name : Str} {id : String} {Q : Option Value → Shared → Prop} (X : K.In s.heap) (I : InstAt s.heap x ox C od) (hs : findIn K (.ref C) name = some (some (.builtin id))) (hb : bindSpecial (.builtin id) (.ref x) = pure (.builtin id, [.ref x]))
    (h : wpAny M A (call (.builtin id) (.ref x :: args)) (fun v => Q (some v)) E s) : wpAny M A (callSpecialIfBound? (.ref x) name args) Q E s := by
  have B : Looks M s.heap (bindSpecial (.builtin id) (.ref x)) (.builtin id, [.ref x]) := Looks.of_pure hb
  simp only [callSpecialIfBound?, bindSpecialIfBound?]
  refine wpAny_holding (wpAny_bind (wpAny_bind (wpAny_bind (I.type.here ((looks_findIn X hs).here ?_)))))
  refine wpAny_bind (wpAny_askSetting (wpAny_ite ?_))
  have last : wpAny M A (call (.builtin id) ([.ref x] ++ args) >>= fun v => pure (some v)) Q E s := wpAny_bind (wpAny_mono h (fun v s' h' => wpAny_pure h') fun _ _ h' => h')
  split
  · exact wpAny_bind (B.here (wpAny_pure (by exact last)))
  · exact wpAny_tryCatch (wpAny_bind (B.here (wpAny_pure (by exact last))))
theorem ne_body {Q : Fin → Shared → Prop} (X : K.In s.heap) (I : InstAt s.heap x ox C od) (he : findIn K (.ref C) "__eq__" = some (some (.ref f))) (hf : isFn K (.ref f) = true) (hu : A.units < cLine)
    (h : wpAny (model prog w) A (call (.ref f) [.ref x, b]) (fun v s' => ∃ c, v = .bool c ∧ Q (.done (.ret (.bool (!c)))) s') E s) : wpAny (model prog w) A (Builtin.«object.__ne__» ⟨[.ref x, b], []⟩) Q E s := by
  have X' := X
  have I' := I
  have key : ∀ (k : Option Value → Sem Fin), (∀ c s', Q (.done (.ret (.bool (!c)))) s' → wpAny (model prog w) A (k (some (.bool c))) Q E s') → wpAny (model prog w) A (callSpecialIfBound? (.ref x) (Str.ofString "__eq__") [b] >>= k) Q E s := by
    intro k hk
    refine wpAny_bind (ifBound_K X' I' he hf (wpAny_mono h (fun v s' hv => ?_) fun _ _ e => e))
    obtain ⟨c, rfl, hq⟩ := hv
    exact hk c s' hq
  obtain ⟨hh, g, d, t, os⟩ := s
  unfold Builtin.«object.__ne__»
  repeat (first
    | with_reducible refine wpAny_cRoomFor hu ?_
    | (with_reducible refine key _ fun c s' hq => ?_)
    | wp_step)
  obtain ⟨hh, g, d, t, os⟩ := s'
  repeat (first | exact hq | exact wpAny_pure hq | exact wpAny_truthy_bool hq | (refine wpAny_bind (m := truthy (.bool _)) (wpAny_truthy_bool ?_)) | wp_step)
theorem ne_K {Q : Value → Shared → Prop} (hu : A.units + 1 < cLine) (X : K.In s.heap) (I : InstAt s.heap x ox C od) (hb : Looks (model prog w) s.heap (typeOf b) tb) (hn : notFirst K C tb = true)
    (hne : findIn K (.ref C) "__ne__" = some (some (.builtin "object.__ne__"))) (he : findIn K (.ref C) "__eq__" = some (some (.ref f))) (hf : isFn K (.ref f) = true) (top : mroIn K C (.type "object") = some true)
    (h : wpAny (model prog w) A.in1 (call (.ref f) [.ref x, b]) (fun v s' => ∃ c, v = .bool c ∧ Q (.bool (!c)) s') E s) : wpAny (model prog w) A (richCompare .NotEq (.ref x) b) Q E s := by
  have t2 : Looks (model prog w) s.heap (isInstance (.ref x) (.type "object")) true := I.type.andThen (looks_mroIn X top)
  have one : wpAny (model prog w) A (tryCompare (.ref x) "__ne__" b) (fun r s' => ∃ v, r = some v ∧ Q v s') E s := by
    unfold tryCompare
    refine wpAny_bind (bound_B X I hne (ne_bind _) (wpAny_call (codeAny_call_builtin ne_plain PySem.F.cmpEntry_ne (check_slot PySem.F.cmpKind_ne PySem.F.cmpSplit_ne t2 (PySem.F.cmpArgs_ne _ _)
      (ne_body (A := A.in1) X I he hf hu (wpAny_mono h (fun v s' hv => ?_) fun _ _ e => e))))))
    obtain ⟨c, rfl, hq⟩ := hv
    exact ⟨c, rfl, wpAny_pure ⟨_, rfl, hq⟩⟩
  unfold richCompare
  simp only [oneThing_ref]
  rw [cmpInfo_NotEq]
  dsimp only
  refine wpAny_holding (wpAny_bind (wpAny_cRoomFor (Nat.lt_of_succ_lt hu) ?_))
  refine wpAny_bind (I.type.here (wpAny_bind (hb.here ?_)))
  split
  · rename_i q
    have e : subIn K tb (.ref C) = some false := by
      rcases Bool.or_eq_true_iff.mp hn with e | e
      · rw [beq_iff_eq.mp e] at q; simp at q
      · exact beq_iff_eq.mp e
    refine wpAny_bind ((looks_subIn X e).here ?_)
    simp only [Bool.false_eq_true, if_false]
    refine wpAny_bind (wpAny_mono one (fun r s' z => ?_) fun _ _ e => e)
    obtain ⟨v, rfl, hq⟩ := z
    exact wpAny_pure hq
  · refine wpAny_bind (wpAny_pure ?_)
    simp only [Bool.false_eq_true, if_false]
    refine wpAny_bind (wpAny_mono one (fun r s' z => ?_) fun _ _ e => e)
    obtain ⟨v, rfl, hq⟩ := z
    exact wpAny_pure hq
end
/-- the __eq__ of what d is -/
def eqI (st : Sto) (d : D) : Option Nat := match tyOf st d with
  | some (.inr c) => eqF c
  | _ => none
def outB (neg : Bool) : Out D → Out D
  | .ok (.bl c) st => .ok (.bl (if neg then !c else c)) st
  | _ => .bad
def fEqO (F : FT) (neg : Bool) (x y : D) : M D := fun st => match eqI st x with
  | some i => (match tyOf st y with
    | some _ => outB neg (F i [x, y] st)
    | none => .bad)
  | none => opt ((if neg then fNe else fEq) x y) st
abbrev noE : XK := fun _ _ _ => False
theorem pass_no {X : Cx} : Passes (L2.CX X.prog X.w) X noE := fun pins σ H s e s' I c => by
  obtain ⟨_, _, _, _, _, _, _, _, _, _, _, _, z⟩ := c
  exact z.elim
def rEqO (A : Ad) (F : FT) (neg : Bool) : L2.R2 := fun x y H Q => ∃ (w : Wd) (st : Sto) (a b : D), w.H = H ∧ SRel A w st ∧ Rep A w a x ∧ Rep A w b y ∧ PostG A (RD A) noE w Q (fEqO F neg a b st)
section
variable {A : Ad} {k : Nat} {F : FT} {X : Cx} {W : WX}
theorem outB_ok {neg : Bool} {o : Out D} {R : Wd → Wd → D → V → Prop} {w : Wd} {Q : VK} (h : PostG A R noE w Q (outB neg o)) : ∃ c st, o = .ok (.bl c) st ∧ PostG A R noE w Q (.ok (.bl (if neg then !c else c)) st) := by
  cases o with
  | ok d st =>
    cases d with
    | bl c => exact ⟨c, st, rfl, h⟩
    | _ => exact h.elim
  | exc x st => exact h.elim
  | bad => exact h.elim
theorem or_eqO (C : Ctx A k F X W) (neg : Bool) : OpR X (compareOp (if neg then .NotEq else .Eq)) (rEqO A F neg) := by
  intro pins s σ H x y v u Q I rx ry h
  obtain ⟨w, st, a, b, rfl, hs, ra, rb, hp⟩ := h
  unfold fEqO at hp
  cases ei : eqI st a with
  | none =>
    rw [ei] at hp
    cases neg with
    | false =>
      obtain ⟨d, e, hq⟩ := opt_post (R := RD A) hp
      obtain ⟨r, q1, q2⟩ := pEq.imp C
      exact q1 pins s σ w.H x y v u Q I rx ry (q2 w st a b x y d Q hs ra rb e hq)
    | true =>
      obtain ⟨d, e, hq⟩ := opt_post (R := RD A) hp
      obtain ⟨r, q1, q2⟩ := pNe.imp C
      exact q1 pins s σ w.H x y v u Q I rx ry (q2 w st a b x y d Q hs ra rb e hq)
  | some i =>
    rw [ei] at hp
    cases ey : tyOf st b with
    | none => rw [ey] at hp; exact hp.elim
    | some ty =>
      rw [ey] at hp
      simp only at hp
      obtain ⟨c0, st1, ef, hp1⟩ := outB_ok hp
      obtain ⟨ty1, ty2⟩ := ty_rep C.facts hs rb ey
      rw [← C.hK] at ty1
      obtain ⟨P, Z, zp, _⟩ := kit_of I ry ty1
      have hb := Z.ty (model X.prog X.w) s.heap I.kIn zp
      -- the left one is an instance
      have inst : ∃ (c p dx : Addr) (cc : Nat) (fs : List (Str × V)), x = .ref p ∧ cc ∈ A.I.cs ∧ eqF cc = some i ∧ w.H p = some (.ins (A.ca cc) dx fs) := by
        unfold eqI at ei
        cases a with
        | obj c l =>
          obtain ⟨p, dx, vs, rfl, _, h0, hp, _⟩ := ra.obj
          exact ⟨p, p, dx, c, _, rfl, h0.1, ei, hp⟩
        | loc n =>
          obtain ⟨p, rfl, hm⟩ := ra.loc
          simp only [tyOf] at ei
          cases eo : st[n]? with
          | none => rw [eo] at ei; cases ei
          | some o =>
            rw [eo] at ei
            cases o with
            | lst _ => cases ei
            | ins c l =>
              obtain ⟨dx, vs, h0, hp, _⟩ := hs.ob n _ p eo hm
              exact ⟨p, p, dx, c, _, rfl, h0.1, ei, hp⟩
        | _ => cases ei
      obtain ⟨_, p, dx, cc, fs, rfl, hcc, heq, hp0⟩ := inst
      cases (show v = Value.ref p from rx)
      have cf := C.facts.cl cc hcc
      obtain ⟨e1, e2, e3, e4⟩ := cf.eq i heq
      rw [← C.hK] at e1 e2 e4
      have hn : PySem.W.notFirst X.K (A.ca cc) (tyV A ty) = true := by
        rw [C.hK]
        cases ty with
        | inl n => exact (cf.kb n ty2).2.2
        | inr c' => exact (cf.kk c' ty2).2
      obtain ⟨mA, O, _⟩ := ins_get I.hok hp0
      obtain ⟨od, J, _⟩ := O.look
      have hp2 : PostG A (RD A) noE w (fun v' H' => ∃ c, v' = .bl c ∧ Q (.bl (if neg then !c else c)) H') (F i [a, b] st) := by
        rw [ef]
        intro w' v' ex sr rv
        exact ⟨c0, rv.bl, hp1 w' _ ex sr (rep_bl _)⟩
      obtain ⟨fd, ps, F1, b1, _, _⟩ := calls_get C e3 hp2
      have hsp : spF A (F i) [.ref p, y] w.H (fun v' H' => ∃ c, v' = .bl c ∧ Q (.bl (if neg then !c else c)) H') noE := ⟨w, [a, b], st, rfl, hs, .cons ra (.one rb), hp2⟩
      have rvs : Vals [V.ref p, y] [Value.ref p, u] := .cons rfl (.cons ry .nil)
      have hl : [Value.ref p, u].length = ps.length := rvs.length.symm.trans (F1.len _ _ _ _ hsp)
      have hbi := b1 s [Value.ref p, u] I.kIn (by rw [List.append_nil]; exact hl)
      rw [List.append_nil] at hbi
      have eqo : ∀ op a b, op = CmpOp.Eq ∨ op = CmpOp.NotEq → compareOp op a b = richCompare op a b := fun op a b z => by rcases z with rfl | rfl <;> rfl
      cases neg with
      | false =>
        obtain ⟨m, hF⟩ := I.fr
        show wpAny _ _ (compareOp .Eq _ _) _ _ _
        rw [eqo _ _ _ (.inl rfl)]
        refine PySem.W.cmp_K (op := .Eq) (tb := tyV A ty) C.room.units0 hF I.ok.mod.kin J hb hn e1 e2 ?_
        refine wpAny_call (codeAny_mono (F1.run X.A X.stack s w.H ⟨[.ref p, u], []⟩ _ _ _ _ (C.room.mono (Nat.le_succ _)) I.env0 hbi rvs hsp) fun o s' ho => ?_)
        cases o with
        | error z => exact pass_no pins σ w.H s z s' I ho
        | ok fl =>
          cases fl with
          | ret u' =>
            obtain ⟨v', H', I3, rv, c, rfl, q3⟩ := I.after ho
            cases (show u' = Value.bool c from rv)
            exact ⟨.bl c, H', I3, rfl, q3⟩
          | next => cases ho
          | brk => cases ho
          | cont => cases ho
      | true =>
        show wpAny _ _ (compareOp .NotEq _ _) _ _ _
        rw [eqo _ _ _ (.inr rfl)]
        refine ne_K (tb := tyV A ty) (by have := C.room.units; omega) I.kIn J hb hn e4 e1 e2 (by rw [C.hK]; exact cf.km) ?_
        have e0 : Env0 X.prog X.w X.K X.mg X.base X.A.in1 X.stack s w.H := I.env0.in1
        refine wpAny_call (codeAny_mono (F1.run X.A.in1 X.stack s w.H ⟨[.ref p, u], []⟩ _ _ _ _ C.room.in1 e0 hbi rvs hsp) fun o s' ho => ?_)
        cases o with
        | error z => exact pass_no pins σ w.H s z s' I ho
        | ok fl =>
          cases fl with
          | ret u' =>
            obtain ⟨v', H', I3, rv, c, rfl, q3⟩ := I.after ho
            cases (show u' = Value.bool c from rv)
            exact ⟨c, rfl, .bl (!c), H', I3, rfl, q3⟩
          | next => cases ho
          | brk => cases ho
          | cont => cases ho
end
def dEqO (F : FT) (neg : Bool) (a b : En → M D) : En → M D := bndE a fun x => bndE b fun y _ => noX (fEqO F neg x y)
theorem eqO_step {A : Ad} {F : FT} {neg : Bool} {W : WX} {t : St} {H : Hp} {Q : VK} {a b : En → M D} (h : LE A W (dEqO F neg a b) t H Q) : tOp (rEqO A F neg) (LE A W a) (LE A W b) t H Q := by
  obtain ⟨w, r, st, rfl, hr, hs, hp⟩ := h
  refine step (R := RD A) (.refl w) hr hs hp fun w1 st1 x vx hr1 hs1 e1 rx hp1 => ?_
  refine step (R := RD A) e1 hr1 hs1 hp1 fun w2 st2 y vy hr2 hs2 e2 ry hp2 => ?_
  refine ⟨w2, st2, x, y, rfl, hs2, rx.mono hs1.wf e2, ry, ?_⟩
  unfold noX at hp2
  cases e : fEqO F neg x y st2 with
  | ok d st3 => rw [e] at hp2; exact fun w' v ex sr rv => hp2 w' v ((e1.trans e2).trans ex) sr rv
  | exc z st3 => rw [e] at hp2; exact hp2.elim
  | bad => rw [e] at hp2; exact hp2.elim
def opOf (neg : Bool) : CmpOp := if neg then .NotEq else .Eq
def cEqO (neg : Bool) (a b : BE) : BE where
  den F := dEqO F neg (a.den F) (b.den F)
  chk I N sc e := match e with
    | .Compare x [op] [y] _ => decide (op = opOf neg) && notSet y && a.chk I N sc x && b.chk I N sc y
    | _ => false
  snd {A k F X W} C e h := by
    split at h
    · simp only [Bool.and_eq_true, decide_eq_true_eq] at h
      obtain ⟨⟨⟨h1, h0⟩, h2⟩, h3⟩ := h
      subst h1
      exact (pe_cmpR (or_eqO C neg) (a.snd C h2) (b.snd C h3) (notSet_ok h0)).imp fun t H Q q => eqO_step q
    · cases h
def tEqO (neg : Bool) (a b : BE) : BT where
  den F := dB (dEqO F neg (a.den F) (b.den F))
  chk I N sc e := match e with
    | .Compare x [op] [y] _ => decide (op = opOf neg) && notSet y && a.chk I N sc x && b.chk I N sc y
    | _ => false
  snd {A k F X W} C e h := by
    split at h
    · simp only [Bool.and_eq_true, decide_eq_true_eq] at h
      obtain ⟨⟨⟨h1, h0⟩, h2⟩, h3⟩ := h
      subst h1
      exact (pt_cmpR (or_eqO C neg) (a.snd C h2) (b.snd C h3) (notSet_ok h0)).imp fun t H Q q => eqO_step (dB_ok q)
    · cases h
end Rf

set_option Elab.async false
set_option linter.all false
set_option maxRecDepth 100000
set_option maxHeartbeats 1000000
namespace Rf
open PySem L2

/-! ## a, b = e, e', one of the names kept in a cell -/
theorem sw_cell {env : Env} {x y : Str} {px py pt pt2 : Pos} {kt k2 : Nat} {a b : Expr} (h : (!locB env.scope x || !locB env.scope y) = true) :
    swappedStores [.Tuple [.Name x px, .Name y py] kt pt] (.Tuple [a, b] k2 pt2) env = pure none := by
  have nl : ∀ z, locB env.scope z = false → (env.kindOf z == some NameKind.local) = false := fun z q => by
    have e : env.kindOf z = env.scope.names.lookup z := rfl
    rw [e]
    unfold locB at q
    cases ek : env.scope.names.lookup z with
    | none => rfl
    | some k => rw [ek] at q; cases k <;> first | rfl | cases q
  have e1 : ∀ (ln : Nat), (([Expr.Name x px, Expr.Name y py].filterMap fun e => match e with
    | .Name id pos => if (env.kindOf id == some NameKind.local && pos.line == ln) = true then some id else none
    | _ => none).length != [Expr.Name x px, Expr.Name y py].length) = true := by
    intro ln
    have hle : ([Expr.Name x px, Expr.Name y py].filterMap fun e => match e with
      | .Name id pos => if (env.kindOf id == some NameKind.local && pos.line == ln) = true then some id else none
      | _ => none).length < 2 := by
      rw [List.filterMap_cons, List.filterMap_cons, List.filterMap_nil]
      rcases Bool.or_eq_true_iff.mp h with q | q
      · have := nl x (by simpa using q)
        simp only [this, Bool.false_and, Bool.false_eq_true, if_false]
        split
        · simp
        · rename_i heq; split at heq <;> simp_all
      · have := nl y (by simpa using q)
        simp only [this, Bool.false_and, Bool.false_eq_true, if_false]
        split
        · simp
        · simp
    simp only [bne_iff_ne, ne_eq]
    show ¬ _ = 2
    omega
  unfold swappedStores
  simp only []
  split
  · rfl
  · split
    · rfl
    · rw [if_pos (by rw [Bool.or_eq_true]; exact .inl (e1 _))]
def sPar2 (i j : Nat) (a b : BX) : BS where
  den F r := bnd (a.den F r) fun x => bnd (b.den F r) fun y => ret (.nx ((r.set i (mkS a.o x)).set j (mkS b.o y)))
  chk I N sc s := match s with
    | .Assign [.Tuple [.Name x px, .Name y py] _ _] (.Tuple [e, e'] _ _) _ => decide (a.o = true → i ≠ 0) && decide (b.o = true → j ≠ 0) && decide (N[i]? = some x) && decide (N[j]? = some y) && stoB sc x && stoB sc y && (!locB sc x || !locB sc y) && notStar e && notStar e' && a.chk I N sc e && b.chk I N sc e'
    | _ => false
  snd {A k F X W} C s h w0 := by
    split at h
    · rename_i x px y py kt pt e e' k2 pt2 pos
      simp only [Bool.and_eq_true, decide_eq_true_eq] at h
      obtain ⟨⟨⟨⟨⟨⟨⟨⟨⟨⟨z1, z2⟩, h1⟩, h2⟩, h3⟩, h4⟩, h5⟩, n1⟩, n2⟩, h7⟩, h8⟩ := h
      refine (ps_asg (pe_tup (pa_cons (a.snd C.c h7) (pa_cons (b.snd C.c h8) pa_nil (star_cons n2)) (star_cons n1)))
        (pg_tup C.c.calm (pgs_cons (pg_name C.c.nd h1 (stoB_ok h3) (.inl (C.fn x))) (pgs_cons (pg_name C.c.nd h2 (stoB_ok h4) (.inl (C.fn y))) pgs_nil rfl) rfl)) (hw := sw_cell h5)).imp fun E t H q => ?_
      obtain ⟨w, r, st, rfl, fr, hp⟩ := q
      refine stepS (R := RX A a.o) fr hp fun w1 st1 d v fr1 e1 rv _ hp1 => ?_
      refine stepS (R := RX A b.o) fr1 hp1 fun w2 st2 d2 v2 fr2 e2 rv2 _ hp2 => ?_
      refine ⟨by rw [sizeLine_eq]; show 2 ≤ _; omega, fun p hpn => ?_⟩
      have ex := ext_pure (o := .tup [v, v2]) hpn
      have sr := fr2.sr.pure (o := .tup [v, v2]) hpn
      refine ⟨p, [v, v2], rfl, .inl (.inl upd_same), rfl, v, [v2], rfl, v2, [], rfl, rfl, ?_⟩
      exact hp2 (w2.pure p _) _ (ex.le fr2.sr.wf) ((fr.setX z1 e1 fr1.sr rv).setX z2 (e2.trans ex) sr (rv2.up fr2.sr.wf ex))
    · cases h
end Rf

set_option Elab.async false
set_option linter.all false
set_option maxRecDepth 100000
set_option maxHeartbeats 1000000
namespace Rf
open PySem PySem.Spec PyProof.Rows L2

/-! ## a display of one pair, its key a tuple -/
section
variable {prog : Program} {w : World} {K : Type} [DecidableEq K] {knd : HeapKind prog w K} {A : Around} {E : Value → Shared → Prop} {s : Shared}
theorem subDictH {pairs : List (Sem Value × Sem Value)} {Q : Addr → Shared → Prop} (hlen : pairs.length ≤ 15) (hu : knd.room A)
    (h : wpAny (model prog w) A (evalPairs pairs) (fun vs s₁ => ∃ (k : K) (b : Addr) (v : Value), vs = [(.ref b, v)] ∧ knd.is s₁.heap k b ∧ s₁.heap.DictOfH knd s.heap.objs.size [] ∧
      ∀ h' tk, h'.DictOfH knd s.heap.objs.size [(k, b, v)] → Heap.SameBut s.heap.objs.size s₁.heap h' → Q s.heap.objs.size { s₁ with heap := h', toks := tk }) E
      { s with heap := s.heap.push { cls := .type "dict", data := .dict #[] } }) :
    wpAny (model prog w) A (subDict pairs) Q E s := by
  unfold subDict
  refine wpAny_bind (wpAny_alloc ?_)
  refine wpAny_bind (wpAny_holding ?_)
  rw [if_pos hlen]
  refine wpAny_bind (wpAny_mono h (fun vs s₁ h₁ => ?_) fun _ _ e => e)
  obtain ⟨k, b, v, rfl, hk, hm, hQ⟩ := h₁
  refine wpAny_holding ?_
  rw [List.forIn_cons]
  refine wpAny_bind (wpAny_bind (wpAny_bind (wpAny_dictSet_heap (hsz := by simp) hu hk hm fun h' hm' hs' => wpAny_pure ?_)))
  dsimp only
  rw [List.forIn_nil]
  exact wpAny_pure (wpAny_pure (wpAny_pure (hQ h' _ (by simpa [storedH, atKey] using hm') hs')))
end
def tDisp1T (tk tv : TE) : TE := fun σ H Q => ∀ p, H p = none → tk σ (upd H p (.dT [])) fun x H1 => tv σ H1 fun y H2 => ∃ b kk, x = .ref b ∧ H2 p = some (.dT []) ∧ H2 b = some (.tup (kk.map kV)) ∧ Q (.ref p) (upd H2 p (.dT [(kk, y)]))
theorem pe_disp1T {X : Cx} {k v : Expr} {pos : Pos} {tk tv : TE} (hu : X.A.units + 1 < cLine) (hk : PE X k tk) (hv : PE X v tv) : PE X (.Dict [some k] [v] pos) (tDisp1T tk tv) := by
  refine ⟨fun pins s σ H Q I q => ?_⟩
  have hn := I.hok.fresh (Nat.le_refl s.heap.objs.size)
  have I1 := I.laid (a := s.heap.objs.size) (o := .dT []) (h' := s.heap.push { cls := .type "dict", data := .dict #[] }) (t' := s.toks) (fun _ _ q => Heap.get?_push_of_some _ q) (Nat.le_refl _) (dt_empty s.heap I.big)
  rw [arm_eval_Dict, zip_pairTrees [some k] [v] X.env pos rfl rfl, dictDisplay_pairs _ (by simp [pairTrees]) (by simp [pairTrees])]
  refine wpAny_bind (wpAny_standAt (wpAny_bind (subDictH (knd := tupleKind (mixKind X.prog X.w)) (by simp [pairTrees]) (show X.A.units < cLine by omega) ?_)))
  refine pairTrees_cons_walk (thn (hk.run pins _ σ _ _ I1 (q _ hn)) fun u s1 ⟨x, H1, I2, rx, q1⟩ => thn (hv.run pins s1 σ H1 _ I2 q1) fun w2 s2 ⟨y, H2, I3, ry, b, kk, ex, e1, e2, q2⟩ => pairTrees_nil_walk ?_)
  subst ex
  obtain rfl : u = Value.ref b := rx
  obtain ⟨z, hd, xs, rel, dd⟩ := dt_of I3.hok e1
  cases rel
  refine ⟨kk, b, w2, rfl, key_of I3.hok e2, dd, fun h' tk dd' hs => wpAny_pure ⟨.ref s.heap.objs.size, _, ?_, rfl, q2⟩⟩
  obtain ⟨q', es, ep, hq, h2, h3, h4, _, h5⟩ := dd'
  refine d_write I3 (by rw [e1]; exact True.intro) hs ⟨q', hq⟩ ⟨by rw [sizeLine_eq]; show 1 ≤ _; omega, hd, _, .cons ⟨rfl, ?_, ry⟩ .nil, q', es, ep, hq, h2, h3, h4, h5⟩
  rw [upd_ne (ne_of e2 e1 (fun z => nomatch z))]
  exact e2

/-! ## dict(pairs), the keys tuples -/
section
variable {P : Program} {w : World} {A : Around} {E : Value → Shared → Prop}
abbrev TK (P : Program) (w : World) : HeapKind P w (List Key) := tupleKind (mixKind P w)
def mrgH : List (List Key × Addr × Value) → List (List Key × Addr × Value) → List (List Key × Addr × Value)
  | xs, [] => xs
  | xs, q :: r => mrgH (storedH xs q.1 q.2.1 q.2.2) r
theorem storedH_len (xs : List (List Key × Addr × Value)) (k : List Key) (b : Addr) (v : Value) : (storedH xs k b v).length ≤ xs.length + 1 := by
  unfold storedH
  split <;> simp
theorem tk_ext {h h' : Heap} {k : List Key} {b J : Addr} (e : (TK P w).is h k b) (x : Heap.ExtBut J h h') (n : b ≠ J) : (TK P w).is h' k b := by
  obtain ⟨o, its, m, h1, h2⟩ := e
  exact ⟨o, its, m, x b o n h1, h2⟩
theorem tk_it {h : Heap} {k : List Key} {b J L : Addr} {i : Nat} (e : (TK P w).is h k b) (x : h.IsListIter J L i) : b ≠ J := by
  rintro rfl
  obtain ⟨o, its, m, h1, h2, _⟩ := e
  obtain ⟨o', g1, g2, _⟩ := x
  rw [h1] at g1
  cases g1
  rw [h2] at g2
  injection g2 with g2
  exact absurd g2 (by decide)
theorem dh_ext {h h' : Heap} {D J L : Addr} {i : Nat} {xs : List (List Key × Addr × Value)} (e : h.DictOfH (TK P w) D xs) (it : h.IsListIter J L i) (x : Heap.ExtBut J h h') (n : D ≠ J) : h'.DictOfH (TK P w) D xs := by
  obtain ⟨o, es, ep, h1, h2, h3, h4, h5, h6⟩ := e
  exact ⟨o, es, ep, x D o n h1, h2, h3, h4, fun y hy => tk_ext (h5 y hy) x (tk_it (h5 y hy) it), h6⟩
theorem updH {R : Result → Shared → Prop} {D J L : Addr} {vs : Array Value} {out : Value} (hu : A.units + 1 < cLine) (hh : A.handled = none) (n1 : L ≠ J) (n2 : D ≠ J) (n3 : D ≠ L) :
    ∀ (rest : List (List Key × Addr × Value)) (i : Nat) (acc : List (List Key × Addr × Value)) (ix : Int) (t : Tok) (s : Shared), vs.size = i + rest.length → acc.length + rest.length ≤ sizeLine →
      (∀ (j : Nat) (q : List Key × Addr × Value), rest[j]? = some q → ∃ b : Addr, vs[i + j]? = some (.ref b) ∧ b ≠ D ∧ b ≠ J ∧ IsTup s.heap b #[.ref q.2.1, q.2.2] ∧ (TK P w).is s.heap q.1 q.2.1) →
      s.heap.IsListIter J L i → s.heap.IsList L vs → s.heap.DictOfH (TK P w) D acc →
      (∀ h' tk, h'.DictOfH (TK P w) D (mrgH acc rest) → (∀ b o, b ≠ D → b ≠ J → s.heap.get? b = some o → h'.get? b = some o) → R (.ok (.ret out)) { s with heap := h', toks := tk }) →
      codeAny (model P w) A (.builtin "dict.update.loop" ⟨[.ref D, .ref J, .int ix t, out], []⟩) R s
  | [], i, acc, ix, t, s, hsz, hln, ht, hit, hl, hm, hR => by
    refine codeAny_builtin ud_entry ?_
    rw [Around.under_plainId ud_plain _]
    change wpAny _ A.in1 (pyNext (.ref J) >>= _) _ _ s
    refine wpAny_bind (wpAny_pyNext_list_end (A := A.in1) hh hit hl (by simp at hsz; simp; omega) fun h' he => ?_)
    change wpAny _ A.in1 (Builtin.Dict.addKeywords D [] >>= _) _ _ _
    exact wpAny_bind (wpAny_pure (wpAny_pure (hR h' s.toks (dh_ext hm hit he n2) fun b o _ hb e => he b o hb e)))
  | q :: rest, i, acc, ix, t, s, hsz, hln, ht, hit, hl, hm, hR => by
    obtain ⟨b, hb, bD, bJ, htup, hk⟩ := ht 0 q rfl
    rw [List.length_cons] at hsz hln
    refine codeAny_builtin ud_entry ?_
    rw [Around.under_plainId ud_plain _]
    change wpAny _ A.in1 (pyNext (.ref J) >>= _) _ _ s
    refine wpAny_bind (wpAny_pyNext_list_item (x := .ref b) hit hl (by simpa using hb) fun h1 it1 s1 => ?_)
    have x1 := s1.extBut
    have tup1 : IsTup h1 b #[.ref q.2.1, q.2.2] := htup.extBut x1 bJ
    have l1 : h1.IsList L vs := hl.extBut x1 n1
    have m1 : h1.DictOfH (TK P w) D acc := dh_ext hm hit x1 n2
    have k1 : (TK P w).is h1 q.1 q.2.1 := tk_ext hk x1 (tk_it hk hit)
    obtain ⟨o, ho, hc, n, hd⟩ := id tup1
    change wpAny _ A.in1 (holding [Value.ref b] _ >>= _) _ _ _
    refine wpAny_bind (wpAny_holding (wpAny_bind (wpAny_tryCatch ?_)))
    unfold Builtin.Dict.pairItems
    refine wpAny_bind (wpAny_typeOf (T := "tuple") ⟨o, ho, hc⟩ ?_)
    rw [if_pos (by rfl)]
    refine wpAny_bind (wpAny_seqItems ho hd (wpAny_pure ?_))
    change wpAny _ A.in1 (holding [Value.ref q.2.1, q.2.2] (dictSet D (Value.ref q.2.1) q.2.2)) _ _ _
    refine wpAny_holding (wpAny_dictSet_heap (hsz := by omega) (knd := TK P w) (k := q.1) hu k1 m1 fun h2 m2 s2 => ?_)
    have x2 := s2.extBut
    obtain ⟨od, es, ep, d1, _, d3, _⟩ := id m1
    refine wpAny_pure ⟨plainId_quiet ud_plain _, updH hu hh n1 n2 n3 rest (i + 1) (storedH acc q.1 q.2.1 q.2.2) (ix + 1) 0 _ (show vs.size = i + 1 + rest.length by omega) ?_ (fun j q' e => ?_) ?_ ?_ m2 fun h' tk hd' k => ?_⟩
    · have := storedH_len acc q.1 q.2.1 q.2.2
      omega
    · obtain ⟨b', g1, g2, g3, g4, g5⟩ := ht (j + 1) q' (by simpa using e)
      refine ⟨b', ?_, g2, g3, (g4.extBut x1 g3).extBut x2 g2, (TK P w).keeps (tk_ext g5 x1 (tk_it g5 hit)) d1 d3 s2⟩
      rw [show i + 1 + j = i + (j + 1) by omega]
      exact g1
    · exact it1.at fun o' e => x2 J o' (Ne.symm n2) e
    · exact l1.extBut x2 (Ne.symm n3)
    · exact hR h' tk hd' fun c oc h3 h4 e => k c oc h3 h4 (x2 c oc h3 (x1 c oc h4 e))
end

section
variable {P : Program} {w : World} {A : Around} {E : Value → Shared → Prop}
/-- dict(l), l a list of pairs of a tuple and a value -/
theorem dict_prsH {s : Shared} {l : Addr} {ol : Obj} {vs : Array Value} {n : Nat} {prs : List (List Key × Addr × Value)} {Q : Value → Shared → Prop} (hu : A.units + 2 < cLine) (hh : A.handled = none) (hl : s.heap.get? l = some ol) (hc : ol.cls = .type "list") (hd : ol.dict = none)
    (hdat : ol.data = .seq vs n) (hsz : vs.size = prs.length) (hln : prs.length ≤ sizeLine)
    (ht : ∀ (j : Nat) (q : List Key × Addr × Value), prs[j]? = some q → ∃ b : Addr, vs[j]? = some (.ref b) ∧ IsTup s.heap b #[.ref q.2.1, q.2.2] ∧ (TK P w).is s.heap q.1 q.2.1)
    (h : ∀ h' tk, h'.DictOfH (TK P w) s.heap.objs.size (mrgH [] prs) → (∀ b o, s.heap.get? b = some o → h'.get? b = some o) → Q (.ref s.heap.objs.size) { s with heap := h', toks := tk }) :
    wpAny (model P w) A (call (.type "dict") [.ref l]) Q E s := by
  generalize hN : s.heap.objs.size = N at *
  refine callType_codes (Q₁ := fun obj s₁ => obj = .ref N ∧ s₁ = { s with heap := s.heap.push { cls := .type "dict", data := .dict #[] } }) PySem.F.kt_called_dict (PySem.F.kt_typeCall_dict_1 _) PySem.F.entry_dict_init (kt_code_dict_new _ ⟨by rw [hN], rfl⟩) ?_
  rintro obj s₁ ⟨rfl, rfl⟩
  have hnew : (s.heap.push { cls := .type "dict", data := .dict #[] }).DictOfH (TK P w) N [] := hN ▸ Heap.DictOfH.new s.heap
  have k0 : ∀ b o, s.heap.get? b = some o → (s.heap.push { cls := .type "dict", data := .dict #[] }).get? b = some o := fun b o => Heap.get?_push_of_some _
  have eN : (s.heap.push { cls := .type "dict", data := .dict #[] }).get? N = some { cls := .type "dict", data := .dict #[] } := hN ▸ Heap.get?_push_size _ rfl
  refine ⟨hnew.typeIs, PySem.F.args_dict_init_2 _ _, ?_⟩
  unfold Builtin.«dict.__init__»
  refine wpAny_bind ?_
  unfold Builtin.Dict.selfAndRest
  refine wpAny_bind (wpAny_notOrdered_dict hnew.typeIs ?_)
  change wpAny _ _ (pure (N, [Value.ref l])) _ _ _
  refine wpAny_pure ?_
  change wpAny _ _ (Builtin.Dict.updateFrom "dict.__init__" N (.ref l) [] .none) _ _ _
  unfold Builtin.Dict.updateFrom
  refine wpAny_bind (wpAny_typeOf (T := "list") ⟨ol, k0 _ _ hl, hc⟩ ?_)
  rw [if_pos (by rfl)]
  refine wpAny_bind (miss_list (k0 _ _ hl) hc hdat hd hh fun h1 t1 hk1 => ?_)
  rw [if_pos (by rfl)]
  refine wpAny_bind (wpAny_rule ?_)
  have L1 : h1.IsList l vs := ⟨ol, hk1 _ _ (k0 _ _ hl), hc, n, hdat⟩
  have N1 : N < h1.objs.size := Heap.lt_size (hk1 _ _ eN)
  have lN : l < N := hN ▸ Heap.lt_size hl
  refine wpAny_bind (wpAny_pyIter_list L1 ?_)
  have k2 : ∀ b o, h1.get? b = some o → (h1.push { cls := .type "list_iterator", data := .fields #[.ref l, .int 0 0] }).get? b = some o := fun b o => Heap.get?_push_of_some _
  have all : ∀ b o, s.heap.get? b = some o → (h1.push { cls := .type "list_iterator", data := .fields #[.ref l, .int 0 0] }).get? b = some o := fun b o e => k2 _ _ (hk1 _ _ (k0 _ _ e))
  have tk_all : ∀ {k b}, (TK P w).is s.heap k b → (TK P w).is (h1.push { cls := .type "list_iterator", data := .fields #[.ref l, .int 0 0] }) k b := fun {k b} e => by
    obtain ⟨o, its, m, g1, g2⟩ := e
    exact ⟨o, its, m, all _ _ g1, g2⟩
  have dN : (h1.push { cls := .type "list_iterator", data := .fields #[.ref l, .int 0 0] }).DictOfH (TK P w) N [] := by
    obtain ⟨o, es, ep, g1, g2, g3, g4, g5, g6⟩ := hnew
    exact ⟨o, es, ep, k2 _ _ (hk1 _ _ g1), g2, g3, g4, fun y hy => absurd hy (by simp), g6⟩
  have key := updH (P := P) (w := w) (A := A.in1) (R := wants (fun r s₂ => r = .none ∧ Q (.ref N) s₂) E) (D := N) (J := h1.objs.size) (L := l) (vs := vs) (out := Value.none) hu hh
    (Nat.ne_of_lt (Nat.lt_trans lN N1)) (Nat.ne_of_lt N1) (Nat.ne_of_gt lN) prs 0 [] 0 0
    { s with heap := h1.push { cls := .type "list_iterator", data := .fields #[.ref l, .int 0 0] }, toks := t1 } (by rw [hsz, Nat.zero_add]) (by rw [List.length_nil, Nat.zero_add]; exact hln)
    (fun j q e => by
      obtain ⟨b, e1, e2, e3⟩ := ht j q e
      have hb : b < N := hN ▸ e2.lt
      exact ⟨b, by rw [Nat.zero_add]; exact e1, Nat.ne_of_lt hb, Nat.ne_of_lt (Nat.lt_trans hb N1), e2.keeps all, tk_all e3⟩)
    ⟨_, Heap.get?_push_size _ rfl, rfl, rfl⟩ (L1.at fun o e => k2 _ _ e) dN
    (fun h' tk hd' k => ⟨rfl, h h' tk hd' fun b o e => k b o (Nat.ne_of_lt (hN ▸ Heap.lt_size e)) (Nat.ne_of_lt (Nat.lt_trans (hN ▸ Heap.lt_size e) N1)) (all _ _ e)⟩)
  first
    | exact wpAny_pure ⟨plainId_quiet ud_plain _, key⟩
    | exact wpAny_bind (wpAny_pure (wpAny_pure ⟨plainId_quiet ud_plain _, key⟩))
end
def mrgT (kvs : List (List Key × V)) (more : List (List Key × V)) : List (List Key × V) := more.foldl (fun acc kv => putK acc kv.1 kv.2) kvs
theorem kt_mrg {H : Hp} : ∀ (more : List (List Key × V)) (rs : List (List Key × Addr × Value)) (kvs : List (List Key × V)) (xs : List (List Key × Addr × Value)), KT H more rs → KT H kvs xs → KT H (mrgT kvs more) (mrgH xs rs) := by
  intro more
  induction more with
  | nil => intro rs kvs xs r q; cases r; exact q
  | cons p ps ih =>
    intro rs kvs xs r q
    cases r with
    | @cons _ b _ bs h t =>
      have e : KT H (putK kvs p.1 p.2) (storedH xs b.1 b.2.1 b.2.2) := by
        have := q.put b.1 (b := b.2.1) (by rw [← h.1]; exact h.2.1) h.2.2
        rw [h.1]; exact this
      exact ih bs _ _ t e
theorem mrgT_len : ∀ (more kvs : List (List Key × V)), (mrgT kvs more).length ≤ kvs.length + more.length
  | [], kvs => by show kvs.length ≤ kvs.length + 0; omega
  | p :: r, kvs => by
    have h1 := mrgT_len r (putK kvs p.1 p.2)
    have h2 := length_putK kvs p.1 p.2
    show (mrgT (putK kvs p.1 p.2) r).length ≤ _
    rw [List.length_cons]; omega
section
variable {X : Cx}
theorem prsH_of {pins : List (Addr × Obj)} {σ : L2.St} {H : Hp} {s : Shared} (I : Inv X pins σ H s) : ∀ {ps : List Addr} {kvs : List (List Key × V)}, Paired (fun p kv => ∃ b, SqT X.K H p [.ref b, kv.2] ∧ H b = some (.tup (kv.1.map kV))) ps kvs →
    ∃ rs : List (List Key × Addr × Value), KT H kvs rs ∧ rs.length = ps.length ∧ ∀ (j : Nat) (q : List Key × Addr × Value), rs[j]? = some q → ∃ b : Addr, ps[j]? = some b ∧ IsTup s.heap b #[.ref q.2.1, q.2.2] ∧ (TK X.prog X.w).is s.heap q.1 q.2.1
  | _, _, .nil => ⟨[], .nil, rfl, fun j q e => by simp at e⟩
  | _, _, .cons (a := p) (b := kv) h t => by
    obtain ⟨rs, r, hl, hp⟩ := prsH_of I t
    obtain ⟨b, hq, hb⟩ := h
    obtain ⟨its, rv, ht, _⟩ := I.tuple hq
    obtain ⟨u, y, rfl, ru, ry⟩ := vals2 rv
    obtain rfl : u = Value.ref b := ru
    refine ⟨(kv.1, b, y) :: rs, .cons ⟨rfl, hb, ry⟩ r, by rw [List.length_cons, List.length_cons, hl], fun j q e => ?_⟩
    cases j with
    | zero =>
      cases (Option.some.inj e : (kv.1, b, y) = q)
      exact ⟨p, rfl, ht, key_of I.hok hb⟩
    | succ j =>
      obtain ⟨c, e1, e2⟩ := hp j q (by simpa using e)
      exact ⟨c, by simpa using e1, e2⟩
theorem call_dictPT (hc : X.calm = true) (hu : X.A.units + 2 < cLine) : CallR X (.type "dict") (fun xs H Q => ∃ (a : Addr) (ps : List Addr) (kvs : List (List Key × V)), xs = [.ref a] ∧ SqL X.K H a (ps.map V.ref) ∧ Paired (fun p kv => ∃ b, SqT X.K H p [.ref b, kv.2] ∧ H b = some (.tup (kv.1.map kV))) ps kvs ∧
    ∀ p, H p = none → Q (.ref p) (upd H p (.dT (mrgT [] kvs)))) := by
  intro pins s σ H xs us Q I r q
  obtain ⟨a, ps, kvs, rfl, hq, hp, q⟩ := q
  obtain ⟨u, rfl, rx⟩ := vals1 r
  cases rx
  obtain ⟨its, rv, pl, hz⟩ := I.list hq
  obtain rfl := refs_at rv
  rw [List.length_map] at hz
  obtain ⟨rs, rel, hl, hrs⟩ := prsH_of I hp
  obtain ⟨o, n, ho, hcl, hd, hdat⟩ := pl
  refine dict_prsH (prs := rs) hu (I.ok.hd hc) ho hcl hd hdat (by simp [hl]) (by rw [hl]; exact hz) (fun j q' e => ?_) fun h' tk hd' k => ?_
  · obtain ⟨b, e1, e2, e3⟩ := hrs j q' e
    exact ⟨b, by simp [e1], e2, e3⟩
  · have hm : (s.heap.objs.size == sysModules) = false := beq_eq_false_iff_ne.mpr (Nat.ne_of_gt I.big)
    have hlen : (mrgT [] kvs).length ≤ sizeLine := by
      refine Nat.le_trans (mrgT_len kvs []) ?_
      rw [List.length_nil, Nat.zero_add, Paired.length rel, hl]
      exact hz
    obtain ⟨q', es, ep, g1, g2, g3, g4, _, g6⟩ := hd'
    have hn := I.hok.fresh (Nat.le_refl s.heap.objs.size)
    refine ⟨.ref s.heap.objs.size, upd H s.heap.objs.size (.dT (mrgT [] kvs)), I.laid (t' := tk) k (Nat.le_refl _) ⟨hlen, hm, mrgH [] rs, (kt_mrg _ _ _ _ rel .nil).keeps fun c ys ec => ?_, q', es, ep, g1, g2, g3, g4, g6⟩, rfl, q _ hn⟩
    rw [upd_ne (fun z => by rw [z, hn] at ec; cases ec)]
    exact ec
end
end Rf

set_option Elab.async false
set_option linter.all false
set_option maxRecDepth 100000
set_option maxHeartbeats 1000000
namespace Rf
open PySem L2

/-! ## dicts, as data -/
def isK : D → Bool
  | .int _ | .str _ => true
  | _ => false
def keyB : Bool → D → Bool
  | true, .tup l => l.all isK
  | false, d => isK d
  | _, _ => false
def fndK (k : D) (ks : List D) : Option Nat := ks.findIdx? fun x => deq x k
def valD (ks l : List D) (k : D) : Option D := (fndK k ks).bind fun i => l[i]?
def putD (ks l : List D) (k v : D) : List D × List D := match fndK k ks with
  | some i => (ks, l.set i v)
  | none => (ks ++ [k], l ++ [v])
theorem str_of_list {a b : Str} (h : a.cps.toList = b.cps.toList) : a = b := by
  cases a; cases b
  simp at h
  subst h; rfl
theorem deq_key (a b : Key) : deq (keyD a) (keyD b) = decide (a = b) := by
  cases a with
  | inl i => cases b with
    | inl j =>
      by_cases h : i = j
      · subst h; simp [keyD, deq]
      · simp [keyD, deq, h]
    | inr y => simp [keyD, deq]
  | inr x => cases b with
    | inl j => simp [keyD, deq]
    | inr y =>
      by_cases h : x = y
      · subst h; simp [keyD, deq]
      · have : ¬ x.cps.toList = y.cps.toList := fun z => h (str_of_list z)
        have h2 : ¬ (Sum.inr x : Key) = Sum.inr y := fun z => h (by injection z)
        rw [decide_eq_false h2]
        simp only [keyD, deq]
        exact beq_eq_false_iff_ne.mpr this
theorem deqs_keys : ∀ a b : List Key, deqs (a.map keyD) (b.map keyD) = decide (a = b)
  | [], [] => by simp [deqs]
  | [], _ :: _ => by simp [deqs]
  | _ :: _, [] => by simp [deqs]
  | x :: a, y :: b => by
    simp only [List.map_cons, deqs, deq_key, deqs_keys a b]
    by_cases h : x = y <;> by_cases g : a = b <;> simp [h, g]
theorem deq_keyT (a b : List Key) : deq (keyT a) (keyT b) = decide (a = b) := by
  unfold keyT
  simp only [deq, deqs_keys]
section
variable {κ : Type} [DecidableEq κ]
theorem fnd_enc {enc : κ → D} (he : ∀ a b, deq (enc a) (enc b) = decide (a = b)) (k : κ) (kl : List κ) : fndK (enc k) (kl.map enc) = kl.findIdx? fun x => decide (x = k) := by
  unfold fndK
  induction kl with
  | nil => rfl
  | cons a r ih =>
    simp only [List.map_cons, List.findIdx?_cons, he, ih]
theorem val_zip (k : κ) : ∀ (kl : List κ) (vs : List V), kl.length = vs.length → valV (kl.zip vs) k = (kl.findIdx? fun x => decide (x = k)).bind fun i => vs[i]?
  | [], [], _ => rfl
  | a :: r, v :: vs, h => by
    have ih := val_zip k r vs (by simpa using h)
    rw [List.zip_cons_cons, List.findIdx?_cons]
    by_cases e : a = k
    · rw [valV_pos (p := (a, v)) e]; simp [e]
    · rw [valV_neg (p := (a, v)) e, ih]
      simp only [e, decide_false]
      cases r.findIdx? fun x => decide (x = k) with
      | none => rfl
      | some i => simp
theorem put_zip (k : κ) (y : V) : ∀ (kl : List κ) (vs : List V), kl.length = vs.length → kl.Nodup → putK (kl.zip vs) k y = match kl.findIdx? (fun x => decide (x = k)) with
    | some i => kl.zip (vs.set i y)
    | none => (kl ++ [k]).zip (vs ++ [y]) := by
  intro kl vs h nd
  unfold putK
  have any : ((kl.zip vs).any fun kv => decide (kv.1 = k)) = (kl.findIdx? fun x => decide (x = k)).isSome := by
    rw [valV_any, val_zip k kl vs h]
    cases e : kl.findIdx? fun x => decide (x = k) with
    | none => rfl
    | some i =>
      have hi : i < kl.length := (List.findIdx?_eq_some_iff_getElem.mp e).1
      simp [show i < vs.length by omega]
  rw [any]
  cases e : kl.findIdx? fun x => decide (x = k) with
  | none =>
    simp only [Option.isSome_none, Bool.false_eq_true, if_false]
    rw [List.zip_append h]; rfl
  | some i =>
    simp only [Option.isSome_some, if_true]
    clear any
    induction kl generalizing vs i with
    | nil => simp at e
    | cons a r ih =>
      cases vs with
      | nil => simp at h
      | cons v vs =>
        have nd' := List.nodup_cons.mp nd
        rw [List.findIdx?_cons] at e
        by_cases q : a = k
        · simp only [q, decide_true, if_true, Option.some.injEq] at e
          subst e
          subst q
          rw [List.zip_cons_cons, List.map_cons, List.set_cons_zero, List.zip_cons_cons]
          simp only [if_true]
          congr 1
          refine (List.map_congr_left fun p hp => ?_).trans (List.map_id _)
          have : p.1 ≠ a := fun z => nd'.1 (z ▸ (List.of_mem_zip hp).1)
          rw [if_neg this]; rfl
        · simp only [q, decide_false, Bool.false_eq_true, if_false] at e
          cases e2 : r.findIdx? fun x => decide (x = k) with
          | none => rw [e2] at e; cases e
          | some j =>
            rw [e2] at e
            simp only [Option.map_some, Option.some.injEq] at e
            subst e
            have := ih vs (by simpa using h) nd'.2 j e2
            rw [List.zip_cons_cons, List.map_cons, List.set_cons_succ, List.zip_cons_cons]
            simp only [q, if_false]
            rw [this]
end
theorem keys_rep {A : Ad} {w : Wd} : ∀ {kd : List D} {vs : List V}, Reps A w kd vs → kd.all isK = true → ∃ kk : List Key, kd = kk.map keyD ∧ vs = kk.map kV ∧ ∀ x ∈ kk, keyOk x
  | [], vs, h, _ => by simp only [Reps] at h; subst h; exact ⟨[], rfl, rfl, by simp⟩
  | d :: ds, vs, h, hk => by
    simp only [Reps] at h
    obtain ⟨v, r, rfl, h1, h2⟩ := h
    simp only [List.all_cons, Bool.and_eq_true] at hk
    obtain ⟨kk, rfl, rfl, q⟩ := keys_rep h2 hk.2
    cases d with
    | int i => exact ⟨.inl i :: kk, rfl, by rw [h1.int]; rfl, fun x hx => by rcases List.mem_cons.mp hx with rfl | hx; trivial; exact q x hx⟩
    | str s => exact ⟨.inr ⟨s.toArray⟩ :: kk, rfl, by rw [h1.str.1]; rfl, fun x hx => by rcases List.mem_cons.mp hx with rfl | hx; exact h1.str.2; exact q x hx⟩
    | _ => simp [isK] at hk
theorem rep_keys {A : Ad} {w : Wd} : ∀ {kk : List Key}, (∀ x ∈ kk, keyOk x) → Reps A w (kk.map keyD) (kk.map kV)
  | [], _ => .nil
  | .inl i :: r, h => .cons (rep_int i) (rep_keys fun x hx => h x (List.mem_cons_of_mem _ hx))
  | .inr s :: r, h => .cons (rep_str (h (.inr s) (List.mem_cons_self ..))) (rep_keys fun x hx => h x (List.mem_cons_of_mem _ hx))
/-- what stands at a dict -/
def AtD (A : Ad) (w : Wd) (t : Bool) (ks l : List D) (a : Addr) : Prop := ∃ vs o, w.H a = some o ∧ DObj t ks vs o ∧ Reps A w l vs
theorem RepP.dct {A : Ad} {w : Wd} {t : Bool} {ks l : List D} {v : V} (h : RepP A w (.dct t ks l) v) : ∃ a, v = .ref a ∧ AtD A w t ks l a := by
  rcases h with h | ⟨a, h1, _, _, vs, o, h3, h4, h5⟩
  · obtain ⟨a, vs, o, h1, _, h3, h4, h5⟩ := h.dct
    exact ⟨a, h1, vs, o, h3, h4, h5⟩
  · exact ⟨a, h1, vs, o, h3, h4, h5⟩
theorem AtD.isD {A : Ad} {w : Wd} {t : Bool} {ks l : List D} {a : Addr} (h : AtD A w t ks l a) : IsD w.H a := by
  obtain ⟨vs, o, h1, h2, _⟩ := h
  cases t with
  | true => obtain ⟨kl, _, _, _, _, _, rfl⟩ := h2; exact .inr ⟨_, .inl h1⟩
  | false => obtain ⟨kl, _, _, _, _, _, rfl⟩ := h2; exact .inl ⟨_, .inl h1⟩
/-- a key, as an abstract value -/
inductive KeyAt (A : Ad) (w : Wd) : Bool → D → V → Prop where
  | t (kk : List Key) (b : Addr) : w.H b = some (.tup (kk.map kV)) → kk.length ≤ sizeLine → (∀ x ∈ kk, keyOk x) → KeyAt A w true (keyT kk) (.ref b)
  | k (x : Key) : keyOk x → KeyAt A w false (keyD x) (kV x)
theorem key_at {A : Ad} {w : Wd} {t : Bool} {k : D} {v : V} (h : Rep A w k v) (hb : keyB t k = true) : KeyAt A w t k v := by
  cases t with
  | true =>
    cases k with
    | tup l =>
      obtain ⟨b, vs, rfl, h1, h2⟩ := h.tup
      obtain ⟨kk, rfl, rfl, q⟩ := keys_rep h2 hb
      exact .t kk b h1.2.2 (by have := h1.1; rwa [List.length_map] at this) q
    | _ => cases hb
  | false =>
    have hb' : isK k = true := hb
    obtain ⟨kk, e1, e2, q⟩ := keys_rep (Reps.one h) (by simp [hb'])
    match kk, e1, e2, q with
    | [x], e1, e2, q =>
      injection e1 with e1 _
      injection e2 with e2 _
      rw [e1, e2]
      exact .k x (q x (by simp))
theorem dct_get {A : Ad} {w : Wd} {t : Bool} {ks l : List D} {a : Addr} {k : D} {v : V} (h : AtD A w t ks l a) (hk : KeyAt A w t k v) :
    ∃ r : Option V, DGet w.H a v r ∧ r.isSome = (valD ks l k).isSome ∧ (valD ks l k = none → r = none) ∧ ∀ d, valD ks l k = some d → ∃ u, r = some u ∧ Rep A w d u := by
  obtain ⟨vs, o, h1, h2, h3⟩ := h
  have fin : ∀ (i : Option Nat) (r : Option V), r = i.bind (fun i => vs[i]?) → valD ks l k = i.bind (fun i => l[i]?) → r.isSome = (valD ks l k).isSome ∧ (valD ks l k = none → r = none) ∧ ∀ d, valD ks l k = some d → ∃ u, r = some u ∧ Rep A w d u := by
    intro i r e1 e2
    have hl := h3.length
    cases i with
    | none => rw [e1, e2]; exact ⟨rfl, fun _ => rfl, fun d q => by cases q⟩
    | some i =>
      simp only [Option.bind_some] at e1 e2
      rw [e1, e2]
      by_cases hi : i < l.length
      · obtain ⟨u, g1, g2⟩ := h3.get (i := i) (d := l[i]) (by simp [hi])
        rw [g1, List.getElem?_eq_getElem hi]
        exact ⟨rfl, fun q => (by cases q), fun d q => by cases q; exact ⟨u, rfl, g2⟩⟩
      · rw [List.getElem?_eq_none (by omega), List.getElem?_eq_none (by omega)]
        exact ⟨rfl, fun _ => rfl, fun d q => by cases q⟩
  cases hk with
  | t kk b e1 _ _ =>
    obtain ⟨kl, rfl, g1, g2, g3, g4, rfl⟩ := h2
    refine ⟨_, DGet.t h1 e1, ?_⟩
    exact fin _ _ (val_zip kk kl vs g1) (by unfold valD; rw [fnd_enc deq_keyT])
  | k x e1 =>
    obtain ⟨kl, rfl, g1, g2, g3, g4, rfl⟩ := h2
    refine ⟨_, DGet.k h1, ?_⟩
    exact fin _ _ (val_zip x kl vs g1) (by unfold valD; rw [fnd_enc deq_key])
theorem Room.u1 {k : Nat} {A : Around} (r : Room k A) : A.units + 2 < cLine := by have := r.un; omega
theorem noSl {i : Expr} (h : plainI i = true) : NoSl i := by
  intro ov iv
  cases i <;> first | rfl | cases h
/-- d[k] -/
def fDIx (x k : D) : Option D := match x with
  | .dct t ks l => if keyB t k then valD ks l k else none
  | _ => none
def cDIx (d : BP) (k : BE) : BE where
  den F r := bnd (d.den F r) fun x => bnd (k.den F r) fun y => opt (fDIx x y)
  chk I N sc e := match e with
    | .Subscript x y _ => plainI y && d.chk I N sc x && k.chk I N sc y
    | _ => false
  snd {A k F X W} C e h := by
    split at h
    · simp only [Bool.and_eq_true] at h
      refine (pe_dget (Nat.lt_of_succ_lt (Room.u1 C.room)) (d.snd C h.1.2) (BE.snd _ C h.2) (noSl h.1.1)).imp fun t H Q q => ?_
      obtain ⟨w, r, st, rfl, hr, hs, hp⟩ := q
      refine step (R := RDP A) (f := fun x r => bnd (BE.den _ F r) fun y => opt (fDIx x y)) (.refl w) hr hs hp fun w1 st1 a x hr1 hs1 e1 rx hp1 => ?_
      refine step (R := RD A) (f := fun y _ => opt (fDIx a y)) e1 hr1 hs1 hp1 fun w2 st2 b y hr2 hs2 e2 ry hp2 => ?_
      obtain ⟨d, e, hq⟩ := opt_post hp2
      unfold fDIx at e
      split at e
      · split at e
        · rename_i kb
          obtain ⟨p, rfl, hd⟩ := (rx.mono hs1.wf e2).dct
          obtain ⟨o, g1, _, _, g3⟩ := dct_get hd (key_at ry kb)
          obtain ⟨u, rfl, g4⟩ := g3 _ e
          exact ⟨p, u, rfl, g1, hq w2 u (e1.trans e2) hs2 g4⟩
        · cases e
      · cases e
    · cases h
/-- k in d, k not in d -/
def fDIn (neg : Bool) (y x : D) : Option D := match x with
  | .dct t ks l => if keyB t y then some (.bl ((valD ks l y).isSome != neg)) else none
  | _ => none
theorem fDIn_bl {neg : Bool} {y x d : D} (h : fDIn neg y x = some d) : ∃ b, d = .bl b := by
  unfold fDIn at h
  split at h
  · split at h
    · cases h; exact ⟨_, rfl⟩
    · cases h
  · cases h
def dinChk (neg : Bool) (k : BE) (d : BP) (I : Info) (N : List Str) (sc : Scope) (e : Expr) : Bool := match e with
  | .Compare x [op] [y] _ => decide (op = if neg then .NotIn else .In) && notSet y && k.chk I N sc x && d.chk I N sc y
  | _ => false
def dDIn (neg : Bool) (k d : En → M D) : En → M D := bndE k fun y => bndE d fun x _ => opt (fDIn neg y x)
theorem din_ok {A : Ad} {W : WX} {t : St} {H : Hp} {Q : VK} {k d : En → M D} (neg : Bool) (h : LE A W (dDIn neg k d) t H Q) :
    LE A W k t H fun y H1 => LEP A W d t H1 fun x H2 => ∃ a o, x = .ref a ∧ DGet H2 a y o ∧ Q (.bl (o.isSome != neg)) H2 := by
  obtain ⟨w, r, st, rfl, hr, hs, hp⟩ := h
  refine step (R := RD A) (.refl w) hr hs hp fun w1 st1 y vy hr1 hs1 e1 ry hp1 => ?_
  refine step (R := RDP A) e1 hr1 hs1 hp1 fun w2 st2 x vx hr2 hs2 e2 rx hp2 => ?_
  obtain ⟨d', e, hq⟩ := opt_post hp2
  unfold fDIn at e
  split at e
  · split at e
    · rename_i kb
      cases e
      obtain ⟨p, rfl, hd⟩ := rx.dct
      obtain ⟨o, g1, g2, _⟩ := dct_get hd (key_at (ry.mono hs1.wf e2) kb)
      exact ⟨p, o, rfl, g1, by rw [g2]; exact hq w2 _ (e1.trans e2) hs2 (rep_bl _)⟩
    · cases e
  · cases e
def cDIn (neg : Bool) (k : BE) (d : BP) : BE where
  den F := dDIn neg (k.den F) (d.den F)
  chk := dinChk neg k d
  snd {A n F X W} C e h := by
    unfold dinChk at h
    split at h
    · simp only [Bool.and_eq_true, decide_eq_true_eq] at h
      obtain ⟨⟨⟨h1, h2⟩, h3⟩, h4⟩ := h
      subst h1
      have hu : X.A.units + 1 < cLine := Nat.lt_of_succ_lt (Room.u1 C.room)
      cases neg with
      | true => exact (pe_cmp (pc_dnotin hu (k.snd C h3) (d.snd C h4)) (notSet_ok h2)).imp fun t H Q q => by simpa [tDNotIn] using din_ok true q
      | false => exact (pe_cmp (pc_din hu (k.snd C h3) (d.snd C h4)) (notSet_ok h2)).imp fun t H Q q => by simpa [tDIn] using din_ok false q
    · cases h
/-- d.get(k) -/
def fDGet (x k : D) : Option D := match x with
  | .dct t ks l => if keyB t k then some ((valD ks l k).getD .non) else none
  | _ => none
def isDct : D → Bool
  | .dct _ _ _ => true
  | _ => false
def cDGet (d : BP) (k : BE) : BE where
  den F r := bnd (d.den F r) fun x => if isDct x then bnd (k.den F r) fun y => opt (fDGet x y) else fun _ => .bad
  chk I N sc e := match methB "get" e with
    | some (o, x) => d.chk I N sc o && k.chk I N sc x
    | none => false
  snd {A k F X W} C e h := by
    split at h
    · rename_i o x hm
      obtain ⟨apos, pos, rfl, hl, hs, hn⟩ := methB_ok hm
      simp only [Bool.and_eq_true] at h
      refine (pe_dget1 (Nat.lt_of_succ_lt (Room.u1 C.room)) (d.snd C h.1) (BE.snd _ C h.2) ⟨base_ok hs, by rw [star_cons hn]; rfl, hl, by rw [star_cons hn]; rfl⟩).imp fun t H Q q => ?_
      obtain ⟨w, r, st, rfl, hr, hs, hp⟩ := q
      refine step (R := RDP A) (f := fun x r => if isDct x then bnd (BE.den _ F r) fun y => opt (fDGet x y) else fun _ => .bad) (.refl w) hr hs hp fun w1 st1 a x hr1 hs1 e1 rx hp1 => ?_
      cases a with
      | dct t ks l =>
        obtain ⟨p, rfl, hd⟩ := rx.dct
        refine ⟨p, rfl, hd.isD, ?_⟩
        refine step (R := RD A) (f := fun y _ => opt (fDGet (.dct t ks l) y)) e1 hr1 hs1 hp1 fun w2 st2 b y hr2 hs2 e2 ry hp2 => ?_
        obtain ⟨d, e, hq⟩ := opt_post hp2
        unfold fDGet at e
        simp only at e
        split at e
        · rename_i kb
          cases e
          obtain ⟨p', e5, hd'⟩ := (rx.mono hs1.wf e2).dct
          cases e5
          obtain ⟨o, g1, _, g2, g3⟩ := dct_get hd' (key_at ry kb)
          refine ⟨o, g1, ?_⟩
          cases ev : valD ks l b with
          | none => rw [ev] at hq; rw [g2 ev]; exact hq w2 _ (e1.trans e2) hs2 rep_non
          | some z =>
            rw [ev] at hq
            obtain ⟨u, rfl, g4⟩ := g3 z ev
            exact hq w2 _ (e1.trans e2) hs2 g4
        · cases e
      | _ => exact hp1.elim
    · cases h

/-! ## new dicts -/
theorem dobj_nil (t : Bool) : DObj t [] [] (if t then .dT [] else .dK []) := by
  cases t
  · exact ⟨[], rfl, rfl, by simp, List.nodup_nil, by simp, rfl⟩
  · exact ⟨[], rfl, rfl, by simp, List.nodup_nil, by simp, rfl⟩
/-- {} -/
def fDict0 (t : Bool) : BF where
  den _ _ := ret (.dct t [] [])
  chk _ _ _ e := match e with
    | .Dict [] [] _ => true
    | _ => false
  snd {A k F X W} C e h := by
    split at h
    · have go : ∀ {t' : St} {H : Hp} {Q : VK} (o : HO), noT o → DObj t [] [] o → LF A W (fun _ => ret (.dct t [] [])) t' H Q → ∀ p, H p = none → Q (.ref p) (upd H p o) := by
        rintro t' H Q o no ho ⟨w, r, st, rfl, hr, hs, hp⟩ p np
        exact hp (w.raw p o) _ (ext_raw np) (hs.raw np no) ⟨p, rfl, np, fun q => (hs.wf.s p q).1 np, fun q => hs.wf.m p q np, [], o, upd_same, ho, .nil⟩
      cases t with
      | true => exact pe_dnewT.imp fun t H Q q => go (.dT []) True.intro (dobj_nil true) q
      | false => exact pe_dnewK.imp fun t H Q q => go (.dK []) True.intro (dobj_nil false) q
    · cases h
/-- {k: v}, the key a tuple -/
def fD1 (x y : D) : Option D := if keyB true x then some (.dct true [x] [y]) else none
def fDict1 (k v : BE) : BF where
  den F r := bnd (k.den F r) fun x => bnd (v.den F r) fun y => opt (fD1 x y)
  chk I N sc e := match e with
    | .Dict [some x] [y] _ => k.chk I N sc x && v.chk I N sc y
    | _ => false
  snd {A n F X W} C e h := by
    split at h
    · simp only [Bool.and_eq_true] at h
      refine (pe_disp1T (Nat.lt_of_succ_lt (Room.u1 C.room)) (k.snd C h.1) (v.snd C h.2)).imp fun t H Q q => ?_
      obtain ⟨w, r, st, rfl, hr, hs, hp⟩ := q
      intro p np
      have ex0 := ext_raw (o := .dT []) np
      have hs0 : SRel A (w.raw p (.dT [])) st := hs.raw np
      have nS0 : ¬ (w.raw p (.dT [])).S p := fun q => (hs.wf.s p q).1 np
      have nM0 : p ∉ (w.raw p (.dT [])).mu := fun q => hs.wf.m p q np
      have t0 : (w.raw p (.dT [])).H p = some (.dT []) := upd_same
      refine step (R := RD A) (f := fun x r => bnd (v.den F r) fun y => opt (fD1 x y)) ex0 (hr.mono hs.wf ex0) hs0 hp fun w1 st1 a x hr1 hs1 e1 rx hp1 => ?_
      refine step (R := RD A) (f := fun y _ => opt (fD1 a y)) (ex0.trans e1) hr1 hs1 hp1 fun w2 st2 b y hr2 hs2 e2 ry hp2 => ?_
      obtain ⟨d, e, hq⟩ := opt_post hp2
      unfold fD1 at e
      split at e
      · rename_i kb
        cases e
        have t1 : w1.H p = some (.dT []) := (e1.keep p (by rw [t0]; simp) nM0).trans t0
        have nM1 := e1.nmu (by rw [t0]; simp) nM0
        have nS1 : ¬ w1.S p := fun q => (e1.sn p q).elim nS0 fun z => by rw [t0] at z; cases z
        have t2 : w2.H p = some (.dT []) := (e2.keep p (by rw [t1]; simp) nM1).trans t1
        have nM2 := e2.nmu (by rw [t1]; simp) nM1
        have nS2 : ¬ w2.S p := fun q => (e2.sn p q).elim nS1 fun z => by rw [t1] at z; cases z
        cases key_at (rx.mono hs1.wf e2) kb with
        | t kk bb g1 g2 g3 =>
          have ex3 : Ext w (w2.raw p (.dT [(kk, y)])) := ext_put ((ex0.trans e1).trans e2) np
          exact ⟨bb, kk, rfl, t2, g1, hq (w2.raw p _) _ ex3 (srel_put hs2 nS2 nM2) ⟨p, rfl, np, nS2, nM2, [y], _, upd_same, ⟨[kk], rfl, rfl, by rw [sizeLine_eq]; show 1 ≤ _; omega, by simp, by simpa using ⟨g2, g3⟩, rfl⟩, .one (ry.le (le_put nS2))⟩⟩
      · cases e
    · cases h
/-! ## a dict that a slot owns -/
def ownD (r : En) (i : Nat) : Option (Bool × List D × List D) := match r[i]? with
  | some (.own (.dct t ks l)) => some (t, ks, l)
  | _ => none
theorem ownD_eq {r : En} {i : Nat} {z : Bool × List D × List D} (h : ownD r i = some z) : r[i]? = some (.own (.dct z.1 z.2.1 z.2.2)) := by
  unfold ownD at h
  split at h
  · cases h; assumption
  · cases h
theorem fnd_lt {k : D} {ks : List D} {i : Nat} (h : fndK k ks = some i) : i < ks.length := (List.findIdx?_eq_some_iff_getElem.mp h).1
theorem find_none {α : Type} {p : α → Bool} {l : List α} (h : l.findIdx? p = none) : ∀ x ∈ l, p x = false := by
  simpa [List.findIdx?_eq_none_iff] using h
/-- what stands there behind d[k] = v -/
theorem dct_put {A : Ad} {w : Wd} {t : Bool} {ks l : List D} {a : Addr} {k d : D} {v y : V} (h : AtD A w t ks l a) (nS : ¬ w.S a) (hk : KeyAt A w t k v) (hy : Rep A w d y) (hl : l.length < sizeLine) :
    ∃ o, DPut w.H a v y (upd w.H a o) ∧ Top A (w.raw a o) (.dct t (putD ks l k d).1 (putD ks l k d).2) a := by
  obtain ⟨vs, o, h1, h2, h3⟩ := h
  have lv := h3.length
  cases hk with
  | t kk b e1 z1 z2 =>
    obtain ⟨kl, rfl, g1, g2, g3, g4, rfl⟩ := h2
    refine ⟨_, DPut.t h1 e1 (by rw [List.length_zip]; omega), ?_⟩
    rw [put_zip kk y kl vs g1 g3]
    unfold putD
    rw [fnd_enc deq_keyT]
    cases e : kl.findIdx? fun x => decide (x = kk) with
    | some i => exact ⟨_, _, upd_same, ⟨kl, rfl, by rw [List.length_set]; exact g1, by rw [List.length_set]; exact g2, g3, g4, rfl⟩, (Reps.set hy i h3).le (le_put nS)⟩
    | none =>
      have hn : kk ∉ kl := fun z => by have := find_none e kk z; simp at this
      refine ⟨_, _, upd_same, ⟨kl ++ [kk], by simp, by simp [g1], by rw [List.length_append]; show vs.length + 1 ≤ _; omega, ?_, ?_, rfl⟩, (h3.append (.one hy)).le (le_put nS)⟩
      · exact List.nodup_append.mpr ⟨g3, by simp, fun x hx y hy' => by rw [List.mem_singleton.mp hy']; rintro rfl; exact hn hx⟩
      · intro x hx
        rcases List.mem_append.mp hx with hx | hx
        · exact g4 x hx
        · rw [List.mem_singleton.mp hx]; exact ⟨z1, z2⟩
  | k kk z1 =>
    obtain ⟨kl, rfl, g1, g2, g3, g4, rfl⟩ := h2
    refine ⟨_, DPut.k h1 (by rw [List.length_zip]; omega), ?_⟩
    rw [put_zip kk y kl vs g1 g3]
    unfold putD
    rw [fnd_enc deq_key]
    cases e : kl.findIdx? fun x => decide (x = kk) with
    | some i => exact ⟨_, _, upd_same, ⟨kl, rfl, by rw [List.length_set]; exact g1, by rw [List.length_set]; exact g2, g3, g4, rfl⟩, (Reps.set hy i h3).le (le_put nS)⟩
    | none =>
      have hn : kk ∉ kl := fun z => by have := find_none e kk z; simp at this
      refine ⟨_, _, upd_same, ⟨kl ++ [kk], by simp, by simp [g1], by rw [List.length_append]; show vs.length + 1 ≤ _; omega, ?_, ?_, rfl⟩, (h3.append (.one hy)).le (le_put nS)⟩
      · exact List.nodup_append.mpr ⟨g3, by simp, fun x hx y hy' => by rw [List.mem_singleton.mp hy']; rintro rfl; exact hn hx⟩
      · intro x hx
        rcases List.mem_append.mp hx with hx | hx
        · exact g4 x hx
        · rw [List.mem_singleton.mp hx]; exact z1
/-- d[k] = v, d owned by the slot i -/
def sDPut (i : Nat) (k v : BE) : BS where
  den F r := bnd (v.den F r) fun y => bnd (opt (ownD r i)) fun z => bnd (k.den F r) fun x => bnd (opt (if keyB z.1 x && decide (z.2.2.length < sizeLine) then some () else none)) fun _ =>
    ret (.nx (r.set i (.own (.dct z.1 (putD z.2.1 z.2.2 x y).1 (putD z.2.1 z.2.2 x y).2))))
  chk I N sc s := match s with
    | .Assign [.Subscript o x _] e _ => varB N sc i o && plainI x && noComp e && k.chk I N sc x && v.chk I N sc e
    | _ => false
  snd {A n F X W} C s h w0 := by
    split at h
    · rename_i o x pos' e pos
      simp only [Bool.and_eq_true] at h
      obtain ⟨⟨⟨⟨h1, h2⟩, h3⟩, h4⟩, h5⟩ := h
      obtain ⟨hv, _, _⟩ := varB_ok h1
      refine (ps_dput (Nat.lt_of_succ_lt (Room.u1 C.c.room)) hv (k.snd C.c h4) (v.snd C.c h5) (noComp_ok h3 _ _ _)).imp fun E t H q => ?_
      obtain ⟨w, r, st, rfl, fr, hp⟩ := q
      refine stepS (R := RD A) (f := fun y => bnd (opt (ownD r i)) fun z => bnd (k.den F r) fun x => bnd (opt (if keyB z.1 x && decide (z.2.2.length < sizeLine) then some () else none)) fun _ =>
        ret (.nx (r.set i (.own (.dct z.1 (putD z.2.1 z.2.2 x y).1 (putD z.2.1 z.2.2 x y).2))))) fr hp fun w1 st1 d y fr1 e1 ry l1 hp1 => ?_
      obtain ⟨z, ez, hp2⟩ := postS_opt hp1
      have er := ownD_eq ez
      obtain ⟨a, ht, nS, nM, ⟨vs, o', hd, _⟩, h0⟩ := fr1.own er
      refine ⟨_, ht, ?_⟩
      refine stepS (R := RD A) fr1 hp2 fun w2 st2 x vx fr2 e2 rx l2 hp3 => ?_
      obtain ⟨_, ec, hp4⟩ := postS_opt hp3
      split at ec
      · rename_i hc
        simp only [Bool.and_eq_true, decide_eq_true_eq] at hc
        obtain ⟨a2, ht2, nS2, nM2, hT2, _⟩ := fr2.own er
        rw [ht] at ht2
        cases ht2
        obtain ⟨o2, g1, g2⟩ := dct_put (k := x) (d := d) (y := y) hT2 nS2 (key_at rx hc.1) (ry.mono fr1.sr.wf e2) hc.2
        exact ⟨a, _, rfl, g1, hp4 (w2.raw a o2) t (le_put nS2) (fr2.putOwn er ht g2)⟩
      · cases ec
    · cases h
end Rf

set_option Elab.async false
set_option linter.all false
set_option maxRecDepth 100000
set_option maxHeartbeats 1000000
namespace Rf
open PySem L2

/-! ## list(d), len(d), dict(pairs) -/
theorem reps_tkeys {A : Ad} {w : Wd} (x : Wf w) : ∀ (kl : List (List Key)) (vs : List V) (bs : List Addr), kl.length = vs.length → (∀ k ∈ kl, k.length ≤ sizeLine ∧ ∀ x ∈ k, keyOk x) → IsKeys w.H (kl.zip vs) bs → Reps A w (kl.map keyT) (bs.map V.ref)
  | [], _, bs, _, _, h => by cases h; exact .nil
  | k :: kl, v :: vs, _, hl, hk, h => by
    cases h with
    | @cons _ b _ bs h1 h2 =>
      refine .cons ?_ (reps_tkeys x kl vs bs (by simpa using hl) (fun k hk' => hk k (List.mem_cons_of_mem _ hk')) h2)
      unfold keyT
      simp only [Rep]
      obtain ⟨g1, g2⟩ := hk k (List.mem_cons_self ..)
      exact ⟨b, k.map kV, rfl, ⟨by rw [List.length_map]; exact g1, x.t _ _ h1, h1⟩, rep_keys g2⟩
  | _ :: _, [], _, hl, _, _ => by simp at hl
def fListD : List D → Option D
  | [.dct _ ks _] => some (.lst ks)
  | _ => none
def bListD : BiF where
  n := 5
  tv := .type "list"
  f := keepSt fListD
  tgt := .t _ rfl
  boot := by decide +kernel
  ok := by decide +kernel
  imp {A k F X W} C := by
    refine ⟨_, CallR.or (call_list_dT C.calm) (call_list_dK C.calm), .keep fun w st l xs d Q hs rp e q => ?_⟩
    unfold fListD at e
    split at e <;> cases e
    rename_i t ks l
    obtain ⟨v, rfl, h⟩ := rp.one'
    obtain ⟨p, rfl, vs, o, h1, h2, h3⟩ := h.dct
    cases t with
    | true =>
      obtain ⟨kl, rfl, g1, g2, g3, g4, rfl⟩ := h2
      refine .inl ⟨p, _, rfl, .inl h1, fun a bs ha hb => q (w.raw a _) (.ref a) (ext_raw ha) (hs.raw ha) (top_lst hs.wf ha ?_ (reps_tkeys hs.wf kl vs bs g1 g4 hb))⟩
      have := Paired.length hb
      rw [List.length_zip] at this
      rw [List.length_map]; omega
    | false =>
      obtain ⟨kl, rfl, g1, g2, g3, g4, rfl⟩ := h2
      refine .inr ⟨p, _, rfl, h1, fun a ha => ?_⟩
      have em : ((kl.zip vs).map fun kv => kV kv.1) = kl.map kV := by
        rw [show (fun kv : Key × V => kV kv.1) = kV ∘ Prod.fst from rfl, ← List.map_map, List.map_fst_zip (by omega)]
      rw [em]
      exact q (w.raw a _) (.ref a) (ext_raw ha) (hs.raw ha) (top_lst hs.wf ha (by rw [List.length_map]; omega) (rep_keys g4))
def fLenD : List D → Option D
  | [.dct _ _ l] => some (.int l.length)
  | _ => none
def bLenD : Bi where
  n := 0
  tv := .builtin "len"
  f := keepSt fLenD
  tgt := .b _ rfl
  boot := by decide +kernel
  ok := by decide +kernel
  imp {A k F X W} C := by
    refine ⟨_, CallR.or call_len_dT call_lenD, .keep fun w st l xs d Q hs rp e q => ?_⟩
    unfold fLenD at e
    split at e <;> cases e
    rename_i t ks l
    obtain ⟨v, rfl, h⟩ := rp.one'
    obtain ⟨p, rfl, vs, o, h1, h2, h3⟩ := h.dct
    have hl := h3.length
    have q' := q w _ (.refl w) hs (rep_int l.length)
    cases t with
    | true =>
      obtain ⟨kl, rfl, g1, g2, g3, g4, rfl⟩ := h2
      have e : (kl.zip vs).length = l.length := by rw [List.length_zip]; omega
      exact .inl ⟨p, _, rfl, h1, by rw [e]; exact q'⟩
    | false =>
      obtain ⟨kl, rfl, g1, g2, g3, g4, rfl⟩ := h2
      have e : (kl.zip vs).length = l.length := by rw [List.length_zip]; omega
      exact .inr ⟨p, _, rfl, h1, by rw [e]; exact q'⟩
def prsD : List D → List D → List D → Option (List D × List D)
  | [], ks, l => some (ks, l)
  | .tup [k, v] :: r, ks, l => if keyB true k then prsD r (putD ks l k v).1 (putD ks l k v).2 else none
  | _, _, _ => none
def fDictP : List D → Option D
  | [.lst prs] => (prsD prs [] []).map fun z => .dct true z.1 z.2
  | _ => none
theorem dobj_put {A : Ad} {w : Wd} {ks l : List D} {vs : List V} {m : List (List Key × V)} {kk : List Key} {d : D} {y : V} (h : DObj true ks vs (.dT m)) (hl : Reps A w l vs) (z1 : kk.length ≤ sizeLine) (z2 : ∀ x ∈ kk, keyOk x) (hy : Rep A w d y) (hz : vs.length < sizeLine) :
    ∃ vs', vs'.length ≤ vs.length + 1 ∧ DObj true (putD ks l (keyT kk) d).1 vs' (.dT (putK m kk y)) ∧ Reps A w (putD ks l (keyT kk) d).2 vs' := by
  obtain ⟨kl, rfl, g1, g2, g3, g4, e⟩ := h
  cases e
  rw [put_zip kk y kl vs g1 g3]
  unfold putD
  rw [fnd_enc deq_keyT]
  cases e : kl.findIdx? fun x => decide (x = kk) with
  | some i => exact ⟨vs.set i y, by simp, ⟨kl, rfl, by rw [List.length_set]; exact g1, by rw [List.length_set]; exact g2, g3, g4, rfl⟩, Reps.set hy i hl⟩
  | none =>
    have hn : kk ∉ kl := fun z => by have := find_none e kk z; simp at this
    refine ⟨vs ++ [y], by simp, ⟨kl ++ [kk], by simp, by simp [g1], by rw [List.length_append]; show vs.length + 1 ≤ _; omega, ?_, ?_, rfl⟩, hl.append (.one hy)⟩
    · exact List.nodup_append.mpr ⟨g3, by simp, fun x hx y hy' => by rw [List.mem_singleton.mp hy']; rintro rfl; exact hn hx⟩
    · intro x hx
      rcases List.mem_append.mp hx with hx | hx
      · exact g4 x hx
      · rw [List.mem_singleton.mp hx]; exact ⟨z1, z2⟩
theorem prs_ok {A : Ad} {w : Wd} : ∀ (prs : List D) (us : List V) (ks l : List D) (vs : List V) (m : List (List Key × V)) (z : List D × List D), Reps A w prs us → DObj true ks vs (.dT m) → Reps A w l vs → vs.length + prs.length ≤ sizeLine → prsD prs ks l = some z →
    ∃ (ps : List Addr) (kvs : List (List Key × V)) (vs' : List V), us = ps.map V.ref ∧ Paired (fun p kv => ∃ b, SqT A.K w.H p [.ref b, kv.2] ∧ w.H b = some (.tup (kv.1.map kV))) ps kvs ∧ DObj true z.1 vs' (.dT (mrgT m kvs)) ∧ Reps A w z.2 vs'
  | [], us, ks, l, vs, m, z, h, hd, hl, _, e => by
    simp only [Reps] at h
    subst h
    cases e
    exact ⟨[], [], vs, rfl, .nil, hd, hl⟩
  | x :: r, us, ks, l, vs, m, z, h, hd, hl, hz, e => by
    simp only [Reps] at h
    obtain ⟨u, us, rfl, h1, h2⟩ := h
    unfold prsD at e
    split at e
    · rename_i hh; exact absurd hh (by simp)
    · rename_i k v r' e1
      cases e1
      split at e
      · rename_i kb
        obtain ⟨p, ws, rfl, t1, t2⟩ := h1.tup
        simp only [Reps] at t2
        obtain ⟨xk, _, rfl, rk, xv, _, rfl, rv, rfl⟩ := t2
        cases key_at rk kb with
        | t kk b e2 z1 z2 =>
          simp only [List.length_cons] at hz
          obtain ⟨vs2, q0, q1, q2⟩ := dobj_put (A := A) (w := w) hd hl z1 z2 rv (by omega)
          obtain ⟨ps, kvs, vs3, rfl, q3, q4, q5⟩ := prs_ok r us _ _ vs2 (putK m kk xv) z h2 q1 q2 (by omega) e
          exact ⟨p :: ps, (kk, xv) :: kvs, vs3, rfl, .cons ⟨b, t1.seq, e2⟩ q3, q4, q5⟩
      · cases e
    · cases e
def bDictP : BiF where
  n := 15
  tv := .type "dict"
  f := keepSt fDictP
  tgt := .t _ rfl
  boot := by decide +kernel
  ok := by decide +kernel
  imp {A k F X W} C := by
    refine ⟨_, call_dictPT C.calm (Room.u1 C.room), .keep fun w st l xs d Q hs rp e q => ?_⟩
    unfold fDictP at e
    split at e
    · rename_i prs
      simp only [Option.map_eq_some_iff] at e
      obtain ⟨z, e1, rfl⟩ := e
      obtain ⟨v, rfl, h⟩ := rp.one'
      obtain ⟨p, vs, rfl, h1, h2⟩ := h.lst
      have hl := h2.length
      have hz := h1.1
      obtain ⟨ps, kvs, vs', rfl, q3, q4, q5⟩ := prs_ok (A := A) prs vs [] [] [] [] z h2 (dobj_nil true) .nil (by simp; omega) e1
      refine ⟨p, ps, kvs, rfl, by rw [C.hK]; exact h1.seq, by rw [C.hK]; exact q3, fun a ha => q (w.raw a _) (.ref a) (ext_raw ha) (hs.raw ha) ?_⟩
      exact ⟨a, rfl, ha, fun q => (hs.wf.s a q).1 ha, fun q => hs.wf.m a q ha, vs', _, upd_same, q4, q5.mono hs.wf (ext_raw ha)⟩
    · cases e

/-! ## xs.extend(ys) -/
def sExt (i : Nat) (b : BE) : BS where
  den F r := bnd (opt (ownL r i)) fun l => bnd (b.den F r) fun d => bnd (opt (match d with
    | .lst l' => if l.length + l'.length ≤ sizeLine then some l' else none
    | _ => none)) fun l' => ret (.nx (r.set i (.own (.lst (l ++ l')))))
  chk I N sc s := match s with
    | .Expr e _ => (match methB "extend" e with
      | some (o, a) => varB N sc i o && b.chk I N sc a
      | none => false)
    | _ => false
  snd {A k F X W} C s h w0 := by
    split at h
    · split at h
      · rename_i o a hm
        obtain ⟨apos, pos, rfl, hl, hs, hn⟩ := methB_ok hm
        simp only [Bool.and_eq_true] at h
        obtain ⟨hv, _, _⟩ := varB_ok h.1
        refine (ps_expr (pe_m PySem.F.plainAttrs_list PySem.F.slot_list_extend PySem.F.type_list_extend mt_extend hv (pa_cons (b.snd C.c h.2) pa_nil (star_cons hn)) hs hn hl) rfl).imp fun E t H q => ?_
        obtain ⟨w, r, st, rfl, fr, hp⟩ := q
        obtain ⟨l, eo, hp⟩ := postS_opt hp
        have er := ownL_eq eo
        obtain ⟨a0, ht, nS, nM, ⟨vs, hd, hz, hvs⟩, h0⟩ := fr.own er
        refine ⟨_, ht, .inl ⟨rfl, vs, .inl (.inl hd)⟩, ?_⟩
        refine stepS (R := RD A) fr hp fun w1 st1 d v fr1 e1 rv l1 hp1 => ?_
        obtain ⟨l', el, hp2⟩ := postS_opt hp1
        split at el
        · rename_i l2
          split at el
          · rename_i hlen
            cases el
            have hd1 : w1.H a0 = some (.lst vs) := (e1.keep a0 (by rw [hd]; simp) nM).trans hd
            have el := hvs.length
            obtain ⟨_, ht1, nS1, nM1, _, _⟩ := fr1.own er
            rw [ht] at ht1
            cases ht1
            obtain ⟨b0, vs2, rfl, g1, g2⟩ := rv.lst
            have el2 := g2.length
            refine ⟨a0, b0, vs, vs2, rfl, rfl, hd1, g1.2.2, by omega, hp2 (w1.raw a0 _) t (le_put nS1) (fr1.putOwn er ht ⟨vs ++ vs2, upd_same, by rw [List.length_append]; omega, ?_⟩)⟩
            exact ((hvs.mono fr.sr.wf e1).append g2).le (le_put nS1)
          · cases el
        · cases el
      · cases h
    · cases h
end Rf

set_option Elab.async false
set_option linter.all false
set_option maxRecDepth 100000
set_option maxHeartbeats 1000000
namespace Rf
open PySem L2

/-! ## a, b, c = e, e', e'' -/
def par3B (sc : Scope) (x y z : Str) (px py pz : Pos) (a b c : Expr) : Bool :=
  locB sc x && locB sc y && locB sc z && !(x == y) && !(x == z) && !(y == z) && (px.line == pz.line && py.line == pz.line) && !(foldedForSure 8 a && (foldedForSure 8 b && foldedForSure 8 c)) && !(constantsAlone 8 a && (constantsAlone 8 b && constantsAlone 8 c)) && (notStar a && notStar b && notStar c)
theorem par3_ok {env : Env} {x y z : Str} {px py pz pt pt2 : Pos} {kt k2 : Nat} {a b c : Expr} (hk : env.scope.kind = .function) (h : par3B env.scope x y z px py pz a b c = true) :
    swappedStores [.Tuple [.Name x px, .Name y py, .Name z pz] kt pt] (.Tuple [a, b, c] k2 pt2) env = pure (some [x, y, z]) := by
  unfold par3B at h
  simp only [Bool.and_eq_true, Bool.not_eq_true', beq_eq_false_iff_ne, ne_eq] at h
  obtain ⟨⟨⟨⟨⟨⟨⟨⟨⟨l1, l2⟩, l3⟩, d1⟩, d2⟩, d3⟩, p1, p2⟩, f1⟩, f2⟩, ⟨s1, s2⟩, s3⟩ := h
  have hb : env.blockKind = .function := by unfold Env.blockKind; rw [hk]; rfl
  have k1 : (env.kindOf x == some NameKind.local) = true := by rw [show env.kindOf x = some .local from locB_ok l1]; rfl
  have k2 : (env.kindOf y == some NameKind.local) = true := by rw [show env.kindOf y = some .local from locB_ok l2]; rfl
  have k3 : (env.kindOf z == some NameKind.local) = true := by rw [show env.kindOf z = some .local from locB_ok l3]; rfl
  have st : ([a, b, c].any fun e => match e with | .Starred .. => true | _ => false) = false := by
    have q : ∀ e : Expr, notStar e = true → (match e with | .Starred .. => true | _ => false) = false := fun e h => by cases e <;> first | rfl | cases h
    simp only [List.any_cons, List.any_nil, q a s1, q b s2, q c s3, Bool.or_self]
  have er : [x, y, z].eraseDups = [x, y, z] := by
    have e1 : (y == x) = false := beq_eq_false_iff_ne.mpr fun q => d1 q.symm
    have e2 : (z == x) = false := beq_eq_false_iff_ne.mpr fun q => d2 q.symm
    have e3 : (z == y) = false := beq_eq_false_iff_ne.mpr fun q => d3 q.symm
    simp [List.eraseDups_cons, e1, e2, e3]
  have fo : [a, b, c].all (foldedForSure 8) = false := by
    rw [List.all_cons, List.all_cons, List.all_cons, List.all_nil, Bool.and_true]; exact f1
  have co : [a, b, c].all (constantsAlone 8) = false := by
    rw [List.all_cons, List.all_cons, List.all_cons, List.all_nil, Bool.and_true]; exact f2
  have nm : ∀ ln : Nat, ln = px.line ∨ ln = py.line ∨ ln = pz.line → ([Expr.Name x px, Expr.Name y py, Expr.Name z pz].filterMap fun e => match e with
    | .Name id pos => if (env.kindOf id == some NameKind.local && pos.line == ln) = true then some id else none
    | _ => none) = [x, y, z] := by
    intro ln hln
    have g1 := eq_of_beq p1
    have g2 := eq_of_beq p2
    have e1 : (px.line == ln) = true := by rcases hln with r | r | r <;> simp [r, g1, g2]
    have e2 : (py.line == ln) = true := by rcases hln with r | r | r <;> simp [r, g1, g2]
    have e3 : (pz.line == ln) = true := by rcases hln with r | r | r <;> simp [r, g1, g2]
    rw [List.filterMap_cons, List.filterMap_cons, List.filterMap_cons, List.filterMap_nil]
    simp only [k1, k2, k3, e1, e2, e3, Bool.and_self, if_true]
  unfold swappedStores
  simp only [hb]
  rw [if_neg (by simp)]
  rw [if_neg (fun h => Bool.noConfusion (h.symm.trans st))]
  generalize hfm : List.filterMap _ [Expr.Name x px, Expr.Name y py, Expr.Name z pz] = fm
  have hfm2 : fm = [x, y, z] := hfm.symm.trans (nm px.line (.inl rfl))
  subst hfm2
  rw [er, if_neg (by simp), if_neg (by rw [fo]; decide), if_neg (by rw [co]; decide)]
def sPar3 (i j l : Nat) (a b c : BX) : BS where
  den F r := bnd (a.den F r) fun x => bnd (b.den F r) fun y => bnd (c.den F r) fun z => ret (.nx (((r.set i (mkS a.o x)).set j (mkS b.o y)).set l (mkS c.o z)))
  chk I N sc s := match s with
    | .Assign [.Tuple [.Name x px, .Name y py, .Name z pz] _ _] (.Tuple [e, e', e''] _ _) _ => (decide (a.o = true → i ≠ 0) && decide (b.o = true → j ≠ 0) && decide (c.o = true → l ≠ 0)) && (decide (N[i]? = some x) && decide (N[j]? = some y) && decide (N[l]? = some z)) && (decide (i ≠ j) && decide (i ≠ l) && decide (j ≠ l)) && par3B sc x y z px py pz e e' e'' &&
      (a.chk I N sc e && b.chk I N sc e' && c.chk I N sc e'')
    | _ => false
  snd {A k F X W} C s h w0 := by
    split at h
    · rename_i x px y py z pz kt pt e e' e'' k2 pt2 pos
      simp only [Bool.and_eq_true, decide_eq_true_eq] at h
      obtain ⟨⟨⟨⟨⟨⟨z1, z2⟩, z3⟩, ⟨h1, h2⟩, h3⟩, ⟨d1, d2⟩, d3⟩, h4⟩, ⟨c1, c2⟩, c3⟩ := h
      have hp0 := h4
      unfold par3B at hp0
      simp only [Bool.and_eq_true] at hp0
      obtain ⟨⟨⟨⟨⟨⟨⟨⟨⟨l1, l2⟩, l3⟩, _⟩, _⟩, _⟩, _⟩, _⟩, _⟩, ⟨s1, s2⟩, s3⟩ := hp0
      refine (ps_par3 C.c.calm C.c.nd h1 h2 h3 d1 d2 d3 (locB_ok l1) (locB_ok l2) (locB_ok l3) (pa_cons (a.snd C.c c1) (pa_cons (b.snd C.c c2) (pa_cons (c.snd C.c c3) pa_nil (star_cons s3)) (star_cons s2)) (star_cons s1)) (par3_ok C.kind h4) rfl).imp fun E t H q => ?_
      obtain ⟨w, r, st, rfl, fr, hp⟩ := q
      refine stepS (R := RX A a.o) fr hp fun w1 st1 d v fr1 e1 rv _ hp1 => ?_
      refine stepS (R := RX A b.o) fr1 hp1 fun w2 st2 d2 v2 fr2 e2 rv2 _ hp2 => ?_
      refine stepS (R := RX A c.o) fr2 hp2 fun w3 st3 d3 v3 fr3 e3 rv3 _ hp3 => ?_
      refine ⟨v, v2, v3, rfl, hp3 w3 _ (.refl w3) ?_⟩
      exact ((fr.setX z1 e1 fr1.sr rv).setX z2 e2 fr2.sr rv2).setX z3 e3 fr3.sr rv3
    · cases h
end Rf

set_option Elab.async false
set_option linter.all false
set_option maxRecDepth 100000
set_option maxHeartbeats 1000000
namespace Rf
open PySem L2

/-! ## data that compare -/
mutual
def cmpOk : D → D → Bool
  | .int _, .int _ => true
  | .str _, .str _ => true
  | .tup x, .tup y => cmpsOk x y
  | _, _ => false
def cmpsOk : List D → List D → Bool
  | x :: xs, y :: ys => cmpOk x y && cmpsOk xs ys
  | _, _ => true
end
mutual
def dlt : D → D → Bool
  | .int i, .int j => decide (i < j)
  | .str x, .str y => decide (x < y)
  | .tup x, .tup y => dlts x y
  | _, _ => false
def dlts : List D → List D → Bool
  | [], _ :: _ => true
  | x :: xs, y :: ys => if deq x y then dlts xs ys else dlt x y
  | _, _ => false
end
mutual
def code : D → List Int
  | .int i => [i]
  | .str s => (s.map fun c : Nat => (c : Int) + 1) ++ [0]
  | .tup l => codes l
  | _ => []
def codes : List D → List Int
  | [] => [0]
  | d :: ds => 1 :: (code d ++ codes ds)
end
mutual
theorem dlt_deq : ∀ (a b : D), cmpOk a b = true → deq a b = true → dlt a b = false
  | .int i, b, h, e => by
    cases b <;> first | cases h | skip
    rename_i j
    simp [deq] at e
    simp [dlt]; omega
  | .str x, b, h, e => by
    cases b <;> first | cases h | skip
    rename_i y
    simp [deq] at e
    subst e
    simp [dlt]
  | .tup x, b, h, e => by
    cases b <;> first | cases h | skip
    rename_i y
    simp only [dlt]
    exact dlts_deq x y (by simpa [cmpOk] using h) (by simpa [deq] using e)
  | .non, _, h, _ => by simp [cmpOk] at h
  | .bl _, _, h, _ => by simp [cmpOk] at h
  | .lst _, _, h, _ => by simp [cmpOk] at h
  | .frl _, _, h, _ => by simp [cmpOk] at h
  | .frt _, _, h, _ => by simp [cmpOk] at h
  | .dct _ _ _, _, h, _ => by simp [cmpOk] at h
  | .obj _ _, _, h, _ => by simp [cmpOk] at h
  | .loc _, _, h, _ => by simp [cmpOk] at h
  | .fn _, _, h, _ => by simp [cmpOk] at h
  | .cls _, _, h, _ => by simp [cmpOk] at h
  | .clo _ _, _, h, _ => by simp [cmpOk] at h
theorem dlts_deq : ∀ (a b : List D), cmpsOk a b = true → deqs a b = true → dlts a b = false
  | [], [], _, _ => by simp [dlts]
  | [], _ :: _, _, e => by simp [deqs] at e
  | _ :: _, [], _, e => by simp [deqs] at e
  | x :: xs, y :: ys, h, e => by
    simp only [cmpsOk, Bool.and_eq_true] at h
    simp only [deqs, Bool.and_eq_true] at e
    simp only [dlts, e.1, if_true]
    exact dlts_deq xs ys h.2 e.2
end
theorem str_code (u v : List Int) : ∀ x y : List Nat, ((x.map fun c : Nat => (c : Int) + 1) ++ [0] ++ u < (y.map fun c : Nat => (c : Int) + 1) ++ [0] ++ v) ↔ (x < y ∨ (x = y ∧ u < v))
  | [], [] => by simp [List.cons_lt_cons_iff]
  | [], b :: y => by
    simp only [List.map_nil, List.nil_append, List.cons_append, List.map_cons, List.cons_lt_cons_iff, List.nil_lt_cons, true_or, iff_true]
    left; omega
  | a :: x, [] => by
    simp only [List.map_nil, List.nil_append, List.cons_append, List.map_cons, List.cons_lt_cons_iff]
    constructor
    · rintro (h | ⟨h, _⟩) <;> omega
    · rintro (h | ⟨h, _⟩)
      · simp at h
      · cases h
  | a :: x, b :: y => by
    have ih := str_code u v x y
    simp only [List.append_assoc, List.cons_append, List.nil_append] at ih
    simp only [List.map_cons, List.cons_append, List.append_assoc, List.nil_append, List.cons_lt_cons_iff, ih, List.cons.injEq]
    constructor
    · rintro (h | ⟨h, q⟩)
      · left; left; omega
      · have : a = b := by omega
        rcases q with q | ⟨q, r⟩
        · exact .inl (.inr ⟨this, q⟩)
        · exact .inr ⟨⟨this, q⟩, r⟩
    · rintro ((h | ⟨h, q⟩) | ⟨⟨h, q⟩, r⟩)
      · left; omega
      · right; exact ⟨by omega, .inl q⟩
      · right; exact ⟨by omega, .inr ⟨q, r⟩⟩
mutual
theorem code_lt : ∀ (a b : D), cmpOk a b = true → ∀ u v : List Int, (code a ++ u < code b ++ v) ↔ (dlt a b = true ∨ (deq a b = true ∧ u < v))
  | .int i, b, h, u, v => by
    cases b <;> first | cases h | skip
    simp [code, dlt, deq, List.cons_lt_cons_iff]
  | .str x, b, h, u, v => by
    cases b <;> first | cases h | skip
    rename_i y
    simp only [code, dlt, deq, decide_eq_true_eq, beq_iff_eq]
    exact str_code u v x y
  | .tup x, b, h, u, v => by
    cases b <;> first | cases h | skip
    rename_i y
    simp only [code, dlt, deq]
    exact codes_lt x y (by simpa [cmpOk] using h) u v
  | .non, _, h, _, _ => by simp [cmpOk] at h
  | .bl _, _, h, _, _ => by simp [cmpOk] at h
  | .lst _, _, h, _, _ => by simp [cmpOk] at h
  | .frl _, _, h, _, _ => by simp [cmpOk] at h
  | .frt _, _, h, _, _ => by simp [cmpOk] at h
  | .dct _ _ _, _, h, _, _ => by simp [cmpOk] at h
  | .obj _ _, _, h, _, _ => by simp [cmpOk] at h
  | .loc _, _, h, _, _ => by simp [cmpOk] at h
  | .fn _, _, h, _, _ => by simp [cmpOk] at h
  | .cls _, _, h, _, _ => by simp [cmpOk] at h
  | .clo _ _, _, h, _, _ => by simp [cmpOk] at h
theorem codes_lt : ∀ (a b : List D), cmpsOk a b = true → ∀ u v : List Int, (codes a ++ u < codes b ++ v) ↔ (dlts a b = true ∨ (deqs a b = true ∧ u < v))
  | [], [], _, u, v => by simp [codes, dlts, deqs, List.cons_lt_cons_iff]
  | [], _ :: _, _, u, v => by simp [codes, dlts, deqs, List.cons_lt_cons_iff]
  | _ :: _, [], _, u, v => by simp [codes, dlts, deqs, List.cons_lt_cons_iff]
  | x :: xs, y :: ys, h, u, v => by
    simp only [cmpsOk, Bool.and_eq_true] at h
    simp only [codes, List.cons_append, List.append_assoc, List.cons_lt_cons_iff]
    have e1 := code_lt x y h.1 (codes xs ++ u) (codes ys ++ v)
    have e2 := codes_lt xs ys h.2 u v
    have e3 := dlt_deq x y h.1
    simp only [e1, e2, dlts, deqs, Bool.and_eq_true]
    cases hd : deq x y with
    | true => rw [e3 hd]; simp
    | false => simp
end
def clt (a b : D) : Bool := decide (code a < code b)
theorem clt_dlt {a b : D} (h : cmpOk a b = true) : clt a b = dlt a b := by
  have := code_lt a b h [] []
  simp only [List.append_nil, List.lt_irrefl, and_false, or_false] at this
  unfold clt
  cases hd : dlt a b with
  | true => exact decide_eq_true (this.mpr hd)
  | false => exact decide_eq_false fun h => by rw [this.mp h] at hd; cases hd
theorem clt_swo : SrtO.Swo clt := by
  refine ⟨fun x y h => ?_, fun x y z h1 h2 => ?_⟩
  · simp only [clt, decide_eq_true_eq, decide_eq_false_iff_not] at h ⊢
    exact List.lt_asymm h
  · simp only [clt, decide_eq_false_iff_not] at h1 h2 ⊢
    exact fun h => h1 (List.lt_of_le_of_lt (List.not_lt.mp h2) h)
def cle (a b : D) : Bool := !clt b a
def srtD (l : List D) : List D := l.mergeSort cle
theorem cle_trans (a b c : D) (h1 : cle a b = true) (h2 : cle b c = true) : cle a c = true := by
  unfold cle at *
  simp only [Bool.not_eq_true'] at *
  exact clt_swo.tr a b c h1 h2
theorem cle_total (a b : D) : (cle a b || cle b a) = true := by
  unfold cle
  cases h : clt b a with
  | true => rw [clt_swo.asym b a h]; rfl
  | false => rfl
theorem srtD_pw (l : List D) : (srtD l).Pairwise fun a b => cle a b = true := List.pairwise_mergeSort cle_trans cle_total l
theorem srtD_perm (l : List D) : (srtD l).Perm l := List.mergeSort_perm l _

/-! ## what stands in the heap for such data -/
mutual
def RdV (h : Heap) : D → Value → Prop
  | .int i, u => ∃ t, u = .int i t
  | .str s, u => ∃ t, u = .str ⟨s.toArray⟩ t
  | .tup l, u => ∃ a its n, u = .ref a ∧ h.IsTuple a its ∧ n = its.toList ∧ RdVs h l n
  | _, _ => False
def RdVs (h : Heap) : List D → List Value → Prop
  | [], us => us = []
  | d :: ds, us => ∃ u r, us = u :: r ∧ RdV h d u ∧ RdVs h ds r
end
mutual
theorem rdV_keeps {h h' : Heap} (k : ∀ b o, h.get? b = some o → o.cls = .type "tuple" → h'.get? b = some o) : ∀ (d : D) {u : Value}, RdV h d u → RdV h' d u
  | .int _, _, q => by simpa only [RdV] using q
  | .str _, _, q => by simpa only [RdV] using q
  | .tup l, _, q => by
    simp only [RdV] at q ⊢
    obtain ⟨a, its, n, e1, ⟨o, ho, hc, r⟩, e2, e3⟩ := q
    exact ⟨a, its, n, e1, ⟨o, k a o ho hc, hc, r⟩, e2, rdVs_keeps k l e3⟩
  | .non, _, q => by simp only [RdV] at q
  | .bl _, _, q => by simp only [RdV] at q
  | .lst _, _, q => by simp only [RdV] at q
  | .frl _, _, q => by simp only [RdV] at q
  | .frt _, _, q => by simp only [RdV] at q
  | .dct _ _ _, _, q => by simp only [RdV] at q
  | .obj _ _, _, q => by simp only [RdV] at q
  | .loc _, _, q => by simp only [RdV] at q
  | .fn _, _, q => by simp only [RdV] at q
  | .cls _, _, q => by simp only [RdV] at q
  | .clo _ _, _, q => by simp only [RdV] at q
theorem rdVs_keeps {h h' : Heap} (k : ∀ b o, h.get? b = some o → o.cls = .type "tuple" → h'.get? b = some o) : ∀ (l : List D) {us : List Value}, RdVs h l us → RdVs h' l us
  | [], _, q => by simpa only [RdVs] using q
  | d :: ds, _, q => by
    simp only [RdVs] at q ⊢
    obtain ⟨u, r, e1, e2, e3⟩ := q
    exact ⟨u, r, e1, rdV_keeps k d e2, rdVs_keeps k ds e3⟩
end
mutual
theorem rdV_uniq {h : Heap} : ∀ (d e : D) {u : Value}, RdV h d u → RdV h e u → d = e
  | .int i, e, u, p, q => by
    simp only [RdV] at p
    obtain ⟨t, rfl⟩ := p
    cases e <;> simp only [RdV] at q
    · obtain ⟨_, q⟩ := q; injection q with q _; rw [q]
    · obtain ⟨_, q⟩ := q; cases q
    · obtain ⟨_, _, _, q, _⟩ := q; cases q
  | .str s, e, u, p, q => by
    simp only [RdV] at p
    obtain ⟨t, rfl⟩ := p
    cases e <;> simp only [RdV] at q
    · obtain ⟨_, q⟩ := q; cases q
    · obtain ⟨_, q⟩ := q
      injection q with q _
      injection q with q
      have := congrArg Array.toList q
      simp at this
      rw [this]
    · obtain ⟨_, _, _, q, _⟩ := q; cases q
  | .tup l, e, u, p, q => by
    simp only [RdV] at p
    obtain ⟨a, its, n, rfl, ⟨o, ho, _, k, hd⟩, rfl, e3⟩ := p
    cases e <;> simp only [RdV] at q
    · obtain ⟨_, q⟩ := q; cases q
    · obtain ⟨_, q⟩ := q; cases q
    · obtain ⟨a', its', n', ea, ⟨o', ho', _, k', hd'⟩, rfl, e4⟩ := q
      injection ea with ea
      subst ea
      rw [ho] at ho'
      cases ho'
      rw [hd] at hd'
      injection hd' with hd' _
      subst hd'
      rw [rdVs_uniq l _ e3 e4]
  | .non, _, _, p, _ => by simp only [RdV] at p
  | .bl _, _, _, p, _ => by simp only [RdV] at p
  | .lst _, _, _, p, _ => by simp only [RdV] at p
  | .frl _, _, _, p, _ => by simp only [RdV] at p
  | .frt _, _, _, p, _ => by simp only [RdV] at p
  | .dct _ _ _, _, _, p, _ => by simp only [RdV] at p
  | .obj _ _, _, _, p, _ => by simp only [RdV] at p
  | .loc _, _, _, p, _ => by simp only [RdV] at p
  | .fn _, _, _, p, _ => by simp only [RdV] at p
  | .cls _, _, _, p, _ => by simp only [RdV] at p
  | .clo _ _, _, _, p, _ => by simp only [RdV] at p
theorem rdVs_uniq {h : Heap} : ∀ (l m : List D) {us : List Value}, RdVs h l us → RdVs h m us → l = m
  | [], m, us, p, q => by
    simp only [RdVs] at p
    subst p
    cases m with
    | nil => rfl
    | cons _ _ => simp only [RdVs] at q; obtain ⟨_, _, q, _⟩ := q; cases q
  | d :: ds, m, us, p, q => by
    simp only [RdVs] at p
    obtain ⟨u, r, rfl, p1, p2⟩ := p
    cases m with
    | nil => simp only [RdVs] at q; cases q
    | cons e es =>
      simp only [RdVs] at q
      obtain ⟨u', r', q, q1, q2⟩ := q
      injection q with q3 q4
      subst q3 q4
      rw [rdV_uniq d e p1 q1, rdVs_uniq ds es p2 q2]
end
theorem rdVs_len {h : Heap} : ∀ {l : List D} {us : List Value}, RdVs h l us → us.length = l.length
  | [], _, q => by simp only [RdVs] at q; rw [q]; rfl
  | d :: ds, _, q => by
    simp only [RdVs] at q
    obtain ⟨u, r, rfl, _, q⟩ := q
    simp [rdVs_len q]
theorem rdVs_at {h : Heap} : ∀ {l : List D} {us : List Value} (i : Nat) (h1 : i < l.length) (h2 : i < us.length), RdVs h l us → RdV h l[i] us[i]
  | [], _, i, h1, _, _ => by simp at h1
  | d :: ds, us, i, h1, h2, q => by
    simp only [RdVs] at q
    obtain ⟨u, r, rfl, q1, q2⟩ := q
    cases i with
    | zero => exact q1
    | succ i => exact rdVs_at i (by simpa using h1) (by simpa using h2) q2
mutual
/-- such data only -/
def isC : D → Bool
  | .int _ => true
  | .str _ => true
  | .tup l => isCs l
  | _ => false
def isCs : List D → Bool
  | [] => true
  | d :: ds => isC d && isCs ds
end
section
variable {X : Cx} {pins : List (Addr × Obj)} {σ : L2.St} {s : Shared} {A : Ad} {w : Wd}
mutual
theorem rep_rdV (hK : X.K = A.K) (I : Inv X pins σ w.H s) : ∀ (d : D) {v : V} {u : Value}, isC d = true → Rep A w d v → RelV v u → RdV s.heap d u
  | .int i, _, u, _, r, q => by rw [r.int] at q; simp only [RdV]; exact q
  | .str x, _, u, _, r, q => by rw [r.str.1] at q; simp only [RdV]; exact q
  | .tup l, _, u, c, r, q => by
    obtain ⟨a, vs, rfl, h1, h2⟩ := r.tup
    obtain rfl : u = Value.ref a := q
    obtain ⟨its, rv, ⟨o, ho, hc, n, hd⟩, hz⟩ := I.tuple (by rw [hK]; exact h1.seq)
    simp only [RdV]
    exact ⟨a, its.toArray, its, rfl, ⟨o, ho, hc, n, hd⟩, by simp, reps_rdVs hK I l (by simpa [isC] using c) h2 rv⟩
  | .non, _, _, c, _, _ => by simp [isC] at c
  | .bl _, _, _, c, _, _ => by simp [isC] at c
  | .lst _, _, _, c, _, _ => by simp [isC] at c
  | .frl _, _, _, c, _, _ => by simp [isC] at c
  | .frt _, _, _, c, _, _ => by simp [isC] at c
  | .dct _ _ _, _, _, c, _, _ => by simp [isC] at c
  | .obj _ _, _, _, c, _, _ => by simp [isC] at c
  | .loc _, _, _, c, _, _ => by simp [isC] at c
  | .fn _, _, _, c, _, _ => by simp [isC] at c
  | .cls _, _, _, c, _, _ => by simp [isC] at c
  | .clo _ _, _, _, c, _, _ => by simp [isC] at c
theorem reps_rdVs (hK : X.K = A.K) (I : Inv X pins σ w.H s) : ∀ (l : List D) {vs : List V} {us : List Value}, isCs l = true → Reps A w l vs → Vals vs us → RdVs s.heap l us
  | [], vs, us, _, r, q => by
    simp only [Reps] at r
    subst r
    cases q
    simp only [RdVs]
  | d :: ds, vs, us, c, r, q => by
    simp only [Reps] at r
    obtain ⟨v, r', rfl, r1, r2⟩ := r
    simp only [isCs, Bool.and_eq_true] at c
    cases q with
    | cons q1 q2 =>
      simp only [RdVs]
      exact ⟨_, _, rfl, rep_rdV hK I d c.1 r1 q1, reps_rdVs hK I ds c.2 r2 q2⟩
end
end
theorem deqs_range : ∀ (x y : List D), deqs x y = ((List.range (min x.length y.length)).all (fun j => deq (x.getD j .non) (y.getD j .non)) && x.length == y.length)
  | [], [] => by simp [deqs]
  | [], _ :: _ => by simp [deqs]
  | _ :: _, [] => by simp [deqs]
  | a :: x, b :: y => by
    have ih := deqs_range x y
    simp only [deqs, ih, List.length_cons]
    rw [show min (x.length + 1) (y.length + 1) = min x.length y.length + 1 by omega, List.range_succ_eq_map, List.all_cons, List.all_map]
    simp only [List.getD_cons_zero, Bool.and_assoc]
    congr 2
    cases h : decide (x.length = y.length) <;> simp_all
mutual
theorem deq_refl : ∀ d : D, isC d = true → deq d d = true
  | .int _, _ => by simp [deq]
  | .str _, _ => by simp [deq]
  | .tup l, c => by simp only [deq]; exact deqs_refl l (by simpa [isC] using c)
  | .non, c => by simp [isC] at c
  | .bl _, c => by simp [isC] at c
  | .lst _, c => by simp [isC] at c
  | .frl _, c => by simp [isC] at c
  | .frt _, c => by simp [isC] at c
  | .dct _ _ _, c => by simp [isC] at c
  | .obj _ _, c => by simp [isC] at c
  | .loc _, c => by simp [isC] at c
  | .fn _, c => by simp [isC] at c
  | .cls _, c => by simp [isC] at c
  | .clo _ _, c => by simp [isC] at c
theorem deqs_refl : ∀ l : List D, isCs l = true → deqs l l = true
  | [], _ => by simp [deqs]
  | d :: ds, c => by
    simp only [isCs, Bool.and_eq_true] at c
    simp only [deqs, deq_refl d c.1, deqs_refl ds c.2, Bool.and_self]
end
theorem isCs_at : ∀ {l : List D} (i : Nat) (h : i < l.length), isCs l = true → isC l[i] = true
  | [], i, h, _ => by simp at h
  | d :: ds, i, h, c => by
    simp only [isCs, Bool.and_eq_true] at c
    cases i with
    | zero => exact c.1
    | succ i => exact isCs_at i (by simpa using h) c.2
theorem cmpsOk_at : ∀ {x y : List D} (i : Nat) (h1 : i < x.length) (h2 : i < y.length), cmpsOk x y = true → cmpOk x[i] y[i] = true
  | [], _, i, h, _, _ => by simp at h
  | _ :: _, [], i, _, h, _ => by simp at h
  | a :: x, b :: y, i, h1, h2, c => by
    simp only [cmpsOk, Bool.and_eq_true] at c
    cases i with
    | zero => exact c.1
    | succ i => exact cmpsOk_at i (by simpa using h1) (by simpa using h2) c.2
theorem deps_at : ∀ {l : List D} (i : Nat) (h : i < l.length), dep l[i] ≤ deps l
  | [], i, h => by simp at h
  | d :: ds, i, h => by
    simp only [deps]
    cases i with
    | zero => exact Nat.le_max_left _ _
    | succ i => exact Nat.le_trans (deps_at i (by simpa using h)) (Nat.le_max_right _ _)
open SeqAt in
theorem rdV_eq (n : Nat) : ∀ {A : Around} {s : Shared} (d e : D) {u v : Value}, dep d < n → isC d = true → isC e = true → cmpOk d e = true → RdV s.heap d u → RdV s.heap e v → A.units + n < cLine → EqAt A s u v (deq d e) := by
  induction n with
  | zero => intro A s d e u v h; omega
  | succ n ih =>
    intro A s d e u v hn cd ce co p q hu
    cases d with
    | int i =>
      cases e <;> first | cases co | skip
      rename_i j
      simp only [RdV] at p q
      obtain ⟨t, rfl⟩ := p
      obtain ⟨t', rfl⟩ := q
      simp only [deq]
      exact EqAt.int_int i t j t'
    | str x =>
      cases e <;> first | cases co | skip
      rename_i y
      simp only [RdV] at p q
      obtain ⟨t, rfl⟩ := p
      obtain ⟨t', rfl⟩ := q
      simp only [deq, ← Rf.str_beq]
      exact EqAt.str_str _ t _ t'
    | tup x =>
      cases e <;> first | cases co | skip
      rename_i y
      have q0 := q
      have p0 := p
      simp only [RdV] at p q
      obtain ⟨a, its, _, rfl, t1, rfl, r1⟩ := p
      obtain ⟨b, its', _, rfl, t2, rfl, r2⟩ := q
      by_cases hab : a = b
      · subst hab
        rw [rdV_uniq _ _ q0 p0, deq_refl _ cd]
        exact EqAt.same _
      · have l1 := rdVs_len r1
        have l2 := rdVs_len r2
        simp only [Array.length_toList] at l1 l2
        have hx : isCs x = true := by simpa [isC] using cd
        have hy : isCs y = true := by simpa [isC] using ce
        have hc : cmpsOk x y = true := by simpa [cmpOk] using co
        have hd : deps x < n := by simp only [dep] at hn; omega
        have key := RcAt.tuples (A := A) (e := fun j => deq (x.getD j .non) (y.getD j .non)) t1 t2 (by omega) (fun j h1 h2 => by
          have h1' : j < x.length := by omega
          have h2' : j < y.length := by omega
          simp only [List.getD_eq_getElem?_getD, List.getElem?_eq_getElem h1', List.getElem?_eq_getElem h2', Option.getD_some]
          have z1 := rdVs_at j h1' (by simpa using h1) r1
          have z2 := rdVs_at j h2' (by simpa using h2) r2
          simp only [Array.getElem_toList] at z1 z2
          exact ih x[j] y[j] (Nat.lt_of_le_of_lt (deps_at j h1') hd) (isCs_at j h1' hx) (isCs_at j h2' hy) (cmpsOk_at j h1' h2' hc) z1 z2 (by show A.units + 1 + n < cLine; omega))
        simp only [deq, deqs_range]
        rw [l1, l2] at key
        exact EqAt.of_refs hab key
    | _ => simp [isC] at cd
theorem dlts_lex : ∀ (x y : List D), dlts x y = Ob.lexAt (fun j => deq (x.getD j .non) (y.getD j .non)) (fun j => dlt (x.getD j .non) (y.getD j .non)) (decide (x.length < y.length)) 0 (min x.length y.length) := by
  have gen : ∀ (e r : Nat → Bool) (z : Bool) (k i : Nat), Ob.lexAt e r z (i + 1) k = Ob.lexAt (fun j => e (j + 1)) (fun j => r (j + 1)) z i k := by
    intro e r z k
    induction k with
    | zero => intro i; rfl
    | succ k ih => intro i; simp only [Ob.lexAt, ih]
  intro x
  induction x with
  | nil => intro y; cases y <;> simp [dlts, Ob.lexAt]
  | cons a x ih =>
    intro y
    cases y with
    | nil => simp [dlts, Ob.lexAt]
    | cons b y =>
      simp only [dlts, ih y, List.length_cons]
      rw [show min (x.length + 1) (y.length + 1) = min x.length y.length + 1 by omega]
      simp only [Ob.lexAt, List.getD_cons_zero, gen, List.getD_cons_succ]
      rw [show decide (x.length + 1 < y.length + 1) = decide (x.length < y.length) by simp]
theorem rdV_lt (n : Nat) : ∀ {A : Around} {s : Shared} (d e : D) {u v : Value}, dep d < n → isC d = true → isC e = true → cmpOk d e = true → RdV s.heap d u → RdV s.heap e v → A.units + n < cLine → Ob.RcOp .Lt A s u v (dlt d e) := by
  induction n with
  | zero => intro A s d e u v h; omega
  | succ n ih =>
    intro A s d e u v hn cd ce co p q hu
    cases d with
    | int i =>
      cases e <;> first | cases co | skip
      rename_i j
      simp only [RdV] at p q
      obtain ⟨t, rfl⟩ := p
      obtain ⟨t', rfl⟩ := q
      simp only [dlt]
      exact Ob.RcOp.lt_int i j t t'
    | str x =>
      cases e <;> first | cases co | skip
      rename_i y
      simp only [RdV] at p q
      obtain ⟨t, rfl⟩ := p
      obtain ⟨t', rfl⟩ := q
      simp only [dlt]
      exact fun prog w E Q h => PyProof.Rows.lt_str (by simpa using h)
    | tup x =>
      cases e <;> first | cases co | skip
      rename_i y
      simp only [RdV] at p q
      obtain ⟨a, its, _, rfl, t1, rfl, r1⟩ := p
      obtain ⟨b, its', _, rfl, t2, rfl, r2⟩ := q
      have l1 := rdVs_len r1
      have l2 := rdVs_len r2
      simp only [Array.length_toList] at l1 l2
      have hx : isCs x = true := by simpa [isC] using cd
      have hy : isCs y = true := by simpa [isC] using ce
      have hc : cmpsOk x y = true := by simpa [cmpOk] using co
      have hd : deps x < n := by simp only [dep] at hn; omega
      have at_ : ∀ j (h1 : j < its.size) (h2 : j < its'.size), ∃ (h1' : j < x.length) (h2' : j < y.length), RdV s.heap x[j] its[j] ∧ RdV s.heap y[j] its'[j] := fun j h1 h2 => by
        have h1' : j < x.length := by omega
        have h2' : j < y.length := by omega
        have z1 := rdVs_at j h1' (by simpa using h1) r1
        have z2 := rdVs_at j h2' (by simpa using h2) r2
        simp only [Array.getElem_toList] at z1 z2
        exact ⟨h1', h2', z1, z2⟩
      have key := Ob.RcOp.tuples_lt (A := A) (e := fun j => deq (x.getD j .non) (y.getD j .non)) (r := fun j => dlt (x.getD j .non) (y.getD j .non)) t1 t2 (by omega) (fun j h1 h2 => by
        obtain ⟨h1', h2', z1, z2⟩ := at_ j h1 h2
        simp only [List.getD_eq_getElem?_getD, List.getElem?_eq_getElem h1', List.getElem?_eq_getElem h2', Option.getD_some]
        exact rdV_eq n x[j] y[j] (Nat.lt_of_le_of_lt (deps_at j h1') hd) (isCs_at j h1' hx) (isCs_at j h2' hy) (cmpsOk_at j h1' h2' hc) z1 z2 (by show A.units + 1 + n < cLine; omega)) (fun j h1 h2 _ => by
        obtain ⟨h1', h2', z1, z2⟩ := at_ j h1 h2
        simp only [List.getD_eq_getElem?_getD, List.getElem?_eq_getElem h1', List.getElem?_eq_getElem h2', Option.getD_some]
        exact ih x[j] y[j] (Nat.lt_of_le_of_lt (deps_at j h1') hd) (isCs_at j h1' hx) (isCs_at j h2' hy) (cmpsOk_at j h1' h2' hc) z1 z2 (by show A.units + 1 + n < cLine; omega))
      simp only [dlt, dlts_lex]
      rw [l1, l2] at key
      exact key
    | _ => simp [isC] at cd
end Rf

set_option Elab.async false
set_option linter.all false
set_option maxRecDepth 100000
set_option maxHeartbeats 1000000
namespace Rf
open PySem L2

/-! ## sorted -/
mutual
theorem deq_eq : ∀ (a b : D), isC a = true → isC b = true → deq a b = true → a = b
  | .int i, b, _, c, e => by
    cases b <;> first | (simp [isC] at c; done) | (simp [deq] at e; done) | skip
    simp [deq] at e
    rw [e]
  | .str x, b, _, c, e => by
    cases b <;> first | (simp [isC] at c; done) | (simp [deq] at e; done) | skip
    simp [deq] at e
    rw [e]
  | .tup x, b, c0, c, e => by
    cases b <;> first | (simp [isC] at c; done) | (simp [deq] at e; done) | skip
    rw [deqs_eq x _ (by simpa [isC] using c0) (by simpa [isC] using c) (by simpa [deq] using e)]
  | .non, _, c, _, _ => by simp [isC] at c
  | .bl _, _, c, _, _ => by simp [isC] at c
  | .lst _, _, c, _, _ => by simp [isC] at c
  | .frl _, _, c, _, _ => by simp [isC] at c
  | .frt _, _, c, _, _ => by simp [isC] at c
  | .dct _ _ _, _, c, _, _ => by simp [isC] at c
  | .obj _ _, _, c, _, _ => by simp [isC] at c
  | .loc _, _, c, _, _ => by simp [isC] at c
  | .fn _, _, c, _, _ => by simp [isC] at c
  | .cls _, _, c, _, _ => by simp [isC] at c
  | .clo _ _, _, c, _, _ => by simp [isC] at c
theorem deqs_eq : ∀ (a b : List D), isCs a = true → isCs b = true → deqs a b = true → a = b
  | [], [], _, _, _ => rfl
  | [], _ :: _, _, _, e => by simp [deqs] at e
  | _ :: _, [], _, _, e => by simp [deqs] at e
  | x :: xs, y :: ys, c0, c, e => by
    simp only [isCs, Bool.and_eq_true] at c0 c
    simp only [deqs, Bool.and_eq_true] at e
    rw [deq_eq x y c0.1 c.1 e.1, deqs_eq xs ys c0.2 c.2 e.2]
end
theorem snoc_lt : ∀ l : List Int, l ++ [0] < l ++ [1]
  | [] => by decide
  | x :: l => by simp only [List.cons_append, List.cons_lt_cons_iff]; exact .inr ⟨trivial, snoc_lt l⟩
theorem cle_anti {a b : D} (ca : isC a = true) (cb : isC b = true) (co : cmpOk a b = true) (h1 : cle a b = true) (h2 : cle b a = true) : a = b := by
  unfold cle clt at h1 h2
  simp only [Bool.not_eq_true', decide_eq_false_iff_not] at h1 h2
  have e : code a = code b := List.le_antisymm (List.not_lt.mp h1) (List.not_lt.mp h2)
  have k := code_lt a b co [0] [1]
  rw [e] at k
  rcases k.mp (snoc_lt _) with z | ⟨z, _⟩
  · have : clt a b = true := by rw [clt_dlt co]; exact z
    unfold clt at this
    exact absurd (of_decide_eq_true this) h2
  · exact deq_eq a b ca cb z
def fstTy : D → Option Nat
  | .tup (.int _ :: _) => some 0
  | .tup (.str _ :: _) => some 1
  | .tup (.tup _ :: _) => some 2
  | .str _ => some 3
  | .int _ => some 4
  | _ => none
def kindOk (l : List D) : Bool := match l with
  | [] => true
  | d :: _ => (fstTy d).isSome && l.all fun e => decide (fstTy e = fstTy d)
def sortOk (l : List D) : Bool := isCs l && l.all (fun a => l.all fun b => cmpOk a b) && kindOk l && decide (deps l < 60)
theorem perm_lift {α β : Type} (f : α → β) {l' l2 : List β} (h : l'.Perm l2) : ∀ {l : List α}, l2 = l.map f → ∃ m : List α, m.Perm l ∧ m.map f = l' := by
  induction h with
  | nil =>
    intro l e
    exact ⟨l, .refl _, e.symm⟩
  | cons x _ ih =>
    intro l e
    cases l with
    | nil => simp at e
    | cons a l =>
      simp only [List.map_cons, List.cons.injEq] at e
      obtain ⟨m, h1, h2⟩ := ih e.2
      exact ⟨a :: m, h1.cons a, by rw [List.map_cons, h2, e.1]⟩
  | swap x y r =>
    intro l e
    match l, e with
    | a :: b :: l, e =>
      simp only [List.map_cons, List.cons.injEq] at e
      exact ⟨b :: a :: l, .swap _ _ _, by simp [e.1, e.2.1, e.2.2]⟩
  | trans _ _ ih1 ih2 =>
    intro l e
    obtain ⟨m, h1, h2⟩ := ih2 e
    obtain ⟨m', h3, h4⟩ := ih1 h2.symm
    exact ⟨m', h3.trans h1, h4⟩
theorem isCs_mem : ∀ {l : List D}, isCs l = true → ∀ d ∈ l, isC d = true
  | [], _, d, h => by cases h
  | x :: l, c, d, h => by
    simp only [isCs, Bool.and_eq_true] at c
    rcases List.mem_cons.mp h with rfl | h
    · exact c.1
    · exact isCs_mem c.2 d h
theorem deps_mem {l : List D} {d : D} (h : d ∈ l) : dep d ≤ deps l := by
  obtain ⟨i, hi, rfl⟩ := List.getElem_of_mem h
  exact deps_at i hi
/-- data, abstract and real values side by side -/
theorem triples {A : Ad} {w : Wd} {h : Heap} : ∀ (l : List D) (vs : List V) (us : List Value), Reps A w l vs → Vals vs us → RdVs h l us → ∃ T : List (D × V × Value), T.map (·.1) = l ∧ T.map (fun t => t.2.1) = vs ∧ T.map (fun t => t.2.2) = us ∧ ∀ t ∈ T, Rep A w t.1 t.2.1 ∧ RelV t.2.1 t.2.2 ∧ RdV h t.1 t.2.2
  | [], vs, us, r, q, z => by
    simp only [Reps] at r
    subst r
    cases q
    exact ⟨[], rfl, rfl, rfl, by simp⟩
  | d :: ds, vs, us, r, q, z => by
    simp only [Reps] at r
    obtain ⟨v, r', rfl, r1, r2⟩ := r
    cases q with
    | @cons _ u0 _ us0 q1 q2 =>
      simp only [RdVs] at z
      obtain ⟨_, _, e, z1, z2⟩ := z
      injection e with e1 e2
      subst e1 e2
      obtain ⟨T, h1, h2, h3, h4⟩ := triples ds r' _ r2 q2 z2
      exact ⟨(d, v, u0) :: T, by simp [h1], by simp [h2], by simp [h3], fun t ht => by
        rcases List.mem_cons.mp ht with rfl | ht
        · exact ⟨r1, q1, z1⟩
        · exact h4 t ht⟩
theorem vals_map {β : Type} {f : β → V} {g : β → Value} : ∀ {T : List β}, (∀ t ∈ T, RelV (f t) (g t)) → Vals (T.map f) (T.map g)
  | [], _ => .nil
  | t :: T, h => .cons (h t (List.mem_cons_self ..)) (vals_map fun x hx => h x (List.mem_cons_of_mem _ hx))
theorem reps_map {β : Type} {A : Ad} {w : Wd} {f : β → D} {g : β → V} : ∀ {T : List β}, (∀ t ∈ T, Rep A w (f t) (g t)) → Reps A w (T.map f) (T.map g)
  | [], _ => .nil
  | t :: T, h => .cons (h t (List.mem_cons_self ..)) (reps_map fun x hx => h x (List.mem_cons_of_mem _ hx))
section
variable {prog : Program} {wd : World} {A : Around} {s : Shared}
open Classical in
noncomputable def dkOf (h : Heap) (l : List D) (u : Value) : D := if q : ∃ d, d ∈ l ∧ RdV h d u then q.choose else .non
theorem dkOf_eq {h : Heap} {l : List D} {d : D} {u : Value} (hd : d ∈ l) (q : RdV h d u) : dkOf h l u = d := by
  unfold dkOf
  have e : ∃ d, d ∈ l ∧ RdV h d u := ⟨d, hd, q⟩
  rw [dif_pos e]
  exact rdV_uniq _ _ e.choose_spec.2 q
noncomputable def ltK (h : Heap) (l : List D) (u v : Value) : Bool := clt (dkOf h l u) (dkOf h l v)
theorem ltK_swo (h : Heap) (l : List D) : SrtO.Swo (ltK h l) := ⟨fun x y e => clt_swo.asym _ _ e, fun x y z e1 e2 => clt_swo.tr _ _ _ e1 e2⟩
/-- the kinds of the keys -/
theorem firsts_rd {h : Heap} : ∀ (l : List D) (us : List Value) (k : Nat), RdVs h l us → k < 3 → (∀ d ∈ l, fstTy d = some k) → ∃ fs : List Value, PySem.W.KatTups h us fs ∧ fs.length = us.length ∧ ∀ f ∈ fs, ∃ T : D, RdV h T f ∧ (match T with | .int _ => k = 0 | .str _ => k = 1 | .tup _ => k = 2 | _ => False)
  | [], us, k, q, _, _ => by
    simp only [RdVs] at q
    subst q
    exact ⟨[], PySem.W.KatTups.nil, rfl, by simp⟩
  | d :: ds, us, k, q, hk, hl => by
    simp only [RdVs] at q
    obtain ⟨u, r, rfl, q1, q2⟩ := q
    obtain ⟨fs, h1, h2, h3⟩ := firsts_rd ds r k q2 hk fun e he => hl e (List.mem_cons_of_mem _ he)
    have e := hl d (List.mem_cons_self ..)
    cases d with
    | tup l =>
      simp only [RdV] at q1
      obtain ⟨a, its, _, rfl, ⟨o, ho, hc, n, hd⟩, rfl, q3⟩ := q1
      cases l with
      | nil => simp [fstTy] at e
      | cons x l =>
        simp only [RdVs] at q3
        obtain ⟨f, rest, ei, q4, q5⟩ := q3
        refine ⟨f :: fs, PySem.W.KatTups.cons ho hc hd (by rw [← Array.getElem?_toList, ei]; rfl) h1, by simp [h2], fun f' hf => ?_⟩
        rcases List.mem_cons.mp hf with rfl | hf
        · refine ⟨x, q4, ?_⟩
          cases x <;> simp [fstTy] at e <;> first | omega | (simp only [RdV] at q4)
        · exact h3 f' hf
    | _ => (simp [fstTy] at e; try omega)
open PySem.W in
theorem kat_ok {b fin : Bool} : ∀ (xs ys : List D) (us vs : List Value) (i : Nat), RdVs s.heap xs us → RdVs s.heap ys vs → isCs xs = true → isCs ys = true → cmpsOk xs ys = true → deps xs < 61 → A.units + 64 < cLine → fin = decide (xs.length < ys.length) → (i = 0 → b = true → ∀ x r y, xs = x :: r → x ≠ .tup y) →
    KatLex prog wd A b fin (fun r s' => s' = s ∧ r = dlts xs ys) (us.zip vs) i s
  | [], ys, us, vs, i, p, q, _, _, _, _, _, hf, _ => by
    simp only [RdVs] at p
    subst p
    refine kat_nil ⟨rfl, ?_⟩
    rw [hf]
    cases ys <;> simp [dlts]
  | x :: xs, [], us, vs, i, p, q, _, _, _, _, _, hf, _ => by
    simp only [RdVs] at q
    subst q
    rw [List.zip_nil_right]
    refine kat_nil ⟨rfl, ?_⟩
    rw [hf]
    simp [dlts]
  | x :: xs, y :: ys, us, vs, i, p, q, cx, cy, co, hd, hu, hf, hb => by
    simp only [RdVs] at p q
    obtain ⟨u, us, rfl, p1, p2⟩ := p
    obtain ⟨v, vs, rfl, q1, q2⟩ := q
    simp only [isCs, Bool.and_eq_true] at cx cy
    simp only [cmpsOk, Bool.and_eq_true] at co
    simp only [deps] at hd
    have hd1 : dep x < 61 := by omega
    have hd2 : deps xs < 61 := by omega
    rw [List.zip_cons_cons]
    refine kat_cons (rdV_eq 61 x y hd1 cx.1 cy.1 co.1 p1 q1 (by omega) _ _ _ _ ?_)
    simp only [dlts]
    cases e : deq x y with
    | true =>
      refine kat_yes ?_
      have := kat_ok (b := b) (fin := fin) xs ys us vs (i + 1) p2 q2 cx.2 cy.2 co.2 hd2 hu (by rw [hf]; simp) (by omega)
      simpa using this
    | false =>
      refine kat_no ?_
      simp only [Bool.false_eq_true, if_false]
      by_cases hbi : (b && i == 0) = true
      · rw [hbi]
        simp only [Bool.and_eq_true, beq_iff_eq] at hbi
        have nt := hb hbi.2 hbi.1 x xs
        cases x with
        | int j =>
          cases y <;> first | (simp [cmpOk] at co; done) | skip
          simp only [RdV] at p1 q1
          obtain ⟨t, rfl⟩ := p1
          obtain ⟨t', rfl⟩ := q1
          exact PyProof.Rows.oneLt_int ⟨rfl, by simp [dlt]⟩
        | str z =>
          cases y <;> first | (simp [cmpOk] at co; done) | skip
          simp only [RdV] at p1 q1
          obtain ⟨t, rfl⟩ := p1
          obtain ⟨t', rfl⟩ := q1
          exact PyProof.Rows.oneLt_str ⟨rfl, by simp [dlt]⟩
        | tup z => exact absurd rfl (nt z rfl)
        | _ => exact absurd cx.1 (by simp [isC])
      · rw [Bool.eq_false_iff.mpr hbi]
        refine kat_one _ _ ?_
        exact rdV_lt 61 x y hd1 cx.1 cy.1 co.1 p1 q1 (by omega) _ _ _ _ (show BoolBack _ (.bool (dlt x y)) s from ⟨rfl, rfl⟩)
theorem rdVs_mem {h : Heap} : ∀ {l : List D} {us : List Value} {u : Value}, RdVs h l us → u ∈ us → ∃ d ∈ l, RdV h d u
  | [], us, u, q, m => by simp only [RdVs] at q; subst q; cases m
  | d :: ds, us, u, q, m => by
    simp only [RdVs] at q
    obtain ⟨u', r, rfl, q1, q2⟩ := q
    rcases List.mem_cons.mp m with rfl | m
    · exact ⟨d, List.mem_cons_self .., q1⟩
    · obtain ⟨e, h1, h2⟩ := rdVs_mem q2 m
      exact ⟨e, List.mem_cons_of_mem _ h1, h2⟩
theorem sortOk_at {l : List D} (ok : sortOk l = true) : isCs l = true ∧ (∀ a ∈ l, ∀ b ∈ l, cmpOk a b = true) ∧ kindOk l = true ∧ deps l < 60 := by
  unfold sortOk at ok
  simp only [Bool.and_eq_true, List.all_eq_true, decide_eq_true_eq] at ok
  exact ⟨ok.1.1.1, ok.1.1.2, ok.1.2, ok.2⟩
theorem cmp_rd {h : Heap} {l : List D} {us : List Value} (hs : s.heap = h) (ok : sortOk l = true) (hu : A.units + 64 < cLine) (rd : RdVs h l us) (κ : PyProof.Rows.SortKind)
    (hκ : (κ = PyProof.Rows.oneType' ∧ ∀ d ∈ l, fstTy d = some 3 ∨ fstTy d = some 4) ∨ (∃ b, κ = PyProof.Rows.tuples' b ∧ ∀ d ∈ l, ∃ x r, d = .tup (x :: r) ∧ (b = true → ∀ y, x ≠ .tup y))) :
    SrtO.Cmp prog wd A s κ (fun p => p.1 ∈ us) (SrtO.lt2 (ltK h l)) := by
  subst hs
  obtain ⟨o1, o2, _, o4⟩ := sortOk_at ok
  rintro ⟨p, p'⟩ ⟨q, q'⟩ hp hq
  obtain ⟨d, hd, rp⟩ := rdVs_mem rd hp
  obtain ⟨e, he, rq⟩ := rdVs_mem rd hq
  have co := o2 d hd e he
  have ek : SrtO.lt2 (ltK s.heap l) (p, p') (q, q') = dlt d e := by
    show clt (dkOf s.heap l p) (dkOf s.heap l q) = _
    rw [dkOf_eq hd rp, dkOf_eq he rq, clt_dlt co]
  rw [ek]
  rcases hκ with ⟨rfl, hk⟩ | ⟨b, rfl, hk⟩
  · have k1 := hk d hd
    cases d with
    | int j =>
      cases e <;> first | cases co | skip
      simp only [RdV] at rp rq
      obtain ⟨t, rfl⟩ := rp
      obtain ⟨t', rfl⟩ := rq
      exact PyProof.Rows.oneLt_int ⟨rfl, by simp [dlt]⟩
    | str z =>
      cases e <;> first | cases co | skip
      simp only [RdV] at rp rq
      obtain ⟨t, rfl⟩ := rp
      obtain ⟨t', rfl⟩ := rq
      exact PyProof.Rows.oneLt_str ⟨rfl, by simp [dlt]⟩
    | tup z => rcases z with _ | ⟨x, r⟩ <;> simp [fstTy] at k1 <;> (cases x <;> simp [fstTy] at k1)
    | _ => simp [fstTy] at k1
  · obtain ⟨x, r, rfl, hx⟩ := hk d hd
    obtain ⟨y, r', rfl, _⟩ := hk e he
    simp only [RdV] at rp rq
    obtain ⟨a, its, _, rfl, ⟨o, ho, hc, n, hdt⟩, rfl, r1⟩ := rp
    obtain ⟨a', its', _, rfl, ⟨o', ho', hc', n', hdt'⟩, rfl, r2⟩ := rq
    have l1 := rdVs_len r1
    have l2 := rdVs_len r2
    simp only [Array.length_toList] at l1 l2
    have c1 : isCs (x :: r) = true := by simpa [isC] using isCs_mem o1 _ hd
    have c2 : isCs (y :: r') = true := by simpa [isC] using isCs_mem o1 _ he
    have d1 : deps (x :: r) < 61 := by have := deps_mem hd; simp only [dep] at this; omega
    refine PySem.W.kat_lt ho hdt ho' hdt' ?_
    simp only [dlt]
    exact kat_ok (x :: r) (y :: r') _ _ 0 r1 r2 c1 c2 (by simpa [cmpOk] using co) d1 hu (by rw [l1, l2]) (fun _ hb z rr w e => by injection e with e _; subst e; exact hx hb w)
end
end Rf

set_option Elab.async false
set_option linter.all false
set_option maxRecDepth 100000
set_option maxHeartbeats 1000000
namespace Rf
open PySem L2
theorem fst_tup {d : D} {k : Nat} (h : fstTy d = some k) (hk : k < 3) : ∃ x r, d = .tup (x :: r) ∧ (k < 2 → ∀ y, x ≠ .tup y) := by
  cases d with
  | tup l =>
    cases l with
    | nil => simp [fstTy] at h
    | cons x r =>
      refine ⟨x, r, rfl, fun k2 y e => ?_⟩
      subst e
      simp [fstTy] at h
      omega
  | _ => simp [fstTy] at h <;> omega
theorem srt_able {P : Program} {wd : World} {A : Around} {s : Shared} {a : Addr} {l : List D} {us : List Value} (ok : sortOk l = true) (h2 : 2 ≤ us.length) (hu : A.units + 64 < cLine) (rd : RdVs s.heap l us) (ha : ∀ o, s.heap.get? a = some o → o.cls ≠ .type "tuple") :
    SrtO.SortableO P wd A s a us (ltK s.heap l) := by
  intro h' keep
  obtain ⟨o1, o2, o3, o4⟩ := sortOk_at ok
  have rd' : RdVs h' l us := rdVs_keeps (fun b o e c => keep b o (fun z => by subst z; exact ha o e c) e) l rd
  have ll := rdVs_len rd
  have lt_eq : ∀ κ, SrtO.Cmp P wd A { s with heap := h' } κ (fun p => p.1 ∈ us) (SrtO.lt2 (ltK h' l)) → SrtO.Cmp P wd A { s with heap := h' } κ (fun p => p.1 ∈ us) (SrtO.lt2 (ltK s.heap l)) := by
    intro κ hc p q hp hq
    obtain ⟨d, hd, rp⟩ := rdVs_mem rd hp
    obtain ⟨e, he, rq⟩ := rdVs_mem rd hq
    obtain ⟨d', hd', rp'⟩ := rdVs_mem rd' hp
    obtain ⟨e', he', rq'⟩ := rdVs_mem rd' hq
    have kp : ∀ b o, s.heap.get? b = some o → o.cls = .type "tuple" → h'.get? b = some o := fun b o e c => keep b o (fun z => by subst z; exact ha o e c) e
    have ed : d = d' := rdV_uniq _ _ (rdV_keeps kp d rp) rp'
    have ee : e = e' := rdV_uniq _ _ (rdV_keeps kp e rq) rq'
    have : SrtO.lt2 (ltK s.heap l) p q = SrtO.lt2 (ltK h' l) p q := by
      show clt (dkOf s.heap l p.1) (dkOf s.heap l q.1) = clt (dkOf h' l p.1) (dkOf h' l q.1)
      rw [dkOf_eq hd rp, dkOf_eq he rq, dkOf_eq hd' rp', dkOf_eq he' rq', ed, ee]
    rw [this]
    exact hc p q hp hq
  obtain ⟨d0, l0, rfl⟩ : ∃ d0 l0, l = d0 :: l0 := by
    cases l with
    | nil => exact absurd ll (by intro z; simp at z; rw [z] at h2; simp at h2)
    | cons d0 l0 => exact ⟨d0, l0, rfl⟩
  unfold kindOk at o3
  simp only [Bool.and_eq_true, List.all_eq_true, decide_eq_true_eq] at o3
  obtain ⟨k, hk⟩ := Option.isSome_iff_exists.mp o3.1
  have hall : ∀ d ∈ d0 :: l0, fstTy d = some k := fun d hd => (o3.2 d hd).trans hk
  by_cases h3 : k < 3
  · obtain ⟨fs, g1, g2, g3⟩ := firsts_rd (d0 :: l0) us k rd' h3 hall
    have tt : ∀ T : Value, (∀ v ∈ fs, PySem.W.Looks (model P wd) h' (typeOf v) T) → (T == T) = true → ∀ b, (T != Value.type "tuple") = b → (b = true → k < 2) → ∃ κ,
        (∀ (Q : PyProof.Rows.SortKind → Shared → Prop) (E : Value → Shared → Prop), Q κ { s with heap := h' } → wpAny (model P wd) A (PyProof.Rows.keyKind' us.toArray) Q E { s with heap := h' }) ∧ SrtO.Cmp P wd A { s with heap := h' } κ (fun p => p.1 ∈ us) (SrtO.lt2 (ltK s.heap (d0 :: l0))) := by
      intro T hT hT2 b hb hb2
      refine ⟨PyProof.Rows.tuples' b, fun Q E hq => PySem.W.kat_kind (T := T) (s := { s with heap := h' }) g1 (by omega) hT hT2 (by rw [hb]; exact hq), lt_eq _ (cmp_rd (s := { s with heap := h' }) rfl ok hu rd' _ (.inr ⟨b, rfl, fun d hd => ?_⟩))⟩
      obtain ⟨x, r, e1, e2⟩ := fst_tup (hall d hd) h3
      exact ⟨x, r, e1, fun hbt => e2 (hb2 hbt)⟩
    have hk3 : k = 0 ∨ k = 1 ∨ k = 2 := by omega
    rcases hk3 with rfl | rfl | rfl
    · refine tt (.type "int") (fun v hv => ?_) (by decide) true (by decide) (fun _ => by omega)
      obtain ⟨T, q1, q2⟩ := g3 v hv
      cases T <;> simp at q2
      simp only [RdV] at q1
      obtain ⟨t, rfl⟩ := q1
      exact PySem.W.Looks.now
    · refine tt (.type "str") (fun v hv => ?_) (by decide) true (by decide) (fun _ => by omega)
      obtain ⟨T, q1, q2⟩ := g3 v hv
      cases T <;> simp at q2
      simp only [RdV] at q1
      obtain ⟨t, rfl⟩ := q1
      exact PySem.W.Looks.now
    · refine tt (.type "tuple") (fun v hv => ?_) (by decide) false (by decide) (fun z => by cases z)
      obtain ⟨T, q1, q2⟩ := g3 v hv
      cases T <;> simp at q2
      simp only [RdV] at q1
      obtain ⟨b, its, _, rfl, ⟨o, ho, hc, n, hd⟩, _⟩ := q1
      exact hc ▸ (PySem.W.Looks.ld ho).andThen PySem.W.Looks.now
  · have hk34 : k = 3 ∨ k = 4 := by
      have : ∀ (d : D) (k : Nat), fstTy d = some k → k ≤ 4 := by
        intro d k e
        unfold fstTy at e
        split at e <;> simp at e <;> omega
      have := this d0 k hk
      omega
    have tt : ∀ T : Value, (∀ v ∈ us, PySem.W.Looks (model P wd) h' (typeOf v) T) → (T != Value.type "tuple") = true → (T == T) = true → ∃ κ,
        (∀ (Q : PyProof.Rows.SortKind → Shared → Prop) (E : Value → Shared → Prop), Q κ { s with heap := h' } → wpAny (model P wd) A (PyProof.Rows.keyKind' us.toArray) Q E { s with heap := h' }) ∧ SrtO.Cmp P wd A { s with heap := h' } κ (fun p => p.1 ∈ us) (SrtO.lt2 (ltK s.heap (d0 :: l0))) := by
      intro T hT hT1 hT2
      refine ⟨PyProof.Rows.oneType', fun Q E hq => PySem.W.kas_kind (T := T) (s := { s with heap := h' }) h2 hT hT1 hT2 hq, lt_eq _ (cmp_rd (s := { s with heap := h' }) rfl ok hu rd' _ (.inl ⟨rfl, fun d hd => ?_⟩))⟩
      rw [hall d hd]
      rcases hk34 with rfl | rfl
      · exact .inl rfl
      · exact .inr rfl
    rcases hk34 with rfl | rfl
    · refine tt (.type "str") (fun v hv => ?_) (by decide) (by decide)
      obtain ⟨d, hd, q1⟩ := rdVs_mem rd' hv
      have e := hall d hd
      cases d with
      | str z => simp only [RdV] at q1; obtain ⟨t, rfl⟩ := q1; exact PySem.W.Looks.now
      | int z => simp [fstTy] at e
      | tup z => rcases z with _ | ⟨x, r⟩ <;> simp [fstTy] at e <;> (cases x <;> simp [fstTy] at e)
      | _ => simp [fstTy] at e
    · refine tt (.type "int") (fun v hv => ?_) (by decide) (by decide)
      obtain ⟨d, hd, q1⟩ := rdVs_mem rd' hv
      have e := hall d hd
      cases d with
      | int z => simp only [RdV] at q1; obtain ⟨t, rfl⟩ := q1; exact PySem.W.Looks.now
      | str z => simp [fstTy] at e
      | tup z => rcases z with _ | ⟨x, r⟩ <;> simp [fstTy] at e <;> (cases x <;> simp [fstTy] at e)
      | _ => simp [fstTy] at e
def rSrtD (A : Ad) : List V → Hp → VK → Prop := fun xs H Q => ∃ (w : Wd) (l : List D) (a : Addr) (vs : List V), w.H = H ∧ xs = [.ref a] ∧ SqL A.K H a vs ∧ Reps A w l vs ∧ sortOk l = true ∧ ∀ (ys : List V) (p : Addr), Reps A w (srtD l) ys → H p = none → Q (.ref p) (upd H p (.lst ys))
theorem call_srtD {X : Cx} {A : Ad} (hK : X.K = A.K) (hu : X.A.units + 66 < cLine) : CallR X (.builtin "sorted") (rSrtD A) := by
  intro pins s σ H xs us Q I r h
  obtain ⟨w, l, a, vs, rfl, rfl, hs, hr, ok, q⟩ := h
  obtain ⟨u, rfl, ru⟩ := vals1 r
  obtain rfl : u = Value.ref a := ru
  obtain ⟨its, rv, hl, hz⟩ := I.list (by rw [hK]; exact hs)
  have hz0 : its.length ≤ sizeLine := by rw [← rv.length]; exact hz
  obtain ⟨o1, o2, o3, o4⟩ := sortOk_at ok
  have rd : RdVs s.heap l its := reps_rdVs hK I l o1 hr rv
  obtain ⟨T, t1, t2, t3, t4⟩ := triples l vs its hr rv rd
  refine SrtO.sorted_ord (ltK_swo s.heap l) hl.isList hz0 (fun h2 h₁ a' ha kk => ?_) fun out hs' hb => ?_
  · have kp : ∀ b o, s.heap.get? b = some o → o.cls = .type "tuple" → h₁.get? b = some o := fun b o e _ => (kk b o e).2
    have rd1 : RdVs h₁ l its := rdVs_keeps kp l rd
    have key := srt_able (P := X.prog) (wd := X.w) (A := X.A.in1.in1) (s := { s with heap := h₁ }) (a := a') ok h2 (by show X.A.units + 1 + 1 + 64 < cLine; omega) rd1 (fun o e => by
      have e' : some o = some (PyProof.Rows.seqObj "list" its.toArray 0) := e.symm.trans ha
      cases e'
      intro c
      exact absurd (Value.type.inj c) (by decide))
    intro h' keep
    obtain ⟨κ, k1, k2⟩ := key h' keep
    refine ⟨κ, k1, fun p p' hp hp' => ?_⟩
    have : SrtO.lt2 (ltK s.heap l) p p' = SrtO.lt2 (ltK h₁ l) p p' := by
      obtain ⟨d, hd, rp⟩ := rdVs_mem rd hp
      obtain ⟨e, he, rq⟩ := rdVs_mem rd hp'
      show clt (dkOf s.heap l p.1) (dkOf s.heap l p'.1) = clt (dkOf h₁ l p.1) (dkOf h₁ l p'.1)
      rw [dkOf_eq hd rp, dkOf_eq he rq, dkOf_eq hd (rdV_keeps kp d rp), dkOf_eq he (rdV_keeps kp e rq)]
    rw [this]
    exact k2 p p' hp hp'
  · obtain ⟨T', p1, p2⟩ := perm_lift (fun t : D × V × Value => t.2.2) hb.perm t3.symm
    have mem : ∀ t ∈ T', t ∈ T := fun t ht => p1.mem_iff.mp ht
    have e1 : T'.map (·.1) = srtD l := by
      refine List.Perm.eq_of_pairwise (le := fun a b => cle a b = true) (fun a b ha hb h1 h2 => ?_) ?_ (srtD_pw l) (((p1.map (·.1)).trans (by rw [t1])).trans (srtD_perm l).symm)
      · have ha' : a ∈ l := by rw [← t1]; exact (p1.map (·.1)).mem_iff.mp ha
        have hb' : b ∈ l := (srtD_perm l).mem_iff.mp hb
        exact cle_anti (isCs_mem o1 a ha') (isCs_mem o1 b hb') (o2 a ha' b hb') h1 h2
      · rw [← p2] at hs'
        rw [List.pairwise_map]
        have hs2 := List.pairwise_map.mp hs'
        refine hs2.imp_of_mem fun {x y} hx hy e => ?_
        have gx := t4 x (mem x hx)
        have gy := t4 y (mem y hy)
        have mx : x.1 ∈ l := by rw [← t1]; exact List.mem_map_of_mem (mem x hx)
        have my : y.1 ∈ l := by rw [← t1]; exact List.mem_map_of_mem (mem y hy)
        have e' : clt (dkOf s.heap l y.2.2) (dkOf s.heap l x.2.2) = false := e
        rw [dkOf_eq mx gx.2.2, dkOf_eq my gy.2.2] at e'
        show (!clt y.1 x.1) = true
        rw [e']; rfl
    have e2 : Reps A w (srtD l) (T'.map fun t => t.2.1) := by
      rw [← e1]
      exact reps_map fun t ht => (t4 t (mem t ht)).1
    have e3 : Vals (T'.map fun t => t.2.1) out := by
      rw [← p2]
      exact vals_map fun t ht => (t4 t (mem t ht)).2.1
    have hz2 : (T'.map fun t => t.2.1).length ≤ sizeLine := by
      have := p1.length_eq
      rw [List.length_map, this, ← List.length_map (f := fun t : D × V × Value => t.2.2), t3]
      exact hz0
    refine ⟨.ref (s.heap.objs.size + 1), _, I.laid (t' := s.toks) (a := s.heap.objs.size + 1) (o := .lst (T'.map fun t => t.2.1)) (fun b o e => PyProof.Rows.sortedAll_old e) (Nat.le_succ _) ?_, rfl, q _ _ e2 (I.hok.fresh (Nat.le_succ _))⟩
    obtain ⟨n, hn⟩ := PyProof.Rows.sortedAll_at s.heap its out.toArray
    exact ⟨hz2, out, n, e3, hn⟩
end Rf

set_option Elab.async false
set_option linter.all false
set_option maxRecDepth 100000
set_option maxHeartbeats 1000000
namespace Rf
open PySem L2

/-! ## sorted(list), min(list of texts) -/
def fSortedD : List D → Option D
  | [.lst l] => if sortOk l then some (.lst (srtD l)) else none
  | _ => none
theorem Room.u66 {k : Nat} {A : Around} (r : Room k A) : A.units + 66 < cLine := by have := r.un; omega
def bSrtD : BiF where
  n := 13
  tv := .builtin "sorted"
  f := keepSt fSortedD
  tgt := .b _ rfl
  boot := by decide +kernel
  ok := by decide +kernel
  imp {A k F X W} C := by
    refine ⟨_, call_srtD (A := A) C.hK (Room.u66 C.room), .keep fun w st l xs d Q hs rp e q => ?_⟩
    unfold fSortedD at e
    split at e
    · rename_i l
      split at e
      · rename_i ok
        cases e
        obtain ⟨v, rfl, h⟩ := rp.one'
        obtain ⟨p, vs, rfl, h1, h2⟩ := h.lst
        refine ⟨w, l, p, vs, rfl, rfl, h1.seq, h2, ok, fun ys a hy ha => q (w.raw a _) (.ref a) (ext_raw ha) (hs.raw ha) (top_lst hs.wf ha ?_ hy)⟩
        have := hy.length
        rw [this, (srtD_perm l).length_eq, ← h2.length]
        exact h1.1
      · cases e
    · cases e

/-- the first least of some texts -/
def minS : List (List Nat) → List Nat → List Nat
  | [], b => b
  | x :: r, b => if x < b then minS r x else minS r b
def fMinL : List D → Option D
  | [.lst l] => (getSs l).bind fun z => match z with
    | x :: r => some (.str (minS r x))
    | [] => none
  | _ => none
theorem vals_nth : ∀ {xs : List V} {us : List Value} (i : Nat) {x : V} {u : Value}, Vals xs us → xs[i]? = some x → us[i]? = some u → RelV x u
  | _, _, i, _, _, .nil, h, _ => by simp at h
  | _, _, 0, _, _, .cons h1 _, h, h' => by simp at h h'; rw [← h, ← h']; exact h1
  | _, _, i + 1, _, _, .cons _ h2, h, h' => vals_nth i h2 (by simpa using h) (by simpa using h')
theorem argBest_minS (z : List (List Nat)) : ∀ (r : List (List Nat)) (k : Nat), z.drop (k + 1) = r → k < z.length → z.getD (argBest (fun i j => decide (z.getD i [] < z.getD j [])) (z.length - 1)) [] = minS r (z.getD (argBest (fun i j => decide (z.getD i [] < z.getD j [])) k) [])
  | [], k, h, hk => by
    have : z.length ≤ k + 1 := List.drop_eq_nil_iff.mp h
    rw [show z.length - 1 = k by omega]; rfl
  | x :: r, k, h, hk => by
    have hlt : k + 1 < z.length := by
      rcases Nat.lt_or_ge (k + 1) z.length with q | q
      · exact q
      · rw [List.drop_eq_nil_of_le q] at h; cases h
    rw [List.drop_eq_getElem_cons hlt] at h
    injection h with h1 h2
    have ih := argBest_minS z r (k + 1) h2 hlt
    rw [ih]
    have e : z.getD (k + 1) [] = x := by rw [List.getD_eq_getElem?_getD, List.getElem?_eq_getElem hlt, Option.getD_some, h1]
    simp only [argBest, minS, e, decide_eq_true_eq]
    split
    · rw [e]
    · rfl
theorem call_minL {X : Cx} (hc : X.calm = true) : CallR X (.builtin "min") (fun xs H Q => ∃ (a : Addr) (x : List Nat) (r : List (List Nat)), xs = [.ref a] ∧ SqL X.K H a ((x :: r).map fun z => V.str ⟨z.toArray⟩) ∧ Q (V.str ⟨(minS r x).toArray⟩) H) := by
  intro pins s σ H xs us Q I rv h
  obtain ⟨a, x, r, rfl, hs, q⟩ := h
  obtain ⟨u, rfl, ru⟩ := vals1 rv
  obtain rfl : u = Value.ref a := ru
  obtain ⟨its, rvs, hl, hz⟩ := I.list hs
  have hl' := hl.isList
  have hlt : a < s.heap.objs.size := by obtain ⟨_, e, _⟩ := hl'; exact Heap.lt_size e
  have len : its.length = (x :: r).length := by rw [← rvs.length, List.length_map]
  have at_ : ∀ (i : Nat) (v : Value), its.toArray[i]? = some v → ∃ t, v = .str ⟨((x :: r).getD i []).toArray⟩ t := by
    intro i v hv
    have hv' : its[i]? = some v := by simpa using hv
    have hi : i < its.length := (List.getElem?_eq_some_iff.mp hv').1
    have hi2 : i < (x :: r).length := by omega
    obtain ⟨t, e2⟩ := vals_nth i rvs (show ((x :: r).map fun z => V.str ⟨z.toArray⟩)[i]? = some (V.str ⟨((x :: r)[i]).toArray⟩) by rw [List.getElem?_map, List.getElem?_eq_getElem hi2]; rfl) hv'
    exact ⟨t, by rw [e2, List.getD_eq_getElem?_getD, List.getElem?_eq_getElem hi2, Option.getD_some]⟩
  refine call_min_walk (wpAny_pyIter_list hl' ⟨_, [s.heap.objs.size, a], [s.heap.objs.size], its.toArray.size, _, _, fun i j => decide ((x :: r).getD i [] < (x :: r).getD j []), rfl, Walks.list (A := X.A.in1) (I.ok.hd hc) _ a (Nat.ne_of_lt hlt) its.toArray, ⟨⟨_, Heap.get?_push_size _ rfl, rfl, rfl⟩, hl'.push _⟩, fun b hb => ?_, by simp [len], fun i j vi vj s Q E hi hj hq => ?_, fun v h' tk hP hk => ?_⟩)
  · show b < (s.heap.push _).objs.size
    rw [Heap.size_push]
    rcases List.mem_cons.mp hb with rfl | hb
    · exact Nat.lt_succ_self _
    · rw [List.mem_singleton.mp hb]
      exact Nat.lt_succ_of_lt hlt
  · obtain ⟨t, rfl⟩ := at_ i vi hi
    obtain ⟨t', rfl⟩ := at_ j vj hj
    exact PyProof.Rows.lt_str (by simpa using hq)
  · obtain ⟨t, rfl⟩ := at_ _ v hP
    have key := argBest_minS (x :: r) r 0 (by simp) (by simp)
    have hn : its.toArray.size - 1 = (x :: r).length - 1 := by simp [len]
    rw [hn, key] at *
    refine ⟨V.str ⟨(minS r x).toArray⟩, H, I.kept fun b o e => hk b o (fun hm => ?_) (Heap.get?_push_of_some _ e), ⟨t, by simp [argBest]⟩, q⟩
    have := Heap.lt_size e
    rw [List.mem_singleton.mp hm] at this
    exact Nat.lt_irrefl _ this

theorem minS_mem : ∀ (r : List (List Nat)) (b : List Nat), minS r b = b ∨ minS r b ∈ r
  | [], b => .inl rfl
  | x :: r, b => by
    unfold minS
    split
    · rcases minS_mem r x with h | h
      · exact .inr (by rw [h]; exact List.mem_cons_self ..)
      · exact .inr (List.mem_cons_of_mem _ h)
    · rcases minS_mem r b with h | h
      · exact .inl h
      · exact .inr (List.mem_cons_of_mem _ h)
def bMinL : Bi where
  n := 9
  tv := .builtin "min"
  f := keepSt fMinL
  tgt := .b _ rfl
  boot := by decide +kernel
  ok := by decide +kernel
  imp {A k F X W} C := by
    refine ⟨_, call_minL C.calm, .keep fun w st l xs d Q hs rp e q => ?_⟩
    unfold fMinL at e
    split at e
    · rename_i l
      simp only [Option.bind_eq_some_iff] at e
      obtain ⟨z, e1, e2⟩ := e
      obtain ⟨v, rfl, h⟩ := rp.one'
      obtain ⟨p, vs, rfl, h1, h2⟩ := h.lst
      split at e2
      · rename_i x r
        cases e2
        rw [getSs_eq e1] at h2
        obtain ⟨g1, g2⟩ := reps_getSs h2
        subst g1
        refine ⟨p, x, r, rfl, by have := h1.seq; rw [C.hK]; rwa [List.map_map] at this, q w _ (.refl w) hs (rep_str ?_)⟩
        rcases minS_mem r x with h | h
        · rw [h]; exact g2 x (List.mem_cons_self ..)
        · exact g2 _ (List.mem_cons_of_mem _ h)
      · cases e2
    · cases e
end Rf

set_option Elab.async false
set_option linter.all false
set_option maxRecDepth 100000
set_option maxHeartbeats 1000000
namespace Rf
open PySem L2

/-! ## properties -/
def clI (st : Sto) : D → Option Nat
  | .obj c _ => some c
  | .loc n => (match st[n]? with
    | some (.ins c _) => some c
    | _ => none)
  | _ => none
theorem clI_rep {A : Ad} {w : Wd} {st : Sto} {d : D} {v : V} {c : Nat} (hs : SRel A w st) (r : Rep A w d v) (e : clI st d = some c) : ∃ p dx fs, v = .ref p ∧ c ∈ A.I.cs ∧ w.H p = some (.ins (A.ca c) dx fs) ∧ ∃ l vs, fs = (names c).zip vs ∧ Reps A w l vs ∧ vs.length ≤ (clF c).length := by
  unfold clI at e
  cases d with
  | obj c' l =>
    cases e
    obtain ⟨p, dx, vs, rfl, _, h0, hp, hv⟩ := r.obj
    exact ⟨p, dx, _, rfl, h0.1, hp, l, vs, rfl, hv, by rw [hv.length]; exact h0.2⟩
  | loc n =>
    obtain ⟨p, rfl, hm⟩ := r.loc
    simp only at e
    split at e
    · rename_i c' l ho
      cases e
      obtain ⟨dx, vs, h0, hp, hv⟩ := hs.ob n _ p ho hm
      exact ⟨p, dx, _, rfl, h0.1, hp, l, vs, rfl, hv, by rw [hv.length]; exact h0.2⟩
    · cases e
  | _ => cases e
def prAt (i : Nat) : Option (Nat × String) := (prL.find? fun q => q.1 == i).map (·.2)
theorem prAt_mem {i : Nat} {q : Nat × String} (h : prAt i = some q) : (i, q) ∈ prL := by
  unfold prAt at h
  simp only [Option.map_eq_some_iff] at h
  obtain ⟨z, h1, rfl⟩ := h
  have := List.find?_some h1
  have e : z.1 = i := by simpa using this
  have m := List.mem_of_find?_eq_some h1
  rw [← e]; exact m
def dProp (i : Nat) (F : FT) (x : D) : M D := fun st => match prAt i, clI st x with
  | some q, some c => if q.1 = c then noX (F i [x]) st else .bad
  | _, _ => .bad
/-- x.f, a property -/
def cProp (i : Nat) (a : BE) : BE where
  den F := bndE (a.den F) fun x _ => dProp i F x
  chk I N sc e := match e, prAt i with
    | .Attribute x y _, some q => beqS y (Str.ofString q.2) && noSup x && a.chk I N sc x
    | _, _ => false
  snd {A k F X W} C e h := by
    split at h
    · rename_i x y pos q hq
      simp only [Bool.and_eq_true] at h
      have e1 := beqS_eq h.1.1
      subst e1
      refine ⟨fun pins s t H Q I z => ?_⟩
      refine attr_of (base_ok h.1.2) (thn ((a.snd C h.2).run pins s t H (fun x H1 => ∃ (w1 : Wd) (d : D) (st1 : Sto), w1.H = H1 ∧ SRel A w1 st1 ∧ Rep A w1 d x ∧ PostG A (RD A) (fun c d H => W c d t H) w1 Q (dProp i F d st1)) I ?_) ?_)
      · obtain ⟨w, r, st, rfl, hr, hs, hp⟩ := z
        refine step (R := RD A) (.refl w) hr hs hp fun w1 st1 d v _ hs1 e1 rv hp1 => ⟨w1, d, st1, rfl, hs1, rv, ?_⟩
        cases ed : dProp i F d st1 with
        | ok d' st2 => rw [ed] at hp1; exact fun w' v ex sr rp => hp1 w' v (e1.trans ex) sr rp
        | exc x st2 => rw [ed] at hp1; exact fun w' c dd ex sr rp => hp1 w' c dd (e1.trans ex) sr rp
        | bad => rw [ed] at hp1; exact hp1
      · rintro u s1 ⟨v, H1, I1, rv, w1, d, st1, rfl, hs1, rd, hp⟩
        unfold dProp at hp
        rw [hq] at hp
        cases ec : clI st1 d with
        | none => rw [ec] at hp; exact hp.elim
        | some c =>
          rw [ec] at hp
          simp only at hp
          split at hp
          · rename_i hqc
            obtain ⟨p, dx, fs, rfl, hc, hH, _⟩ := clI_rep hs1 rd ec
            obtain rfl : u = Value.ref p := rv
            have cf := C.facts.cl c hc
            obtain ⟨pp, hpr, hi⟩ := cf.pr (i, q) (prAt_mem hq) hqc
            rw [← C.hK] at hpr
            have hp2 : PostG A (RD A) noE w1 Q (F i [d] st1) := by
              unfold noX at hp
              cases ef : F i [d] st1 with
              | ok d' st2 => rw [ef] at hp; exact hp
              | exc x st2 => rw [ef] at hp; exact hp.elim
              | bad => rw [ef] at hp; exact hp.elim
            obtain ⟨fd, ps, F1, b1, _, _⟩ := calls_get C hi hp2
            exact getprop_ok I1 hH (by rw [C.hK]; exact cf.cl) hpr F1 C.room b1 .nil (pass_no) ⟨w1, [d], st1, rfl, hs1, .one rd, hp2⟩
          · exact hp.elim
    · cases h

/-! ## an instance as a test -/
theorem tru_ins {X : Cx} {C : Addr} (c : Cls X.K C) (h1 : PySem.W.findIn X.K (.ref C) "__bool__" = some none) (h2 : PySem.W.findIn X.K (.ref C) "__len__" = some none) {pins : List (Addr × Obj)} {s : Shared} {σ : St} {H : Hp} {p dx : Addr} {fs : List (Str × V)} {Q : Bool → Hp → Prop}
    (I : Inv X pins σ H s) (hp : H p = some (.ins C dx fs)) (q : Q true H) : wpAny (model X.prog X.w) X.A (truthy (.ref p)) (TP X pins σ Q) X.xe s := by
  obtain ⟨mA, O, _⟩ := ins_get I.hok hp
  obtain ⟨od, J, _⟩ := O.look
  obtain ⟨m, hF⟩ := I.fr
  exact PySem.W.truthy_K0 hF I.ok.mod.kin J h1 h2 ⟨H, I, q⟩
def tIns (a : BE) : BT where
  den F := bndE (a.den F) fun x _ st => match clI st x with
    | some _ => .ok true st
    | none => .bad
  chk I N sc e := plainT e && a.chk I N sc e
  snd {A k F X W} C e h := by
    simp only [Bool.and_eq_true] at h
    refine ⟨fun pins s t H Q I z => ?_⟩
    refine PyProof.Rows.isTrue_plain (thn ((a.snd C h.2).run pins s t H (fun x H1 => ∃ (w1 : Wd) (d : D) (st1 : Sto) (c : Nat), w1.H = H1 ∧ SRel A w1 st1 ∧ Rep A w1 d x ∧ clI st1 d = some c ∧ Q true w1.H) I ?_) ?_) (plainT_ok h.1 _)
    · obtain ⟨w, r, st, rfl, hr, hs, hp⟩ := z
      refine step (R := RD A) (f := fun x _ st => match clI st x with
        | some _ => .ok true st
        | none => .bad) (.refl w) hr hs hp fun w1 st1 d v _ hs1 e1 rv hp1 => ?_
      cases ec : clI st1 d with
      | none => simp only [ec] at hp1; exact hp1.elim
      | some c => simp only [ec] at hp1; exact ⟨w1, d, st1, c, rfl, hs1, rv, ec, hp1 w1 true e1 hs1 rfl⟩
    · rintro u s1 ⟨v, H1, I1, rv, w1, d, st1, c, rfl, hs1, rd, ec, q⟩
      obtain ⟨p, dx, fs, rfl, hc, hH, _⟩ := clI_rep hs1 rd ec
      obtain rfl : u = Value.ref p := rv
      have cf := C.facts.cl c hc
      exact tru_ins (by rw [C.hK]; exact cf.cl) (by rw [C.hK]; exact cf.bo.1) (by rw [C.hK]; exact cf.bo.2) I1 hH q

/-! ## a text's index of one sign that is in it -/
def idxS (c : Nat) : List Nat → Option Nat
  | [] => none
  | x :: r => if x = c then some 0 else (idxS c r).map (· + 1)
def fIdxS (x y : D) : Option D := match x, y with
  | .str s, .str [c] => (idxS c s).map fun i : Nat => D.int (i : Int)
  | _, _ => none

theorem idxS_spec (c : Nat) : ∀ (s : List Nat) (i : Nat), idxS c s = some i → s[i]? = some c ∧ ∀ j < i, s[j]? ≠ some c
  | [], i, h => by cases h
  | x :: r, i, h => by
    unfold idxS at h
    split at h
    · cases h
      rename_i e
      exact ⟨by simp [e], fun j hj => by omega⟩
    · rename_i e
      simp only [Option.map_eq_some_iff] at h
      obtain ⟨k, h1, rfl⟩ := h
      obtain ⟨g1, g2⟩ := idxS_spec c r k h1
      refine ⟨by simpa using g1, fun j hj => ?_⟩
      cases j with
      | zero => simpa using e
      | succ j => simpa using g2 j (by omega)
theorem occ_idx {s : List Nat} {c i : Nat} (h : idxS c s = some i) : ∃ rest, Builtin.Str.occurrences ⟨s.toArray⟩ ⟨#[c]⟩ 0 (⟨s.toArray⟩ : Str).length 1 = i :: rest := by
  obtain ⟨h1, h2⟩ := idxS_spec c s i h
  have at_ : ∀ k, StrLaws.At ⟨s.toArray⟩ ⟨#[c]⟩ (⟨s.toArray⟩ : Str).length k ↔ s[k]? = some c := fun k => by
    have := StrLaws.subAt_one ⟨s.toArray⟩ c k
    simpa [StrLaws.At] using this
  rcases StrLaws.occ_head ⟨s.toArray⟩ ⟨#[c]⟩ 1 (Nat.le_refl 1) with ⟨_, hn⟩ | ⟨k, r, e, ha, hn⟩
  · exact absurd ((at_ i).mpr h1) (hn i)
  · have hk := (at_ k).mp ha
    rcases Nat.lt_trichotomy k i with q | q | q
    · exact absurd hk (h2 k q)
    · exact ⟨r, by rw [e, q]⟩
    · exact absurd ((at_ i).mpr h1) (hn i q)
/-- x.index(y) -/
def cIdx (a b : BE) : BE where
  den F := denM isStr fIdxS (a.den F) (b.den F)
  chk I N sc e := match methB "index" e with
    | some (o, x) => a.chk I N sc o && b.chk I N sc x
    | none => false
  snd {A k F X W} C e h := by
    split at h
    · rename_i o x hm
      obtain ⟨apos, pos, rfl, hl, hs, hn⟩ := methB_ok hm
      simp only [Bool.and_eq_true] at h
      refine (pe_m PySem.F.plainAttrs_str PySem.F.slot_str_index PySem.F.type_str_index mt_sindex (a.snd C h.1) (pa_cons (b.snd C h.2) pa_nil (star_cons hn)) hs hn hl).imp fun t H Q q => ?_
      obtain ⟨w, r, st, rfl, hr, hs, hp⟩ := q
      refine step (R := RD A) (.refl w) hr hs hp fun w1 st1 x vx hr1 hs1 e1 rx hp1 => ?_
      cases x with
      | str s =>
        obtain ⟨rfl, g⟩ := rx.str
        refine ⟨rfl, ?_⟩
        have hp1' : PostG A (RD A) (fun c d H => W c d t H) w Q (bndE (b.den F) (fun y _ => opt (fIdxS (.str s) y)) r st1) := hp1
        refine step (R := RD A) e1 hr1 hs1 hp1' fun w2 st2 y vy hr2 hs2 e2 ry hp2 => ?_
        obtain ⟨d, e, hq⟩ := opt_post hp2
        unfold fIdxS at e
        split at e
        · rename_i s' c e0
          cases e0
          simp only [Option.map_eq_some_iff] at e
          obtain ⟨i, h1, rfl⟩ := e
          obtain ⟨rest, ho⟩ := occ_idx h1
          obtain ⟨rfl, _⟩ := ry.str
          exact ⟨_, _, i, rest, rfl, rfl, ho, hq w2 _ (e1.trans e2) hs2 (rep_int _)⟩
        · cases e
      | _ => exact hp1.elim
    · cases h
end Rf

set_option Elab.async false
set_option linter.all false
set_option maxRecDepth 100000
set_option maxHeartbeats 1000000
namespace Rf
open PySem L2

/-- k in d, k not in d, as a test -/
def tInD (neg : Bool) (k : BE) (d : BP) : BT where
  den F := dB (dDIn neg (k.den F) (d.den F))
  chk := dinChk neg k d
  snd {A n F X W} C e h := by
    unfold dinChk at h
    split at h
    · simp only [Bool.and_eq_true, decide_eq_true_eq] at h
      obtain ⟨⟨⟨h1, h2⟩, h3⟩, h4⟩ := h
      subst h1
      have hu : X.A.units + 1 < cLine := Nat.lt_of_succ_lt (Room.u1 C.room)
      have key : ∀ {t : St} {H : Hp} {Q : Bool → Hp → Prop}, LT A W (dB (dDIn neg (k.den F) (d.den F))) t H Q → LE A W (k.den F) t H fun y H1 => LEP A W (d.den F) t H1 fun x H2 => ∃ a o, x = .ref a ∧ DGet H2 a y o ∧ ∃ c, (V.bl (o.isSome != neg)) = .bl c ∧ Q c H2 := fun q => din_ok neg (dB_ok q)
      cases neg with
      | true => exact (pt_cmp (pc_dnotin hu (k.snd C h3) (d.snd C h4)) (notSet_ok h2)).imp fun t H Q q => by simpa [tDNotIn, L2.tB] using key q
      | false => exact (pt_cmp (pc_din hu (k.snd C h3) (d.snd C h4)) (notSet_ok h2)).imp fun t H Q q => by simpa [L2.tDIn, L2.tB] using key q
    · cases h
end Rf

set_option Elab.async false
set_option linter.all false
set_option maxRecDepth 100000
set_option maxHeartbeats 1000000
namespace Rf
open PySem L2
def top (i : Nat) : Stmt := PySem.Challenge.pw_piletables_k84_whole_parts_of_cases.main.body.getD i (.Pass ⟨0, 0, 0, 0⟩)
def inC (s : Stmt) (j : Nat) : Stmt := match s with
  | .ClassDef _ _ _ b _ _ _ _ _ _ _ => b.getD j (.Pass ⟨0, 0, 0, 0⟩)
  | s => s
def stirC : Int := 765179
def b_is_whole : List BS := [
  (sRet (cAnd [(cIsi (.inl 2) (cVar 0)), (cNot (cIsi (.inl 1) (cVar 0)))]))]
def d_is_whole : DB := ⟨["value"], 1, b_is_whole⟩
def b_is_between : List BS := [
  (sRet (cAnd [(cCall 0 [(cVar 0)]), (cChain pLe pLe (cVar 1) (cVar 0) (cVar 2))]))]
def d_is_between : DB := ⟨["value", "least", "most"], 3, b_is_between⟩
def b_is_up_to : List BS := [
  (sRet (cCall 1 [(cVar 0), (cInt 0), (cVar 1)]))]
def d_is_up_to : DB := ⟨["value", "most"], 2, b_is_up_to⟩
def b_is_one_of : List BS := [
  (sRet (cAnd [(cIsi (.inl 3) (cVar 0)), (cCmp pIn (cVar 0) (cVar 1))]))]
def d_is_one_of : DB := ⟨["value", "words"], 2, b_is_one_of⟩
def b_is_tuple_of : List BS := [
  (sRet (cAnd [(cIsi (.inl 4) (cVar 0)), (cCmp pEq (cBi bLen [(cVar 0).p]) (cVar 1))]))]
def d_is_tuple_of : DB := ⟨["value", "many"], 2, b_is_tuple_of⟩
def b_blocks_of : List BS := [
  (sRet (cSl (cCon 0) noPart (part (cVar 0))))]
def d_blocks_of : DB := ⟨["many"], 1, b_blocks_of⟩
def b_is_falling : List BS := [
  (sRet (cBi bAll [(fComp (iRng2 (cInt 1) (cBi bLen [(cVar 0).p])) [1] (gNm 1) .no (cCmp pLt (cIx (cVar 0).p (cVar 1)) (cIx (cVar 0).p (cBin oSub (cVar 1) (cInt 1))))).e.p]))]
def d_is_falling : DB := ⟨["pile", "index"], 1, b_is_falling⟩
def b_has_each_once : List BS := [
  (sRet (cAnd [(cCmp pEq (cBi bLen [(cVar 0).p]) (cBi bLen [(cVar 1).p])), (cBi bAll [(fComp (iSeq (cVar 1)) [2] (gNm 2) .no (cCmp pIn (cVar 2) (cVar 0))).e.p])]))]
def d_has_each_once : DB := ⟨["text", "blocks", "block"], 2, b_has_each_once⟩
def b_are_piles : List BS := [
  (sRet (cAnd [(cCall 50 [(cVar 0), (cVar 1)]), (cBi bAll [(fComp (iSeq (cVar 0)) [2] (gNm 2) .no (cIsi (.inl 3) (cVar 2))).e.p])]))]
def d_are_piles : DB := ⟨["value", "many", "pile"], 2, b_are_piles⟩
def b_fits_rule : List BS := [
  (sRet (cAnd [(cCmp pLe (cBi bLen [(cVar 1).p]) (cAttr 3 (cVar 0))), (cOr [(cCmp pEq (cAttr 4 (cVar 0)) (cCon 5)), (cCall 4 [(cVar 1)])])]))]
def d_fits_rule : DB := ⟨["table", "pile"], 2, b_fits_rule⟩
def b_is_standing : List BS := [
  (sIf (tOr [(tNot (tVal (cCall 55 [(cVar 1), (cAttr 2 (cVar 0))]))), (tNot (tVal (cCall 54 [(cJoin (cStr []) (cVar 1).p), (cCall 3 [(cAttr 1 (cVar 0))])])))]) [(sRet (cBl false))] []),
  (sRet (cBi bAll [(fComp (iSeq (cVar 1)) [2] (gNm 2) .no (cCall 5 [(cVar 0), (cVar 2)])).e.p]))]
def d_is_standing : DB := ⟨["table", "value", "pile"], 2, b_is_standing⟩
def b_is_block : List BS := [
  (sRet (cCall 2 [(cVar 1), (fBi bList [(cCall 3 [(cAttr 1 (cVar 0))]).p]).e]))]
def d_is_block : DB := ⟨["table", "value"], 2, b_is_block⟩
def b_can_come_on : List BS := [
  (sRet (cAnd [(cCmp pLt (cBi bLen [(cVar 2).p]) (cAttr 3 (cVar 0))), (cOr [(cCmp pEq (cAttr 4 (cVar 0)) (cCon 5)), (cCmp pEq (cVar 2) (cStr [])), (cCmp pLt (cVar 1) (cIx (cVar 2).p (cNeg (cInt 1))))])]))]
def d_can_come_on : DB := ⟨["table", "block", "pile"], 3, b_can_come_on⟩
def b_can_move : List BS := [
  (sTgt (gTp [(gNm 3), (gNm 4)]) (cVar 2)),
  (sIf (tOr [(tCmp pEq (cVar 3) (cVar 4)), (tCmp pEq (cIx (cVar 1).p (cVar 3)) (cStr []))]) [(sRet (cBl false))] []),
  (sRet (cCall 6 [(cVar 0), (cIx (cIx (cVar 1).p (cVar 3)).p (cNeg (cInt 1))), (cIx (cVar 1).p (cVar 4))]))]
def d_can_move : DB := ⟨["table", "standing", "move", "one", "two"], 3, b_can_move⟩
def b_moved : List BS := [
  (sTgt (gTp [(gNm 3), (gNm 4)]) (cVar 1)),
  (sOwn 2 (fBi bList [(cVar 0).p])),
  (sAsg (gOwn 2 (cVar 4)) (cBin oAdd (cIx (pOwn 2) (cVar 4)) (cIx (cIx (pOwn 2) (cVar 3)).p (cNeg (cInt 1))))),
  (sAsg (gOwn 2 (cVar 3)) (cSl (cIx (pOwn 2) (cVar 3)) noPart (part (cNeg (cInt 1))))),
  (sRet (cBi bTuple [(pOwn 2)]))]
def d_moved : DB := ⟨["standing", "move", "piles", "one", "two"], 2, b_moved⟩
def b_pairs_of : List BS := [
  (sOwn 1 (fLst [])),
  (sFor (iRng1 (cVar 0)) (gNm 2) [(sExt 1 (fComp (iRng1 (cVar 0)) [3] (gNm 3) (.one (tCmp pNe (cVar 3) (cVar 2))) (cTup [(cVar 2), (cVar 3)])).e)]),
  (sFrz 1 (sRet (cVar 1)))]
def d_pairs_of : DB := ⟨["piles", "found", "one", "two"], 1, b_pairs_of⟩
def b_moves_of : List BS := [
  (sRet (fComp (iSeq (cCall 9 [(cAttr 2 (cVar 0))])) [2] (gNm 2) (.one (tVal (cCall 7 [(cVar 0), (cVar 1), (cVar 2)]))) (cVar 2)).e)]
def d_moves_of : DB := ⟨["table", "standing", "move"], 2, b_moves_of⟩
def b_steps_of : List BS := [
  (sRet (fComp (iSeq (cCall 10 [(cVar 0), (cVar 1)])) [2] (gNm 2) .no (cTup [(cVar 2), (cCall 8 [(cVar 1), (cVar 2)])])).e)]
def d_steps_of : DB := ⟨["table", "standing", "move"], 2, b_steps_of⟩
def b_next_out : List BS := [
  (sRet (cBi bMinL [(cBin oAdd (fBi bList [(cJoin (cStr []) (cVar 0).p).p]).e (fLst [(cCon 8)]).e).p]))]
def d_next_out : DB := ⟨["piles"], 1, b_next_out⟩
def b_taken : List BS := [
  (sWhile (tCmp pNe (fComp (iSeq (cVar 0)) [2] (gNm 2) (.one (tAnd [(tCmp pNe (cVar 2) (cStr [])), (tCmp pEq (cIx (cVar 2).p (cNeg (cInt 1))) (cCall 14 [(cVar 0)]))])) (cVar 2)).e (fLst []).e) [(sSet 1 (cCall 14 [(cVar 0)])), (sSet 0 (cBi bTuple [(fComp (iSeq (cVar 0)) [2] (gNm 2) .no (cIf (tAnd [(tCmp pNe (cVar 2) (cStr [])), (tCmp pEq (cIx (cVar 2).p (cNeg (cInt 1))) (cVar 1))]) (cSl (cVar 2) noPart (part (cNeg (cInt 1)))) (cVar 2))).e.p]))]),
  (sRet (cVar 0))]
def d_taken : DB := ⟨["piles", "first", "pile"], 1, b_taken⟩
def b_put_aside : List BS := [
  (sRet (fComp (iSeq (cCall 11 [(cVar 0), (cVar 1)])) [2, 3] (gTp [(gNm 2), (gNm 3)]) .no (cTup [(cVar 2), (cCall 15 [(cVar 3)])])).e)]
def d_put_aside : DB := ⟨["table", "piles", "move", "there"], 2, b_put_aside⟩
def b_rows_out : List BS := [
  (sSet 2 (cCall 15 [(cVar 1)])),
  (sPar 3 4 (fDict1 (cVar 2) (cTup [])).x (fLst [(cVar 2)]).e.x),
  (sWhile (tCmp pNe (cVar 4) (fLst []).e) [(sOwn 5 (fLst [])), (sFor (iSeq (cVar 4)) (gNm 6) [(sFor (iSeq (cCall 17 [(cVar 0), (cVar 6)])) (gTp [(gNm 7), (gNm 8)]) [(sIf (tInD true (cVar 8) (pOwn 3)) [(sDPut 3 (cVar 8) (cBin oAdd (cDIx (pOwn 3) (cVar 6)) (cTup [(cVar 7)]))), (sApp 5 (cVar 8))] [])])]), (sFrz 5 (sSet 4 (cVar 5)))]),
  (sFrz 3 (sRet (cVar 3)))]
def d_rows_out : DB := ⟨["table", "standing", "first", "found", "waiting", "later", "piles", "move", "there"], 2, b_rows_out⟩
def b_row_out : List BS := [
  (sRet (cDGet (cCall 63 [(cVar 0), (cVar 1)]).p (cBin oMul (cTup [(cStr [])]) (cAttr 2 (cVar 0)))))]
def d_row_out : DB := ⟨["table", "standing"], 2, b_row_out⟩
def b_far_from_some : List BS := [
  (sPar 2 3 (fBi bDictP [(fComp (iSeq (cVar 1)) [5] (gNm 5) .no (cTup [(cVar 5), (cInt 0)])).e.p]).x (fBi bList [(cVar 1).p]).e.x),
  (sWhile (tCmp pNe (cVar 3) (fLst []).e) [(sOwn 4 (fLst [])), (sFor (iSeq (cVar 3)) (gNm 5) [(sFor (iSeq (cCall 11 [(cVar 0), (cVar 5)])) (gTp [(gNm 6), (gNm 7)]) [(sIf (tInD true (cVar 7) (pOwn 2)) [(sDPut 2 (cVar 7) (cBin oAdd (cDIx (pOwn 2) (cVar 5)) (cInt 1))), (sApp 4 (cVar 7))] [])])]), (sFrz 4 (sSet 3 (cVar 4)))]),
  (sFrz 2 (sRet (cVar 2)))]
def d_far_from_some : DB := ⟨["table", "firsts", "found", "waiting", "later", "standing", "move", "there"], 2, b_far_from_some⟩
def b_far_from : List BS := [
  (sRet (cCall 95 [(cVar 0), (fLst [(cVar 1)]).e]))]
def d_far_from : DB := ⟨["table", "first"], 2, b_far_from⟩
def b_block_on : List BS := [
  (sSet 1 (cIx (fComp (iSeq (cProp 127 (cVar 0))) [3] (gNm 3) (.one (tCmp pIn (cAttr 12 (cVar 0)) (cVar 3))) (cVar 3)).e.p (cInt 0))),
  (sSet 2 (cSl (cVar 1) (part (cBin oAdd (cIdx (cVar 1) (cAttr 12 (cVar 0))) (cInt 1))) noPart)),
  (sRet (cIf (tCmp pEq (cVar 2) (cStr [])) cNon (cIx (cVar 2).p (cInt 0))))]
def d_block_on : DB := ⟨["case", "pile", "above", "each"], 1, b_block_on⟩
def b_fewest_to_goal : List BS := [
  (sRet (cDGet (cCall 96 [(cAttr 6 (cVar 0)), (cProp 127 (cVar 0))]).p (cAttr 10 (cVar 0))))]
def d_fewest_to_goal : DB := ⟨["case"], 1, b_fewest_to_goal⟩
def b_fewest_out : List BS := [
  (sSet 1 (cCall 64 [(cAttr 6 (cVar 0)), (cProp 127 (cVar 0))])),
  (sRet (cIf (tCmp pIs (cVar 1) cNon) cNon (cBi bLen [(cVar 1).p])))]
def d_fewest_out : DB := ⟨["case", "found"], 1, b_fewest_out⟩
def b_is_too_much : List BS := [
  (sRet (cOr [(cCmp pIs (cVar 1) cNon), (cCmp pGt (cVar 1) (cAttr 11 (cVar 0)))]))]
def d_is_too_much : DB := ⟨["case", "many"], 2, b_is_too_much⟩
def b_told_by : List BS := [
  (sIf (tCmp pEq (cVar 1) (cStr [114, 101, 97, 99, 104])) [(sSet 3 (cCall 96 [(cAttr 6 (cVar 0)), (cProp 127 (cVar 0))])), (sRet (cIf (tInD false (cAttr 10 (cVar 0)) (cVar 3).p) (fLst []).e (fLst [(cBi bLenD [(cVar 3).p])]).e))] []),
  (sIf (tCmp pEq (cVar 1) (cStr [102, 114, 101, 101])) [(sSet 4 (cCall 115 [(cVar 0)])), (sRet (cIf (tCmp pIs (cVar 4) cNon) (fLst []).e (fLst [(cVar 4)]).e))] []),
  (sSet 2 (cIf (tCmp pEq (cVar 1) (cStr [109, 111, 118, 101, 115])) (cCall 116 [(cVar 0)]) (cCall 117 [(cVar 0)]))),
  (sRet (cIf (tVal (cCall 118 [(cVar 0), (cVar 2)])) (fLst [(cVar 2)]).e (fLst []).e))]
def d_told_by : DB := ⟨["case", "word", "many", "far", "block"], 2, b_told_by⟩
def b_broken : List BS := [
  (sSet 2 (cCall 119 [(cVar 0), (cVar 1)])),
  (sRet (cIf (tCmp pEq (cVar 2) (fLst []).e) cNon (cTup [(cVar 1), (cIx (cVar 2).p (cInt 0))])))]
def d_broken : DB := ⟨["case", "word", "told"], 2, b_broken⟩
def b_check_number : List BS := [
  (sIf (tNot (tVal (cCall 1 [(cVar 0), (cVar 1), (cVar 2)]))) [sNev] [])]
def d_check_number : DB := ⟨["value", "least", "most"], 3, b_check_number⟩
def b_check_height : List BS := [
  (sExp (cCall 26 [(cVar 0), (cInt 1), (cVar 1)])),
  (sIf (tCmp pLt (cBin oMul (cVar 0) (cVar 2)) (cVar 1)) [sNev] [])]
def d_check_height : DB := ⟨["height", "many", "piles"], 3, b_check_height⟩
def b_Table___init__ : List BS := [
  (sExp (cCall 26 [(cVar 1), (cCon 1), (cCon 2)])),
  (sExp (cCall 26 [(cVar 2), (cCon 3), (cCon 4)])),
  (sExp (cCall 27 [(cVar 3), (cVar 1), (cVar 2)])),
  (sIf (tNot (tVal (cCall 2 [(cVar 4), (cCon 7)]))) [sNev] []),
  (sSelf 1 (cVar 1)),
  (sSelf 2 (cVar 2)),
  (sSelf 3 (cVar 3)),
  (sSelf 4 (cVar 4)),
  (sSelf 5 (cTup [(cVar 1), (cVar 2), (cVar 3), (cVar 4)]))]
def d_Table___init__ : DB := ⟨["self", "many", "piles", "height", "rule"], 5, b_Table___init__⟩
def b_Table___eq__ : List BS := [
  (sRet (cAnd [(cIsi (.inr 4) (cVar 1)), (cCmp pEq (cAttr 5 (cVar 0)) (cAttr 5 (cVar 1)))]))]
def d_Table___eq__ : DB := ⟨["self", "other"], 2, b_Table___eq__⟩
def b_check_table : List BS := [
  (sIf (tNot (tVal (cIsi (.inr 4) (cVar 0)))) [sNev] [])]
def d_check_table : DB := ⟨["table"], 1, b_check_table⟩
def b_check_standing : List BS := [
  (sIf (tNot (tVal (cCall 56 [(cVar 0), (cVar 1)]))) [sNev] [])]
def d_check_standing : DB := ⟨["table", "standing"], 2, b_check_standing⟩
def b_check_both : List BS := [
  (sExp (cCall 30 [(cVar 0)])),
  (sExp (cCall 67 [(cVar 0), (cVar 1)]))]
def d_check_both : DB := ⟨["table", "standing"], 2, b_check_both⟩
def b_check_two : List BS := [
  (sExp (cCall 68 [(cVar 0), (cVar 1)])),
  (sExp (cCall 67 [(cVar 0), (cVar 2)]))]
def d_check_two : DB := ⟨["table", "standing", "other"], 3, b_check_two⟩
def b_check_block : List BS := [
  (sIf (tNot (tVal (cCall 114 [(cVar 0), (cVar 1)]))) [sNev] [])]
def d_check_block : DB := ⟨["table", "block"], 2, b_check_block⟩
def b_Case___init__ : List BS := [
  (sExp (cCall 94 [(cVar 1), (cVar 2), (cVar 3)])),
  (sIf (tNot (tVal (cCall 113 [(cVar 4), (cCon 15)]))) [sNev] []),
  (sExp (cCall 125 [(cVar 1), (cVar 5)])),
  (sSelf 6 (cVar 1)),
  (sSelf 10 (cVar 3)),
  (sSelf 11 (cVar 4)),
  (sSelf 12 (cVar 5)),
  (sSelf 5 (cTup [(cAttr 5 (cVar 1)), (cVar 2), (cVar 3), (cVar 4), (cVar 5)]))]
def d_Case___init__ : DB := ⟨["self", "table", "standing", "goal", "number", "block"], 6, b_Case___init__⟩
def b_Case_standing : List BS := [
  (sRet (cIx (cAttr 5 (cVar 0)).p (cInt 1)))]
def d_Case_standing : DB := ⟨["self"], 1, b_Case_standing⟩
def b_Case___eq__ : List BS := [
  (sRet (cAnd [(cIsi (.inr 12) (cVar 1)), (cCmp pEq (cAttr 5 (cVar 0)) (cAttr 5 (cVar 1)))]))]
def d_Case___eq__ : DB := ⟨["self", "other"], 2, b_Case___eq__⟩
def b_check_case : List BS := [
  (sIf (tNot (tVal (cIsi (.inr 12) (cVar 0)))) [sNev] [])]
def d_check_case : DB := ⟨["case"], 1, b_check_case⟩
def b_faults : List BS := [
  (sExp (cCall 129 [(cVar 0)])),
  (sRet (cBi bTuple [(fComp (iSeq (cCon 14)) [1] (gNm 1) (.one (tCmp pIsNot (cCall 122 [(cVar 0), (cVar 1)]) cNon)) (cVar 1)).e.p]))]
def d_faults : DB := ⟨["case", "word"], 1, b_faults⟩
def b_is_sound : List BS := [
  (sRet (cCmp pEq (cCall 130 [(cVar 0)]) (cTup [])))]
def d_is_sound : DB := ⟨["case"], 1, b_is_sound⟩
def b__law_well : List BS := [
  (sSet 2 (cIf (tCmp pLt (cVar 1) (cBi bLen [(cVar 0).p])) (cBi bInt [(cIx (cVar 0).p (cVar 1)).p]) (cInt 0))),
  (sSet 3 (cBin oAdd (cInt 765179) (cBin oMul (cInt 433) (cVar 1)))),
  (sFor (iSeq (cBin oAdd (cSl (cVar 0) noPart (part (cInt 12))) (fLst [(cVar 2)]).e)) (gNm 4) [(sSet 3 (cBin oMod (cBi bInt [(cBin oAdd (cBin oAdd (cBin oMul (cVar 3) (cInt 16807)) (cBin oMod (cBi bInt [(cVar 4).p]) (cInt 2147481359))) (cInt 211)).p]) (cInt 2147482093)))]),
  (sRet (fLst [(cIf (tOr [(tCmp pLt (cVar 2) (cInt 0)), (tCmp pGe (cVar 2) (cBin oPow (cInt 10) (cInt 15)))]) (cBin oMod (cBi bAbs [(cVar 2).p]) (cBin oPow (cInt 10) (cInt 60))) (cInt 0)), (cVar 3), (cInt 0)]).s)]
def d__law_well : DB := ⟨["script", "lap", "own", "stir", "cell"], 2, b__law_well⟩
def b__law_draw : List BS := [
  (sIf (tCmp pGt (cIx (cVar 0).p (cInt 0)) (cInt 0)) [(sAsg (gTpX [(gIx (cVar 0) (cInt 0)), (gNm 2).x]) (cBi bDivmod [(cIx (cVar 0).p (cInt 0)).p, (cVar 1).p])), (sRet (cVar 2))] []),
  (sAsg (gIx (cVar 0) (cInt 2)) (cBin oAdd (cIx (cVar 0).p (cInt 2)) (cInt 1))),
  (sAsg (gIx (cVar 0) (cInt 1)) (cBin oMod (cBi bInt [(cBin oAdd (cBin oAdd (cBin oMul (cIx (cVar 0).p (cInt 1)) (cBin oAdd (cBin oMod (cBi bInt [(cIx (cVar 0).p (cInt 1)).p]) (cInt 8837)) (cInt 41011))) (cBin oMul (cInt 9787) (cIx (cVar 0).p (cInt 2)))) (cInt 167)).p]) (cInt 2147481199))),
  (sRet (cBin oMod (cBi bInt [(cBin oDiv (cIx (cVar 0).p (cInt 1)) (cInt 487)).p]) (cVar 1)))]
def d__law_draw : DB := ⟨["well", "many", "figure"], 2, b__law_draw⟩
def b__law_of : List BS := [
  (sRet (cIx (cVar 1).p (cCall 34 [(cVar 0), (cBi bLen [(cVar 1).p])])))]
def d__law_of : DB := ⟨["well", "some"], 2, b__law_of⟩
def b__law_same : List BS := [
  (sIf (tOr [(tVal (cIsi (.inl 4) (cVar 1))), (tVal (cIsi (.inl 5) (cVar 1)))]) [(sSet 2 (cIf (tVal (cIsi (.inl 4) (cVar 1))) (cIsi (.inl 4) (cVar 0)) (cIsi (.inl 5) (cVar 0)))), (sRet (cAnd [(cVar 2), (cCmp pEq (cBi bLen [(cVar 0).p]) (cBi bLen [(cVar 1).p])), (cBi bAll [(fComp (iRng1 (cBi bLen [(cVar 1).p])) [3] (gNm 3) .no (cCall 36 [(cIx (cVar 0).p (cVar 3)), (cIx (cVar 1).p (cVar 3))])).e.p])]))] []),
  (sIf (tCmp pIs (cVar 1) cNon) [(sRet (cCmp pIs (cVar 0) cNon))] []),
  (sIf (tVal (cIsi (.inl 1) (cVar 1))) [(sRet (cAnd [(cIsi (.inl 1) (cVar 0)), (cCmp pEq (cVar 0) (cVar 1))]))] []),
  (sIf (tVal (cIsi (.inl 2) (cVar 1))) [(sRet (cAnd [(cIsi (.inl 2) (cVar 0)), (cNot (cIsi (.inl 1) (cVar 0))), (cCmp pEq (cVar 0) (cVar 1))]))] []),
  (sRet (cAnd [(cIsi (.inl 3) (cVar 1)), (cIsi (.inl 3) (cVar 0)), (cCmp pEq (cVar 0) (cVar 1))]))]
def d__law_same : DB := ⟨["told", "due", "fits", "k"], 2, b__law_same⟩
def b__law_table : List BS := [
  (sPar 4 5 (cBin oAdd (cInt 1) (cCall 34 [(cVar 0), (cVar 1)])).x (cBin oAdd (cInt 2) (cCall 34 [(cVar 0), (cBin oSub (cVar 2) (cInt 1))])).x),
  (sSet 3 (cBin oDiv (cBi bInt [(cBin oSub (cBin oAdd (cVar 4) (cVar 5)) (cInt 1)).p]) (cVar 5))),
  (sRet (cTup [(cVar 4), (cVar 5), (cBin oAdd (cVar 3) (cCall 34 [(cVar 0), (cBin oAdd (cBin oSub (cVar 4) (cVar 3)) (cInt 1))])), (cCall 35 [(cVar 0), (cTup [(cStr [102, 114, 101, 101]), (cStr [102, 114, 101, 101]), (cStr [108, 105, 103, 104, 116])])])]))]
def d__law_table : DB := ⟨["well", "most", "top", "least", "many", "piles"], 3, b__law_table⟩
def b__law_made : List BS := [
  (sRet (fMk 4 [(cIx (cVar 0).p (cInt 0)), (cIx (cVar 0).p (cInt 1)), (cIx (cVar 0).p (cInt 2)), (cIx (cVar 0).p (cInt 3))]).e)]
def d__law_made : DB := ⟨["parts"], 1, b__law_made⟩
def b__law_goes_on : List BS := [
  (sRet (cAnd [(cCmp pLt (cBi bLen [(cVar 1).p]) (cIx (cVar 0).p (cInt 2))), (cOr [(cCmp pEq (cIx (cVar 0).p (cInt 3)) (cStr [102, 114, 101, 101])), (cCmp pEq (cVar 1) (cStr [])), (cCmp pGt (cIx (cVar 1).p (cNeg (cInt 1))) (cVar 2))])]))]
def d__law_goes_on : DB := ⟨["parts", "pile", "block"], 3, b__law_goes_on⟩
def b__law_standing : List BS := [
  (sPar2 3 4 (fBi bList [(cSl (cStr [97, 98, 99, 100, 101]) noPart (part (cIx (cVar 1).p (cInt 0)))).p]).x (fRep (fLst [(cStr [])]).e (cIx (cVar 1).p (cInt 1))).x),
  (sFor (iRng1 (cIx (cVar 1).p (cInt 0))) (gNm 2) [(sPop 5 3 (cCall 34 [(cVar 0), (cBi bLen [(pOwn 3)])])), (sSet 6 (cCall 35 [(cVar 0), (fComp (iRng1 (cIx (cVar 1).p (cInt 1))) [8] (gNm 8) (.one (tCmp pLt (cBi bLen [(cIx (pOwn 4) (cVar 8)).p]) (cIx (cVar 1).p (cInt 2)))) (cVar 8)).e])), (sAsg (gOwn 4 (cVar 6)) (cBin oAdd (cIx (pOwn 4) (cVar 6)) (cVar 5)))]),
  (sFrz 4 (sRet (cBi bTuple [(fComp (iSeq (cVar 4)) [7] (gNm 7) .no (cIf (tCmp pEq (cIx (cVar 1).p (cInt 3)) (cStr [108, 105, 103, 104, 116])) (cJoin (cStr []) (fRevL (fBi bSorted [(cVar 7).p]).e).e.p) (cVar 7))).e.p])))]
def d__law_standing : DB := ⟨["well", "parts", "lap", "left", "piles", "block", "at", "pile", "k"], 2, b__law_standing⟩
def b__law_moves : List BS := [
  (sOwn 2 (fLst [])),
  (sFor (iSeq (fComp (iRng1 (cIx (cVar 0).p (cInt 1))) [5] (gNm 5) (.one (tCmp pNe (cIx (cVar 1).p (cVar 5)) (cStr []))) (cVar 5)).e) (gNm 3) [(sFor (iSeq (fComp (iRng1 (cIx (cVar 0).p (cInt 1))) [5] (gNm 5) (.one (tCmp pNe (cVar 5) (cVar 3))) (cVar 5)).e) (gNm 4) [(sIf (tVal (cCall 39 [(cVar 0), (cIx (cVar 1).p (cVar 4)), (cIx (cIx (cVar 1).p (cVar 3)).p (cNeg (cInt 1)))])) [(sApp 2 (cTup [(cVar 3), (cVar 4)]))] [])])]),
  (sFrz 2 (sRet (cVar 2)))]
def d__law_moves : DB := ⟨["parts", "standing", "found", "one", "two", "k"], 2, b__law_moves⟩
def b__law_behind : List BS := [
  (sOwn 2 (fBi bList [(cVar 0).p])),
  (sAsg (gOwn 2 (cIx (cVar 1).p (cInt 1))) (cBin oAdd (cIx (pOwn 2) (cIx (cVar 1).p (cInt 1))) (cIx (cIx (cVar 0).p (cIx (cVar 1).p (cInt 0))).p (cNeg (cInt 1))))),
  (sAsg (gOwn 2 (cIx (cVar 1).p (cInt 0))) (cSl (cIx (cVar 0).p (cIx (cVar 1).p (cInt 0))) noPart (part (cNeg (cInt 1))))),
  (sRet (cBi bTuple [(pOwn 2)]))]
def d__law_behind : DB := ⟨["standing", "move", "piles"], 2, b__law_behind⟩
def b__law_steps : List BS := [
  (sRet (fComp (iSeq (cCall 41 [(cVar 0), (cVar 1)])) [2] (gNm 2) .no (cTup [(cVar 2), (cCall 42 [(cVar 1), (cVar 2)])])).e)]
def d__law_steps : DB := ⟨["parts", "standing", "move"], 2, b__law_steps⟩
def b__law_far : List BS := [
  (sPar3 2 3 4 (fDict1 (cVar 1) (cInt 0)).x (fLst [(cVar 1)]).e.x (cInt 0).x),
  (sWhile (tCmp pNe (cVar 3) (fLst []).e) [(sPar 6 4 (fLst []).x (cBin oAdd (cVar 4) (cInt 1)).x), (sFor (iSeq (cVar 3)) (gNm 5) [(sFor (iSeq (cCall 44 [(cVar 0), (cVar 5)])) (gTp [(gNm 7), (gNm 8)]) [(sIf (tInD true (cVar 8) (pOwn 2)) [(sDPut 2 (cVar 8) (cVar 4)), (sApp 6 (cVar 8))] [])])]), (sFrz 6 (sSet 3 (cVar 6)))]),
  (sFrz 2 (sRet (cVar 2)))]
def d__law_far : DB := ⟨["parts", "standing", "found", "layer", "many", "here", "later", "move", "then"], 2, b__law_far⟩
def b__law_case_parts : List BS := [
  (sSet 3 (cCall 37 [(cVar 0), (cVar 1), (cVar 2)])),
  (sSet 4 (cCall 91 [(cVar 0), (cVar 3)])),
  (sSet 5 (cCall 35 [(cVar 0), (fLst [(cCall 91 [(cVar 0), (cVar 3)]), (cIx (fBi bSrtD [(fBi bListD [(cCall 102 [(cVar 3), (cVar 4)]).p]).e.p]).e.p (cNeg (cInt 1))), (cVar 4)]).e])),
  (sRet (cTup [(cVar 3), (cVar 4), (cVar 5), (cCall 35 [(cVar 0), (cTup [(cInt 0), (cInt 1), (cInt 2), (cInt 4), (cInt 99)])]), (cCall 35 [(cVar 0), (cSl (cStr [97, 98, 99, 100, 101]) noPart (part (cIx (cVar 3).p (cInt 0))))])]))]
def d__law_case_parts : DB := ⟨["well", "most", "top", "parts", "first", "goal"], 3, b__law_case_parts⟩
def b__law_case : List BS := [
  (sRet (fMk 12 [(cCall 38 [(cIx (cVar 0).p (cInt 0))]), (cIx (cVar 0).p (cInt 1)), (cIx (cVar 0).p (cInt 2)), (cIx (cVar 0).p (cInt 3)), (cIx (cVar 0).p (cInt 4))]).e)]
def d__law_case : DB := ⟨["parts"], 1, b__law_case⟩
def b__law_named : List BS := [
  (sRet (fMkK 12 [] ["number", "block", "goal", "table", "standing"] [(cIx (cVar 0).p (cInt 3)), (cIx (cVar 0).p (cInt 4)), (cIx (cVar 0).p (cInt 2)), (cCall 38 [(cIx (cVar 0).p (cInt 0))]), (cIx (cVar 0).p (cInt 1))] [3, 4, 2, 0, 1]).e)]
def d__law_named : DB := ⟨["parts"], 1, b__law_named⟩
def b__law_right : List BS := [
  (sFor (iRng1 (cInt 3)) (gNm 1) [(sPar 6 7 (cCall 134 [(cVar 0), (cInt 3), (cInt 3)]).x (cCall 134 [(cVar 0), (cInt 3), (cInt 3)]).x), (sPar 8 9 (cCall 135 [(cVar 6)]).x (cCall 137 [(cVar 6)]).x), (sFor (iSeq (fLst [(cVar 8), (cVar 9)]).e) (gNm 2) [(sIf (tNot (tVal (cCall 36 [(fLst [(cAttr 5 (cAttr 6 (cVar 2))), (cProp 127 (cVar 2)), (cAttr 10 (cVar 2)), (cAttr 11 (cVar 2)), (cAttr 12 (cVar 2)), (cAttr 5 (cVar 2))]).e, (cBin oAdd (fBi bList [(cVar 6).p]).e (fLst [(cVar 6)]).e)]))) [(sRet (cBl false))] [])]), (sIf (tOr [(tNot (tEqO false (cVar 8) (cVar 9))), (tEqO true (cVar 8) (cVar 9)), (tEqO false (cVar 8) (cVar 6)), (tEqO false (cVar 8) (cInt 5)), (tEqO true (cAttr 6 (cVar 8)) (cCall 38 [(cIx (cVar 6).p (cInt 0))])), (tNot (tIns (cVar 8)))]) [(sRet (cBl false))] []), (sSet 3 (fLst [(cBin oAdd (cBin oAdd (cSl (cVar 6) noPart (part (cInt 1))) (cTup [(cCall 91 [(cVar 0), (cIx (cVar 6).p (cInt 0))])])) (cSl (cVar 6) (part (cInt 2)) noPart)), (cBin oAdd (cBin oAdd (cSl (cVar 6) noPart (part (cInt 2))) (cTup [(cCall 91 [(cVar 0), (cIx (cVar 6).p (cInt 0))])])) (cSl (cVar 6) (part (cInt 3)) noPart)), (cBin oAdd (cSl (cVar 6) noPart (part (cInt 3))) (cTup [(cIx (cVar 7).p (cInt 3)), (cIx (cVar 6).p (cInt 4))]))]).e), (sSet 3 (cBin oAdd (cVar 3) (fLst [(cBin oAdd (cSl (cVar 6) noPart (part (cInt 4))) (cTup [(cCall 35 [(cVar 0), (cSl (cStr [97, 98, 99, 100, 101]) noPart (part (cIx (cIx (cVar 6).p (cInt 0)).p (cInt 0))))])])), (cVar 7)]).e)), (sFor (iSeq (cVar 3)) (gNm 4) [(sSet 10 (cCall 135 [(cVar 4)])), (sIf (tOr [(tCmp pNe (cEqO false (cVar 8) (cVar 10)) (cCmp pEq (cVar 6) (cVar 4))), (tCmp pNe (cEqO true (cVar 8) (cVar 10)) (cCmp pNe (cVar 6) (cVar 4)))]) [(sRet (cBl false))] [])]), (sSet 5 (cCall 130 [(cVar 8)])), (sIf (tNot (tVal (cCall 36 [(fLst [(cCall 130 [(cVar 9)]), (cCall 131 [(cVar 9)]), (cAttr 5 (cVar 8)), (cAttr 11 (cVar 8))]).e, (fLst [(cVar 5), (cCmp pEq (cVar 5) (cTup [])), (cVar 6), (cIx (cVar 6).p (cInt 3))]).e]))) [(sRet (cBl false))] [])]),
  (sRet (cBl true))]
def d__law_right : DB := ⟨["well", "lap", "each", "rest", "bent", "told", "parts", "other", "case", "same", "third"], 1, b__law_right⟩
def b_law : List BS := [
  (sFor (iRng1 (cBi bMax [(cInt 1).p, (cBi bMin [(cBi bLen [(cVar 0).p]).p, (cInt 3).p]).p])) (gNm 1) [(sSet 2 (cCall 33 [(cVar 0), (cVar 1)])), (sIf (tNot (tVal (cBi bAll [(fComp (iRng1 (cInt 5)) [3] (gNm 3) .no (cCall 48 [(cVar 2)])).e.p]))) [(sRet (cBl false))] [])]),
  (sRet (cBl true))]
def d_law : DB := ⟨["script", "lap", "well", "again"], 1, b_law⟩
def info : Info := ⟨[0, 1, 2, 3, 4, 5, 6, 7, 8, 9, 10, 11, 14, 15, 17, 26, 27, 30, 33, 34, 35, 36, 37, 38, 39, 41, 42, 44, 48, 49, 50, 54, 55, 56, 63, 64, 67, 68, 91, 94, 95, 96, 102, 113, 114, 115, 116, 117, 118, 119, 122, 125, 129, 130, 131, 134, 135, 137], [4, 12], [0, 1, 2, 3, 4, 5, 7, 8, 14, 15], [0, 1, 2, 4, 5, 6, 7, 8, 9, 10, 11, 12, 13, 15, 18]⟩
def tab : List TE1 := [
  ⟨0, d_is_whole, ⟨(top 1), "is_whole", "is_whole"⟩⟩,
  ⟨1, d_is_between, ⟨(top 2), "is_between", "is_between"⟩⟩,
  ⟨113, d_is_up_to, ⟨(top 3), "is_up_to", "is_up_to"⟩⟩,
  ⟨2, d_is_one_of, ⟨(top 4), "is_one_of", "is_one_of"⟩⟩,
  ⟨50, d_is_tuple_of, ⟨(top 5), "is_tuple_of", "is_tuple_of"⟩⟩,
  ⟨3, d_blocks_of, ⟨(top 15), "blocks_of", "blocks_of"⟩⟩,
  ⟨4, d_is_falling, ⟨(top 16), "is_falling", "is_falling"⟩⟩,
  ⟨54, d_has_each_once, ⟨(top 17), "has_each_once", "has_each_once"⟩⟩,
  ⟨55, d_are_piles, ⟨(top 18), "are_piles", "are_piles"⟩⟩,
  ⟨5, d_fits_rule, ⟨(top 19), "fits_rule", "fits_rule"⟩⟩,
  ⟨56, d_is_standing, ⟨(top 20), "is_standing", "is_standing"⟩⟩,
  ⟨114, d_is_block, ⟨(top 21), "is_block", "is_block"⟩⟩,
  ⟨6, d_can_come_on, ⟨(top 22), "can_come_on", "can_come_on"⟩⟩,
  ⟨7, d_can_move, ⟨(top 23), "can_move", "can_move"⟩⟩,
  ⟨8, d_moved, ⟨(top 24), "moved", "moved"⟩⟩,
  ⟨9, d_pairs_of, ⟨(top 25), "pairs_of", "pairs_of"⟩⟩,
  ⟨10, d_moves_of, ⟨(top 26), "moves_of", "moves_of"⟩⟩,
  ⟨11, d_steps_of, ⟨(top 27), "steps_of", "steps_of"⟩⟩,
  ⟨14, d_next_out, ⟨(top 30), "next_out", "next_out"⟩⟩,
  ⟨15, d_taken, ⟨(top 31), "taken", "taken"⟩⟩,
  ⟨17, d_put_aside, ⟨(top 32), "put_aside", "put_aside"⟩⟩,
  ⟨63, d_rows_out, ⟨(top 33), "rows_out", "rows_out"⟩⟩,
  ⟨64, d_row_out, ⟨(top 34), "row_out", "row_out"⟩⟩,
  ⟨95, d_far_from_some, ⟨(top 36), "far_from_some", "far_from_some"⟩⟩,
  ⟨96, d_far_from, ⟨(top 37), "far_from", "far_from"⟩⟩,
  ⟨115, d_block_on, ⟨(top 40), "block_on", "block_on"⟩⟩,
  ⟨116, d_fewest_to_goal, ⟨(top 41), "fewest_to_goal", "fewest_to_goal"⟩⟩,
  ⟨117, d_fewest_out, ⟨(top 42), "fewest_out", "fewest_out"⟩⟩,
  ⟨118, d_is_too_much, ⟨(top 43), "is_too_much", "is_too_much"⟩⟩,
  ⟨119, d_told_by, ⟨(top 44), "told_by", "told_by"⟩⟩,
  ⟨122, d_broken, ⟨(top 45), "broken", "broken"⟩⟩,
  ⟨26, d_check_number, ⟨(top 55), "check_number", "check_number"⟩⟩,
  ⟨27, d_check_height, ⟨(top 56), "check_height", "check_height"⟩⟩,
  ⟨28, d_Table___init__, ⟨(inC (top 57) 0), "__init__", "Table.__init__"⟩⟩,
  ⟨29, d_Table___eq__, ⟨(inC (top 57) 1), "__eq__", "Table.__eq__"⟩⟩,
  ⟨30, d_check_table, ⟨(top 58), "check_table", "check_table"⟩⟩,
  ⟨67, d_check_standing, ⟨(top 59), "check_standing", "check_standing"⟩⟩,
  ⟨68, d_check_both, ⟨(top 60), "check_both", "check_both"⟩⟩,
  ⟨94, d_check_two, ⟨(top 61), "check_two", "check_two"⟩⟩,
  ⟨125, d_check_block, ⟨(top 62), "check_block", "check_block"⟩⟩,
  ⟨126, d_Case___init__, ⟨(inC (top 65) 0), "__init__", "Case.__init__"⟩⟩,
  ⟨127, d_Case_standing, ⟨(inC (top 65) 1), "standing", "Case.standing"⟩⟩,
  ⟨128, d_Case___eq__, ⟨(inC (top 65) 2), "__eq__", "Case.__eq__"⟩⟩,
  ⟨129, d_check_case, ⟨(top 66), "check_case", "check_case"⟩⟩,
  ⟨130, d_faults, ⟨(top 67), "faults", "faults"⟩⟩,
  ⟨131, d_is_sound, ⟨(top 68), "is_sound", "is_sound"⟩⟩,
  ⟨33, d__law_well, ⟨(top 70), "_law_well", "_law_well"⟩⟩,
  ⟨34, d__law_draw, ⟨(top 71), "_law_draw", "_law_draw"⟩⟩,
  ⟨35, d__law_of, ⟨(top 72), "_law_of", "_law_of"⟩⟩,
  ⟨36, d__law_same, ⟨(top 73), "_law_same", "_law_same"⟩⟩,
  ⟨37, d__law_table, ⟨(top 74), "_law_table", "_law_table"⟩⟩,
  ⟨38, d__law_made, ⟨(top 75), "_law_made", "_law_made"⟩⟩,
  ⟨39, d__law_goes_on, ⟨(top 76), "_law_goes_on", "_law_goes_on"⟩⟩,
  ⟨91, d__law_standing, ⟨(top 77), "_law_standing", "_law_standing"⟩⟩,
  ⟨41, d__law_moves, ⟨(top 78), "_law_moves", "_law_moves"⟩⟩,
  ⟨42, d__law_behind, ⟨(top 79), "_law_behind", "_law_behind"⟩⟩,
  ⟨44, d__law_steps, ⟨(top 80), "_law_steps", "_law_steps"⟩⟩,
  ⟨102, d__law_far, ⟨(top 81), "_law_far", "_law_far"⟩⟩,
  ⟨134, d__law_case_parts, ⟨(top 82), "_law_case_parts", "_law_case_parts"⟩⟩,
  ⟨135, d__law_case, ⟨(top 83), "_law_case", "_law_case"⟩⟩,
  ⟨137, d__law_named, ⟨(top 84), "_law_named", "_law_named"⟩⟩,
  ⟨48, d__law_right, ⟨(top 85), "_law_right", "_law_right"⟩⟩,
  ⟨49, d_law, ⟨(top 86), "law", "law"⟩⟩]
end Rf


set_option Elab.async false
set_option linter.all false
set_option maxRecDepth 100000
set_option maxHeartbeats 1000000
namespace Rf
open PySem L2

/-! ## the monad -/
theorem bnd_ret {α β : Type} (a : α) (f : α → M β) : bnd (ret a) f = f a := rfl
theorem bnd_some {α β : Type} (a : α) (f : α → M β) : bnd (opt (some a)) f = f a := rfl
theorem bndE_def {α β : Type} (m : En → M α) (f : α → En → M β) (r : En) : bndE m f r = bnd (m r) fun a => f a r := rfl
theorem opt_some {α : Type} (a : α) : opt (some a) = ret a := rfl
theorem bnd_assoc {α β γ : Type} (m : M α) (f : α → M β) (g : β → M γ) : bnd (bnd m f) g = bnd m fun a => bnd (f a) g := by
  funext st
  unfold bnd
  cases m st <;> rfl
theorem bnd_id {α : Type} (m : M α) : bnd m ret = m := by
  funext st
  unfold bnd
  cases m st <;> rfl
theorem noX_ret {α : Type} (a : α) : noX (ret a) = ret a := rfl
theorem den1_def (f : D → Option D) (a : En → M D) (r : En) : den1 f a r = bnd (a r) fun x => opt (f x) := rfl
theorem den2_def (f : D → D → Option D) (a b : En → M D) (r : En) : den2 f a b r = bnd (a r) fun x => bnd (b r) fun y => opt (f x y) := rfl
theorem denL_def (f : List D → Option D) (a : En → M (List D)) (r : En) : denL f a r = bnd (a r) fun x => opt (f x) := rfl
theorem denP_keep (f : List D → Option D) (a : En → M (List D)) (r : En) : denP (keepSt f) a r = bnd (a r) fun x => opt (f x) := by
  funext st
  unfold denP bndE bnd
  cases a r st with
  | ok l st' =>
    show optW (keepSt f st' l) = opt (f l) st'
    unfold keepSt
    cases f l <;> rfl
  | exc _ _ => rfl
  | bad => rfl
theorem denM_def (ok : D → Bool) (f : D → D → Option D) (a b : En → M D) (r : En) : denM ok f a b r = bnd (a r) fun x => if ok x then bnd (b r) fun y => opt (f x y) else fun _ => .bad := by
  unfold denM
  rw [bndE_def]
  congr 1
  funext x
  split <;> rfl
theorem dns_nil (F : FT) (r : En) : dns [] F r = ret [] := rfl
theorem dns_cons' (b : BE) (bs : List BE) (F : FT) (r : En) : dns (b :: bs) F r = bnd (b.den F r) fun x => bnd (dns bs F r) fun xs => ret (x :: xs) := rfl
theorem dnsP_nil (F : FT) (r : En) : dnsP [] F r = ret [] := rfl
theorem dnsP_cons (b : BP) (bs : List BP) (F : FT) (r : En) : dnsP (b :: bs) F r = bnd (b.den F r) fun x => bnd (dnsP bs F r) fun xs => ret (x :: xs) := rfl

/-! ## the bundles' meanings -/
section
variable (F : FT) (r : En)
theorem m_p (b : BE) : b.p.den F r = b.den F r := rfl
theorem m_e (b : BF) : b.e.den F r = b.den F r := rfl
theorem m_pOwn (i : Nat) : (pOwn i).den F r = opt (getO r i) := rfl
theorem m_cVar (i : Nat) : (cVar i).den F r = opt (getV r i) := rfl
theorem m_cInt (i : Int) : (cInt i).den F r = ret (.int i) := rfl
theorem m_cBl (b : Bool) : (cBl b).den F r = ret (.bl b) := rfl
theorem m_cNon : cNon.den F r = ret .non := rfl
theorem m_cStr (s : List Nat) : (cStr s).den F r = ret (.str s) := rfl
theorem m_cCon (i : Nat) : (cCon i).den F r = ret (coD i) := rfl
theorem m_cBin (o : Op2) (a b : BE) : (cBin o a b).den F r = bnd (a.den F r) fun x => bnd (b.den F r) fun y => opt (o.f x y) := rfl
theorem m_cCmp (o : Cp2) (a b : BE) : (cCmp o a b).den F r = bnd (a.den F r) fun x => bnd (b.den F r) fun y => opt (o.f x y) := rfl
theorem m_cTup (bs : List BE) : (cTup bs).den F r = bnd (dns bs F r) fun l => opt (mkTup l) := rfl
theorem m_fLst (bs : List BE) : (fLst bs).den F r = bnd (dns bs F r) fun l => opt (mkLst l) := rfl
theorem m_cIx (a : BP) (b : BE) : (cIx a b).den F r = bnd (a.den F r) fun x => bnd (b.den F r) fun y st => opt (fIxW st x y) st := rfl
theorem m_cCall (i : Nat) (bs : List BE) : (cCall i bs).den F r = bnd (dns bs F r) fun l => F i l := rfl
theorem m_fMk (c : Nat) (bs : List BE) : (fMk c bs).den F r = bnd (dns bs F r) fun l => F (iniF c) l := rfl
theorem m_cIsi (t : Ty) (a : BE) : (cIsi t a).den F r = bnd (a.den F r) fun d st => opt ((tyOf st d).map fun x => .bl (isTy x t)) st := rfl
theorem m_cNot (a : BE) : (cNot a).den F r = bnd (a.den F r) fun x => opt (fNot x) := rfl
theorem m_cAnd1 (a : BE) : (cAnd [a]).den F r = a.den F r := rfl
theorem m_cAnd (a b : BE) (l : List BE) : (cAnd (a :: b :: l)).den F r = bnd (a.den F r) fun c => match c with
  | .bl true => (cAnd (b :: l)).den F r
  | .bl false => ret (.bl false)
  | _ => opt none := by
  show dAndV (a.den F) (dAndVs (b :: l) F) r = _
  unfold dAndV
  rw [bndE_def]
  congr 1
  funext c
  cases c with
  | bl b => cases b <;> rfl
  | _ => rfl
theorem m_cOr1 (a : BE) : (cOr [a]).den F r = a.den F r := rfl
theorem m_cOr (a b : BE) (l : List BE) : (cOr (a :: b :: l)).den F r = bnd (a.den F r) fun c => match c with
  | .bl true => ret (.bl true)
  | .bl false => (cOr (b :: l)).den F r
  | _ => opt none := by
  show dOrV (a.den F) (dOrVs (b :: l) F) r = _
  unfold dOrV
  rw [bndE_def]
  congr 1
  funext c
  cases c with
  | bl b => cases b <;> rfl
  | _ => rfl
theorem m_cChain (o o2 : Cp2) (a b c : BE) : (cChain o o2 a b c).den F r = bnd (a.den F r) fun x => bnd (b.den F r) fun y => bnd (opt (o.f x y)) fun z => match z with
  | .bl true => bnd (c.den F r) fun u => opt (o2.f y u)
  | .bl false => ret (.bl false)
  | _ => opt none := by
  show dChain o.f o2.f (a.den F) (b.den F) (c.den F) r = _
  unfold dChain
  rw [bndE_def]
  congr 1
  funext x
  rw [bndE_def]
  congr 1
  funext y
  rw [bndE_def]
  congr 1
  funext z
  cases z with
  | bl b => cases b <;> rfl
  | _ => rfl
theorem m_cBi (o : Bi) (bs : List BP) : (cBi o bs).den F r = denP o.f (dnsP bs F) r := rfl
theorem m_fBi (o : BiF) (bs : List BP) : (fBi o bs).den F r = denP o.f (dnsP bs F) r := rfl
theorem m_cIf (c : BT) (a b : BE) : (cIf c a b).den F r = bnd (c.den F r) fun k => if k then a.den F r else b.den F r := by
  show dIf (c.den F) (a.den F) (b.den F) r = _
  unfold dIf
  rw [bndE_def]
  congr 1
  funext k
  split <;> rfl
theorem m_cAttr (f : Nat) (a : BE) : (cAttr f a).den F r = bnd (a.den F r) fun d => dAttr f d := rfl
theorem m_cSl (a : BE) (lo hi : BO) : (cSl a lo hi).den F r = bnd (a.den F r) fun x => bnd (lo.den F r) fun l => bnd (hi.den F r) fun u => opt (fSl x l u) := rfl
theorem m_noPart : noPart.den F r = ret none := rfl
theorem m_part (b : BE) : (part b).den F r = bnd (b.den F r) fun x => opt (toI x) := rfl
theorem m_fRevL (a : BE) : (fRevL a).den F r = bnd (a.den F r) fun x => opt (fRev x) := rfl
theorem m_fRep (a b : BE) : (fRep a b).den F r = bnd (a.den F r) fun x => bnd (b.den F r) fun y => opt (fRepD x y) := rfl
theorem m_fSpl (a b : BE) : (fSpl a b).den F r = bnd (a.den F r) fun x => if isStr x then bnd (b.den F r) fun y => opt (fSplit x y) else fun _ => .bad := denM_def ..
theorem m_cJoin (a : BE) (b : BP) : (cJoin a b).den F r = bnd (a.den F r) fun x => if isStr x then bnd (b.den F r) fun y => opt (fJoin x y) else fun _ => .bad := denM_def ..
theorem m_cCallK (i : Nat) (bs : List BE) (ks : List Str) (zs : List BE) (pm : List Nat) : (cCallK i bs ks zs pm).den F r = bnd (dns bs F r) fun ds => bnd (dns zs F r) fun ys => F i (arr .non pm (ds ++ ys)) := rfl
theorem m_fComp (it : BI) (vs : List Nat) (g : BG) (c : BC) (elt : BE) : (fComp it vs g c elt).den F r = bnd (it.den F r) fun l => bnd (noX (compGo g.set (c.den F) (elt.den F) (wipeE r vs) l [])) fun acc => ret (.lst acc) := rfl
theorem m_s (b : BF) : b.s.den F r = bnd (b.den F r) dSto := rfl
-- tests
theorem m_tVal (a : BE) : (tVal a).den F r = bnd (a.den F r) fun x => opt (toB x) := rfl
theorem m_tCmp (o : Cp2) (a b : BE) : (tCmp o a b).den F r = bnd (a.den F r) fun x => bnd (b.den F r) fun y => bnd (opt (o.f x y)) fun z => opt (toB z) := by
  show dB (den2 o.f (a.den F) (b.den F)) r = _
  unfold dB
  rw [bndE_def, den2_def, bnd_assoc]
  congr 1
  funext x
  rw [bnd_assoc]
theorem m_tNot (a : BT) : (tNot a).den F r = bnd (a.den F r) fun c => ret (!c) := rfl
theorem m_tAnd1 (a : BT) : (tAnd [a]).den F r = a.den F r := rfl
theorem m_tAnd (a b : BT) (l : List BT) : (tAnd (a :: b :: l)).den F r = bnd (a.den F r) fun c => if c then (tAnd (b :: l)).den F r else ret false := by
  show dAnd (a.den F) (dAnds (b :: l) F) r = _
  unfold dAnd
  rw [bndE_def]
  congr 1
  funext c
  split <;> rfl
theorem m_tOr1 (a : BT) : (tOr [a]).den F r = a.den F r := rfl
theorem m_tOr (a b : BT) (l : List BT) : (tOr (a :: b :: l)).den F r = bnd (a.den F r) fun c => if c then ret true else (tOr (b :: l)).den F r := by
  show dOr (a.den F) (dOrs (b :: l) F) r = _
  unfold dOr
  rw [bndE_def]
  congr 1
  funext c
  split <;> rfl
theorem m_tEqO (neg : Bool) (a b : BE) : (tEqO neg a b).den F r = bnd (a.den F r) fun x => bnd (b.den F r) fun y => bnd (noX (fEqO F neg x y)) fun z => opt (toB z) := by
  show dB (dEqO F neg (a.den F) (b.den F)) r = _
  unfold dB dEqO
  rw [bndE_def, bndE_def, bnd_assoc]
  congr 1
  funext x
  rw [bndE_def, bnd_assoc]
-- iterables
theorem m_iSeq (b : BE) : (iSeq b).den F r = bnd (b.den F r) fun d => opt (items d) := rfl
theorem m_iRng1 (a : BE) : (iRng1 a).den F r = bnd (dns [a] F r) fun l => opt (fRng1 l) := rfl
theorem m_iRng2 (a b : BE) : (iRng2 a b).den F r = bnd (dns [a, b] F r) fun l => opt (fRng2 l) := rfl
theorem m_iEnum2 (a : BE) : (iEnum2 a).den F r = bnd (dns [a] F r) fun l => opt (fEnum l) := rfl
-- statements
theorem m_blk0 : dBlk [] F r = ret (.nx r) := rfl
theorem m_blk (s : BS) (ss : List BS) : dBlk (s :: ss) F r = bnd (s.den F r) fun o => match o with
  | .nx r' => dBlk ss F r'
  | o => ret o := rfl
theorem m_sSet (i : Nat) (b : BE) : (sSet i b).den F r = bnd (b.den F r) fun d => ret (.nx (r.set i (.val d))) := rfl
theorem m_sOwn (i : Nat) (b : BF) : (sOwn i b).den F r = bnd (b.den F r) fun d => ret (.nx (r.set i (.own d))) := rfl
theorem m_sRet (b : BE) : (sRet b).den F r = bnd (b.den F r) fun d => ret (.rt d) := rfl
theorem m_sExp (b : BE) : (sExp b).den F r = bnd (b.den F r) fun _ => ret (.nx r) := rfl
theorem m_sIf (c : BT) (a b : List BS) : (sIf c a b).den F r = bnd (c.den F r) fun k => if k then dBlk a F r else dBlk b F r := rfl
theorem m_sFor (it : BI) (g : BG) (body : List BS) : (sFor it g body).den F r = bnd (it.den F r) fun l => forGo g.set (dBlk body F) l r := rfl
theorem m_sTgt (g : BG) (b : BE) : (sTgt g b).den F r = bnd (b.den F r) fun d => bnd (opt (g.set d r)) fun r' => ret (.nx r') := rfl
theorem m_sLc (o : Bool) (i : Nat) (it : BI) (vs : List Nat) (g : BG) (c : BC) (elt : BE) : (sLc o i it vs g c elt).den F r = bnd (bnd (it.den F r) fun l => bnd (noX (compGo g.set (c.den F) (elt.den F) (wipeE r vs) l [])) fun acc => ret (.lst acc)) fun d => ret (.nx (r.set i (mkS o d))) := rfl
theorem m_sPar (i j : Nat) (a b : BX) : (sPar i j a b).den F r = bnd (a.den F r) fun x => bnd (b.den F r) fun y => ret (.nx ((r.set i (mkS a.o x)).set j (mkS b.o y))) := rfl
theorem m_sPar2 (i j : Nat) (a b : BX) : (sPar2 i j a b).den F r = bnd (a.den F r) fun x => bnd (b.den F r) fun y => ret (.nx ((r.set i (mkS a.o x)).set j (mkS b.o y))) := rfl
theorem m_x (b : BE) : b.x.den F r = b.den F r := rfl
theorem m_xF (b : BF) : b.x.den F r = b.den F r := rfl
theorem m_sAsg (g : BGX) (b : BE) : (sAsg g b).den F r = bnd (b.den F r) fun d => bnd (g.set F d r) fun r' => ret (.nx r') := rfl
theorem m_sFrz (i : Nat) (b : BS) : (sFrz i b).den F r = b.den F (frzE r i) := rfl
theorem m_sSelf (f : Nat) (b : BE) : (sSelf f b).den F r = bnd (b.den F r) fun d => bnd (opt (match r[0]? with
    | some (Slt.own (.obj c l)) => if fldIx c f < (clF c).length then (setF l (fldIx c f) d).map fun l' => r.set 0 (.own (.obj c l')) else none
    | _ => none)) fun r' => ret (.nx r') := rfl
end
/-- a def's answer -/
def flM (m : M Fl) : M D := fun st => flD (m st)
def flMI (m : M Fl) : M D := fun st => flI (m st)
theorem flM_rt (v : D) : flM (ret (.rt v)) = ret v := rfl
theorem flM_nx (r : En) : flM (ret (.nx r)) = ret .non := rfl
theorem ft_def {PT : Nat → Option DB} {k i : Nat} {d : DB} {ds : List D} (h : PT i = some d) (hi : iniC i = none) (hl : ds.length = d.np) : FTab PT (k + 1) i ds = flM (dBlk d.body (FTab PT k) (entE d ds)) := by
  funext st
  simp only [FTab, h, runX, hi, runB, if_pos hl]
  rfl
theorem ft_ini {PT : Nat → Option DB} {k i c : Nat} {d : DB} {ds : List D} (h : PT i = some d) (hi : iniC i = some c) (hl : ds.length + 1 = d.np) : FTab PT (k + 1) i ds = flMI (dBlk d.body (FTab PT k) (entI d c ds)) := by
  funext st
  simp only [FTab, h, runX, hi, runI, if_pos hl]
  rfl
/-! ## comprehensions -/
theorem comp_map {set : D → En → Option En} {test : En → M Bool} {elt : En → M D} {r : En} (f : D → D) : ∀ (l acc : List D), (∀ d ∈ l, ∃ r', set d r = some r' ∧ test r' = ret true ∧ elt r' = ret (f d)) → acc.length + l.length ≤ sizeLine →
    compGo set test elt r l acc = ret (acc ++ l.map f)
  | [], acc, _, _ => by simp [compGo]
  | d :: l, acc, h, hl => by
    obtain ⟨r', h1, h2, h3⟩ := h d (List.mem_cons_self ..)
    simp only [List.length_cons] at hl
    have hlt : acc.length < sizeLine := by omega
    simp only [compGo, h1, bnd_some, h2, bnd_ret, if_true, h3, if_pos hlt]
    rw [comp_map f l (acc ++ [f d]) (fun x hx => h x (List.mem_cons_of_mem _ hx)) (by simp; omega)]
    simp
theorem comp_filter {set : D → En → Option En} {test : En → M Bool} {elt : En → M D} {r : En} (p : D → Bool) (f : D → D) : ∀ (l acc : List D), (∀ d ∈ l, ∃ r', set d r = some r' ∧ test r' = ret (p d) ∧ elt r' = ret (f d)) → acc.length + l.length ≤ sizeLine →
    compGo set test elt r l acc = ret (acc ++ (l.filter p).map f)
  | [], acc, _, _ => by simp [compGo]
  | d :: l, acc, h, hl => by
    obtain ⟨r', h1, h2, h3⟩ := h d (List.mem_cons_self ..)
    simp only [List.length_cons] at hl
    have hlt : acc.length < sizeLine := by omega
    have ih := fun acc hl => comp_filter p f l acc (fun x hx => h x (List.mem_cons_of_mem _ hx)) hl
    cases hp : p d with
    | true =>
      simp only [compGo, h1, bnd_some, h2, bnd_ret, hp, if_true, h3, if_pos hlt]
      rw [ih _ (by simp; omega)]
      simp [hp]
    | false =>
      simp only [compGo, h1, bnd_some, h2, bnd_ret, hp]
      rw [if_neg (by simp), ih _ (by omega)]
      simp [hp]
@[simp] theorem z_m_p : type_of% @m_p := @m_p
@[simp] theorem z_m_e : type_of% @m_e := @m_e
@[simp] theorem z_m_pOwn : type_of% @m_pOwn := @m_pOwn
@[simp] theorem z_m_cVar : type_of% @m_cVar := @m_cVar
@[simp] theorem z_m_cInt : type_of% @m_cInt := @m_cInt
@[simp] theorem z_m_cBl : type_of% @m_cBl := @m_cBl
@[simp] theorem z_m_cNon : type_of% @m_cNon := @m_cNon
@[simp] theorem z_m_cStr : type_of% @m_cStr := @m_cStr
@[simp] theorem z_m_cCon : type_of% @m_cCon := @m_cCon
@[simp] theorem z_m_cBin : type_of% @m_cBin := @m_cBin
@[simp] theorem z_m_cCmp : type_of% @m_cCmp := @m_cCmp
@[simp] theorem z_m_cTup : type_of% @m_cTup := @m_cTup
@[simp] theorem z_m_fLst : type_of% @m_fLst := @m_fLst
@[simp] theorem z_m_cIx : type_of% @m_cIx := @m_cIx
@[simp] theorem z_m_cCall : type_of% @m_cCall := @m_cCall
@[simp] theorem z_m_fMk : type_of% @m_fMk := @m_fMk
@[simp] theorem z_m_cIsi : type_of% @m_cIsi := @m_cIsi
@[simp] theorem z_m_cNot : type_of% @m_cNot := @m_cNot
@[simp] theorem z_m_cAnd1 : type_of% @m_cAnd1 := @m_cAnd1
@[simp] theorem z_m_cAnd : type_of% @m_cAnd := @m_cAnd
@[simp] theorem z_m_cOr1 : type_of% @m_cOr1 := @m_cOr1
@[simp] theorem z_m_cOr : type_of% @m_cOr := @m_cOr
@[simp] theorem z_m_cChain : type_of% @m_cChain := @m_cChain
@[simp] theorem z_m_cBi : type_of% @m_cBi := @m_cBi
@[simp] theorem z_m_fBi : type_of% @m_fBi := @m_fBi
@[simp] theorem z_m_cIf : type_of% @m_cIf := @m_cIf
@[simp] theorem z_m_cAttr : type_of% @m_cAttr := @m_cAttr
@[simp] theorem z_m_cSl : type_of% @m_cSl := @m_cSl
@[simp] theorem z_m_noPart : type_of% @m_noPart := @m_noPart
@[simp] theorem z_m_part : type_of% @m_part := @m_part
@[simp] theorem z_m_fRevL : type_of% @m_fRevL := @m_fRevL
@[simp] theorem z_m_fRep : type_of% @m_fRep := @m_fRep
@[simp] theorem z_m_fSpl : type_of% @m_fSpl := @m_fSpl
@[simp] theorem z_m_cJoin : type_of% @m_cJoin := @m_cJoin
@[simp] theorem z_m_cCallK : type_of% @m_cCallK := @m_cCallK
@[simp] theorem z_m_fComp : type_of% @m_fComp := @m_fComp
@[simp] theorem z_m_s : type_of% @m_s := @m_s
@[simp] theorem z_m_tVal : type_of% @m_tVal := @m_tVal
@[simp] theorem z_m_tCmp : type_of% @m_tCmp := @m_tCmp
@[simp] theorem z_m_tNot : type_of% @m_tNot := @m_tNot
@[simp] theorem z_m_tAnd1 : type_of% @m_tAnd1 := @m_tAnd1
@[simp] theorem z_m_tAnd : type_of% @m_tAnd := @m_tAnd
@[simp] theorem z_m_tOr1 : type_of% @m_tOr1 := @m_tOr1
@[simp] theorem z_m_tOr : type_of% @m_tOr := @m_tOr
@[simp] theorem z_m_tEqO : type_of% @m_tEqO := @m_tEqO
@[simp] theorem z_m_iSeq : type_of% @m_iSeq := @m_iSeq
@[simp] theorem z_m_iRng1 : type_of% @m_iRng1 := @m_iRng1
@[simp] theorem z_m_iRng2 : type_of% @m_iRng2 := @m_iRng2
@[simp] theorem z_m_iEnum2 : type_of% @m_iEnum2 := @m_iEnum2
@[simp] theorem z_m_blk0 : type_of% @m_blk0 := @m_blk0
@[simp] theorem z_m_blk : type_of% @m_blk := @m_blk
@[simp] theorem z_m_sSet : type_of% @m_sSet := @m_sSet
@[simp] theorem z_m_sOwn : type_of% @m_sOwn := @m_sOwn
@[simp] theorem z_m_sRet : type_of% @m_sRet := @m_sRet
@[simp] theorem z_m_sExp : type_of% @m_sExp := @m_sExp
@[simp] theorem z_m_sIf : type_of% @m_sIf := @m_sIf
@[simp] theorem z_m_sFor : type_of% @m_sFor := @m_sFor
@[simp] theorem z_m_sTgt : type_of% @m_sTgt := @m_sTgt
@[simp] theorem z_m_sLc : type_of% @m_sLc := @m_sLc
@[simp] theorem z_m_sPar : type_of% @m_sPar := @m_sPar
@[simp] theorem z_m_sPar2 : type_of% @m_sPar2 := @m_sPar2
@[simp] theorem z_m_x : type_of% @m_x := @m_x
@[simp] theorem z_m_xF : type_of% @m_xF := @m_xF
@[simp] theorem z_m_sAsg : type_of% @m_sAsg := @m_sAsg
@[simp] theorem z_m_sFrz : type_of% @m_sFrz := @m_sFrz
@[simp] theorem z_m_sSelf : type_of% @m_sSelf := @m_sSelf
@[simp] theorem z_bnd_ret : type_of% @bnd_ret := @bnd_ret
@[simp] theorem z_bnd_some : type_of% @bnd_some := @bnd_some
@[simp] theorem z_opt_some : type_of% @opt_some := @opt_some
@[simp] theorem z_bndE_def : type_of% @bndE_def := @bndE_def
@[simp] theorem z_noX_ret : type_of% @noX_ret := @noX_ret
@[simp] theorem z_denP_keep : type_of% @denP_keep := @denP_keep
@[simp] theorem z_dns_nil : type_of% @dns_nil := @dns_nil
@[simp] theorem z_dns_cons_p : type_of% @dns_cons' := @dns_cons'
@[simp] theorem z_dnsP_nil : type_of% @dnsP_nil := @dnsP_nil
@[simp] theorem z_dnsP_cons : type_of% @dnsP_cons := @dnsP_cons
@[simp] theorem z_flM_rt : type_of% @flM_rt := @flM_rt
@[simp] theorem z_flM_nx : type_of% @flM_nx := @flM_nx
end Rf

set_option Elab.async false
set_option linter.all false
set_option maxRecDepth 100000
set_option maxHeartbeats 1000000
set_option warning.simp.otherHead false
namespace Rf
open PySem L2
abbrev T (k : Nat) : FT := FTab (PTof tab) k
theorem flMI_nx (o : D) (r : En) : flMI (ret (.nx (.own o :: r))) = ret o := rfl
theorem m_len (a : En → M (List D)) (r : En) : denP fLenW a r = bnd (a r) fun x st => optW (fLenW st x) := rfl
theorem len_str (st : Sto) (s : List Nat) : fLenW st [.str s] = some (.int s.length, st) := rfl
theorem len_tup (st : Sto) (s : List D) : fLenW st [.tup s] = some (.int s.length, st) := rfl
theorem len_lst (st : Sto) (s : List D) : fLenW st [.lst s] = some (.int s.length, st) := rfl
theorem len_frl (st : Sto) (s : List D) : fLenW st [.frl s] = some (.int s.length, st) := rfl
theorem optW_ret (d : D) : (fun st => optW (some (d, st))) = ret d := rfl
theorem okE_int (i : Int) : okE (.int i) = true := rfl
theorem okE_str (s : List Nat) : okE (.str s) = true := rfl
theorem okE_non : okE .non = true := rfl
theorem okE_bl (b : Bool) : okE (.bl b) = true := rfl
theorem deq_int (a b : Int) : deq (.int a) (.int b) = (a == b) := by simp [deq]
theorem deq_str (a b : List Nat) : deq (.str a) (.str b) = (a == b) := by simp [deq]
theorem ix_tup (st : Sto) (l : List D) (y : D) : fIxW st (.tup l) y = fIx (.tup l) y := rfl
theorem ix_lst' (st : Sto) (l : List D) (y : D) : fIxW st (.lst l) y = fIx (.lst l) y := rfl
theorem ix_frl (st : Sto) (l : List D) (y : D) : fIxW st (.frl l) y = fIx (.frl l) y := rfl
theorem ix_str (st : Sto) (l : List Nat) (y : D) : fIxW st (.str l) y = fIx (.str l) y := rfl
theorem bi_all : bAll.f = keepSt fAll := rfl
theorem bi_len : bLen.f = fLenW := rfl
theorem bi_tuple : bTuple.f = keepSt fTuple := rfl
theorem bi_int : bInt.f = keepSt fInt := rfl
theorem bi_str : bStr.f = keepSt fStr := rfl
theorem bi_min : bMin.f = keepSt fMin := rfl
theorem bi_max : bMax.f = keepSt fMax := rfl
theorem bi_abs : bAbs.f = keepSt fAbs := rfl
theorem bi_divmod : bDivmod.f = keepSt fDivmod := rfl
theorem bi_list : bList.f = keepSt fList := rfl
theorem bi_sorted : bSorted.f = keepSt fSorted := rfl
theorem p_le : pLe.f = fLe := rfl
theorem p_lt : pLt.f = fLt := rfl
theorem p_gt : pGt.f = fGt := rfl
theorem p_ge : pGe.f = fGe := rfl
theorem p_eq : pEq.f = fEq := rfl
theorem p_ne : pNe.f = fNe := rfl
theorem p_in : pIn.f = fIn := rfl
theorem p_is : pIs.f = fIs := rfl
theorem o_add : oAdd.f = fAdd := rfl
theorem o_sub : oSub.f = fSub := rfl
theorem o_mul : oMul.f = fMul := rfl
theorem o_div : oDiv.f = fDiv := rfl
theorem o_mod : oMod.f = fMod := rfl
theorem o_pow : oPow.f = fPow := rfl
theorem eq_ii (a b : Int) : fEq (.int a) (.int b) = some (.bl (a == b)) := by simp [fEq, okE_int, deq_int]
theorem ne_ii (a b : Int) : fNe (.int a) (.int b) = some (.bl (!(a == b))) := by simp [fNe, okE_int, deq_int]
theorem eq_ss (a b : List Nat) : fEq (.str a) (.str b) = some (.bl (a == b)) := by simp [fEq, okE_str, deq_str]
theorem ne_ss (a b : List Nat) : fNe (.str a) (.str b) = some (.bl (!(a == b))) := by simp [fNe, okE_str, deq_str]
theorem ty_non (st : Sto) : tyOf st .non = some (.inl 0) := rfl
theorem ty_bl (st : Sto) (b : Bool) : tyOf st (.bl b) = some (.inl 1) := rfl
theorem ty_int (st : Sto) (i : Int) : tyOf st (.int i) = some (.inl 2) := rfl
theorem ty_str (st : Sto) (s : List Nat) : tyOf st (.str s) = some (.inl 3) := rfl
theorem ty_tup (st : Sto) (l : List D) : tyOf st (.tup l) = some (.inl 4) := rfl
theorem ty_lst (st : Sto) (l : List D) : tyOf st (.lst l) = some (.inl 5) := rfl
@[simp] theorem z_ty_non : type_of% @ty_non := @ty_non
@[simp] theorem z_ty_bl : type_of% @ty_bl := @ty_bl
@[simp] theorem z_ty_int : type_of% @ty_int := @ty_int
@[simp] theorem z_ty_str : type_of% @ty_str := @ty_str
@[simp] theorem z_ty_tup : type_of% @ty_tup := @ty_tup
@[simp] theorem z_ty_lst : type_of% @ty_lst := @ty_lst
theorem it_tup (l : List D) : items (.tup l) = some l := rfl
theorem it_lst (l : List D) : items (.lst l) = some l := rfl
theorem it_str (s : List Nat) : items (.str s) = some (signs s) := rfl
@[simp] theorem z_it_tup : type_of% @it_tup := @it_tup
@[simp] theorem z_it_lst : type_of% @it_lst := @it_lst
@[simp] theorem z_it_str : type_of% @it_str := @it_str
@[simp] theorem z_m_len : type_of% @m_len := @m_len
@[simp] theorem z_len_str : type_of% @len_str := @len_str
@[simp] theorem z_len_tup : type_of% @len_tup := @len_tup
@[simp] theorem z_len_lst : type_of% @len_lst := @len_lst
@[simp] theorem z_len_frl : type_of% @len_frl := @len_frl
@[simp] theorem z_optW_ret : type_of% @optW_ret := @optW_ret
@[simp] theorem z_okE_int : type_of% @okE_int := @okE_int
@[simp] theorem z_okE_str : type_of% @okE_str := @okE_str
@[simp] theorem z_okE_non : type_of% @okE_non := @okE_non
@[simp] theorem z_okE_bl : type_of% @okE_bl := @okE_bl
@[simp] theorem z_ix_tup : type_of% @ix_tup := @ix_tup
@[simp] theorem z_ix_lst_p : type_of% @ix_lst' := @ix_lst'
@[simp] theorem z_ix_frl : type_of% @ix_frl := @ix_frl
@[simp] theorem z_ix_str : type_of% @ix_str := @ix_str
@[simp] theorem z_bi_all : type_of% @bi_all := @bi_all
@[simp] theorem z_bi_len : type_of% @bi_len := @bi_len
@[simp] theorem z_bi_tuple : type_of% @bi_tuple := @bi_tuple
@[simp] theorem z_bi_int : type_of% @bi_int := @bi_int
@[simp] theorem z_bi_str : type_of% @bi_str := @bi_str
@[simp] theorem z_bi_min : type_of% @bi_min := @bi_min
@[simp] theorem z_bi_max : type_of% @bi_max := @bi_max
@[simp] theorem z_bi_abs : type_of% @bi_abs := @bi_abs
@[simp] theorem z_bi_divmod : type_of% @bi_divmod := @bi_divmod
@[simp] theorem z_bi_list : type_of% @bi_list := @bi_list
@[simp] theorem z_bi_sorted : type_of% @bi_sorted := @bi_sorted
@[simp] theorem z_p_le : type_of% @p_le := @p_le
@[simp] theorem z_p_lt : type_of% @p_lt := @p_lt
@[simp] theorem z_p_gt : type_of% @p_gt := @p_gt
@[simp] theorem z_p_ge : type_of% @p_ge := @p_ge
@[simp] theorem z_p_eq : type_of% @p_eq := @p_eq
@[simp] theorem z_p_ne : type_of% @p_ne := @p_ne
@[simp] theorem z_p_in : type_of% @p_in := @p_in
@[simp] theorem z_p_is : type_of% @p_is := @p_is
@[simp] theorem z_o_add : type_of% @o_add := @o_add
@[simp] theorem z_o_sub : type_of% @o_sub := @o_sub
@[simp] theorem z_o_mul : type_of% @o_mul := @o_mul
@[simp] theorem z_o_div : type_of% @o_div := @o_div
@[simp] theorem z_o_mod : type_of% @o_mod := @o_mod
@[simp] theorem z_o_pow : type_of% @o_pow := @o_pow
@[simp] theorem z_eq_ii : type_of% @eq_ii := @eq_ii
@[simp] theorem z_ne_ii : type_of% @ne_ii := @ne_ii
@[simp] theorem z_eq_ss : type_of% @eq_ss := @eq_ss
@[simp] theorem z_ne_ss : type_of% @ne_ss := @ne_ss
@[simp] theorem u_entE : type_of% @entE.eq_def := @entE.eq_def
@[simp] theorem u_getV : type_of% @getV.eq_def := @getV.eq_def
@[simp] theorem u_getO : type_of% @getO.eq_def := @getO.eq_def
@[simp] theorem u_isTy : type_of% @isTy.eq_def := @isTy.eq_def
@[simp] theorem u_fNot : type_of% @fNot.eq_def := @fNot.eq_def
@[simp] theorem u_fIn : type_of% @fIn.eq_def := @fIn.eq_def
@[simp] theorem u_fNotIn : type_of% @fNotIn.eq_def := @fNotIn.eq_def
@[simp] theorem u_toB : type_of% @toB.eq_def := @toB.eq_def
@[simp] theorem u_toI : type_of% @toI.eq_def := @toI.eq_def
@[simp] theorem u_fIx : type_of% @fIx.eq_def := @fIx.eq_def
@[simp] theorem u_fLe : type_of% @fLe.eq_def := @fLe.eq_def
@[simp] theorem u_fLt : type_of% @fLt.eq_def := @fLt.eq_def
@[simp] theorem u_fGt : type_of% @fGt.eq_def := @fGt.eq_def
@[simp] theorem u_fGe : type_of% @fGe.eq_def := @fGe.eq_def
@[simp] theorem u_fIs : type_of% @fIs.eq_def := @fIs.eq_def
@[simp] theorem u_isNon : type_of% @isNon.eq_def := @isNon.eq_def
@[simp] theorem u_fAdd : type_of% @fAdd.eq_def := @fAdd.eq_def
@[simp] theorem u_fSub : type_of% @fSub.eq_def := @fSub.eq_def
@[simp] theorem u_fMod : type_of% @fMod.eq_def := @fMod.eq_def
@[simp] theorem u_fDiv : type_of% @fDiv.eq_def := @fDiv.eq_def
@[simp] theorem u_fTuple : type_of% @fTuple.eq_def := @fTuple.eq_def
@[simp] theorem u_mkTup : type_of% @mkTup.eq_def := @mkTup.eq_def
@[simp] theorem u_mkLst : type_of% @mkLst.eq_def := @mkLst.eq_def
@[simp] theorem u_isStr : type_of% @isStr.eq_def := @isStr.eq_def
@[simp] theorem u_wipeE : type_of% @wipeE.eq_def := @wipeE.eq_def
/-- the bodies' answers, one after another -/
theorem f_is_whole (k : Nat) (n : Int) : T (k + 1) 0 [.int n] = ret (.bl true) := by
  rw [T, ft_def (d := d_is_whole) rfl rfl rfl]
  simp -implicitDefEqProofs [d_is_whole, b_is_whole]
theorem f_is_between (k : Nat) (n a b : Int) (h1 : a ≤ n) (h2 : n ≤ b) : T (k + 2) 1 [.int n, .int a, .int b] = ret (.bl true) := by
  rw [T, ft_def (d := d_is_between) rfl rfl rfl]
  have h := f_is_whole k n
  simp -implicitDefEqProofs [d_is_between, b_is_between, h, h1, h2]
theorem f_is_tuple_of (k : Nat) (l : List D) (n : Int) (h : n = l.length) : T (k + 1) 50 [.tup l, .int n] = ret (.bl true) := by
  rw [T, ft_def (d := d_is_tuple_of) rfl rfl rfl]
  simp -implicitDefEqProofs [d_is_tuple_of, b_is_tuple_of, h]
def cFree : List Nat := [102, 114, 101, 101]
def cLight : List Nat := [108, 105, 103, 104, 116]
def blk5 : List Nat := [97, 98, 99, 100, 101]
theorem co0 : coD 0 = .str blk5 := rfl
theorem co1 : coD 1 = .int 1 := rfl
theorem co2 : coD 2 = .int 5 := rfl
theorem co3 : coD 3 = .int 2 := rfl
theorem co4 : coD 4 = .int 4 := rfl
theorem co5 : coD 5 = .str cFree := rfl
theorem co7 : coD 7 = .frt [.str cFree, .str cLight] := rfl
theorem co16 : coD 16 = .str [48, 49, 50, 51, 52, 53, 54, 55, 56, 57] := rfl
theorem co17 : coD 17 = .str (List.range' 97 26) := rfl
theorem co18 : coD 18 = .str [45] := rfl
theorem co19 : coD 19 = .str [116, 97, 98, 108, 101] := rfl
theorem co20 : coD 20 = .str [112, 105, 108, 101] := rfl
theorem co21 : coD 21 = .int 4 := rfl
theorem co22 : coD 22 = .int 2 := rfl
@[simp] theorem z_co0 : type_of% @co0 := @co0
@[simp] theorem z_co1 : type_of% @co1 := @co1
@[simp] theorem z_co2 : type_of% @co2 := @co2
@[simp] theorem z_co3 : type_of% @co3 := @co3
@[simp] theorem z_co4 : type_of% @co4 := @co4
@[simp] theorem z_co5 : type_of% @co5 := @co5
@[simp] theorem z_co7 : type_of% @co7 := @co7
@[simp] theorem z_co16 : type_of% @co16 := @co16
@[simp] theorem z_co17 : type_of% @co17 := @co17
@[simp] theorem z_co18 : type_of% @co18 := @co18
@[simp] theorem z_co19 : type_of% @co19 := @co19
@[simp] theorem z_co20 : type_of% @co20 := @co20
@[simp] theorem z_co21 : type_of% @co21 := @co21
@[simp] theorem z_co22 : type_of% @co22 := @co22
theorem f_is_rule (k : Nat) (ru : List Nat) (h : ru = cFree ∨ ru = cLight) : T (k + 1) 2 [.str ru, .frt [.str cFree, .str cLight]] = ret (.bl true) := by
  rw [T, ft_def (d := d_is_one_of) rfl rfl rfl]
  rcases h with rfl | rfl <;> simp -implicitDefEqProofs [d_is_one_of, b_is_one_of, fHas, flatD, hasD, deq_str]
theorem f_check_number (k : Nat) (n a b : Int) (h1 : a ≤ n) (h2 : n ≤ b) : T (k + 3) 26 [.int n, .int a, .int b] = ret .non := by
  rw [T, ft_def (d := d_check_number) rfl rfl rfl]
  have h := f_is_between k n a b h1 h2
  simp -implicitDefEqProofs [d_check_number, b_check_number, h]
theorem f_check_height (k : Nat) (h m n : Int) (h1 : 1 ≤ h) (h2 : h ≤ m) (h3 : m ≤ h * n) (h4 : m ≤ 5) : T (k + 4) 27 [.int h, .int m, .int n] = ret .non := by
  rw [T, ft_def (d := d_check_height) rfl rfl rfl]
  have e := f_check_number k h 1 m h1 h2
  have e2 : small64 h = true := by simp [small64]; omega
  simp -implicitDefEqProofs [d_check_height, b_check_height, e, fMul, e2, Int.not_lt.mpr h3]
def pD (m n h : Int) (ru : List Nat) : D := .tup [.int m, .int n, .int h, .str ru]
def tabD (m n h : Int) (ru : List Nat) : D := .obj 4 [.int m, .int n, .int h, .str ru, pD m n h ru]
structure OkP (m n h : Int) (ru : List Nat) : Prop where
  m1 : 1 ≤ m
  m2 : m ≤ 5
  n1 : 2 ≤ n
  n2 : n ≤ 4
  h1 : 1 ≤ h
  h2 : h ≤ m
  hn : m ≤ h * n
  ru : ru = cFree ∨ ru = cLight
theorem fx1 : fldIx 4 1 = 0 := by decide +kernel
theorem fx2 : fldIx 4 2 = 1 := by decide +kernel
theorem fx3 : fldIx 4 3 = 2 := by decide +kernel
theorem fx4 : fldIx 4 4 = 3 := by decide +kernel
theorem fx5 : fldIx 4 5 = 4 := by decide +kernel
theorem cl4 : (clF 4).length = 5 := by decide +kernel
theorem f_init (k : Nat) {m n h : Int} {ru : List Nat} (o : OkP m n h ru) : T (k + 5) 28 [.int m, .int n, .int h, .str ru] = ret (tabD m n h ru) := by
  rw [T, ft_ini (c := 4) (d := d_Table___init__) rfl rfl rfl]
  have e1 := f_check_number (k + 1) m 1 5 o.m1 o.m2
  have e2 := f_check_number (k + 1) n 2 4 o.n1 o.n2
  have e3 := f_check_height k h m n o.h1 o.h2 o.hn o.m2
  have e4 := f_is_rule (k + 3) ru o.ru
  simp -implicitDefEqProofs [d_Table___init__, b_Table___init__, entI, e1, e2, e3, e4, fx1, fx2, fx3, fx4, fx5, cl4, setF, okLen, flMI_nx, tabD, pD, sizeLine_eq]
@[simp] theorem z_sizeLine_eq : sizeLine = 16777216 := sizeLine_eq
@[simp] theorem u_okLen : type_of% @okLen.eq_def := @okLen.eq_def
/-! ## standings -/
def sD (s : List (List Nat)) : D := .tup (s.map .str)
def fall (p : List Nat) : Prop := p.Pairwise (· > ·)
def blks (m : Int) : List Nat := blk5.take m.toNat
structure OkS (m n h : Int) (ru : List Nat) (s : List (List Nat)) : Prop where
  len : (s.length : Int) = n
  perm : s.flatten.Perm (blks m)
  high : ∀ p ∈ s, (p.length : Int) ≤ h
  ru : ru = cFree ∨ ∀ p ∈ s, fall p
theorem getBs_map {α : Type} (f : α → Bool) : ∀ l : List α, getBs (l.map fun x => .bl (f x)) = some (l.map f)
  | [] => rfl
  | x :: l => by simp [getBs, getBs_map f l]
theorem getBs_rp : ∀ n : Nat, getBs (List.replicate n (.bl true)) = some (List.replicate n true)
  | 0 => rfl
  | n + 1 => by simp [List.replicate_succ, getBs, getBs_rp n]
theorem all_rep (n : Nat) : fAll [.lst (List.replicate n (.bl true))] = some (.bl true) := by
  simp only [fAll, getBs_rp, Option.map_some]
  congr 2
  induction n with
  | zero => rfl
  | succ n ih => simpa [List.replicate_succ] using ih
theorem all_true {α : Type} (l : List α) : fAll [.lst (l.map fun _ => .bl true)] = some (.bl true) := by
  have := getBs_map (fun _ : α => true) l
  simp only [fAll, this, Option.map_some]
  congr 1
  simp
theorem f_blocks (k : Nat) (m : Int) (h1 : 1 ≤ m) (h2 : m ≤ 5) : T (k + 1) 3 [.int m] = ret (.str (blks m)) := by
  rw [T, ft_def (d := d_blocks_of) rfl rfl rfl]
  have : m = 1 ∨ m = 2 ∨ m = 3 ∨ m = 4 ∨ m = 5 := by omega
  rcases this with rfl | rfl | rfl | rfl | rfl <;> rfl
theorem comp_true {set : D → En → Option En} {elt : En → M D} {r : En} {l : List D} (h : ∀ d ∈ l, ∃ r', set d r = some r' ∧ elt r' = ret (.bl true)) (hl : l.length ≤ sizeLine) :
    compGo set (fun _ => ret true) elt r l [] = ret (List.replicate l.length (.bl true)) := by
  rw [comp_map (fun _ => .bl true) l [] (fun d hd => by obtain ⟨r', q1, q2⟩ := h d hd; exact ⟨r', q1, rfl, q2⟩) (by simpa using hl)]
  simp [List.map_const']
theorem no_den (F : FT) : BC.no.den F = fun _ => ret true := rfl
theorem f_are_piles (k : Nat) (s : List (List Nat)) (n : Int) (h : (s.length : Int) = n) (hn : n ≤ 4) : T (k + 2) 55 [sD s, .int n] = ret (.bl true) := by
  rw [T, ft_def (d := d_are_piles) rfl rfl rfl]
  have e1 := f_is_tuple_of k (s.map .str) n (by simpa using h.symm)
  simp -implicitDefEqProofs [d_are_piles, b_are_piles, sD, e1, no_den]
  rw [comp_true]
  · simp [all_rep]
  · intro d hd
    obtain ⟨p, hp, rfl⟩ := List.mem_map.mp hd
    exact ⟨_, rfl, by simp⟩
  · simp; omega
theorem signs_mem {s : List Nat} {d : D} (h : d ∈ signs s) : ∃ c ∈ s, d = .str [c] := by
  obtain ⟨c, hc, rfl⟩ := List.mem_map.mp h
  exact ⟨c, hc, rfl⟩
theorem f_once (k : Nat) (x y : List Nat) (hl : x.length = y.length) (hc : ∀ c ∈ y, c ∈ x) (hz : y.length ≤ sizeLine) : T (k + 1) 54 [.str x, .str y] = ret (.bl true) := by
  rw [T, ft_def (d := d_has_each_once) rfl rfl rfl]
  simp -implicitDefEqProofs [d_has_each_once, b_has_each_once, no_den, hl]
  rw [comp_true]
  · simp [all_rep]
  · intro d hd
    obtain ⟨c, hp, rfl⟩ := signs_mem hd
    exact ⟨_, rfl, by simp [fHas, hc c hp]⟩
  · simpa [signs] using hz
theorem at_nat {α : Type} {l : List α} {i : Nat} (h : i < l.length) : atI l (i : Int) = some l[i] := by
  unfold atI ixN
  rw [if_pos (by omega), if_pos (by omega)]
  simp [h]
theorem inR_small {i : Int} (h0 : -1000 ≤ i) (h1 : i ≤ 1000) : inR i = true := by
  have e : (2 : Int) ^ 62 = 4611686018427387904 := by decide
  unfold inR
  rw [e, decide_eq_true (by omega), decide_eq_true (by omega)]
  rfl
theorem rng2 {i j : Int} (hi : inR i = true) (hj : inR j = true) : fRng2 [.int i, .int j] = some (intsD i (j - i).toNat) := by
  unfold fRng2
  exact if_pos (by rw [hi, hj]; rfl)
theorem rng1 {j : Int} (hj : inR j = true) : fRng1 [.int j] = some (intsD 0 j.toNat) := by
  unfold fRng1
  exact if_pos hj
theorem f_is_falling (k : Nat) (p : List Nat) (h : fall p) (hz : p.length ≤ 5) : T (k + 1) 4 [.str p] = ret (.bl true) := by
  rw [T, ft_def (d := d_is_falling) rfl rfl rfl]
  have h2 : inR p.length = true := inR_small (by omega) (by omega)
  have h3 : inR 1 = true := inR_small (by omega) (by omega)
  simp -implicitDefEqProofs [d_is_falling, b_is_falling, no_den, rng2 h3 h2]
  rw [comp_true]
  · simp [all_rep]
  · intro d hd
    unfold intsD at hd
    obtain ⟨i, hi, rfl⟩ := List.mem_map.mp hd
    rw [List.mem_range] at hi
    have hi1 : i + 1 < p.length := by omega
    refine ⟨_, rfl, ?_⟩
    have a1 : atI p (1 + (i : Int)) = some p[i + 1] := by
      have := at_nat (l := p) (i := i + 1) hi1
      rw [show ((i + 1 : Nat) : Int) = 1 + (i : Int) by omega] at this
      exact this
    have a2 : atI p (1 + (i : Int) - 1) = some p[i] := by
      rw [show (1 + (i : Int) - 1) = (i : Int) by omega]
      exact at_nat (by omega)
    have hlt : p[i + 1] < p[i] := (List.pairwise_iff_getElem.mp h) i (i + 1) (by omega) hi1 (by omega)
    have hlt2 : [p[i + 1]] < [p[i]] := List.cons_lt_cons_iff.mpr (.inl hlt)
    simp [a1, a2, hlt2]
  · unfold intsD; simp; omega
def mem4 (m n h : Int) (ru : List Nat) : List D := [.int m, .int n, .int h, .str ru, pD m n h ru]
theorem at_many (m n h : Int) (ru : List Nat) : dAttr 1 (tabD m n h ru) = ret (.int m) := by funext st; simp [dAttr, tabD, fx1]
theorem at_piles (m n h : Int) (ru : List Nat) : dAttr 2 (tabD m n h ru) = ret (.int n) := by funext st; simp [dAttr, tabD, fx2]
theorem at_height (m n h : Int) (ru : List Nat) : dAttr 3 (tabD m n h ru) = ret (.int h) := by funext st; simp [dAttr, tabD, fx3]
theorem at_rule (m n h : Int) (ru : List Nat) : dAttr 4 (tabD m n h ru) = ret (.str ru) := by funext st; simp [dAttr, tabD, fx4]
theorem at_parts (m n h : Int) (ru : List Nat) : dAttr 5 (tabD m n h ru) = ret (pD m n h ru) := by funext st; simp [dAttr, tabD, fx5]
@[simp] theorem z_at_many : type_of% @at_many := @at_many
@[simp] theorem z_at_piles : type_of% @at_piles := @at_piles
@[simp] theorem z_at_height : type_of% @at_height := @at_height
@[simp] theorem z_at_rule : type_of% @at_rule := @at_rule
@[simp] theorem z_at_parts : type_of% @at_parts := @at_parts
theorem f_fits (k : Nat) {m n h : Int} {ru p : List Nat} (h1 : (p.length : Int) ≤ h) (h2 : ru = cFree ∨ fall p) (hz : p.length ≤ 5) : T (k + 2) 5 [tabD m n h ru, .str p] = ret (.bl true) := by
  rw [T, ft_def (d := d_fits_rule) rfl rfl rfl]
  by_cases q : ru = cFree
  · simp -implicitDefEqProofs [d_fits_rule, b_fits_rule, h1, q]
  · have e := f_is_falling k p (h2.resolve_left q) hz
    have q' : (ru == cFree) = false := beq_eq_false_iff_ne.mpr q
    simp -implicitDefEqProofs [q', d_fits_rule, b_fits_rule, h1, q, e]
theorem getSs_str : ∀ s : List (List Nat), getSs (s.map .str) = some s
  | [] => rfl
  | x :: s => by simp [getSs, getSs_str s]
theorem join_nil : ∀ s : List (List Nat), TL.joinL [] s = s.flatten
  | [] => rfl
  | [p] => by simp [TL.joinL]
  | p :: q :: r => by
    show p ++ ([] ++ TL.joinL [] (q :: r)) = _
    rw [join_nil (q :: r)]; simp
theorem blks_len (m : Int) (h1 : 1 ≤ m) (h2 : m ≤ 5) : (blks m).length = m.toNat := by
  unfold blks blk5
  rw [List.length_take]
  simp; omega
theorem OkS.small {m n h : Int} {ru : List Nat} {s : List (List Nat)} (o : OkP m n h ru) (q : OkS m n h ru s) : s.flatten.length = m.toNat ∧ ∀ p ∈ s, p.length ≤ 5 := by
  have e := q.perm.length_eq
  rw [blks_len m o.m1 o.m2] at e
  refine ⟨e, fun p hp => ?_⟩
  have := q.high p hp
  have := o.h2
  have := o.m2
  omega
theorem f_is_standing (k : Nat) {m n h : Int} {ru : List Nat} {s : List (List Nat)} (o : OkP m n h ru) (q : OkS m n h ru s) : T (k + 3) 56 [tabD m n h ru, sD s] = ret (.bl true) := by
  rw [T, ft_def (d := d_is_standing) rfl rfl rfl]
  obtain ⟨c1, c2⟩ := q.small o
  have e1 := f_are_piles k s n q.len o.n2
  have e2 := f_blocks (k + 1) m o.m1 o.m2
  have e3 := f_once (k + 1) s.flatten (blks m) q.perm.length_eq (fun c hc => q.perm.mem_iff.mpr hc) (by rw [blks_len m o.m1 o.m2, sizeLine_eq]; have := o.m2; omega)
  have ej : joinB [] s = true := by
    unfold joinB
    have : (s.map (·.length)).sum = m.toNat := by rw [← c1, List.length_flatten]
    simp [this]; have := o.m2; omega
  have e4 : itemsJ (sD s) = some (s.map .str) := rfl
  have e5 : items (sD s) = some (s.map .str) := rfl
  simp -implicitDefEqProofs [d_is_standing, b_is_standing, no_den, e1, e2, e3, fJoin, e4, e5, getSs_str, ej, join_nil]
  rw [comp_true]
  · simp [all_rep]
  · intro d hd
    obtain ⟨p, hp, rfl⟩ := List.mem_map.mp hd
    have e6 := f_fits k (m := m) (n := n) (q.high p hp) (q.ru.imp id fun z => z p hp) (c2 p hp)
    exact ⟨_, rfl, by simp [e6]⟩
  · have := q.len; have := o.n2; simp; omega
end Rf

set_option Elab.async false
set_option linter.all false
set_option maxRecDepth 100000
set_option maxHeartbeats 1000000
set_option warning.simp.otherHead false
namespace Rf
open PySem L2

theorem f_check_standing (k : Nat) {m n h : Int} {ru : List Nat} {s : List (List Nat)} (o : OkP m n h ru) (q : OkS m n h ru s) : T (k + 4) 67 [tabD m n h ru, sD s] = ret .non := by
  rw [T, ft_def (d := d_check_standing) rfl rfl rfl]
  have e := f_is_standing k o q
  simp -implicitDefEqProofs [d_check_standing, b_check_standing, e]
theorem ty_tab (st : Sto) (m n h : Int) (ru : List Nat) : tyOf st (tabD m n h ru) = some (.inr 4) := rfl
theorem f_check_table (k : Nat) (m n h : Int) (ru : List Nat) : T (k + 1) 30 [tabD m n h ru] = ret .non := by
  rw [T, ft_def (d := d_check_table) rfl rfl rfl]
  simp -implicitDefEqProofs [d_check_table, b_check_table, ty_tab]
theorem f_check_both (k : Nat) {m n h : Int} {ru : List Nat} {s : List (List Nat)} (o : OkP m n h ru) (q : OkS m n h ru s) : T (k + 5) 68 [tabD m n h ru, sD s] = ret .non := by
  rw [T, ft_def (d := d_check_both) rfl rfl rfl]
  have e1 := f_check_table (k + 3) m n h ru
  have e2 := f_check_standing k o q
  simp -implicitDefEqProofs [d_check_both, b_check_both, e1, e2]
theorem ini4 : iniF 4 = 28 := by decide +kernel
theorem at4 (a b c d : D) : atI [a, b, c, d] 0 = some a ∧ atI [a, b, c, d] 1 = some b ∧ atI [a, b, c, d] 2 = some c ∧ atI [a, b, c, d] 3 = some d := ⟨rfl, rfl, rfl, rfl⟩
theorem f_made (k : Nat) {m n h : Int} {ru : List Nat} (o : OkP m n h ru) : T (k + 6) 38 [pD m n h ru] = ret (tabD m n h ru) := by
  rw [T, ft_def (d := d__law_made) rfl rfl rfl]
  have e := f_init k o
  obtain ⟨a0, a1, a2, a3⟩ := at4 (.int m) (.int n) (.int h) (.str ru)
  simp -implicitDefEqProofs [d__law_made, b__law_made, pD, a0, a1, a2, a3, ini4, e]
theorem at0 {α : Type} (a : α) (l : List α) : atI (a :: l) 0 = some a := by
  have := at_nat (l := a :: l) (i := 0) (by simp)
  simpa using this
def lowB (p : List Nat) : Prop := ∀ c ∈ p, 97 ≤ c ∧ c ≤ 101
theorem OkS.low {m n h : Int} {ru : List Nat} {s : List (List Nat)} (q : OkS m n h ru s) : ∀ p ∈ s, lowB p := fun p hp c hc => by
  have h1 : c ∈ s.flatten := List.mem_flatten.mpr ⟨p, hp, hc⟩
  have h2 := q.perm.mem_iff.mp h1
  have h3 : c ∈ blk5 := List.mem_of_mem_take h2
  simp [blk5] at h3
  omega
/-- a walk whose body lets on -/
theorem for_next {set : D → En → Option En} {body : MS} (J : En → Prop) : ∀ (l : List D) (r : En), J r → (∀ d ∈ l, ∀ r, J r → ∃ r' r'', set d r = some r' ∧ body r' = ret (.nx r'') ∧ J r'') → ∃ r', J r' ∧ forGo set body l r = ret (.nx r')
  | [], r, hJ, _ => ⟨r, hJ, rfl⟩
  | d :: l, r, hJ, h => by
    obtain ⟨r', r'', h1, h2, h3⟩ := h d (List.mem_cons_self ..) r hJ
    obtain ⟨r3, h4, h5⟩ := for_next J l r'' h3 fun x hx => h x (List.mem_cons_of_mem _ hx)
    refine ⟨r3, h4, ?_⟩
    simp only [forGo, h1, bnd_some, h2, bnd_ret]
    exact h5
theorem datas_str : ∀ l : List (List Nat), isDatas (l.map .str) = true ∧ deps (l.map .str) = 0
  | [] => by simp [isDatas, deps]
  | x :: l => by
    obtain ⟨h1, h2⟩ := datas_str l
    simp [isDatas, deps, isData, dep, h1, h2]
theorem okE_strs (l : List (List Nat)) : okE (.tup (l.map .str)) = true := by
  obtain ⟨h1, h2⟩ := datas_str l
  simp [okE, isData, dep, h1, h2]
theorem nums_mem {l : List D} {d : D} {n : Nat} (h : d ∈ numsD n l) : ∃ i x, l[i]? = some x ∧ d = .tup [.int ((n + i : Nat) : Int), x] := by
  obtain ⟨i, hi⟩ := List.getElem?_of_mem h
  rw [numsD_at] at hi
  simp only [Option.map_eq_some_iff] at hi
  obtain ⟨x, h1, h2⟩ := hi
  exact ⟨i, x, h1, h2.symm⟩
theorem deqs_str : ∀ a b : List (List Nat), deqs (a.map .str) (b.map .str) = (a == b)
  | [], [] => by simp [deqs]
  | [], _ :: _ => by simp [deqs]
  | _ :: _, [] => by simp [deqs]
  | x :: a, y :: b => by
    have ih := deqs_str a b
    simp only [List.map_cons, deqs, deq, ih]
    rfl
theorem eq_strs (a b : List (List Nat)) : fEq (.tup (a.map .str)) (.tup (b.map .str)) = some (.bl (a == b)) := by
  unfold fEq
  rw [okE_strs, okE_strs]
  simp [deq, deqs_str]
theorem eq_pD (m n h m' n' h' : Int) (ru ru' : List Nat) : fEq (pD m n h ru) (pD m' n' h' ru') = some (.bl (m == m' && (n == n' && (h == h' && ru == ru')))) := by
  have ok : ∀ (m n h : Int) (ru : List Nat), okE (pD m n h ru) = true := fun m n h ru => by simp [okE, pD, isData, isDatas, dep, deps]
  unfold fEq
  rw [ok, ok]
  simp [pD, deq, deqs]
theorem f_eq (k : Nat) (m n h : Int) (ru : List Nat) : T (k + 1) 29 [tabD m n h ru, tabD m n h ru] = ret (.bl true) := by
  rw [T, ft_def (d := d_Table___eq__) rfl rfl rfl]
  simp -implicitDefEqProofs [d_Table___eq__, b_Table___eq__, ty_tab, eq_pD]
theorem bnd_ap {α β : Type} (m : M α) (f : α → M β) (st : Sto) : bnd m f st = match m st with
  | .ok a st' => f a st'
  | .exc x st' => .exc x st'
  | .bad => .bad := rfl
theorem ret_ap {α : Type} (a : α) (st : Sto) : ret a st = .ok a st := rfl
theorem flM_ap (m : M Fl) (st : Sto) : flM m st = flD (m st) := rfl
theorem m_gTpX (gs : List BGX) (F : FT) (d : D) (r : En) : (gTpX gs).set F d r = match d with
    | .tup l => if l.length = gs.length then setXs F gs l r else fun _ => .bad
    | _ => fun _ => .bad := rfl
theorem m_gIx (a b : BE) (F : FT) (d : D) (r : En) : (gIx a b).set F d r = bnd (a.den F r) fun x => bnd (b.den F r) fun y => bnd (setL d x y) fun _ => ret r := rfl
theorem m_gx (g : BG) (F : FT) (d : D) (r : En) : g.x.set F d r = opt (g.set d r) := rfl
theorem m_setXs0 (F : FT) (r : En) : setXs F [] [] r = ret r := rfl
theorem m_setXs (F : FT) (g : BGX) (gs : List BGX) (d : D) (ds : List D) (r : En) : setXs F (g :: gs) (d :: ds) r = bnd (g.set F d r) fun r' => setXs F gs ds r' := rfl
theorem m_gNm (i : Nat) (d : D) (r : En) : (gNm i).set d r = if i < r.length then some (r.set i (.val d)) else none := rfl
def wellL (a b c : Int) : List D := [.int a, .int b, .int c]
/-- what a draw leaves: a figure below many, the cell another well -/
theorem f_draw (k w : Nat) (st : Sto) (a b c many : Int) (h1 : 0 < many) (h2 : many < 1073741824) (hw : st[w]? = some (.lst (wellL a b c))) :
    ∃ f a' b' c', 0 ≤ f ∧ f < many ∧ T (k + 1) 34 [.loc w, .int many] st = .ok (.int f) (st.set w (.lst (wellL a' b' c'))) := by
  rw [T, ft_def (d := d__law_draw) rfl rfl rfl]
  have x0 : fIxW st (.loc w) (.int 0) = some (.int a) := by simp only [fIxW, hw]; rfl
  by_cases ha : 0 < a
  · refine ⟨a % many, a / many, b, c, Int.emod_nonneg _ (by omega), Int.emod_lt_of_pos _ h1, ?_⟩
    have s0 : setL (.int (a / many)) (.loc w) (.int 0) st = .ok () (st.set w (.lst (wellL (a / many) b c))) := by
      simp only [setL, hw]; rfl
    simp -implicitDefEqProofs [d__law_draw, b__law_draw, flM_ap, bnd_ap, ret_ap, x0, ha, fDivmod, h1, h2, m_gTpX, m_gIx, m_gx, m_setXs, m_setXs0, m_gNm, s0, flD]
  · have hlt : w < st.length := (List.getElem?_eq_some_iff.mp hw).1
    generalize e1 : st.set w (.lst (wellL a b (c + 1))) = st1
    have hw1 : st1[w]? = some (.lst (wellL a b (c + 1))) := by rw [← e1, List.getElem?_set_self hlt]
    have x2 : fIxW st (.loc w) (.int 2) = some (.int c) := by simp only [fIxW, hw]; rfl
    have y1 : fIxW st1 (.loc w) (.int 1) = some (.int b) := by simp only [fIxW, hw1]; rfl
    have y2 : fIxW st1 (.loc w) (.int 2) = some (.int (c + 1)) := by simp only [fIxW, hw1]; rfl
    have s2 : setL (.int (c + 1)) (.loc w) (.int 2) st = .ok () st1 := by
      simp only [setL, hw]
      rw [← e1]; rfl
    generalize eb : (b * (b % 8837 + 41011) + 9787 * (c + 1) + 167) % 2147481199 = b'
    generalize e3 : st1.set w (.lst (wellL a b' (c + 1))) = st2
    have hlt1 : w < st1.length := (List.getElem?_eq_some_iff.mp hw1).1
    have hw2 : st2[w]? = some (.lst (wellL a b' (c + 1))) := by rw [← e3, List.getElem?_set_self hlt1]
    have s1 : setL (.int b') (.loc w) (.int 1) st1 = .ok () st2 := by
      simp only [setL, hw1]
      rw [← e3]; rfl
    have z1 : fIxW st2 (.loc w) (.int 1) = some (.int b') := by simp only [fIxW, hw2]; rfl
    have m1 : ∀ x : Int, fMul (.int x) (.int (b % 8837 + 41011)) = some (.int (x * (b % 8837 + 41011))) := fun x => by
      have : small64 (b % 8837 + 41011) = true := by simp [small64]; omega
      simp [fMul, this]
    have m2 : ∀ x : Int, fMul (.int 9787) (.int x) = some (.int (9787 * x)) := fun x => by
      have : small64 9787 = true := by decide
      simp [fMul, this]
    have i1 : ∀ x : Int, fInt [.int x] = some (.int x) := fun _ => rfl
    refine ⟨b' / 487 % many, a, b', c + 1, Int.emod_nonneg _ (by omega), Int.emod_lt_of_pos _ h1, ?_⟩
    have es : st.set w (.lst (wellL a b' (c + 1))) = st2 := by rw [← e3, ← e1, List.set_set]
    rw [es]
    simp -implicitDefEqProofs [d__law_draw, b__law_draw, flM_ap, bnd_ap, ret_ap, x0, ha, h1, m_gIx, flD, x2, s2, y1, y2, m1, m2, i1, eb, s1, z1]
theorem at_mem {α : Type} {l : List α} {f : Int} (h1 : 0 ≤ f) (h2 : f < l.length) : ∃ x ∈ l, atI l f = some x := by
  obtain ⟨i, rfl⟩ : ∃ i : Nat, f = i := ⟨f.toNat, by omega⟩
  have hi : i < l.length := by omega
  exact ⟨l[i], List.getElem_mem hi, at_nat hi⟩
/-- the cell is a well -/
def WellAt (w : Nat) (st : Sto) : Prop := ∃ a b c, st[w]? = some (.lst (wellL a b c))
theorem WellAt.set {w : Nat} {st : Sto} (h : WellAt w st) (a b c : Int) : WellAt w (st.set w (.lst (wellL a b c))) := by
  obtain ⟨_, _, _, h⟩ := h
  exact ⟨a, b, c, List.getElem?_set_self (List.getElem?_eq_some_iff.mp h).1⟩
theorem f_draw' (k : Nat) {w : Nat} {st : Sto} {many : Int} (h1 : 0 < many) (h2 : many < 1073741824) (hw : WellAt w st) :
    ∃ f st', 0 ≤ f ∧ f < many ∧ WellAt w st' ∧ st'.length = st.length ∧ T (k + 1) 34 [.loc w, .int many] st = .ok (.int f) st' := by
  obtain ⟨a, b, c, hw'⟩ := id hw
  obtain ⟨f, a', b', c', q1, q2, q3⟩ := f_draw k w st a b c many h1 h2 hw'
  exact ⟨f, _, q1, q2, hw.set a' b' c', by simp, q3⟩
theorem f_of_tup (k : Nat) {w : Nat} {st : Sto} {l : List D} (hl : l ≠ []) (hz : l.length < 1073741824) (hw : WellAt w st) :
    ∃ x ∈ l, ∃ st', WellAt w st' ∧ st'.length = st.length ∧ T (k + 2) 35 [.loc w, .tup l] st = .ok x st' := by
  rw [T, ft_def (d := d__law_of) rfl rfl rfl]
  have hp : 0 < l.length := List.length_pos_iff.mpr hl
  obtain ⟨f, st', q1, q2, q3, q4, q5⟩ := f_draw' k (w := w) (st := st) (many := l.length) (by omega) (by omega) hw
  obtain ⟨x, hx, ha⟩ := at_mem (l := l) q1 (by omega)
  refine ⟨x, hx, st', q3, q4, ?_⟩
  simp -implicitDefEqProofs [d__law_of, b__law_of, flM_ap, bnd_ap, ret_ap, q5, ha, flD]
theorem f_of_lst (k : Nat) {w : Nat} {st : Sto} {l : List D} (hl : l ≠ []) (hz : l.length < 1073741824) (hw : WellAt w st) :
    ∃ x ∈ l, ∃ st', WellAt w st' ∧ st'.length = st.length ∧ T (k + 2) 35 [.loc w, .lst l] st = .ok x st' := by
  rw [T, ft_def (d := d__law_of) rfl rfl rfl]
  have hp : 0 < l.length := List.length_pos_iff.mpr hl
  obtain ⟨f, st', q1, q2, q3, q4, q5⟩ := f_draw' k (w := w) (st := st) (many := l.length) (by omega) (by omega) hw
  obtain ⟨x, hx, ha⟩ := at_mem (l := l) q1 (by omega)
  refine ⟨x, hx, st', q3, q4, ?_⟩
  simp -implicitDefEqProofs [d__law_of, b__law_of, flM_ap, bnd_ap, ret_ap, q5, ha, flD]
theorem x_o (b : BE) : b.x.o = false := rfl
theorem xF_o (b : BF) : b.x.o = true := rfl
theorem mkS_v (d : D) : mkS false d = .val d := rfl
theorem mkS_o (d : D) : mkS true d = .own d := rfl
theorem f_table (k : Nat) {w : Nat} {st : Sto} {most tp : Int} (h1 : 1 ≤ most) (h2 : most ≤ 5) (h3 : 2 ≤ tp) (h4 : tp ≤ 4) (hw : WellAt w st) :
    ∃ m n h ru st', OkP m n h ru ∧ m ≤ most ∧ n ≤ tp ∧ WellAt w st' ∧ st'.length = st.length ∧ T (k + 3) 37 [.loc w, .int most, .int tp] st = .ok (pD m n h ru) st' := by
  rw [T, ft_def (d := d__law_table) rfl rfl rfl]
  obtain ⟨f1, st1, a1, a2, a3, a4, a5⟩ := f_draw' (k + 1) (w := w) (st := st) (many := most) (by omega) (by omega) hw
  obtain ⟨f2, st2, b1, b2, b3, b4, b5⟩ := f_draw' (k + 1) (w := w) (st := st1) (many := tp - 1) (by omega) (by omega) a3
  generalize em : 1 + f1 = m
  generalize en : 2 + f2 = n
  have hm : 1 ≤ m ∧ m ≤ most := by omega
  have hn : 2 ≤ n ∧ n ≤ tp := by omega
  generalize el : (m + n - 1) / n = l
  have hl : 1 ≤ l ∧ l ≤ m ∧ m ≤ l * n := by
    have hmm : m = 1 ∨ m = 2 ∨ m = 3 ∨ m = 4 ∨ m = 5 := by omega
    have hnn : n = 2 ∨ n = 3 ∨ n = 4 := by omega
    rcases hmm with rfl | rfl | rfl | rfl | rfl <;> rcases hnn with rfl | rfl | rfl <;> (subst el; decide)
  obtain ⟨f3, st3, c1, c2, c3, c4, c5⟩ := f_draw' (k + 1) (w := w) (st := st2) (many := m - l + 1) (by omega) (by omega) b3
  obtain ⟨x, hx, st4, d1, d2, d3⟩ := f_of_tup k (w := w) (st := st3) (l := [.str cFree, .str cFree, .str cLight]) (by simp) (by simp) c3
  have hru : ∃ ru, x = .str ru ∧ (ru = cFree ∨ ru = cLight) := by
    simp at hx
    rcases hx with rfl | rfl
    · exact ⟨_, rfl, .inl rfl⟩
    · exact ⟨_, rfl, .inr rfl⟩
  obtain ⟨ru, rfl, hr⟩ := hru
  have hh : l * n ≤ (l + f3) * n := Int.mul_le_mul_of_nonneg_right (by omega) (by omega)
  refine ⟨m, n, l + f3, ru, st4, ⟨hm.1, by omega, hn.1, by omega, by omega, by omega, by omega, hr⟩, hm.2, hn.2, d1, by omega, ?_⟩
  have i1 : ∀ x : Int, fInt [.int x] = some (.int x) := fun _ => rfl
  have g1 : 0 < n := by omega
  have g2 : n < 1073741824 := by omega
  have ew : [102, 114, 101, 101] = cFree := rfl
  have ew2 : [108, 105, 103, 104, 116] = cLight := rfl
  simp -implicitDefEqProofs [d__law_table, b__law_table, flM_ap, bnd_ap, ret_ap, a5, b5, em, en, el, x_o, mkS_v, i1, g1, g2, ew, ew2, c5, d3, flD, pD]
end Rf

set_option Elab.async false
set_option linter.all false
set_option maxRecDepth 100000
set_option maxHeartbeats 1000000
set_option warning.simp.otherHead false
namespace Rf
open PySem L2

/-- texts and numbers, and tuples and lists of these, n deep -/
def SameN : Nat → D → Prop
  | _, .int _ => True
  | _, .str _ => True
  | _, .bl _ => True
  | _, .non => True
  | n + 1, .tup l => l.length ≤ 1000 ∧ ∀ d ∈ l, SameN n d
  | n + 1, .lst l => l.length ≤ 1000 ∧ ∀ d ∈ l, SameN n d
  | _, _ => False
theorem f_same_int (k : Nat) (i : Int) : T (k + 1) 36 [.int i, .int i] = ret (.bl true) := by
  rw [T, ft_def (d := d__law_same) rfl rfl rfl]
  simp -implicitDefEqProofs [d__law_same, b__law_same]
theorem f_same_str (k : Nat) (s : List Nat) : T (k + 1) 36 [.str s, .str s] = ret (.bl true) := by
  rw [T, ft_def (d := d__law_same) rfl rfl rfl]
  simp -implicitDefEqProofs [d__law_same, b__law_same]
theorem f_same_bl (k : Nat) (b : Bool) : T (k + 1) 36 [.bl b, .bl b] = ret (.bl true) := by
  rw [T, ft_def (d := d__law_same) rfl rfl rfl]
  cases b <;> rfl
theorem f_same_non (k : Nat) : T (k + 1) 36 [.non, .non] = ret (.bl true) := by
  rw [T, ft_def (d := d__law_same) rfl rfl rfl]
  rfl
theorem f_same_seq (k : Nat) (l : List D) (h : ∀ d ∈ l, T (k + 1) 36 [d, d] = ret (.bl true)) (hl : l.length ≤ 1000) : T (k + 2) 36 [.tup l, .tup l] = ret (.bl true) ∧ T (k + 2) 36 [.lst l, .lst l] = ret (.bl true) := by
  have hR : inR l.length = true := inR_small (by omega) (by omega)
  have elt : ∀ (d : D) (i : Nat) (hi : i < l.length), T (k + 1) 36 [l[i], l[i]] = ret (.bl true) := fun d i hi => h _ (List.getElem_mem hi)
  constructor
  · rw [T, ft_def (d := d__law_same) rfl rfl rfl]
    simp -implicitDefEqProofs [d__law_same, b__law_same, no_den, rng1 hR]
    rw [comp_true]
    · simp [all_rep]
    · intro d hd
      unfold intsD at hd
      obtain ⟨i, hi, rfl⟩ := List.mem_map.mp hd
      rw [List.mem_range] at hi
      have hi' : i < l.length := by omega
      have a1 : atI l (0 + (i : Int)) = some l[i] := by rw [Int.zero_add]; exact at_nat hi'
      refine ⟨_, rfl, ?_⟩
      simp only [Int.zero_add] at a1
      simp -implicitDefEqProofs [a1, elt .non i hi']
    · unfold intsD; simp; omega
  · rw [T, ft_def (d := d__law_same) rfl rfl rfl]
    simp -implicitDefEqProofs [d__law_same, b__law_same, no_den, rng1 hR]
    rw [comp_true]
    · simp [all_rep]
    · intro d hd
      unfold intsD at hd
      obtain ⟨i, hi, rfl⟩ := List.mem_map.mp hd
      rw [List.mem_range] at hi
      have hi' : i < l.length := by omega
      have a1 : atI l (0 + (i : Int)) = some l[i] := by rw [Int.zero_add]; exact at_nat hi'
      refine ⟨_, rfl, ?_⟩
      simp only [Int.zero_add] at a1
      simp -implicitDefEqProofs [a1, elt .non i hi']
    · unfold intsD; simp; omega
theorem f_same : ∀ (n : Nat) (d : D), SameN n d → ∀ k, T (k + n + 1) 36 [d, d] = ret (.bl true)
  | n, .int i, _, k => f_same_int (k + n) i
  | n, .str s, _, k => f_same_str (k + n) s
  | n + 1, .tup l, h, k => (f_same_seq (k + n) l (fun d hd => f_same n d (h.2 d hd) k) h.1).1
  | n + 1, .lst l, h, k => (f_same_seq (k + n) l (fun d hd => f_same n d (h.2 d hd) k) h.1).2
  | 0, .tup _, h, _ => h.elim
  | 0, .lst _, h, _ => h.elim
  | n, .non, _, k => f_same_non (k + n)
  | n, .bl b, _, k => f_same_bl (k + n) b
  | _, .frl _, h, _ => by simp [SameN] at h
  | _, .frt _, h, _ => by simp [SameN] at h
  | _, .dct _ _ _, h, _ => by simp [SameN] at h
  | _, .obj _ _, h, _ => by simp [SameN] at h
  | _, .loc _, h, _ => by simp [SameN] at h
  | _, .fn _, h, _ => by simp [SameN] at h
  | _, .cls _, h, _ => by simp [SameN] at h
  | _, .clo _ _, h, _ => by simp [SameN] at h
end Rf

set_option Elab.async false
set_option linter.all false
set_option maxRecDepth 100000
set_option maxHeartbeats 1000000
set_option warning.simp.otherHead false
namespace Rf
open PySem L2

/-- a pile is low while few blocks are laid -/
theorem low_pile : ∀ {ps : List (List Nat)} {h : Nat}, ps.flatten.length < h * ps.length → ∃ i, ∃ hi : i < ps.length, ps[i].length < h
  | [], h, q => by simp at q
  | p :: ps, h, q => by
    by_cases hp : p.length < h
    · exact ⟨0, by simp, hp⟩
    · have : ps.flatten.length < h * ps.length := by
        simp [Nat.mul_add] at q
        have e : ps.flatten.length = (ps.map List.length).sum := List.length_flatten
        omega
      obtain ⟨i, hi, z⟩ := low_pile this
      exact ⟨i + 1, by simp; omega, by simpa using z⟩
/-- what stands in the frame of _law_standing -/
structure StJ (w : Nat) (m n h : Int) (ru : List Nat) (left : List Nat) (ps : List (List Nat)) : Prop where
  len : (ps.length : Int) = n
  perm : (ps.flatten ++ left).Perm (blks m)
  high : ∀ p ∈ ps, (p.length : Int) ≤ h
def stE (w : Nat) (m n h : Int) (ru : List Nat) (left : List Nat) (ps : List (List Nat)) (a b c : Slt) : En :=
  [.val (.loc w), .val (pD m n h ru), a, .own (.lst (signs left)), .own (.lst (ps.map .str)), b, c, .none, .none]
theorem flat_set : ∀ (ps : List (List Nat)) (i : Nat) (hi : i < ps.length) (x : Nat), (ps.set i (ps[i] ++ [x])).flatten.Perm (x :: ps.flatten)
  | p :: ps, 0, _, x => by
    simp
  | p :: ps, i + 1, hi, x => by
    simp
    have ih := flat_set ps i (by simpa using hi) x
    exact (ih.append_left p).trans (List.perm_middle)
theorem erase_map {α β : Type} (f : α → β) : ∀ (l : List α) (i : Nat), (l.map f).eraseIdx i = (l.eraseIdx i).map f
  | [], _ => rfl
  | _ :: _, 0 => rfl
  | x :: l, i + 1 => by simp [erase_map f l i]
theorem pop_at {l : List Nat} {f : Int} (h1 : 0 ≤ f) (h2 : f < l.length) (hz : l.length ≤ 1000) : ∃ i, ∃ hi : i < l.length, popI (signs l) (.int f) = some (.str [l[i]], signs (l.eraseIdx i)) := by
  obtain ⟨i, rfl⟩ : ∃ i : Nat, f = i := ⟨f.toNat, by omega⟩
  have hi : i < l.length := by omega
  refine ⟨i, hi, ?_⟩
  have e1 : seqIndex? (i : Int) (signs l).length = some i := by
    rw [seqIndex_of h1 (by simp [signs]; omega)]; rfl
  have e2 : (signs l)[i]? = some (.str [l[i]]) := by simp [signs, hi]
  have hp : ((2 : Int) ^ 63) = 9223372036854775808 := by decide
  unfold popI
  simp only
  rw [if_pos (by rw [hp, decide_eq_true (by omega), decide_eq_true (by omega)]; rfl), e1]
  simp only [Option.bind_some, e2, Option.map_some]
  rw [show (signs l).eraseIdx i = signs (l.eraseIdx i) from erase_map _ l i]
theorem erase_perm {α : Type} : ∀ (l : List α) (i : Nat) (hi : i < l.length), (l[i] :: l.eraseIdx i).Perm l
  | x :: l, 0, _ => by simp
  | x :: l, i + 1, hi => by
    simp only [List.getElem_cons_succ, List.eraseIdx_cons_succ]
    exact (List.Perm.swap x _ _).trans ((erase_perm l i (by simpa using hi)).cons x)
theorem m_sPop (j i : Nat) (b : BE) (F : FT) (r : En) : (sPop j i b).den F r = bnd (opt (ownL r i)) fun l => bnd (b.den F r) fun d => bnd (opt (popI l d)) fun p => ret (.nx ((r.set i (.own (.lst p.2))).set j (.val p.1))) := rfl
theorem m_gOwn (i : Nat) (b : BE) (F : FT) (d : D) (r : En) : (gOwn i b).set F d r = bnd (opt (ownL r i)) fun l => bnd (b.den F r) fun y => bnd (opt (match y with
    | .int k => (ixN l.length k).map fun j => l.set j d
    | _ => none)) fun l' => ret (r.set i (.own (.lst l'))) := rfl
theorem one_den (b : BT) (F : FT) : (BC.one b).den F = b.den F := rfl
def roomP (h : Int) (ps : List (List Nat)) : D → Bool
  | .int i => decide (((ps.getD i.toNat []).length : Int) < h)
  | _ => false
/-- the slots of piles that have room -/
def rooms (n : Nat) (h : Int) (ps : List (List Nat)) : List D := (intsD 0 n).filter (roomP h ps)
theorem f_turn (k w : Nat) {m n h : Int} {ru : List Nat} (o : OkP m n h ru) {left : List Nat} {ps : List (List Nat)} (J : StJ w m n h ru left ps) (hl : left ≠ []) {st : Sto} (hw : WellAt w st) (lap b c : Slt) :
    ∃ left' ps' b' c' st', StJ w m n h ru left' ps' ∧ left'.length + 1 = left.length ∧ WellAt w st' ∧ st'.length = st.length ∧
      dBlk [(sPop 5 3 (cCall 34 [(cVar 0), (cBi bLen [(pOwn 3)])])), (sSet 6 (cCall 35 [(cVar 0), (fComp (iRng1 (cIx (cVar 1).p (cInt 1))) [8] (gNm 8) (.one (tCmp pLt (cBi bLen [(cIx (pOwn 4) (cVar 8)).p]) (cIx (cVar 1).p (cInt 2)))) (cVar 8)).e])), (sAsg (gOwn 4 (cVar 6)) (cBin oAdd (cIx (pOwn 4) (cVar 6)) (cVar 5)))] (T (k + 2)) (stE w m n h ru left ps lap b c) st = .ok (.nx (stE w m n h ru left' ps' lap b' c')) st' := by
  have hlen : (ps.flatten ++ left).length = m.toNat := by rw [J.perm.length_eq, blks_len m o.m1 o.m2]
  have hm := o.m2
  have hpos : 0 < left.length := List.length_pos_iff.mpr hl
  rw [List.length_append] at hlen
  obtain ⟨f, st1, q1, q2, q3, q4, q5⟩ := f_draw' (k + 1) (w := w) (st := st) (many := left.length) (by omega) (by omega) hw
  obtain ⟨i, hi, hp⟩ := pop_at q1 q2 (by omega)
  have hn : (ps.length : Int) = n := J.len
  obtain ⟨j0, hj0, hj1⟩ := low_pile (ps := ps) (h := h.toNat) (by
    have h1 := o.hn
    have h2 := o.h1
    have e : ((h.toNat * ps.length : Nat) : Int) = h * n := by rw [Int.natCast_mul, hn]; congr 1; omega
    omega)
  have hR : inR n = true := inR_small (by have := o.n1; omega) (by have := o.n2; omega)
  have hne : rooms n.toNat h ps ≠ [] := by
    have : D.int (j0 : Int) ∈ rooms n.toNat h ps := by
      unfold rooms
      rw [List.mem_filter]
      refine ⟨List.mem_map.mpr ⟨j0, List.mem_range.mpr (by omega), by simp⟩, ?_⟩
      simp [roomP, hj0]
      omega
    exact List.ne_nil_of_mem this
  have hrl : (rooms n.toNat h ps).length ≤ n.toNat := by
    unfold rooms
    exact Nat.le_trans (List.length_filter_le _ _) (by simp [intsD])
  obtain ⟨x, hx, st2, r1, r2, r3⟩ := f_of_lst k (w := w) (st := st1) (l := rooms n.toNat h ps) hne (by have := o.n2; omega) q3
  obtain ⟨j, hj, hjh, rfl⟩ : ∃ j, ∃ hj : j < ps.length, (ps[j].length : Int) < h ∧ x = .int j := by
    unfold rooms at hx
    rw [List.mem_filter] at hx
    obtain ⟨x1, x2⟩ := hx
    obtain ⟨j, hj, rfl⟩ := List.mem_map.mp x1
    rw [List.mem_range] at hj
    have hj' : j < ps.length := by omega
    refine ⟨j, hj', ?_, by simp⟩
    simpa [roomP, hj'] using x2
  refine ⟨left.eraseIdx i, ps.set j (ps[j] ++ [left[i]]), .val (.str [left[i]]), .val (.int j), st2, ⟨by simpa using hn, ?_, ?_⟩, ?_, r1, by omega, ?_⟩
  · have p1 := flat_set ps j hj left[i]
    have p2 : (left[i] :: left.eraseIdx i).Perm left := erase_perm left i hi
    refine List.Perm.trans ?_ J.perm
    refine (p1.append_right _).trans ?_
    simp only [List.cons_append]
    exact (List.perm_middle.symm).trans (p2.append_left _)
  · intro p hp
    rcases List.mem_or_eq_of_mem_set hp with z | z
    · exact J.high p z
    · rw [z]; simp; omega
  · rw [List.length_eraseIdx_of_lt hi]; omega
  · have a1 : atI [D.int m, D.int n, D.int h, D.str ru] 1 = some (.int n) := rfl
    have a2 : atI [D.int m, D.int n, D.int h, D.str ru] 2 = some (.int h) := rfl
    have sl : (signs left).length = left.length := by simp [signs]
    have cf : ∀ (r : En), r = [.val (.loc w), .val (pD m n h ru), lap, .own (.lst (signs (left.eraseIdx i))), .own (.lst (ps.map .str)), .val (.str [left[i]]), c, .none, .none] →
        compGo (gNm 8).set ((tCmp pLt (cBi bLen [(cIx (pOwn 4) (cVar 8)).p]) (cIx (cVar 1).p (cInt 2))).den (T (k + 2))) ((cVar 8).den (T (k + 2))) r (intsD 0 n.toNat) [] = ret (rooms n.toNat h ps) := fun r hr => by
      subst hr
      rw [comp_filter (roomP h ps) id]
      · simp [rooms]
      · intro d hd
        obtain ⟨t, ht, rfl⟩ := List.mem_map.mp hd
        rw [List.mem_range] at ht
        have ht' : t < (ps.map D.str).length := by rw [List.length_map]; omega
        have e3 : atI (ps.map D.str) (t : Int) = some (ps.map D.str)[t] := at_nat ht'
        refine ⟨_, rfl, ?_, ?_⟩
        · simp -implicitDefEqProofs [pD, a2, e3, roomP]
          have ht2 : t < ps.length := by omega
          rw [List.getElem?_eq_getElem ht2]
          rfl
        · simp -implicitDefEqProofs
      · simp [intsD]; have := o.n2; omega
    have xj : atI (ps.map D.str) (j : Int) = some (.str ps[j]) := by
      have := at_nat (l := ps.map D.str) (i := j) (by simpa using hj)
      simpa using this
    have ij : ixN (ps.map D.str).length (j : Int) = some j := by
      unfold ixN
      rw [if_pos (by omega), if_pos (by rw [List.length_map]; omega)]
      rfl
    have ij2 : ixN ps.length (j : Int) = some j := by rw [← ij, List.length_map]
    have hR' : inR n = true := hR
    have big : ps[j].length + 1 ≤ 16777216 := by have := o.h2; omega
    have cf' := cf _ rfl
    simp only [pD] at cf'
    simp -implicitDefEqProofs [m_sPop, ownL, stE, bnd_ap, ret_ap, sl, q5, hp, one_den, pD, a1, rng1 hR', cf', r3, m_gOwn, ij2, xj, big]
end Rf

set_option Elab.async false
set_option linter.all false
set_option maxRecDepth 100000
set_option maxHeartbeats 1000000
set_option warning.simp.otherHead false
namespace Rf
open PySem L2

abbrev turnB : List BS := [(sPop 5 3 (cCall 34 [(cVar 0), (cBi bLen [(pOwn 3)])])), (sSet 6 (cCall 35 [(cVar 0), (fComp (iRng1 (cIx (cVar 1).p (cInt 1))) [8] (gNm 8) (.one (tCmp pLt (cBi bLen [(cIx (pOwn 4) (cVar 8)).p]) (cIx (cVar 1).p (cInt 2)))) (cVar 8)).e])), (sAsg (gOwn 4 (cVar 6)) (cBin oAdd (cIx (pOwn 4) (cVar 6)) (cVar 5)))]
theorem f_turns (k w : Nat) {m n h : Int} {ru : List Nat} (o : OkP m n h ru) : ∀ (l : List D) {left : List Nat} {ps : List (List Nat)}, StJ w m n h ru left ps → left.length = l.length → ∀ {st : Sto}, WellAt w st → ∀ (a b c : Slt),
    ∃ ps' a' b' c' st', StJ w m n h ru [] ps' ∧ WellAt w st' ∧ st'.length = st.length ∧
      forGo (gNm 2).set (dBlk turnB (T (k + 2))) l (stE w m n h ru left ps a b c) st = .ok (.nx (stE w m n h ru [] ps' a' b' c')) st'
  | [], left, ps, J, hl, st, hw, a, b, c => by
    have : left = [] := List.length_eq_zero_iff.mp hl
    subst this
    exact ⟨ps, a, b, c, st, J, hw, rfl, rfl⟩
  | d :: l, left, ps, J, hl, st, hw, a, b, c => by
    have hne : left ≠ [] := by rintro rfl; simp at hl
    obtain ⟨left', ps', b', c', st', J', hl', hw', hs', hr⟩ := f_turn k w o J hne hw (.val d) b c
    obtain ⟨ps2, a2, b2, c2, st2, J2, hw2, hs2, hr2⟩ := f_turns k w o l J' (by simp at hl; omega) hw' (.val d) b' c'
    refine ⟨ps2, a2, b2, c2, st2, J2, hw2, hs2.trans hs', ?_⟩
    have es : (gNm 2).set d (stE w m n h ru left ps a b c) = some (stE w m n h ru left ps (.val d) b c) := rfl
    simp only [forGo, es, bnd_some]
    rw [bnd_ap, hr]
    exact hr2
/-- how a pile is told -/
def told (ru : List Nat) (p : List Nat) : List Nat := if ru = cLight then (sortN p).reverse else p
theorem told_perm (ru p : List Nat) : (told ru p).Perm p := by
  unfold told
  split
  · exact (List.reverse_perm _).trans (List.mergeSort_perm p _)
  · exact .refl p
theorem flat_perm {f : List Nat → List Nat} (h : ∀ p, (f p).Perm p) : ∀ s : List (List Nat), (s.map f).flatten.Perm s.flatten
  | [] => .refl _
  | p :: s => by simpa using (h p).append (flat_perm h s)
theorem blk_nodup (m : Int) : (blks m).Nodup := by
  have : blk5.Nodup := by decide
  exact this.sublist (List.take_sublist _ _)
theorem told_fall {p : List Nat} (h : p.Nodup) : fall (told cLight p) := by
  have h1 := sortN_pw p
  have h2 : (sortN p).Nodup := ((List.mergeSort_perm p _).nodup_iff).mpr h
  unfold told fall
  rw [if_pos rfl, List.pairwise_reverse]
  have := h1.and h2
  exact this.imp fun {a b} ⟨x, y⟩ => Nat.lt_of_le_of_ne x y
theorem st_ok {w : Nat} {m n h : Int} {ru : List Nat} {ps : List (List Nat)} (o : OkP m n h ru) (J : StJ w m n h ru [] ps) : OkS m n h ru (ps.map (told ru)) := by
  have hp : ps.flatten.Perm (blks m) := by simpa using J.perm
  refine ⟨by simpa using J.len, (flat_perm (told_perm ru) ps).trans hp, fun q hq => ?_, ?_⟩
  · obtain ⟨p, h1, rfl⟩ := List.mem_map.mp hq
    rw [(told_perm ru p).length_eq]
    exact J.high p h1
  · rcases o.ru with h1 | h1
    · exact .inl h1
    · refine .inr fun q hq => ?_
      obtain ⟨p, h2, rfl⟩ := List.mem_map.mp hq
      rw [h1]
      have nd : ps.flatten.Nodup := hp.nodup_iff.mpr (blk_nodup m)
      exact told_fall (nd.sublist (List.sublist_flatten_of_mem h2))
def toldD (ru : List Nat) : D → D
  | .str p => .str (told ru p)
  | d => d
theorem f_standing (k : Nat) {w : Nat} {m n h : Int} {ru : List Nat} (o : OkP m n h ru) {st : Sto} (hw : WellAt w st) :
    ∃ s st', OkS m n h ru s ∧ WellAt w st' ∧ st'.length = st.length ∧ T (k + 3) 91 [.loc w, pD m n h ru] st = .ok (sD s) st' := by
  rw [T, ft_def (d := d__law_standing) rfl rfl rfl]
  have hm := o.m1
  have hm2 := o.m2
  have hn := o.n1
  have hn2 := o.n2
  have J0 : StJ w m n h ru (blks m) (List.replicate n.toNat []) := ⟨by simp; omega, by simp, fun p hp => by rw [List.eq_of_mem_replicate hp]; have := o.h1; simp; omega⟩
  obtain ⟨ps, a, b, c, st', J, hw', hs', hr⟩ := f_turns k w o (intsD 0 m.toNat) J0 (by rw [blks_len m hm hm2]; simp [intsD]) hw .none .none .none
  refine ⟨ps.map (told ru), st', st_ok o J, hw', hs', ?_⟩
  obtain ⟨a0, a1, a2, a3⟩ := at4 (.int m) (.int n) (.int h) (.str ru)
  have hR : inR m = true := inR_small (by omega) (by omega)
  have es : fSl (.str [97, 98, 99, 100, 101]) none (some m) = some (.str (blks m)) := by
    have : m = 1 ∨ m = 2 ∨ m = 3 ∨ m = 4 ∨ m = 5 := by omega
    rcases this with rfl | rfl | rfl | rfl | rfl <;> rfl
  have ep : fRepD (.lst [.str []]) (.int n) = some (.lst ((List.replicate n.toNat []).map D.str)) := by
    have : n = 2 ∨ n = 3 ∨ n = 4 := by omega
    rcases this with rfl | rfl | rfl <;> rfl
  simp only [stE, pD] at hr
  simp -implicitDefEqProofs [d__law_standing, b__law_standing, flM_ap, bnd_ap, ret_ap, pD, a0, a1, a3, es, ep, rng1 hR, fList, x_o, xF_o, mkS_o, mkS_v]
  simp only [List.map_replicate] at hr
  rw [show FTab (PTof tab) (k + 2) = T (k + 2) from rfl, hr]
  have pl : ∀ p ∈ ps, p.length ≤ 5 := fun p hp => by have := J.high p hp; have := o.h2; omega
  have lp : (ps.length : Int) = n := J.len
  have mp : (ps.map D.str).map (toldD ru) = (ps.map (told ru)).map D.str := by
    rw [List.map_map, List.map_map]; rfl
  simp -implicitDefEqProofs [frzE, no_den]
  rw [comp_map (toldD ru)]
  · simp -implicitDefEqProofs [mp, sD, flD, ret_ap]
  · intro d hd
    obtain ⟨p, hp, rfl⟩ := List.mem_map.mp hd
    have := pl p hp
    refine ⟨_, rfl, rfl, ?_⟩
    have g1 : fSorted [.str p] = some (.lst (signs (sortN p))) := by unfold fSorted; simp only; rw [if_pos (by omega)]
    have ew : [108, 105, 103, 104, 116] = cLight := rfl
    by_cases hru : ru = cLight
    · have g2 : fJoin (.str []) (.lst (signs (sortN p)).reverse) = some (.str (told ru p)) := by
        have e1 : (signs (sortN p)).reverse = ((sortN p).reverse.map fun c => [c]).map D.str := by
          unfold signs
          rw [← List.map_reverse, List.map_map]; rfl
        have ls : (sortN p).length = p.length := List.length_mergeSort p
        have e2 : joinB [] ((sortN p).reverse.map fun c => [c]) = true := by
          unfold joinB
          rw [List.map_map]
          have e3 : ∀ l : List Nat, (l.map fun _ => 1).sum = l.length := fun l => by
            induction l with
            | nil => rfl
            | cons x l ih => simp [ih]; omega
          simp [Function.comp_def, ls, e3]
          omega
        simp only [fJoin, itemsJ, Option.bind_some, e1, getSs_str, e2, if_true, join_nil]
        congr 2
        unfold told
        rw [if_pos hru]
        generalize (sortN p).reverse = l
        induction l with
        | nil => rfl
        | cons x l ih => simp [ih]
      subst hru
      simp -implicitDefEqProofs [a3, ew, g1, fRev, g2, toldD]
    · have hru' : (ru == cLight) = false := beq_eq_false_iff_ne.mpr hru
      simp -implicitDefEqProofs [a3, ew, hru', toldD, told, hru]
  · simp; omega
end Rf

set_option Elab.async false
set_option linter.all false
set_option maxRecDepth 100000
set_option maxHeartbeats 1000000
set_option warning.simp.otherHead false
namespace Rf
open PySem L2

theorem sameL {l : List D} {n : Nat} (h : l.length ≤ 1000) (k : ∀ d ∈ l, SameN n d) : SameN (n + 1) (.lst l) := ⟨h, k⟩
theorem same_p (m n h : Int) (ru : List Nat) : SameN 1 (pD m n h ru) := ⟨by simp, fun d hd => by simp at hd; rcases hd with rfl | rfl | rfl | rfl <;> trivial⟩
theorem same_strs (s : List (List Nat)) (h : s.length ≤ 1000) : SameN 1 (.tup (s.map .str)) := ⟨by simpa using h, fun d hd => by obtain ⟨p, _, rfl⟩ := List.mem_map.mp hd; trivial⟩
theorem same_one {d : D} (h : SameN 1 d) : SameN 2 d := by
  cases d with
  | int => trivial
  | str => trivial
  | bl => trivial
  | non => trivial
  | tup l => exact ⟨h.1, fun d hd => by
      have := h.2 d hd
      cases d <;> first | trivial | exact absurd this (by simp [SameN])⟩
  | lst l => exact ⟨h.1, fun d hd => by
      have := h.2 d hd
      cases d <;> first | trivial | exact absurd this (by simp [SameN])⟩
  | _ => simp [SameN] at h
theorem same_s {m n h : Int} {ru : List Nat} {s : List (List Nat)} (o : OkP m n h ru) (q : OkS m n h ru s) : SameN 1 (sD s) := same_strs _ (by have := q.len; have := o.n2; omega)
/-- told[0] != made -/
theorem eqO_tab (k : Nat) (m n h : Int) (ru : List Nat) : noX (fEqO (T (k + 1)) true (tabD m n h ru) (tabD m n h ru)) = ret (.bl false) := by
  have e := f_eq k m n h ru
  have e1 : ∀ st, eqI st (tabD m n h ru) = some 29 := fun _ => rfl
  funext st
  unfold noX fEqO
  rw [e1 st, ty_tab]
  simp only [e]
  rfl
theorem ne_bb (a b : Bool) : fNe (.bl a) (.bl b) = some (.bl (!(a == b))) := by
  cases a <;> cases b <;> rfl
theorem for_keep (body : MS) (x : Nat) (P : Sto → En → Prop) (set : D → En → Option En) (h : ∀ d st r, P st r → ∃ r' r'' st'', set d r = some r' ∧ body r' st = .ok (.nx r'') st'' ∧ P st'' r'') : ∀ (l : List D) st r, P st r → ∃ r' st', forGo set body l r st = .ok (.nx r') st' ∧ P st' r'
  | [], st, r, hp => ⟨r, st, rfl, hp⟩
  | d :: l, st, r, hp => by
    obtain ⟨r', r'', st'', e1, e2, e3⟩ := h d st r hp
    obtain ⟨r3, st3, f1, f2⟩ := for_keep body x P set h l st'' r'' e3
    refine ⟨r3, st3, ?_, f2⟩
    simp only [forGo, e1, bnd_some]
    rw [bnd_ap, e2]
    exact f1

theorem noX_ap {α : Type} (m : M α) (st : Sto) : noX m st = match m st with
  | .exc _ _ => .bad
  | o => o := rfl
/-- a comprehension whose elements draw -/
theorem comp_draw {set : D → En → Option En} {elt : En → M D} {r : En} {w : Nat} (h : ∀ d st, WellAt w st → ∃ r' st', set d r = some r' ∧ elt r' st = .ok (.bl true) st' ∧ WellAt w st' ∧ st'.length = st.length) : ∀ (l acc : List D) st, WellAt w st → acc.length + l.length ≤ sizeLine →
    ∃ st', WellAt w st' ∧ st'.length = st.length ∧ compGo set (fun _ => ret true) elt r l acc st = .ok (acc ++ List.replicate l.length (.bl true)) st'
  | [], acc, st, hw, _ => ⟨st, hw, rfl, by simp [compGo, ret_ap]⟩
  | d :: l, acc, st, hw, hl => by
    obtain ⟨r', st1, e1, e2, e3, e4⟩ := h d st hw
    simp only [List.length_cons] at hl
    have hlt : acc.length < sizeLine := by omega
    obtain ⟨st2, f1, f2, f3⟩ := comp_draw h l (acc ++ [.bl true]) st1 e3 (by simp at hl ⊢; omega)
    refine ⟨st2, f1, by omega, ?_⟩
    simp only [compGo, e1, bnd_some, bnd_ret, if_true]
    rw [bnd_ap, e2]
    simp only [if_pos hlt, bnd_some]
    rw [f3]
    simp [List.replicate_succ]
theorem mul_sm (x y : Int) (h : small64 y = true) : fMul (.int x) (.int y) = some (.int (x * y)) := by simp [fMul, h]
theorem mul_sm' (x y : Int) (h : small64 x = true) : fMul (.int x) (.int y) = some (.int (x * y)) := by simp [fMul, h]
/-- the stirring loop -/
theorem stir_loop (F : FT) (o : Slt) (script lap own : Slt) : ∀ (l : List Int) (n : Int), ∃ n' c', forGo (gNm 4).set (dBlk [(sSet 3 (cBin oMod (cBi bInt [(cBin oAdd (cBin oAdd (cBin oMul (cVar 3) (cInt 16807)) (cBin oMod (cBi bInt [(cVar 4).p]) (cInt 2147481359))) (cInt 211)).p]) (cInt 2147482093)))] F) (l.map .int) [script, lap, own, .val (.int n), o] = ret (.nx [script, lap, own, .val (.int n'), c'])
  | [], n => ⟨n, o, rfl⟩
  | x :: l, n => by
    obtain ⟨n', c', ih⟩ := stir_loop F (.val (.int x)) script lap own l ((n * 16807 + x % 2147481359 + 211) % 2147482093)
    refine ⟨n', c', ?_⟩
    have es : (gNm 4).set (.int x) [script, lap, own, .val (.int n), o] = some [script, lap, own, .val (.int n), .val (.int x)] := rfl
    have m1 : fMul (.int n) (.int 16807) = some (.int (n * 16807)) := mul_sm _ _ (by decide)
    have i1 : ∀ x : Int, fInt [.int x] = some (.int x) := fun _ => rfl
    simp only [List.map_cons, forGo, es, bnd_some]
    simp -implicitDefEqProofs [m1, i1] at ih ⊢
    exact ih
theorem cut12 (ns : List Int) : fSl (.frl (ns.map .int)) none (some 12) = some (.lst ((ns.take 12).map .int)) := by
  have e1 : HT.sIx (ns.map D.int).length 0 none = 0 := HT.sIx_none _ _
  have e2 : HT.sIx (ns.map D.int).length (ns.map D.int).length (some 12) = min 12 (ns.map D.int).length := HT.sIx_nat _ _ 12
  simp only [fSl, cut, e1, e2, List.drop_zero, Nat.sub_zero]
  congr 2
  rw [List.map_take]
  exact List.take_eq_take_min.symm
theorem f_well (k : Nat) (ns : List Int) (hn : ns.length ≤ 63) (i : Nat) (hi : i < 3) (st : Sto) : ∃ a b c, T (k + 1) 33 [.frl (ns.map .int), .int i] st = .ok (.loc st.length) (st ++ [.lst (wellL a b c)]) := by
  rw [T, ft_def (d := d__law_well) rfl rfl rfl]
  obtain ⟨own, ho⟩ : ∃ own : Int, (if ((i : Int) < ((ns.map D.int).length : Int)) then (bnd (bnd (fun st => opt (fIx (.frl (ns.map .int)) (.int i)) st) fun x => ret [x]) fun x => opt (fInt x)) else ret (.int 0)) = ret (.int own) := by
    by_cases h : ((i : Int) < ((ns.map D.int).length : Int))
    · have h' : i < ns.length := by simpa using h
      refine ⟨ns[i], ?_⟩
      rw [if_pos h]
      have : fIx (.frl (ns.map .int)) (.int i) = some (.int ns[i]) := by
        show atI (ns.map D.int) (i : Int) = _
        have := at_nat (l := ns.map D.int) (i := i) (by simpa using h')
        simpa using this
      simp only [this, opt_some]
      rfl
    · exact ⟨0, by rw [if_neg h]⟩
  have i1 : ∀ x : Int, fInt [.int x] = some (.int x) := fun _ => rfl
  have m1 : fMul (.int 433) (.int i) = some (.int (433 * i)) := mul_sm' _ _ (by decide)
  have s1 := cut12 ns
  obtain ⟨n', c', lp⟩ := stir_loop (T k) .none (.val (.frl (ns.map .int))) (.val (.int i)) (.val (.int own)) (ns.take 12 ++ [own]) (stirC + 433 * i)
  have p1 : ∀ j : Int, 0 ≤ j → j ≤ 1000000 → fPow (.int 10) (.int j) = some (.int (10 ^ j.toNat)) := fun j h1 h2 => by
    simp [fPow, h1, h2]
  have p15 := p1 15 (by omega) (by omega)
  have p60 := p1 60 (by omega) (by omega)
  have ab : fAbs [.int own] = some (.int (if own < 0 then -own else own)) := rfl
  simp only [List.length_map] at ho
  have sz : min 12 ns.length ≤ 16777215 := by omega
  have to : ∀ a b c : Int, toSo (.lst (wellL a b c)) = some (.lst (wellL a b c)) := fun _ _ _ => rfl
  have to2 : ∀ (a b c : Int) (st : Sto), dSto (.lst [.int a, .int b, .int c]) st = .ok (.loc st.length) (st ++ [.lst (wellL a b c)]) := fun _ _ _ _ => rfl
  simp -implicitDefEqProofs [stirC] at lp ho
  have P60 : (0 : Int) < 10 ^ 60 := by decide
  by_cases q1 : own < 0
  · refine ⟨(-own) % 10 ^ 60, n', 0, ?_⟩
    simp -implicitDefEqProofs [d__law_well, b__law_well, i1, m1, s1, p15, p60, ab, flM_ap, ho, lp, q1, sz, P60, bnd_ap, ret_ap, to2, flD]
  · by_cases q2 : (1000000000000000 : Int) ≤ own
    · refine ⟨own % 10 ^ 60, n', 0, ?_⟩
      simp -implicitDefEqProofs [d__law_well, b__law_well, i1, m1, s1, p15, p60, ab, flM_ap, ho, lp, q1, q2, sz, P60, bnd_ap, ret_ap, to2, flD]
    · refine ⟨0, n', 0, ?_⟩
      simp -implicitDefEqProofs [d__law_well, b__law_well, i1, m1, s1, p15, p60, ab, flM_ap, ho, lp, q1, q2, sz, P60, bnd_ap, ret_ap, to2, flD]
theorem WellAt.new (st : Sto) (a b c : Int) : WellAt st.length (st ++ [.lst (wellL a b c)]) := ⟨a, b, c, by simp⟩
/-- the law's loop, right being what is asked of one well -/
theorem law_loop (k m : Nat) (ns : List Int) (hn : ns.length ≤ 63) (rounds : Int) (hr : 0 ≤ rounds) (hr2 : rounds ≤ 1000)
    (right : ∀ {w : Nat} {st : Sto}, WellAt w st → ∃ st', WellAt w st' ∧ st'.length = st.length ∧ T (k + 1) 48 [.loc w] st = .ok (.bl true) st') :
    ∀ (l : List D), (∀ d ∈ l, ∃ i : Nat, i < 3 ∧ d = .int i) → ∀ (st : Sto) (a b : Slt), ∃ st' a' b',
      forGo (gNm 1).set (dBlk [(sSet 2 (cCall 33 [(cVar 0), (cVar 1)])), (sIf (tNot (tVal (cBi bAll [(fComp (iRng1 (cInt rounds)) [3] (gNm 3) .no (cCall 48 [(cVar 2)])).e.p]))) [(sRet (cBl false))] [])] (T (k + 1))) l [.val (.frl (ns.map .int)), a, b, .none] st = .ok (.nx [.val (.frl (ns.map .int)), a', b', .none]) st'
  | [], _, st, a, b => ⟨st, a, b, rfl⟩
  | d :: l, h, st, a, b => by
    obtain ⟨i, hi, rfl⟩ := h d (List.mem_cons_self ..)
    obtain ⟨x, y, z, hw⟩ := f_well k ns hn i hi st
    have w1 := WellAt.new st x y z
    obtain ⟨st2, w2, s2, e2⟩ := comp_draw (set := (gNm 3).set) (elt := (cCall 48 [(cVar 2)]).den (T (k + 1))) (r := [.val (.frl (ns.map .int)), .val (.int i), .val (.loc st.length), .none]) (w := st.length) (fun d st' hw' => by
      obtain ⟨st3, g1, g2, g3⟩ := right hw'
      refine ⟨_, st3, rfl, ?_, g1, g2⟩
      simp -implicitDefEqProofs [g3, bnd_ap, ret_ap]) (intsD 0 rounds.toNat) [] _ w1 (by simp [intsD]; omega)
    obtain ⟨st3, a3, b3, ih⟩ := law_loop k m ns hn rounds hr hr2 right l (fun d hd => h d (List.mem_cons_of_mem _ hd)) st2 (.val (.int i)) (.val (.loc st.length))
    refine ⟨st3, a3, b3, ?_⟩
    have es : (gNm 1).set (.int i) [.val (.frl (ns.map .int)), a, b, .none] = some [.val (.frl (ns.map .int)), .val (.int i), b, .none] := rfl
    have hR : inR rounds = true := inR_small (by omega) (by omega)
    have al := all_rep (intsD 0 rounds.toNat).length
    simp only [forGo, es, bnd_some]
    simp -implicitDefEqProofs at e2 ih al
    simp -implicitDefEqProofs [bnd_ap, ret_ap, hw, rng1 hR, no_den, noX_ap, e2, al]
    exact ih
theorem lap_rng (n : Nat) (hn : n ≤ 63) : fRng1 [.int (if (if (3 : Int) < n then 3 else (n : Int)) > 1 then (if (3 : Int) < n then 3 else (n : Int)) else 1)] = some (intsD 0 (max 1 (min n 3))) := by
  have : n = 0 ∨ n = 1 ∨ n = 2 ∨ 3 ≤ n := by omega
  rcases this with rfl | rfl | rfl | h
  · rfl
  · rfl
  · rfl
  · have e : (if (if (3 : Int) < n then 3 else (n : Int)) > 1 then (if (3 : Int) < n then 3 else (n : Int)) else 1) = 3 := by
      split <;> split <;> omega
    rw [e, show max 1 (min n 3) = 3 by omega]
    rfl
end Rf

set_option Elab.async false
set_option linter.all false
set_option maxRecDepth 100000
set_option maxHeartbeats 1000000
set_option warning.simp.otherHead false
namespace Rf
open PySem L2

/-! ## moves, plain -/
abbrev Stg := List (List Nat)
abbrev Mv := Nat × Nat
def lastN (p : List Nat) : Nat := p.getLast?.getD 0
def canOn (h : Int) (ru : List Nat) (b : Nat) (p : List Nat) : Bool := decide ((p.length : Int) < h) && (decide (ru = cFree) || (decide (p = []) || decide (b < lastN p)))
def canMv (h : Int) (ru : List Nat) (s : Stg) (mv : Mv) : Bool := if mv.1 = mv.2 ∨ s.getD mv.1 [] = [] then false else canOn h ru (lastN (s.getD mv.1 [])) (s.getD mv.2 [])
def pairsL (n : Nat) : List Mv := (List.range n).flatMap fun i => ((List.range n).filter fun j => decide (j ≠ i)).map fun j => (i, j)
def movesL (h : Int) (ru : List Nat) (s : Stg) : List Mv := (pairsL s.length).filter (canMv h ru s)
def behind (s : Stg) (mv : Mv) : Stg := (s.set mv.2 (s.getD mv.2 [] ++ [lastN (s.getD mv.1 [])])).set mv.1 (s.getD mv.1 []).dropLast
def stepsL (h : Int) (ru : List Nat) (s : Stg) : List (Mv × Stg) := (movesL h ru s).map fun m => (m, behind s m)
def mvD (m : Mv) : D := .tup [.int m.1, .int m.2]
def stepD (x : Mv × Stg) : D := .tup [mvD x.1, sD x.2]

theorem m_cNeg (a : BE) (F : FT) (r : En) : (cNeg a).den F r = bnd (a.den F r) fun x => opt (fNeg x) := rfl
theorem m_fDict0 (t : Bool) (F : FT) (r : En) : (fDict0 t).den F r = ret (.dct t [] []) := rfl
theorem m_fDict1 (k v : BE) (F : FT) (r : En) : (fDict1 k v).den F r = bnd (k.den F r) fun x => bnd (v.den F r) fun y => opt (fD1 x y) := rfl
theorem m_cDIx (d : BP) (k : BE) (F : FT) (r : En) : (cDIx d k).den F r = bnd (d.den F r) fun x => bnd (k.den F r) fun y => opt (fDIx x y) := rfl
theorem m_cDGet (d : BP) (k : BE) (F : FT) (r : En) : (cDGet d k).den F r = bnd (d.den F r) fun x => if isDct x then bnd (k.den F r) fun y => opt (fDGet x y) else fun _ => .bad := rfl
theorem m_cDIn (n : Bool) (k : BE) (d : BP) (F : FT) (r : En) : (cDIn n k d).den F r = bnd (k.den F r) fun y => bnd (d.den F r) fun x => opt (fDIn n y x) := rfl
theorem m_tInD (n : Bool) (k : BE) (d : BP) (F : FT) (r : En) : (tInD n k d).den F r = bnd (bnd (k.den F r) fun y => bnd (d.den F r) fun x => opt (fDIn n y x)) fun x => opt (toB x) := rfl
theorem m_sDPut (i : Nat) (k v : BE) (F : FT) (r : En) : (sDPut i k v).den F r = bnd (v.den F r) fun y => bnd (opt (ownD r i)) fun z => bnd (k.den F r) fun x => bnd (opt (if keyB z.1 x && decide (z.2.2.length < sizeLine) then some () else none)) fun _ =>
    ret (.nx (r.set i (.own (.dct z.1 (putD z.2.1 z.2.2 x y).1 (putD z.2.1 z.2.2 x y).2)))) := rfl
theorem m_sExt (i : Nat) (b : BE) (F : FT) (r : En) : (sExt i b).den F r = bnd (opt (ownL r i)) fun l => bnd (b.den F r) fun d => bnd (opt (match d with
    | .lst l' => if l.length + l'.length ≤ sizeLine then some l' else none
    | _ => none)) fun l' => ret (.nx (r.set i (.own (.lst (l ++ l'))))) := rfl
theorem m_sApp (i : Nat) (b : BE) (F : FT) (r : En) : (sApp i b).den F r = bnd (opt (ownL r i)) fun l => bnd (b.den F r) fun d => bnd (opt (if l.length < sizeLine then some () else none)) fun _ => ret (.nx (r.set i (.own (.lst (l ++ [d]))))) := rfl
theorem m_sPar3 (i j l : Nat) (a b c : BX) (F : FT) (r : En) : (sPar3 i j l a b c).den F r = bnd (a.den F r) fun x => bnd (b.den F r) fun y => bnd (c.den F r) fun z => ret (.nx (((r.set i (mkS a.o x)).set j (mkS b.o y)).set l (mkS c.o z))) := rfl
theorem m_sWhile (c : BT) (body : List BS) (F : FT) (r : En) : (sWhile c body).den F r = whGo (c.den F) (dBlk body F) fuel r := rfl
theorem m_cProp (i : Nat) (a : BE) (F : FT) (r : En) : (cProp i a).den F r = bnd (a.den F r) fun x => dProp i F x := rfl
theorem m_tIns (a : BE) (F : FT) (r : En) : (tIns a).den F r = bnd (a.den F r) fun x st => match clI st x with
    | some _ => .ok true st
    | none => .bad := rfl
theorem m_cIdx (a b : BE) (F : FT) (r : En) : (cIdx a b).den F r = bnd (a.den F r) fun x => if isStr x then bnd (b.den F r) fun y => opt (fIdxS x y) else fun _ => .bad := denM_def ..
theorem bi_listD : bListD.f = keepSt fListD := rfl
theorem bi_lenD : bLenD.f = keepSt fLenD := rfl
theorem bi_dictP : bDictP.f = keepSt fDictP := rfl
theorem bi_srtD : bSrtD.f = keepSt fSortedD := rfl
theorem bi_minL : bMinL.f = keepSt fMinL := rfl
theorem p_isN : pIsNot.f = fIsNot := rfl
@[simp] theorem z_m_cNeg : type_of% @m_cNeg := @m_cNeg
@[simp] theorem z_m_fDict0 : type_of% @m_fDict0 := @m_fDict0
@[simp] theorem z_m_fDict1 : type_of% @m_fDict1 := @m_fDict1
@[simp] theorem z_m_cDIx : type_of% @m_cDIx := @m_cDIx
@[simp] theorem z_m_cDGet : type_of% @m_cDGet := @m_cDGet
@[simp] theorem z_m_cDIn : type_of% @m_cDIn := @m_cDIn
@[simp] theorem z_m_tInD : type_of% @m_tInD := @m_tInD
@[simp] theorem z_m_sDPut : type_of% @m_sDPut := @m_sDPut
@[simp] theorem z_m_sExt : type_of% @m_sExt := @m_sExt
@[simp] theorem z_m_sApp : type_of% @m_sApp := @m_sApp
@[simp] theorem z_m_sPar3 : type_of% @m_sPar3 := @m_sPar3
@[simp] theorem z_m_sWhile : type_of% @m_sWhile := @m_sWhile
@[simp] theorem z_m_cProp : type_of% @m_cProp := @m_cProp
@[simp] theorem z_m_tIns : type_of% @m_tIns := @m_tIns
@[simp] theorem z_m_cIdx : type_of% @m_cIdx := @m_cIdx
@[simp] theorem z_bi_listD : type_of% @bi_listD := @bi_listD
@[simp] theorem z_bi_lenD : type_of% @bi_lenD := @bi_lenD
@[simp] theorem z_bi_dictP : type_of% @bi_dictP := @bi_dictP
@[simp] theorem z_bi_srtD : type_of% @bi_srtD := @bi_srtD
@[simp] theorem z_bi_minL : type_of% @bi_minL := @bi_minL
@[simp] theorem z_p_isN : type_of% @p_isN := @p_isN
@[simp] theorem fNeg_int (i : Int) : fNeg (.int i) = some (.int (-i)) := rfl
@[simp] theorem u_fIsNot : type_of% @fIsNot.eq_def := @fIsNot.eq_def
theorem at_last {α : Type} {l : List α} (h : l ≠ []) : atI l (-1) = some (l.getLast h) := by
  have hp : 0 < l.length := List.length_pos_iff.mpr h
  unfold atI ixN
  rw [if_neg (by omega), if_pos (by omega)]
  have : ((-1 : Int) + (l.length : Int)).toNat = l.length - 1 := by omega
  simp only [Option.bind_some]
  rw [this, List.getElem?_eq_getElem (by omega), List.getLast_eq_getElem]
theorem last_eq {p : List Nat} (h : p ≠ []) : lastN p = p.getLast h := by
  unfold lastN
  rw [List.getLast?_eq_some_getLast h]; rfl
theorem cut_init {p : List Nat} : cut p none (some (-1)) = p.dropLast := by
  unfold cut HT.sIx
  simp only [List.drop_zero, Nat.sub_zero]
  rw [if_pos (by omega), List.dropLast_eq_take]
  congr 1
  omega
theorem f_pairs (k : Nat) {n : Int} (h1 : 2 ≤ n) (h2 : n ≤ 4) : T (k + 1) 9 [.int n] = ret (.lst ((pairsL n.toNat).map mvD)) := by
  rw [T, ft_def (d := d_pairs_of) rfl rfl rfl]
  have : n = 2 ∨ n = 3 ∨ n = 4 := by omega
  rcases this with rfl | rfl | rfl <;> rfl
end Rf

set_option Elab.async false
set_option linter.all false
set_option maxRecDepth 100000
set_option maxHeartbeats 1000000
set_option warning.simp.otherHead false
namespace Rf
open PySem L2

theorem ix_nat {l : List D} {i : Nat} {d : D} (h : l[i]? = some d) : atI l (i : Int) = some d := by
  have hi := (List.getElem?_eq_some_iff.mp h).1
  rw [at_nat hi]
  rw [List.getElem?_eq_getElem hi] at h
  exact h
theorem s_at {s : Stg} {i : Nat} (h : i < s.length) : atI (s.map D.str) (i : Int) = some (.str (s.getD i [])) := by
  refine ix_nat ?_
  rw [List.getElem?_map, List.getElem?_eq_getElem h, List.getD_eq_getElem?_getD, List.getElem?_eq_getElem h]
  rfl
theorem lt1 (a b : Nat) : decide ([a] < [b]) = decide (a < b) := by
  by_cases h : a < b
  · rw [decide_eq_true h, decide_eq_true (List.cons_lt_cons_iff.mpr (.inl h))]
  · rw [decide_eq_false h, decide_eq_false fun z => ?_]
    rcases List.cons_lt_cons_iff.mp z with q | ⟨_, q⟩
    · exact h q
    · simp at q
theorem f_can_on (k : Nat) {m n h : Int} {ru : List Nat} (b : Nat) (p : List Nat) : T (k + 1) 6 [tabD m n h ru, .str [b], .str p] = ret (.bl (canOn h ru b p)) := by
  rw [T, ft_def (d := d_can_come_on) rfl rfl rfl]
  have ef : ([102, 114, 101, 101] : List Nat) = cFree := rfl
  unfold canOn
  by_cases h1 : (p.length : Int) < h
  · by_cases h2 : ru = cFree
    · simp -implicitDefEqProofs [d_can_come_on, b_can_come_on, h1, h2]
    · have h2' : (ru == cFree) = false := beq_eq_false_iff_ne.mpr h2
      by_cases h3 : p = []
      · subst h3
        have h1' : (0 : Int) < h := by simpa using h1
        simp -implicitDefEqProofs [d_can_come_on, b_can_come_on, h1', h2, h2']
      · have h3' : (p == []) = false := beq_eq_false_iff_ne.mpr h3
        have e := at_last h3
        have e2 := last_eq h3
        have e3 := lt1 b (p.getLast h3)
        simp -implicitDefEqProofs [d_can_come_on, b_can_come_on, h1, h2, h2', h3, h3', e, e2, e3]
  · simp -implicitDefEqProofs [d_can_come_on, b_can_come_on, h1]
theorem f_goes_on (k : Nat) {m n h : Int} {ru : List Nat} (b : Nat) (p : List Nat) : T (k + 1) 39 [pD m n h ru, .str p, .str [b]] = ret (.bl (canOn h ru b p)) := by
  rw [T, ft_def (d := d__law_goes_on) rfl rfl rfl]
  have ef : ([102, 114, 101, 101] : List Nat) = cFree := rfl
  obtain ⟨a0, a1, a2, a3⟩ := at4 (.int m) (.int n) (.int h) (.str ru)
  unfold canOn
  by_cases h1 : (p.length : Int) < h
  · by_cases h2 : ru = cFree
    · subst h2
      simp -implicitDefEqProofs [d__law_goes_on, b__law_goes_on, pD, a0, a1, a2, a3, ef, h1]
    · have h2' : (ru == cFree) = false := beq_eq_false_iff_ne.mpr h2
      by_cases h3 : p = []
      · subst h3
        have h1' : (0 : Int) < h := by simpa using h1
        simp -implicitDefEqProofs [d__law_goes_on, b__law_goes_on, pD, a0, a1, a2, a3, ef, h1', h2, h2']
      · have h3' : (p == []) = false := beq_eq_false_iff_ne.mpr h3
        have e := at_last h3
        have e2 := last_eq h3
        have e3 := lt1 b (p.getLast h3)
        simp -implicitDefEqProofs [d__law_goes_on, b__law_goes_on, pD, a0, a1, a2, a3, ef, h1, h2, h2', h3, h3', e, e2, e3]
  · simp -implicitDefEqProofs [d__law_goes_on, b__law_goes_on, pD, a0, a1, a2, a3, ef, h1]
theorem f_can_move (k : Nat) {m n h : Int} {ru : List Nat} {s : Stg} {mv : Mv} (h1 : mv.1 < s.length) (h2 : mv.2 < s.length) : T (k + 2) 7 [tabD m n h ru, sD s, mvD mv] = ret (.bl (canMv h ru s mv)) := by
  rw [T, ft_def (d := d_can_move) rfl rfl rfl]
  obtain ⟨i, j⟩ := mv
  have e1 := s_at h1
  have e2 := s_at h2
  have tg : ∀ r : En, r.length = 5 → (gTp [gNm 3, gNm 4]).set (.tup [.int i, .int j]) r = some ((r.set 3 (.val (.int i))).set 4 (.val (.int j))) := fun r hr => by
    match r, hr with
    | [a, b, c, d, e], _ => rfl
  have c0 := fun b p => f_can_on k (m := m) (n := n) (h := h) (ru := ru) b p
  unfold canMv
  simp only at e1 e2 ⊢
  generalize s.getD i [] = p at e1 ⊢
  generalize s.getD j [] = p2 at e2 ⊢
  by_cases h3 : i = j
  · subst h3
    simp -implicitDefEqProofs [d_can_move, b_can_move, mvD, sD, m_gx, tg]
  · have h3' : ((i : Int) == (j : Int)) = false := beq_eq_false_iff_ne.mpr (by omega)
    by_cases h4 : p = []
    · simp -implicitDefEqProofs [d_can_move, b_can_move, mvD, sD, tg, h3, h3', e1, e2, h4]
    · have h4' : (p == []) = false := beq_eq_false_iff_ne.mpr h4
      have e := at_last h4
      have e3 := last_eq h4
      simp -implicitDefEqProofs [d_can_move, b_can_move, mvD, sD, tg, h3, h3', e1, e2, h4, h4', e, e3, c0]
end Rf

set_option Elab.async false
set_option linter.all false
set_option maxRecDepth 100000
set_option maxHeartbeats 1000000
set_option warning.simp.otherHead false
namespace Rf
open PySem L2

theorem ixN_nat {n i : Nat} (h : i < n) : ixN n (i : Int) = some i := by
  unfold ixN
  rw [if_pos (by omega), if_pos (by omega)]
  rfl
theorem strs_set (s : Stg) (i : Nat) (p : List Nat) : (s.map D.str).set i (.str p) = (s.set i p).map D.str := by
  rw [List.map_set]
theorem f_moved (k : Nat) {s : Stg} {mv : Mv} (h1 : mv.1 < s.length) (h2 : mv.2 < s.length) (hne : mv.1 ≠ mv.2) (h3 : s.getD mv.1 [] ≠ []) (hz : ∀ p ∈ s, p.length ≤ 5) : T (k + 1) 8 [sD s, mvD mv] = ret (sD (behind s mv)) := by
  rw [T, ft_def (d := d_moved) rfl rfl rfl]
  obtain ⟨i, j⟩ := mv
  have e1 := s_at h1
  have e2 := s_at h2
  have tg : ∀ r : En, r.length = 5 → (gTp [gNm 3, gNm 4]).set (.tup [.int i, .int j]) r = some ((r.set 3 (.val (.int i))).set 4 (.val (.int j))) := fun r hr => by
    match r, hr with
    | [a, b, c, d, e], _ => rfl
  unfold behind
  simp only at e1 e2 h1 h2 h3 hne ⊢
  have z2 : (s.getD j []).length ≤ 5 := by
    rw [List.getD_eq_getElem?_getD, List.getElem?_eq_getElem h2]
    exact hz _ (List.getElem_mem h2)
  have e3 : atI ((s.set j (s.getD j [] ++ [lastN (s.getD i [])])).map D.str) (i : Int) = some (.str (s.getD i [])) := by
    rw [s_at (by simpa using h1)]
    simp [List.getD_eq_getElem?_getD, List.getElem?_set_ne (Ne.symm hne)]
  generalize hp : s.getD i [] = p at e1 h3 e3 ⊢
  generalize hp2 : s.getD j [] = p2 at e2 z2 e3 ⊢
  have e := at_last h3
  have e4 := last_eq h3
  have i1 : ixN s.length (i : Int) = some i := ixN_nat h1
  have i2 : ixN s.length (j : Int) = some j := ixN_nat h2
  have z3 : p2.length + 1 ≤ 16777216 := by omega
  rw [e4] at e3 ⊢
  rw [← strs_set] at e3
  simp -implicitDefEqProofs [d_moved, b_moved, mvD, sD, tg, e1, e2, e, m_gOwn, ownL, fList, i1, i2, z3, cut_init, fSl, e3]
theorem f_behind (k : Nat) {s : Stg} {mv : Mv} (h1 : mv.1 < s.length) (h2 : mv.2 < s.length) (hne : mv.1 ≠ mv.2) (h3 : s.getD mv.1 [] ≠ []) (hz : ∀ p ∈ s, p.length ≤ 5) : T (k + 1) 42 [sD s, mvD mv] = ret (sD (behind s mv)) := by
  rw [T, ft_def (d := d__law_behind) rfl rfl rfl]
  obtain ⟨i, j⟩ := mv
  have e1 := s_at h1
  have e2 := s_at h2
  have a0 : atI [D.int (i : Int), D.int (j : Int)] 0 = some (.int i) := rfl
  have a1 : atI [D.int (i : Int), D.int (j : Int)] 1 = some (.int j) := rfl
  unfold behind
  simp only at e1 e2 h1 h2 h3 hne ⊢
  have z2 : (s.getD j []).length ≤ 5 := by
    rw [List.getD_eq_getElem?_getD, List.getElem?_eq_getElem h2]
    exact hz _ (List.getElem_mem h2)
  generalize hp : s.getD i [] = p at e1 h3 ⊢
  generalize hp2 : s.getD j [] = p2 at e2 z2 ⊢
  have e := at_last h3
  have e4 := last_eq h3
  have i1 : ixN s.length (i : Int) = some i := ixN_nat h1
  have i2 : ixN s.length (j : Int) = some j := ixN_nat h2
  have z3 : p2.length + 1 ≤ 16777216 := by omega
  rw [e4]
  simp -implicitDefEqProofs [d__law_behind, b__law_behind, mvD, sD, e1, e2, e, m_gOwn, ownL, fList, i1, i2, z3, cut_init, fSl, a0, a1]
theorem pairs_mem {n : Nat} {mv : Mv} (h : mv ∈ pairsL n) : mv.1 < n ∧ mv.2 < n ∧ mv.1 ≠ mv.2 := by
  unfold pairsL at h
  simp only [List.mem_flatMap, List.mem_map, List.mem_filter, List.mem_range, decide_eq_true_eq] at h
  obtain ⟨i, h1, j, ⟨h2, h3⟩, rfl⟩ := h
  exact ⟨h1, h2, fun e => h3 e.symm⟩
theorem moves_mem {h : Int} {ru : List Nat} {s : Stg} {mv : Mv} (q : mv ∈ movesL h ru s) : mv.1 < s.length ∧ mv.2 < s.length ∧ mv.1 ≠ mv.2 ∧ s.getD mv.1 [] ≠ [] ∧ canOn h ru (lastN (s.getD mv.1 [])) (s.getD mv.2 []) = true := by
  unfold movesL at q
  rw [List.mem_filter] at q
  obtain ⟨q1, q2⟩ := q
  obtain ⟨g1, g2, g3⟩ := pairs_mem q1
  unfold canMv at q2
  split at q2
  · cases q2
  · rename_i hh
    simp only [not_or] at hh
    exact ⟨g1, g2, g3, hh.2, q2⟩
theorem pairs_len (n : Nat) : (pairsL n).length ≤ n * n := by
  unfold pairsL
  rw [List.length_flatMap]
  have : ∀ l : List Nat, (l.map fun i => (((List.range n).filter fun j => decide (j ≠ i)).map fun j => ((i, j) : Mv)).length).sum ≤ l.length * n := by
    intro l
    induction l with
    | nil => simp
    | cons a l ih =>
      simp only [List.map_cons, List.sum_cons, List.length_cons, List.length_map, Nat.succ_mul]
      have := List.length_filter_le (fun j => decide (j ≠ a)) (List.range n)
      rw [List.length_range] at this
      simp only [List.length_map] at ih
      omega
  simpa using this (List.range n)
theorem moves_len (h : Int) (ru : List Nat) {s : Stg} (hs : s.length ≤ 4) : (movesL h ru s).length ≤ 16 := by
  unfold movesL
  have h1 := List.length_filter_le (canMv h ru s) (pairsL s.length)
  have h2 := pairs_len s.length
  have : s.length * s.length ≤ 4 * 4 := Nat.mul_le_mul hs hs
  omega
def mvP (h : Int) (ru : List Nat) (s : Stg) : D → Bool
  | .tup [.int i, .int j] => canMv h ru s (i.toNat, j.toNat)
  | _ => false
theorem filter_map' {α β : Type} (f : α → β) (p : β → Bool) (q : α → Bool) (h : ∀ a, p (f a) = q a) : ∀ l : List α, (l.map f).filter p = (l.filter q).map f
  | [] => rfl
  | a :: l => by
    simp only [List.map_cons, List.filter_cons, h]
    split <;> simp [filter_map' f p q h l]
theorem f_moves (k : Nat) {m n h : Int} {ru : List Nat} {s : Stg} (hn : (s.length : Int) = n) (h2 : 2 ≤ n) (h4 : n ≤ 4) : T (k + 3) 10 [tabD m n h ru, sD s] = ret (.lst ((movesL h ru s).map mvD)) := by
  rw [T, ft_def (d := d_moves_of) rfl rfl rfl]
  have e1 := f_pairs (k + 1) h2 h4
  have en : n.toNat = s.length := by omega
  rw [en] at e1
  have pl := pairs_len s.length
  have p16 : s.length * s.length ≤ 4 * 4 := Nat.mul_le_mul (by omega) (by omega)
  simp -implicitDefEqProofs [d_moves_of, b_moves_of, e1, one_den]
  rw [comp_filter (mvP h ru s) id]
  · simp only [List.nil_append, List.map_id_fun, id]
    rw [filter_map' mvD (mvP h ru s) (canMv h ru s) fun a => by simp [mvP, mvD]]
    rfl
  · intro d hd
    obtain ⟨mv, hm, rfl⟩ := List.mem_map.mp hd
    obtain ⟨g1, g2, _⟩ := pairs_mem hm
    have e2 := f_can_move k (m := m) (n := n) (h := h) (ru := ru) g1 g2
    have e3 : mvP h ru s (mvD mv) = canMv h ru s mv := by simp [mvP, mvD]
    refine ⟨_, rfl, ?_, ?_⟩
    · rw [e3]
      simp -implicitDefEqProofs [e2]
    · rfl
  · simp; omega
theorem f_steps (k : Nat) {m n h : Int} {ru : List Nat} {s : Stg} (hn : (s.length : Int) = n) (h2 : 2 ≤ n) (h4 : n ≤ 4) (hz : ∀ p ∈ s, p.length ≤ 5) : T (k + 4) 11 [tabD m n h ru, sD s] = ret (.lst ((stepsL h ru s).map stepD)) := by
  rw [T, ft_def (d := d_steps_of) rfl rfl rfl]
  have e1 := f_moves k (m := m) (h := h) (ru := ru) hn h2 h4
  have ml := moves_len h ru (s := s) (by omega)
  simp -implicitDefEqProofs [d_steps_of, b_steps_of, e1, no_den]
  rw [comp_map (fun d => match d with
    | .tup [.int i, .int j] => stepD ((i.toNat, j.toNat), behind s (i.toNat, j.toNat))
    | d => d)]
  · simp only [List.nil_append, stepsL, List.map_map]
    congr 2
  · intro d hd
    obtain ⟨mv, hm, rfl⟩ := List.mem_map.mp hd
    obtain ⟨g1, g2, g3, g4, _⟩ := moves_mem hm
    have e2 := f_moved (k + 2) g1 g2 g3 g4 hz
    refine ⟨_, rfl, rfl, ?_⟩
    simp -implicitDefEqProofs [e2]
    rfl
  · simp; omega
end Rf

set_option Elab.async false
set_option linter.all false
set_option maxRecDepth 100000
set_option maxHeartbeats 1000000
set_option warning.simp.otherHead false
namespace Rf
open PySem L2

theorem ints_nat (n : Nat) : intsD 0 n = (List.range n).map fun i : Nat => D.int (i : Int) := by
  unfold intsD
  refine List.map_congr_left fun i _ => ?_
  simp
/-- a walk that adds to a list -/
theorem for_app {α σ : Type} {set : D → En → Option En} {body : MS} (E : σ → List D → En) (g : α → D) (f : α → List D) (N : Nat) : ∀ (l : List α) (x : σ) (acc : List D),
    (∀ d ∈ l, ∀ x acc, acc.length + N ≤ sizeLine → ∃ x', bnd (opt (set (g d) (E x acc))) body = ret (.nx (E x' (acc ++ f d)))) → (∀ d ∈ l, (f d).length ≤ N) → acc.length + l.length * N ≤ sizeLine →
    ∃ x', forGo set body (l.map g) (E x acc) = ret (.nx (E x' (acc ++ l.flatMap f)))
  | [], x, acc, _, _, _ => ⟨x, by simp [forGo]⟩
  | d :: l, x, acc, h, hf, hl => by
    have hd := hf d (List.mem_cons_self ..)
    rw [List.length_cons, Nat.succ_mul] at hl
    obtain ⟨x1, e1⟩ := h d (List.mem_cons_self ..) x acc (by omega)
    obtain ⟨x2, e2⟩ := for_app E g f N l x1 (acc ++ f d) (fun d hd => h d (List.mem_cons_of_mem _ hd)) (fun d hd => hf d (List.mem_cons_of_mem _ hd)) (by rw [List.length_append]; omega)
    refine ⟨x2, ?_⟩
    have e3 : forGo set body ((d :: l).map g) (E x acc) = bnd (bnd (opt (set (g d) (E x acc))) body) fun o => match o with
        | .nx r2 => forGo set body (l.map g) r2
        | .ct r2 => forGo set body (l.map g) r2
        | .bk r2 => ret (.nx r2)
        | .rt d => ret (.rt d) := by
      rw [bnd_assoc]; rfl
    rw [e3, e1, bnd_ret]
    simp only
    rw [e2]
    simp
def natP (q : Nat → Bool) : D → Bool
  | .int i => q i.toNat
  | _ => false
theorem comp_nat {set : D → En → Option En} {test : En → M Bool} {elt : En → M D} {r : En} (n : Nat) (q : Nat → Bool) (hn : n ≤ 1000) (h : ∀ i < n, ∃ r', set (.int (i : Int)) r = some r' ∧ test r' = ret (q i) ∧ elt r' = ret (.int (i : Int))) :
    compGo set test elt r (intsD 0 n) [] = ret (((List.range n).filter q).map fun i : Nat => D.int (i : Int)) := by
  rw [comp_filter (natP q) id]
  · rw [ints_nat, filter_map' (fun i : Nat => D.int (i : Int)) (natP q) q fun a => by simp [natP]]
    simp
  · intro d hd
    rw [ints_nat] at hd
    obtain ⟨i, hi, rfl⟩ := List.mem_map.mp hd
    obtain ⟨r', e1, e2, e3⟩ := h i (List.mem_range.mp hi)
    exact ⟨r', e1, by rw [e2]; simp [natP], e3⟩
  · simp [intsD]; omega
def outI (h : Int) (ru : List Nat) (s : Stg) (i : Nat) : List Mv := ((List.range s.length).filter fun j => decide (j ≠ i)).flatMap fun j => if canOn h ru (lastN (s.getD i [])) (s.getD j []) then [(i, j)] else []
theorem fm_filter {α β : Type} (p : α → Bool) (f : α → List β) : ∀ l : List α, (l.filter p).flatMap f = l.flatMap fun a => if p a then f a else []
  | [] => rfl
  | a :: l => by
    rw [List.filter_cons]
    split <;> simp_all [fm_filter p f l]
theorem fm_if {α β : Type} (p : α → Bool) (f : α → β) : ∀ l : List α, (l.flatMap fun a => if p a then [f a] else []) = (l.filter p).map f
  | [] => rfl
  | a :: l => by
    rw [List.flatMap_cons, List.filter_cons]
    split <;> simp_all [fm_if p f l]
theorem moves_out (h : Int) (ru : List Nat) (s : Stg) : movesL h ru s = ((List.range s.length).filter fun i => decide (s.getD i [] ≠ [])).flatMap (outI h ru s) := by
  unfold movesL pairsL
  rw [fm_filter, List.filter_flatMap]
  congr 1
  funext i
  unfold outI
  rw [fm_if, List.filter_map]
  by_cases hi : s.getD i [] = []
  · rw [if_neg (by rw [hi]; simp)]
    rw [List.filter_eq_nil_iff.mpr (fun j hj => ?_), List.map_nil]
    simp only [Function.comp, canMv]
    rw [if_pos (.inr hi)]
    simp
  · rw [if_pos (decide_eq_true hi)]
    congr 1
    refine List.filter_congr fun j hj => ?_
    have hj' := (List.mem_filter.mp hj).2
    simp only [decide_eq_true_eq] at hj'
    have : ¬ (i = j ∨ s.getD i [] = []) := by
      rintro (z | z)
      · exact hj' z.symm
      · exact hi z
    simp only [Function.comp, canMv]
    rw [if_neg this]
theorem fm_len {α β : Type} (f : α → List β) (N : Nat) : ∀ l : List α, (∀ a ∈ l, (f a).length ≤ N) → (l.flatMap f).length ≤ l.length * N
  | [], _ => by simp
  | a :: l, h => by
    rw [List.flatMap_cons, List.length_append, List.length_cons, Nat.succ_mul]
    have := h a (List.mem_cons_self ..)
    have := fm_len f N l fun a ha => h a (List.mem_cons_of_mem _ ha)
    omega
theorem out_len (h : Int) (ru : List Nat) (s : Stg) (i : Nat) (hs : s.length ≤ 4) : (outI h ru s i).length ≤ 4 := by
  unfold outI
  refine Nat.le_trans (fm_len _ 1 _ fun a _ => by split <;> simp) ?_
  have := List.length_filter_le (fun j => decide (j ≠ i)) (List.range s.length)
  rw [List.length_range] at this
  omega
theorem f_law_moves (k : Nat) {m n h : Int} {ru : List Nat} {s : Stg} (hn : (s.length : Int) = n) (h2 : 2 ≤ n) (h4 : n ≤ 4) : T (k + 2) 41 [pD m n h ru, sD s] = ret (.lst ((movesL h ru s).map mvD)) := by
  rw [T, ft_def (d := d__law_moves) rfl rfl rfl]
  have hR : inR n = true := inR_small (by omega) (by omega)
  have en : n.toNat = s.length := by omega
  obtain ⟨a0, a1, a2, a3⟩ := at4 (.int m) (.int n) (.int h) (.str ru)
  let E : Slt × Slt → List D → En := fun x acc => [.val (pD m n h ru), .val (sD s), .own (.lst acc), x.1, x.2, .none]
  have cond : ∀ (r : En), r = E (.none, .none) [] → compGo (gNm 5).set ((BC.one (tCmp pNe (cIx (cVar 1).p (cVar 5)) (cStr []))).den (T (k + 1))) ((cVar 5).den (T (k + 1))) (wipeE r [5]) (intsD 0 n.toNat) [] = ret (((List.range s.length).filter fun i => decide (s.getD i [] ≠ [])).map fun i : Nat => D.int (i : Int)) := by
    rintro r rfl
    rw [en, comp_nat s.length (fun i => decide (s.getD i [] ≠ [])) (by omega)]
    intro i hi
    have e := s_at hi
    refine ⟨_, rfl, ?_, rfl⟩
    generalize s.getD i [] = p at e ⊢
    by_cases hp : p = []
    · simp -implicitDefEqProofs [E, sD, e, hp, one_den]
    · have hp' : (p == []) = false := beq_eq_false_iff_ne.mpr hp
      simp -implicitDefEqProofs [E, sD, e, hp, hp', one_den]
  have inner : ∀ i : Nat, i < s.length → s.getD i [] ≠ [] → ∀ (y : Slt) (acc : List D), acc.length + 4 ≤ sizeLine → ∃ y', dBlk [(sFor (iSeq (fComp (iRng1 (cIx (cVar 0).p (cInt 1))) [5] (gNm 5) (.one (tCmp pNe (cVar 5) (cVar 3))) (cVar 5)).e) (gNm 4) [(sIf (tVal (cCall 39 [(cVar 0), (cIx (cVar 1).p (cVar 4)), (cIx (cIx (cVar 1).p (cVar 3)).p (cNeg (cInt 1)))])) [(sApp 2 (cTup [(cVar 3), (cVar 4)]))] [])])] (T (k + 1)) (E (.val (.int i), y) acc) = ret (.nx (E (.val (.int i), y') (acc ++ (outI h ru s i).map mvD))) := by
    intro i hi hp y acc hacc
    have e1 := s_at hi
    have e2 := at_last hp
    have e3 := last_eq hp
    have cc : compGo (gNm 5).set ((BC.one (tCmp pNe (cVar 5) (cVar 3))).den (T (k + 1))) ((cVar 5).den (T (k + 1))) (wipeE (E (.val (.int i), y) acc) [5]) (intsD 0 n.toNat) [] = ret (((List.range s.length).filter fun j => decide (j ≠ i)).map fun i : Nat => D.int (i : Int)) := by
      rw [en, comp_nat s.length (fun j => decide (j ≠ i)) (by omega)]
      intro j hj
      refine ⟨_, rfl, ?_, rfl⟩
      have : (!((j : Int) == (i : Int))) = decide (j ≠ i) := by
        by_cases q : j = i
        · simp [q]
        · have : ((j : Int) == (i : Int)) = false := beq_eq_false_iff_ne.mpr (by omega)
          rw [this, decide_eq_true q]; rfl
      simp -implicitDefEqProofs [E, one_den, this]
      try simpa using this
    obtain ⟨y', lp⟩ := for_app (set := (gNm 4).set) (body := dBlk [(sIf (tVal (cCall 39 [(cVar 0), (cIx (cVar 1).p (cVar 4)), (cIx (cIx (cVar 1).p (cVar 3)).p (cNeg (cInt 1)))])) [(sApp 2 (cTup [(cVar 3), (cVar 4)]))] [])] (T (k + 1))) (fun (y : Slt) acc => E (.val (.int i), y) acc) (fun j : Nat => D.int (j : Int)) (fun j => if canOn h ru (lastN (s.getD i [])) (s.getD j []) then [mvD (i, j)] else []) 1 ((List.range s.length).filter fun j => decide (j ≠ i)) y acc (by
      intro j hj y acc hac
      rw [sizeLine_eq] at hac
      have hj' := List.mem_range.mp (List.mem_filter.mp hj).1
      have g1 := s_at hj'
      have g2 := f_goes_on k (m := m) (n := n) (h := h) (ru := ru) (lastN (s.getD i [])) (s.getD j [])
      refine ⟨.val (.int j), ?_⟩
      have es : (gNm 4).set (.int (j : Int)) (E (.val (.int i), y) acc) = some (E (.val (.int i), .val (.int j)) acc) := rfl
      rw [e3] at g2 ⊢
      rw [es, bnd_some]
      generalize s.getD i [] = p at *
      generalize s.getD j [] = p2 at *
      cases hc : canOn h ru (p.getLast hp) p2 with
      | true =>
        rw [hc] at g2
        simp -implicitDefEqProofs [E, sD, e1, e2, g1, g2, mvD, ownL, show acc.length < 16777216 by omega]
      | false =>
        rw [hc] at g2
        simp -implicitDefEqProofs [E, sD, e1, e2, g1, g2, mvD]) (fun j _ => by split <;> simp) (by
      have := List.length_filter_le (fun j => decide (j ≠ i)) (List.range s.length)
      rw [List.length_range] at this
      omega)
    refine ⟨y', ?_⟩
    have ex : (((List.range s.length).filter fun j => decide (j ≠ i)).flatMap fun j => if canOn h ru (lastN (s.getD i [])) (s.getD j []) then [mvD (i, j)] else []) = (outI h ru s i).map mvD := by
      unfold outI
      rw [List.map_flatMap]
      congr 1
      funext j
      split <;> rfl
    rw [ex] at lp
    simp -implicitDefEqProofs [E, pD, sD] at cc lp ⊢
    simp -implicitDefEqProofs [a1, rng1 hR, cc, lp]
  obtain ⟨x', lp⟩ := for_app (set := (gNm 3).set) (body := dBlk [(sFor (iSeq (fComp (iRng1 (cIx (cVar 0).p (cInt 1))) [5] (gNm 5) (.one (tCmp pNe (cVar 5) (cVar 3))) (cVar 5)).e) (gNm 4) [(sIf (tVal (cCall 39 [(cVar 0), (cIx (cVar 1).p (cVar 4)), (cIx (cIx (cVar 1).p (cVar 3)).p (cNeg (cInt 1)))])) [(sApp 2 (cTup [(cVar 3), (cVar 4)]))] [])])] (T (k + 1))) E (fun i : Nat => D.int (i : Int)) (fun i => (outI h ru s i).map mvD) 4 ((List.range s.length).filter fun i => decide (s.getD i [] ≠ [])) (.none, .none) [] (by
      intro i hi x acc hac
      obtain ⟨h1, h2⟩ := List.mem_filter.mp hi
      obtain ⟨y', e⟩ := inner i (List.mem_range.mp h1) (by simpa using h2) x.2 acc hac
      exact ⟨(.val (.int i), y'), e⟩) (fun i _ => by rw [List.length_map]; exact out_len h ru s i (by omega)) (by
      have := List.length_filter_le (fun i => decide (s.getD i [] ≠ [])) (List.range s.length)
      rw [List.length_range] at this
      rw [sizeLine_eq, List.length_nil]
      omega)
  have ex : (((List.range s.length).filter fun i => decide (s.getD i [] ≠ [])).flatMap fun i => (outI h ru s i).map mvD) = (movesL h ru s).map mvD := by
    rw [moves_out, List.map_flatMap]
  rw [ex] at lp
  have cd := cond _ rfl
  simp -implicitDefEqProofs [E, pD, sD] at cd lp
  simp -implicitDefEqProofs [d__law_moves, b__law_moves, pD, sD, a1, rng1 hR, cd, lp, frzE]
theorem f_law_steps (k : Nat) {m n h : Int} {ru : List Nat} {s : Stg} (hn : (s.length : Int) = n) (h2 : 2 ≤ n) (h4 : n ≤ 4) (hz : ∀ p ∈ s, p.length ≤ 5) : T (k + 3) 44 [pD m n h ru, sD s] = ret (.lst ((stepsL h ru s).map stepD)) := by
  rw [T, ft_def (d := d__law_steps) rfl rfl rfl]
  have e1 := f_law_moves k (m := m) (h := h) (ru := ru) hn h2 h4
  have ml := moves_len h ru (s := s) (by omega)
  simp -implicitDefEqProofs [d__law_steps, b__law_steps, e1, no_den]
  rw [comp_map (fun d => match d with
    | .tup [.int i, .int j] => stepD ((i.toNat, j.toNat), behind s (i.toNat, j.toNat))
    | d => d)]
  · simp only [List.nil_append, stepsL, List.map_map]
    congr 2
  · intro d hd
    obtain ⟨mv, hm, rfl⟩ := List.mem_map.mp hd
    obtain ⟨g1, g2, g3, g4, _⟩ := moves_mem hm
    have e2 := f_behind (k + 1) g1 g2 g3 g4 hz
    refine ⟨_, rfl, rfl, ?_⟩
    simp -implicitDefEqProofs [e2]
    rfl
  · simp; omega
end Rf

set_option Elab.async false
set_option linter.all false
set_option maxRecDepth 100000
set_option maxHeartbeats 1000000
set_option warning.simp.otherHead false
namespace Rf
open PySem L2

/-! ## searches, by what they keep -/
structure InvB (Good : Stg → Prop) (V : Nat → D → Prop) (ks : List Stg) (vs : List D) : Prop where
  nd : ks.Nodup
  good : ∀ s ∈ ks, Good s
  len : vs.length = ks.length
  val : ∀ v ∈ vs, V ks.length v
section
variable {Good : Stg → Prop} {V : Nat → D → Prop} (mono : ∀ n v, V n v → V (n + 1) v)
include mono
theorem InvB.add {ks : List Stg} {vs : List D} (J : InvB Good V ks vs) {s : Stg} {v : D} (hs : s ∉ ks) (g : Good s) (hv : V (ks.length + 1) v) : InvB Good V (ks ++ [s]) (vs ++ [v]) := by
  refine ⟨?_, ?_, ?_, ?_⟩
  · rw [List.nodup_append]
    exact ⟨J.nd, by simp, fun a ha b hb => by simp at hb; rintro rfl; exact hs (hb ▸ ha)⟩
  · intro x hx
    rcases List.mem_append.mp hx with h | h
    · exact J.good x h
    · simp at h; exact h ▸ g
  · simp [J.len]
  · intro x hx
    rw [List.length_append]
    rcases List.mem_append.mp hx with h | h
    · exact mono _ _ (J.val x h)
    · simp at h; exact h ▸ hv
theorem bfs_in {set : D → En → Option En} {body : Nat → MS} (E : Slt × Slt → List Stg → List D → List Stg → En) (here : Stg)
    (hset : ∀ (a : Mv × Stg) x ks vs lt, set (stepD a) (E x ks vs lt) = some (E (.val (mvD a.1), .val (sD a.2)) ks vs lt))
    (hold : ∀ k (a : Mv × Stg) ks vs lt, InvB Good V ks vs → a.2 ∈ ks → body k (E (.val (mvD a.1), .val (sD a.2)) ks vs lt) = ret (.nx (E (.val (mvD a.1), .val (sD a.2)) ks vs lt)))
    (hnew : ∀ (a : Mv × Stg) ks vs lt, InvB Good V ks vs → here ∈ ks → a.2 ∉ ks → lt.length ≤ ks.length → ∃ v, V (ks.length + 1) v ∧ ∀ k, body k (E (.val (mvD a.1), .val (sD a.2)) ks vs lt) = ret (.nx (E (.val (mvD a.1), .val (sD a.2)) (ks ++ [a.2]) (vs ++ [v]) (lt ++ [a.2])))) :
    ∀ (l : List (Mv × Stg)), (∀ a ∈ l, Good a.2) → ∀ x ks vs lt, InvB Good V ks vs → here ∈ ks → lt.length ≤ ks.length → ∃ x' new nv, (∀ k, forGo set (body k) (l.map stepD) (E x ks vs lt) = ret (.nx (E x' (ks ++ new) (vs ++ nv) (lt ++ new)))) ∧ InvB Good V (ks ++ new) (vs ++ nv)
  | [], _, x, ks, vs, lt, J, _, _ => ⟨x, [], [], fun k => by simp [forGo], by simpa using J⟩
  | a :: l, hg, x, ks, vs, lt, J, hh, hl => by
    simp only [List.map_cons, forGo, hset, bnd_some]
    by_cases ha : a.2 ∈ ks
    · obtain ⟨x', new, nv, e2, J2⟩ := bfs_in E here hset hold hnew l (fun a h => hg a (List.mem_cons_of_mem _ h)) (.val (mvD a.1), .val (sD a.2)) ks vs lt J hh hl
      refine ⟨x', new, nv, fun k => ?_, J2⟩
      rw [hold k a ks vs lt J ha, bnd_ret]
      exact e2 k
    · obtain ⟨v, hv, e⟩ := hnew a ks vs lt J hh ha hl
      obtain ⟨x', new, nv, e2, J2⟩ := bfs_in E here hset hold hnew l (fun a h => hg a (List.mem_cons_of_mem _ h)) (.val (mvD a.1), .val (sD a.2)) (ks ++ [a.2]) (vs ++ [v]) (lt ++ [a.2]) (J.add mono ha (hg a (List.mem_cons_self ..)) hv) (List.mem_append_left _ hh) (by simp; omega)
      refine ⟨x', a.2 :: new, v :: nv, fun k => ?_, by simpa using J2⟩
      rw [e k, bnd_ret]
      simp only
      rw [e2 k]
      simp
omit mono in
theorem bfs_out {set : D → En → Option En} {body : Nat → MS} {σ : Type} (E : σ → List Stg → List D → List Stg → En)
    (hone : ∀ here x ks vs lt, InvB Good V ks vs → here ∈ ks → lt.length ≤ ks.length → ∃ x' new nv, (∀ k, bnd (opt (set (sD here) (E x ks vs lt))) (body k) = ret (.nx (E x' (ks ++ new) (vs ++ nv) (lt ++ new)))) ∧ InvB Good V (ks ++ new) (vs ++ nv)) :
    ∀ (wt : List Stg) x ks vs lt, InvB Good V ks vs → (∀ s ∈ wt, s ∈ ks) → lt.length ≤ ks.length → ∃ x' new nv, (∀ k, forGo set (body k) (wt.map sD) (E x ks vs lt) = ret (.nx (E x' (ks ++ new) (vs ++ nv) (lt ++ new)))) ∧ InvB Good V (ks ++ new) (vs ++ nv)
  | [], x, ks, vs, lt, J, _, _ => ⟨x, [], [], fun k => by simp [forGo], by simpa using J⟩
  | here :: wt, x, ks, vs, lt, J, hw, hl => by
    obtain ⟨x1, new, nv, e, J1⟩ := hone here x ks vs lt J (hw _ (List.mem_cons_self ..)) hl
    obtain ⟨x2, new2, nv2, e2, J2⟩ := bfs_out E hone wt x1 (ks ++ new) (vs ++ nv) (lt ++ new) J1 (fun s hs => List.mem_append_left _ (hw s (List.mem_cons_of_mem _ hs))) (by simp; omega)
    refine ⟨x2, new ++ new2, nv ++ nv2, fun k => ?_, by simpa using J2⟩
    have e3 : forGo set (body k) ((here :: wt).map sD) (E x ks vs lt) = bnd (bnd (opt (set (sD here) (E x ks vs lt))) (body k)) fun o => match o with
        | .nx r2 => forGo set (body k) (wt.map sD) r2
        | .ct r2 => forGo set (body k) (wt.map sD) r2
        | .bk r2 => ret (.nx r2)
        | .rt d => ret (.rt d) := by
      rw [bnd_assoc]; rfl
    rw [e3, e k, bnd_ret]
    simp only
    rw [e2 k]
    simp
omit mono in
theorem bfs_wh {test : Nat → En → M Bool} {body : Nat → MS} {σ : Type} (W : List Stg → σ → List Stg → List D → En) (B : Nat) (hB : ∀ ks vs, InvB Good V ks vs → ks.length ≤ B)
    (htest : ∀ k wt o ks vs, test k (W wt o ks vs) = ret (decide (wt ≠ [])))
    (hround : ∀ wt o ks vs, InvB Good V ks vs → (∀ s ∈ wt, s ∈ ks) → ∃ new o' nv, (∀ k, body k (W wt o ks vs) = ret (.nx (W new o' (ks ++ new) (vs ++ nv)))) ∧ InvB Good V (ks ++ new) (vs ++ nv)) :
    ∀ (n : Nat) wt o ks vs, InvB Good V ks vs → (∀ s ∈ wt, s ∈ ks) → (wt = [] ∧ 1 ≤ n ∨ B + 2 ≤ n + ks.length) → ∃ o' new nv, (∀ k, whGo (test k) (body k) n (W wt o ks vs) = ret (.nx (W [] o' (ks ++ new) (vs ++ nv)))) ∧ InvB Good V (ks ++ new) (vs ++ nv)
  | 0, wt, o, ks, vs, J, _, h => by
    have := hB ks vs J
    omega
  | n + 1, wt, o, ks, vs, J, hw, h => by
    have hb := hB ks vs J
    unfold whGo
    simp only [htest, bnd_ret]
    by_cases he : wt = []
    · subst he
      exact ⟨o, [], [], fun k => by simp, by simpa using J⟩
    · obtain ⟨new, o1, nv, e, J1⟩ := hround wt o ks vs J hw
      obtain ⟨o2, new2, nv2, e2, J2⟩ := bfs_wh W B hB htest hround n new o1 (ks ++ new) (vs ++ nv) J1 (fun s hs => List.mem_append_right _ hs) (by
        rcases h with ⟨h, _⟩ | h
        · exact absurd h he
        · cases new with
          | nil => exact .inl ⟨rfl, by omega⟩
          | cons a r => right; simp; omega)
      refine ⟨o2, new ++ new2, nv ++ nv2, fun k => ?_, by simpa using J2⟩
      rw [if_pos (by simpa using he), e k, bnd_ret]
      simp only
      rw [e2 k]
      simp
end

/-! ## few piles -/
theorem nodup_lt : ∀ (B : Nat) (l : List Nat), l.Nodup → (∀ x ∈ l, x < B) → l.length ≤ B
  | 0, l, _, h => by
    cases l with
    | nil => simp
    | cons a r => exact absurd (h a (List.mem_cons_self ..)) (by omega)
  | B + 1, l, nd, h => by
    have ih := nodup_lt B (l.erase B) (nd.erase B) fun x hx => by
      have h1 := (nd.mem_erase_iff).mp hx
      have h2 := h x h1.2
      have := h1.1
      omega
    rw [List.length_erase] at ih
    split at ih <;> omega
/-- digits 1..6, read as a number -/
def num6 : List Nat → Nat
  | [] => 0
  | d :: r => d + 6 * num6 r
def dig6 (l : List Nat) : Prop := ∀ d ∈ l, 1 ≤ d ∧ d ≤ 6
theorem num6_inj : ∀ {a b : List Nat}, dig6 a → dig6 b → num6 a = num6 b → a = b
  | [], [], _, _, _ => rfl
  | [], y :: b, _, hb, h => by
    have := hb y (List.mem_cons_self ..)
    simp only [num6] at h
    omega
  | x :: a, [], ha, _, h => by
    have := ha x (List.mem_cons_self ..)
    simp only [num6] at h
    omega
  | x :: a, y :: b, ha, hb, h => by
    have h1 := ha x (List.mem_cons_self ..)
    have h2 := hb y (List.mem_cons_self ..)
    simp only [num6] at h
    have e : x = y := by omega
    subst e
    rw [num6_inj (fun d hd => ha d (List.mem_cons_of_mem _ hd)) (fun d hd => hb d (List.mem_cons_of_mem _ hd)) (by omega)]
theorem num6_lt : ∀ {a : List Nat} (k : Nat), dig6 a → a.length ≤ k → 5 * num6 a ≤ 6 * (6 ^ k - 1)
  | [], k, _, _ => by simp [num6]
  | x :: a, 0, _, h => by simp at h
  | x :: a, k + 1, ha, h => by
    have h1 := ha x (List.mem_cons_self ..)
    have ih := num6_lt k (fun d hd => ha d (List.mem_cons_of_mem _ hd)) (by simpa using h)
    simp only [num6]
    have hp : 1 ≤ 6 ^ k := Nat.one_le_pow _ _ (by omega)
    rw [Nat.pow_succ]
    omega
/-- what is asked of piles, some blocks being out -/
structure G0 (n : Int) (s : Stg) : Prop where
  len : (s.length : Int) = n
  few : s.flatten.length ≤ 5
  low : ∀ p ∈ s, lowB p
def digs : Stg → List Nat
  | [] => []
  | p :: r => (p.map fun c => c - 96) ++ 6 :: digs r
theorem digs_dig : ∀ {s : Stg}, (∀ p ∈ s, lowB p) → dig6 (digs s)
  | [], _ => fun d hd => by simp [digs] at hd
  | p :: r, h => fun d hd => by
    simp only [digs, List.mem_append, List.mem_map, List.mem_cons] at hd
    rcases hd with ⟨c, hc, rfl⟩ | rfl | hd
    · have := h p (List.mem_cons_self ..) c hc
      omega
    · omega
    · exact digs_dig (fun q hq => h q (List.mem_cons_of_mem _ hq)) d hd
theorem digs_len : ∀ s : Stg, (digs s).length = s.flatten.length + s.length
  | [] => rfl
  | p :: r => by
    have := digs_len r
    simp [digs] at this ⊢
    omega
theorem cut6 : ∀ {p q a b : List Nat}, lowB p → lowB q → (p.map fun c => c - 96) ++ 6 :: a = (q.map fun c => c - 96) ++ 6 :: b → p = q ∧ a = b
  | [], [], a, b, _, _, h => by simp at h; exact ⟨rfl, h⟩
  | [], y :: q, a, b, _, hq, h => by
    have := hq y (List.mem_cons_self ..)
    simp at h
    omega
  | x :: p, [], a, b, hp, _, h => by
    have := hp x (List.mem_cons_self ..)
    simp at h
    omega
  | x :: p, y :: q, a, b, hp, hq, h => by
    have h1 := hp x (List.mem_cons_self ..)
    have h2 := hq y (List.mem_cons_self ..)
    simp only [List.map_cons, List.cons_append, List.cons.injEq] at h
    obtain ⟨e1, e2⟩ := cut6 (fun c hc => hp c (List.mem_cons_of_mem _ hc)) (fun c hc => hq c (List.mem_cons_of_mem _ hc)) h.2
    exact ⟨by rw [e1, show x = y by omega], e2⟩
theorem digs_inj : ∀ {s t : Stg}, (∀ p ∈ s, lowB p) → (∀ p ∈ t, lowB p) → digs s = digs t → s = t
  | [], [], _, _, _ => rfl
  | [], q :: t, _, _, h => by simp [digs] at h
  | p :: s, [], _, _, h => by simp [digs] at h
  | p :: s, q :: t, hs, ht, h => by
    obtain ⟨e1, e2⟩ := cut6 (hs p (List.mem_cons_self ..)) (ht q (List.mem_cons_self ..)) h
    rw [e1, digs_inj (fun q hq => hs q (List.mem_cons_of_mem _ hq)) (fun q hq => ht q (List.mem_cons_of_mem _ hq)) e2]
theorem few_keys {n : Int} (hn : n ≤ 4) {ks : List Stg} (nd : ks.Nodup) (h : ∀ s ∈ ks, G0 n s) : ks.length ≤ 12093235 := by
  have h1 := nodup_lt 12093235 (ks.map fun s => num6 (digs s)) (by
    rw [List.nodup_iff_pairwise_ne, List.pairwise_map]
    refine List.Pairwise.imp_of_mem ?_ nd
    intro a b ha hb hne e
    have ga := (h a ha).low
    have gb := (h b hb).low
    exact hne (digs_inj ga gb (num6_inj (digs_dig ga) (digs_dig gb) e))) (by
    intro x hx
    obtain ⟨s, hs, rfl⟩ := List.mem_map.mp hx
    have g := h s hs
    have hl := g.len
    have hf := g.few
    have := num6_lt 9 (digs_dig g.low) (by rw [digs_len]; omega)
    omega)
  simpa using h1

/-! ## keys -/
theorem sD_deq (a b : Stg) : deq (sD a) (sD b) = decide (a = b) := by
  unfold sD
  simp only [deq, deqs_str]
  by_cases h : a = b <;> simp [h]
theorem fnd_keys (k : Stg) (ks : List Stg) : fndK (sD k) (ks.map sD) = ks.findIdx? fun x => decide (x = k) := by
  unfold fndK
  induction ks with
  | nil => rfl
  | cons a r ih =>
    simp only [List.map_cons, List.findIdx?_cons, sD_deq, ih]
theorem fnd_none {k : Stg} {ks : List Stg} (h : k ∉ ks) : fndK (sD k) (ks.map sD) = none := by
  rw [fnd_keys, List.findIdx?_eq_none_iff]
  intro x hx
  exact decide_eq_false fun e => h (e ▸ hx)
theorem fnd_some {k : Stg} {ks : List Stg} (h : k ∈ ks) : ∃ i, i < ks.length ∧ fndK (sD k) (ks.map sD) = some i := by
  rw [fnd_keys]
  cases e : ks.findIdx? fun x => decide (x = k) with
  | none =>
    rw [List.findIdx?_eq_none_iff] at e
    exact absurd (e k h) (by simp)
  | some i => exact ⟨i, (List.findIdx?_eq_some_iff_getElem.mp e).1, rfl⟩
theorem key_sD (s : Stg) : keyB true (sD s) = true := by
  unfold sD keyB
  simp [List.all_eq_true, isK]
theorem val_out {k : Stg} {ks : List Stg} {vs : List D} (h : k ∉ ks) : valD (ks.map sD) vs (sD k) = none := by
  unfold valD
  rw [fnd_none h]; rfl
theorem val_in {k : Stg} {ks : List Stg} {vs : List D} (hl : vs.length = ks.length) (h : k ∈ ks) : ∃ v ∈ vs, valD (ks.map sD) vs (sD k) = some v := by
  obtain ⟨i, hi, e⟩ := fnd_some h
  refine ⟨vs[i], List.getElem_mem (by omega), ?_⟩
  unfold valD
  rw [e]
  simp [hl, hi]
theorem put_out {k : Stg} {ks : List Stg} {vs : List D} (v : D) (h : k ∉ ks) : putD (ks.map sD) vs (sD k) v = ((ks ++ [k]).map sD, vs ++ [v]) := by
  unfold putD
  rw [fnd_none h]
  simp
theorem datas_s : ∀ l : List Stg, isDatas (l.map sD) = true ∧ deps (l.map sD) ≤ 1
  | [] => by simp [isDatas, deps]
  | x :: l => by
    obtain ⟨h1, h2⟩ := datas_s l
    obtain ⟨g1, g2⟩ := datas_str x
    simp [isDatas, deps, isData, dep, sD, h1, g1, g2]
    omega
theorem ne_wt (wt : List Stg) : fNe (.lst (wt.map sD)) (.lst []) = some (.bl (decide (wt ≠ []))) := by
  obtain ⟨h1, h2⟩ := datas_s wt
  have k1 : okE (.lst (wt.map sD)) = true := by
    simp [okE, isData, dep, h1]
    omega
  have k2 : okE (.lst []) = true := by decide
  unfold fNe
  rw [k1, k2]
  cases wt with
  | nil => simp [deq, deqs]
  | cons a r => simp [deq, deqs]
end Rf

set_option Elab.async false
set_option linter.all false
set_option maxRecDepth 100000
set_option maxHeartbeats 1000000
set_option warning.simp.otherHead false
namespace Rf
open PySem L2

/-! ## what moves keep -/
theorem getD_at {s : Stg} {i : Nat} (h : i < s.length) : s.getD i [] = s[i] := by
  rw [List.getD_eq_getElem?_getD, List.getElem?_eq_getElem h]; rfl
theorem flat_drop {ps : Stg} {i : Nat} (hi : i < ps.length) (hne : ps[i] ≠ []) : (ps[i].getLast hne :: (ps.set i ps[i].dropLast).flatten).Perm ps.flatten := by
  have h := flat_set (ps.set i ps[i].dropLast) i (by simpa using hi) (ps[i].getLast hne)
  rw [List.getElem_set_self, List.dropLast_concat_getLast, List.set_set, List.set_getElem_self] at h
  exact h.symm
theorem behind_perm {s : Stg} {mv : Mv} (h1 : mv.1 < s.length) (h2 : mv.2 < s.length) (hne : mv.1 ≠ mv.2) (h3 : s.getD mv.1 [] ≠ []) : (behind s mv).flatten.Perm s.flatten := by
  unfold behind
  obtain ⟨i, j⟩ := mv
  simp only at *
  rw [getD_at h1] at h3
  have e := last_eq h3
  have e1 := flat_set s j h2 (lastN s[i])
  have hi : i < (s.set j (s[j] ++ [lastN s[i]])).length := by simpa using h1
  have e2 : (s.set j (s[j] ++ [lastN s[i]]))[i] = s[i] := List.getElem_set_ne (Ne.symm hne) _
  have e3 := flat_drop hi (by rw [e2]; exact h3)
  rw [getD_at h1, getD_at h2]
  simp only [e2] at e3
  rw [← e] at e3
  exact (e3.trans e1).cons_inv
theorem behind_len (s : Stg) (mv : Mv) : (behind s mv).length = s.length := by simp [behind]
theorem mem_behind {s : Stg} {mv : Mv} (h1 : mv.1 < s.length) (h2 : mv.2 < s.length) {p : List Nat} (h : p ∈ behind s mv) : p ∈ s ∨ p = (s.getD mv.1 []).dropLast ∨ p = s.getD mv.2 [] ++ [lastN (s.getD mv.1 [])] := by
  unfold behind at h
  rcases List.mem_or_eq_of_mem_set h with z | z
  · rcases List.mem_or_eq_of_mem_set z with y | y
    · exact .inl y
    · exact .inr (.inr y)
  · exact .inr (.inl z)
theorem mem_getD {s : Stg} {i : Nat} (h : i < s.length) : s.getD i [] ∈ s := by
  rw [getD_at h]; exact List.getElem_mem h
theorem fall_add {p : List Nat} {c : Nat} (h : fall p) (q : p = [] ∨ c < lastN p) : fall (p ++ [c]) := by
  rcases q with rfl | q
  · simp [fall]
  · unfold fall at *
    rw [List.pairwise_append]
    refine ⟨h, by simp, fun a ha b hb => ?_⟩
    simp at hb
    subst hb
    have hne : p ≠ [] := List.ne_nil_of_mem ha
    rw [last_eq hne] at q
    rw [← List.dropLast_concat_getLast hne, List.pairwise_append] at h
    rw [← List.dropLast_concat_getLast hne] at ha
    rcases List.mem_append.mp ha with z | z
    · have := h.2.2 a z _ (List.mem_singleton.mpr rfl)
      omega
    · simp at z
      omega
theorem OkS.behind {m n h : Int} {ru : List Nat} {s : Stg} (q : OkS m n h ru s) {mv : Mv} (hm : mv ∈ movesL h ru s) : OkS m n h ru (behind s mv) := by
  obtain ⟨g1, g2, g3, g4, g5⟩ := moves_mem hm
  unfold canOn at g5
  simp only [Bool.and_eq_true, Bool.or_eq_true, decide_eq_true_eq] at g5
  refine ⟨by rw [behind_len]; exact q.len, (behind_perm g1 g2 g3 g4).trans q.perm, fun p hp => ?_, ?_⟩
  · rcases mem_behind g1 g2 hp with z | z | z
    · exact q.high p z
    · have := q.high _ (mem_getD g1)
      rw [z, List.length_dropLast]; omega
    · have := g5.1
      rw [z, List.length_append, List.length_singleton]; omega
  · rcases q.ru with z | z
    · exact .inl z
    · rcases g5.2 with y | y
      · exact .inl y
      · refine .inr fun p hp => ?_
        rcases mem_behind g1 g2 hp with x | x | x
        · exact z p x
        · rw [x]
          exact (z _ (mem_getD g1)).sublist (List.dropLast_sublist _)
        · rw [x]
          exact fall_add (z _ (mem_getD g2)) y
theorem G0.behind {n : Int} {s : Stg} (q : G0 n s) {mv : Mv} {h : Int} {ru : List Nat} (hm : mv ∈ movesL h ru s) : G0 n (behind s mv) := by
  obtain ⟨g1, g2, g3, g4, g5⟩ := moves_mem hm
  have hp := behind_perm g1 g2 g3 g4
  refine ⟨by rw [behind_len]; exact q.len, by rw [hp.length_eq]; exact q.few, fun p h c hc => ?_⟩
  have h1 := hp.mem_iff.mp (List.mem_flatten.mpr ⟨p, h, hc⟩)
  obtain ⟨p', h2, h3⟩ := List.mem_flatten.mp h1
  exact q.low p' h2 c h3
theorem OkS.g0 {m n h : Int} {ru : List Nat} {s : Stg} (o : OkP m n h ru) (q : OkS m n h ru s) : G0 n s := ⟨q.len, by rw [(q.small o).1]; have := o.m2; omega, q.low⟩
theorem le_flat {s : Stg} {p : List Nat} (h : p ∈ s) : p.length ≤ s.flatten.length := (List.sublist_flatten_of_mem h).length_le
theorem G0.pile {n : Int} {s : Stg} (q : G0 n s) : ∀ p ∈ s, p.length ≤ 5 := fun p hp => Nat.le_trans (le_flat hp) q.few
theorem steps_mem {h : Int} {ru : List Nat} {s : Stg} {a : Mv × Stg} (q : a ∈ stepsL h ru s) : ∃ mv ∈ movesL h ru s, a = (mv, behind s mv) := by
  obtain ⟨mv, h1, rfl⟩ := List.mem_map.mp q
  exact ⟨mv, h1, rfl⟩

/-! ## taking out -/
theorem co8 : coD 8 = .str [122] := rfl
@[simp] theorem z_co8 : type_of% @co8 := @co8
theorem signs_eq (l : List Nat) : signs l = (l.map fun c => [c]).map D.str := by
  unfold signs
  rw [List.map_map]; rfl
theorem min_sign (l : List Nat) : ∃ c, fMinL [.lst (signs l ++ [.str [122]])] = some (.str [c]) := by
  have e : signs l ++ [D.str [122]] = ((l ++ [122]).map fun c => [c]).map D.str := by
    rw [signs_eq]; simp
  rw [e]
  unfold fMinL
  simp only [getSs_str, Option.bind_some]
  cases h : (l ++ [122]).map fun c => [c] with
  | nil => simp at h
  | cons x r =>
    have hm : minS r x ∈ x :: r := List.mem_cons.mpr (minS_mem r x)
    rw [← h] at hm
    obtain ⟨c, _, hc⟩ := List.mem_map.mp hm
    exact ⟨c, by simp only; rw [← hc]⟩
theorem join_s (s : Stg) (h : s.flatten.length ≤ 5) : fJoin (.str []) (sD s) = some (.str s.flatten) := by
  have ej : joinB [] s = true := by
    unfold joinB
    rw [List.length_flatten] at h
    refine decide_eq_true ?_
    rw [List.length_nil, Nat.mul_zero]
    have h' : (s.map (·.length)).sum ≤ 5 := h
    omega
  have e4 : itemsJ (sD s) = some (s.map .str) := rfl
  simp only [fJoin, e4, Option.bind_some, getSs_str, ej, if_true, join_nil]
theorem f_next_out {n : Int} {s : Stg} (q : G0 n s) : ∃ c, ∀ k, T (k + 1) 14 [sD s] = ret (.str [c]) := by
  obtain ⟨c, hc⟩ := min_sign s.flatten
  refine ⟨c, fun k => ?_⟩
  rw [T, ft_def (d := d_next_out) rfl rfl rfl]
  have e1 := join_s s q.few
  have e2 : fList [.str s.flatten] = some (.lst (signs s.flatten)) := rfl
  have e3 : (signs s.flatten).length + 1 ≤ 16777216 := by
    have := q.few
    unfold signs
    rw [List.length_map]; omega
  generalize s.flatten = l at *
  generalize signs l = l2 at *
  simp -implicitDefEqProofs [d_next_out, b_next_out, e1, e2, e3, hc]
def outP (c : Nat) (p : List Nat) : Bool := decide (p ≠ []) && decide (lastN p = c)
def outOf (c : Nat) (s : Stg) : Stg := s.map fun p => if outP c p then p.dropLast else p
def strP (q : List Nat → Bool) : D → Bool
  | .str p => q p
  | _ => false
def strF (f : List Nat → List Nat) : D → D
  | .str p => .str (f p)
  | d => d
def tkT : BT := tCmp pNe (fComp (iSeq (cVar 0)) [2] (gNm 2) (.one (tAnd [(tCmp pNe (cVar 2) (cStr [])), (tCmp pEq (cIx (cVar 2).p (cNeg (cInt 1))) (cCall 14 [(cVar 0)]))])) (cVar 2)).e (fLst []).e
def tkB : List BS := [(sSet 1 (cCall 14 [(cVar 0)])), (sSet 0 (cBi bTuple [(fComp (iSeq (cVar 0)) [2] (gNm 2) .no (cIf (tAnd [(tCmp pNe (cVar 2) (cStr [])), (tCmp pEq (cIx (cVar 2).p (cNeg (cInt 1))) (cVar 1))]) (cSl (cVar 2) noPart (part (cNeg (cInt 1)))) (cVar 2))).e.p]))]
theorem ne_strs (l : List (List Nat)) : fNe (.lst (l.map .str)) (.lst []) = some (.bl (decide (l ≠ []))) := by
  obtain ⟨h1, h2⟩ := datas_str l
  have k1 : okE (.lst (l.map .str)) = true := by simp [okE, isData, dep, h1, h2]
  have k2 : okE (.lst []) = true := by decide
  unfold fNe
  rw [k1, k2]
  cases l with
  | nil => simp [deq, deqs]
  | cons a r => simp [deq, deqs]
theorem one_eq (a b : Nat) : (([a] : List Nat) == [b]) = decide (a = b) := by
  by_cases h : a = b <;> simp [h]
theorem tk_test (k : Nat) {n : Int} (hn : n ≤ 4) {s : Stg} (q : G0 n s) {c : Nat} (hc : ∀ k, T (k + 1) 14 [sD s] = ret (.str [c])) (o : Slt) : tkT.den (T (k + 1)) [.val (sD s), o, .none] = ret (decide (s.filter (outP c) ≠ [])) := by
  have hl := q.len
  have cc : compGo (gNm 2).set ((BC.one (tAnd [(tCmp pNe (cVar 2) (cStr [])), (tCmp pEq (cIx (cVar 2).p (cNeg (cInt 1))) (cCall 14 [(cVar 0)]))])).den (T (k + 1))) ((cVar 2).den (T (k + 1))) [.val (sD s), o, .none] (s.map D.str) [] = ret ((s.filter (outP c)).map D.str) := by
    rw [comp_filter (strP (outP c)) id]
    · rw [filter_map' D.str (strP (outP c)) (outP c) fun _ => rfl]
      simp
    · intro d hd
      obtain ⟨p, hp, rfl⟩ := List.mem_map.mp hd
      refine ⟨_, rfl, ?_, rfl⟩
      have h14 := hc k
      change _ = ret (outP c p)
      unfold outP
      by_cases h3 : p = []
      · simp -implicitDefEqProofs [one_den, h3]
      · have h3' : (p == []) = false := beq_eq_false_iff_ne.mpr h3
        have e := at_last h3
        have e2 := last_eq h3
        simp -implicitDefEqProofs [one_den, h3, h3', e, e2, h14, one_eq]
        rfl
    · simp; omega
  have e4 : items (sD s) = some (s.map D.str) := rfl
  have e5 := ne_strs (s.filter (outP c))
  unfold tkT
  simp -implicitDefEqProofs [e4, cc, e5]
theorem tk_body (k : Nat) {n : Int} (hn : n ≤ 4) {s : Stg} (q : G0 n s) {c : Nat} (hc : ∀ k, T (k + 1) 14 [sD s] = ret (.str [c])) (o : Slt) : dBlk tkB (T (k + 1)) [.val (sD s), o, .none] = ret (.nx [.val (sD (outOf c s)), .val (.str [c]), .none]) := by
  have hl := q.len
  have h14 := hc k
  have cc : compGo (gNm 2).set (BC.no.den (T (k + 1))) ((cIf (tAnd [(tCmp pNe (cVar 2) (cStr [])), (tCmp pEq (cIx (cVar 2).p (cNeg (cInt 1))) (cVar 1))]) (cSl (cVar 2) noPart (part (cNeg (cInt 1)))) (cVar 2)).den (T (k + 1))) [.val (sD s), .val (.str [c]), .none] (s.map D.str) [] = ret ((outOf c s).map D.str) := by
    rw [comp_map (strF fun p => if outP c p then p.dropLast else p)]
    · simp [outOf, strF, Function.comp_def]
    · intro d hd
      obtain ⟨p, hp, rfl⟩ := List.mem_map.mp hd
      refine ⟨_, rfl, rfl, ?_⟩
      unfold strF outP
      by_cases h3 : p = []
      · simp -implicitDefEqProofs [h3]
      · have h3' : (p == []) = false := beq_eq_false_iff_ne.mpr h3
        have e := at_last h3
        have e2 := last_eq h3
        by_cases h4 : p.getLast h3 = c
        · simp -implicitDefEqProofs [h3, h3', e, e2, h4, one_eq, fSl, cut_init]
        · simp -implicitDefEqProofs [h3, h3', e, e2, h4, one_eq]
    · simp; omega
  have e4 : items (sD s) = some (s.map D.str) := rfl
  have ln : (outOf c s).length ≤ 16777216 := by simp [outOf]; omega
  unfold tkB
  simp -implicitDefEqProofs [no_den, sD] at cc h14
  simp -implicitDefEqProofs [e4, h14, cc, no_den, sD, ln]
theorem out_le (c : Nat) : ∀ s : Stg, (outOf c s).flatten.length ≤ s.flatten.length
  | [] => by simp [outOf]
  | p :: s => by
    have := out_le c s
    unfold outOf at *
    simp only [List.map_cons, List.flatten_cons, List.length_append]
    split
    · rw [List.length_dropLast]; omega
    · omega
theorem out_lt {c : Nat} : ∀ {s : Stg}, s.filter (outP c) ≠ [] → (outOf c s).flatten.length < s.flatten.length
  | [], h => by simp at h
  | p :: s, h => by
    have hle := out_le c s
    have e : (outOf c (p :: s)) = (if outP c p then p.dropLast else p) :: outOf c s := rfl
    rw [e, List.flatten_cons, List.flatten_cons, List.length_append, List.length_append]
    cases hp : outP c p with
    | true =>
      have hne : p ≠ [] := by
        unfold outP at hp
        simp at hp
        exact hp.1
      have := List.length_pos_iff.mpr hne
      rw [if_pos rfl, List.length_dropLast]
      omega
    | false =>
      rw [List.filter_cons, hp] at h
      have := out_lt (s := s) (by simpa using h)
      simp only [Bool.false_eq_true, if_false]
      omega
theorem G0.out {n : Int} {s : Stg} (q : G0 n s) (c : Nat) : G0 n (outOf c s) := by
  refine ⟨by unfold outOf; rw [List.length_map]; exact q.len, Nat.le_trans (out_le c s) q.few, fun p hp => ?_⟩
  unfold outOf at hp
  obtain ⟨p', h1, rfl⟩ := List.mem_map.mp hp
  split
  · exact fun c hc => q.low p' h1 c ((List.dropLast_sublist _).subset hc)
  · exact q.low p' h1
theorem tk_wh {n : Int} (hn : n ≤ 4) : ∀ (N : Nat) {s : Stg}, G0 n s → s.flatten.length < N → ∀ o : Slt, ∃ t o', G0 n t ∧ ∀ k, whGo (tkT.den (T (k + 1))) (dBlk tkB (T (k + 1))) N [.val (sD s), o, .none] = ret (.nx [.val (sD t), o', .none])
  | 0, s, _, h, _ => absurd h (by omega)
  | N + 1, s, q, h, o => by
    obtain ⟨c, hc⟩ := f_next_out q
    unfold whGo
    by_cases he : s.filter (outP c) = []
    · refine ⟨s, o, q, fun k => ?_⟩
      rw [tk_test k hn q hc o, bnd_ret]
      simp [he]
    · have hlt := out_lt he
      obtain ⟨t, o', q', e⟩ := tk_wh hn N (q.out c) (by omega) (.val (.str [c]))
      refine ⟨t, o', q', fun k => ?_⟩
      rw [tk_test k hn q hc o, bnd_ret, if_pos (by simpa using he), tk_body k hn q hc o, bnd_ret]
      exact e k
theorem tk_def : b_taken = [sWhile tkT tkB, (sRet (cVar 0))] := rfl
theorem f_taken {n : Int} (hn : n ≤ 4) {s : Stg} (q : G0 n s) : ∃ t, G0 n t ∧ ∀ k, T (k + 2) 15 [sD s] = ret (sD t) := by
  obtain ⟨t, o', q', e⟩ := tk_wh hn fuel q (by have := q.few; unfold fuel; omega) .none
  refine ⟨t, q', fun k => ?_⟩
  rw [T, ft_def (d := d_taken) rfl rfl rfl]
  have e' := e k
  simp -implicitDefEqProofs [d_taken, tk_def, e']
/-- a comprehension whose elements are only known to be some -/
theorem comp_ex {α : Type} (g : α → D) (P : α → Prop) {set : D → En → Option En} {test : Nat → En → M Bool} {elt : Nat → En → M D} {r : En} : ∀ (l acc : List D), (∀ d ∈ l, ∃ r', set d r = some r' ∧ (∀ k, test k r' = ret true) ∧ ∃ a, P a ∧ ∀ k, elt k r' = ret (g a)) → acc.length + l.length ≤ sizeLine →
    ∃ l' : List α, l'.length = l.length ∧ (∀ a ∈ l', P a) ∧ ∀ k, compGo set (test k) (elt k) r l acc = ret (acc ++ l'.map g)
  | [], acc, _, _ => ⟨[], rfl, by simp, fun k => by simp [compGo]⟩
  | d :: l, acc, h, hl => by
    obtain ⟨r', h1, h2, a, h3, h4⟩ := h d (List.mem_cons_self ..)
    simp only [List.length_cons] at hl
    have hlt : acc.length < sizeLine := by omega
    obtain ⟨l', e1, e2, e3⟩ := comp_ex g P l (acc ++ [g a]) (fun d hd => h d (List.mem_cons_of_mem _ hd)) (by simp at hl ⊢; omega)
    refine ⟨a :: l', by simp [e1], fun b hb => by rcases List.mem_cons.mp hb with rfl | hb; exact h3; exact e2 b hb, fun k => ?_⟩
    simp only [compGo, h1, h2, h4, bnd_some, bnd_ret, if_true, if_pos hlt, e3]
    simp
theorem tg_step {i j : Nat} {r : En} (a : Mv × Stg) (hi : i < r.length) (hj : j < r.length) : (gTp [gNm i, gNm j]).set (stepD a) r = some ((r.set i (.val (mvD a.1))).set j (.val (sD a.2))) := by
  have e1 : (gNm i).set (mvD a.1) r = some (r.set i (.val (mvD a.1))) := if_pos hi
  have e2 : (gNm j).set (sD a.2) (r.set i (.val (mvD a.1))) = some ((r.set i (.val (mvD a.1))).set j (.val (sD a.2))) := if_pos (by simpa using hj)
  change ((gNm i).set (mvD a.1) r).bind (fun r' => ((gNm j).set (sD a.2) r').bind fun r' => some r') = _
  rw [e1, Option.bind_some, e2, Option.bind_some]
end Rf

set_option Elab.async false
set_option linter.all false
set_option maxRecDepth 100000
set_option maxHeartbeats 1000000
set_option warning.simp.otherHead false
namespace Rf
open PySem L2

abbrev dD (ks : List Stg) (vs : List D) : D := .dct true (ks.map sD) vs
theorem in_out {ks : List Stg} {vs : List D} {t : Stg} (h : t ∉ ks) : fDIn true (sD t) (dD ks vs) = some (.bl true) := by
  change (if keyB true (sD t) then _ else _) = _
  rw [key_sD, val_out h]; rfl
theorem in_in {ks : List Stg} {vs : List D} {t : Stg} (hl : vs.length = ks.length) (h : t ∈ ks) : fDIn true (sD t) (dD ks vs) = some (.bl false) := by
  obtain ⟨v, _, e⟩ := val_in hl h
  change (if keyB true (sD t) then _ else _) = _
  rw [key_sD, e]; rfl
theorem isin_out {ks : List Stg} {vs : List D} {t : Stg} (h : t ∉ ks) : fDIn false (sD t) (dD ks vs) = some (.bl false) := by
  change (if keyB true (sD t) then _ else _) = _
  rw [key_sD, val_out h]; rfl
theorem isin_in {ks : List Stg} {vs : List D} {t : Stg} (hl : vs.length = ks.length) (h : t ∈ ks) : fDIn false (sD t) (dD ks vs) = some (.bl true) := by
  obtain ⟨v, _, e⟩ := val_in hl h
  change (if keyB true (sD t) then _ else _) = _
  rw [key_sD, e]; rfl
theorem dix_in {ks : List Stg} {vs : List D} {t : Stg} (hl : vs.length = ks.length) (h : t ∈ ks) : ∃ v ∈ vs, fDIx (dD ks vs) (sD t) = some v := by
  obtain ⟨v, hv, e⟩ := val_in hl h
  refine ⟨v, hv, ?_⟩
  change (if keyB true (sD t) then _ else _) = _
  rw [key_sD, e]; rfl
theorem dget_any {ks : List Stg} {vs : List D} (t : Stg) (hl : vs.length = ks.length) : fDGet (dD ks vs) (sD t) = some .non ∨ ∃ v ∈ vs, fDGet (dD ks vs) (sD t) = some v := by
  by_cases h : t ∈ ks
  · obtain ⟨v, hv, e⟩ := val_in hl h
    refine .inr ⟨v, hv, ?_⟩
    change (if keyB true (sD t) then _ else _) = _
    rw [key_sD, e]; rfl
  · refine .inl ?_
    change (if keyB true (sD t) then _ else _) = _
    rw [key_sD, val_out h]; rfl
def intV (_ : Nat) (v : D) : Prop := ∃ i, v = .int i
theorem intV_mono : ∀ n v, intV n v → intV (n + 1) v := fun _ _ h => h
theorem okS_few {m n h : Int} {ru : List Nat} (o : OkP m n h ru) {V : Nat → D → Prop} {ks : List Stg} {vs : List D} (J : InvB (OkS m n h ru) V ks vs) : ks.length ≤ 12093235 := few_keys o.n2 J.nd fun s hs => (J.good s hs).g0 o

/-! ## far_from_some -/
def ffI : List BS := [(sIf (tInD true (cVar 7) (pOwn 2)) [(sDPut 2 (cVar 7) (cBin oAdd (cDIx (pOwn 2) (cVar 5)) (cInt 1))), (sApp 4 (cVar 7))] [])]
def ffM : List BS := [(sFor (iSeq (cCall 11 [(cVar 0), (cVar 5)])) (gTp [(gNm 6), (gNm 7)]) ffI)]
def ffT : BT := tCmp pNe (cVar 3) (fLst []).e
def ffB : List BS := [(sOwn 4 (fLst [])), (sFor (iSeq (cVar 3)) (gNm 5) ffM), (sFrz 4 (sSet 3 (cVar 4)))]
section
variable {m n h : Int} {ru : List Nat} (o : OkP m n h ru) (f3 : D)
include o
def ffE (m n h : Int) (ru : List Nat) (f wt : D) (hr : Slt) (x : Slt × Slt) (ks : List Stg) (vs : List D) (lt : List Stg) : En := [.val (tabD m n h ru), .val f, .own (dD ks vs), .val wt, .own (.lst (lt.map sD)), hr, x.1, x.2]
omit o in
theorem ff_hold (F : FT) (f wt : D) (hr : Slt) (a : Mv × Stg) (ks : List Stg) (vs : List D) (lt : List Stg) (hl : vs.length = ks.length) (h : a.2 ∈ ks) : dBlk ffI F (ffE m n h' ru f wt hr (.val (mvD a.1), .val (sD a.2)) ks vs lt) = ret (.nx (ffE m n h' ru f wt hr (.val (mvD a.1), .val (sD a.2)) ks vs lt)) := by
  have e := in_in hl h
  unfold ffI ffE
  simp -implicitDefEqProofs [e]
omit o in
theorem ff_new (f wt : D) (here : Stg) (a : Mv × Stg) (ks : List Stg) (vs : List D) (lt : List Stg) (hl : vs.length = ks.length) (hv : ∀ v ∈ vs, intV 0 v) (hh : here ∈ ks) (h : a.2 ∉ ks) (hk : ks.length ≤ 12093235) (hlt : lt.length ≤ ks.length) : ∃ i, ∀ F, dBlk ffI F (ffE m n h' ru f wt (.val (sD here)) (.val (mvD a.1), .val (sD a.2)) ks vs lt) = ret (.nx (ffE m n h' ru f wt (.val (sD here)) (.val (mvD a.1), .val (sD a.2)) (ks ++ [a.2]) (vs ++ [.int i]) (lt ++ [a.2]))) := by
  have e := in_out (vs := vs) h
  obtain ⟨v, h1, e2⟩ := dix_in hl hh
  obtain ⟨i, rfl⟩ := hv v h1
  refine ⟨i + 1, fun F => ?_⟩
  have e3 := put_out (vs := vs) (.int (i + 1)) h
  have e4 : vs.length < 16777216 := by omega
  have e5 : lt.length < 16777216 := by omega
  have e6 := key_sD a.2
  unfold ffI ffE
  simp -implicitDefEqProofs [dD, e, e2, ownD, e3, e4, e5, e6, ownL]
theorem s_pile {s : Stg} (q : OkS m n h ru s) : ∀ p ∈ s, p.length ≤ 5 := (q.g0 o).pile
theorem ff_one (f wt : D) (here : Stg) (hr : Slt) (x : Slt × Slt) (ks : List Stg) (vs : List D) (lt : List Stg) (J : InvB (OkS m n h ru) intV ks vs) (hh : here ∈ ks) (hl : lt.length ≤ ks.length) : ∃ x' new nv, (∀ k, bnd (opt ((gNm 5).set (sD here) (ffE m n h ru f wt hr x ks vs lt))) (dBlk ffM (T (k + 4))) = ret (.nx (ffE m n h ru f wt (.val (sD here)) x' (ks ++ new) (vs ++ nv) (lt ++ new)))) ∧ InvB (OkS m n h ru) intV (ks ++ new) (vs ++ nv) := by
  have q := J.good _ hh
  have es := fun k => f_steps k (m := m) (h := h) (ru := ru) q.len o.n1 o.n2 (s_pile o q)
  obtain ⟨x', new, nv, e, J'⟩ := bfs_in (Good := OkS m n h ru) (V := intV) intV_mono (set := (gTp [gNm 6, gNm 7]).set) (body := fun k => dBlk ffI (T (k + 4))) (fun x ks vs lt => ffE m n h ru f wt (.val (sD here)) x ks vs lt) here
    (fun a x ks vs lt => tg_step a (by simp [ffE]) (by simp [ffE]))
    (fun k a ks vs lt J h => ff_hold _ f wt _ a ks vs lt J.len h)
    (fun a ks vs lt J hh h hl => by
      obtain ⟨i, e⟩ := ff_new f wt here a ks vs lt J.len (fun v hv => J.val v hv) hh h (okS_few o J) hl
      exact ⟨.int i, ⟨i, rfl⟩, fun k => e _⟩)
    (stepsL h ru here) (fun a ha => by
      obtain ⟨mv, h1, rfl⟩ := steps_mem ha
      exact q.behind h1) x ks vs lt J hh hl
  refine ⟨x', new, nv, fun k => ?_, J'⟩
  have es := es k
  have e := e k
  have e1 : (gNm 5).set (sD here) (ffE m n h ru f wt hr x ks vs lt) = some (ffE m n h ru f wt (.val (sD here)) x ks vs lt) := rfl
  have e2 : items (.lst ((stepsL h ru here).map stepD)) = some ((stepsL h ru here).map stepD) := rfl
  rw [e1, bnd_some]
  unfold ffM
  have v0 : getV (ffE m n h ru f wt (.val (sD here)) x ks vs lt) 0 = some (tabD m n h ru) := rfl
  have v5 : getV (ffE m n h ru f wt (.val (sD here)) x ks vs lt) 5 = some (sD here) := rfl
  simp -implicitDefEqProofs only [z_m_blk, z_m_blk0, z_m_sFor, z_m_iSeq, z_m_cCall, z_dns_cons_p, z_dns_nil, z_m_cVar, v0, v5, opt_some, bnd_ret, bnd_some, es, e2, e]
def ffW (m n h : Int) (ru : List Nat) (f : D) (wt : List Stg) (j : Slt × Slt × Slt × Slt) (ks : List Stg) (vs : List D) : En := [.val (tabD m n h ru), .val f, .own (dD ks vs), .val (.lst (wt.map sD)), j.1, j.2.1, j.2.2.1, j.2.2.2]
theorem ff_round (f : D) (wt : List Stg) (j : Slt × Slt × Slt × Slt) (ks : List Stg) (vs : List D) (J : InvB (OkS m n h ru) intV ks vs) (hw : ∀ s ∈ wt, s ∈ ks) : ∃ new j' nv, (∀ k, dBlk ffB (T (k + 4)) (ffW m n h ru f wt j ks vs) = ret (.nx (ffW m n h ru f new j' (ks ++ new) (vs ++ nv)))) ∧ InvB (OkS m n h ru) intV (ks ++ new) (vs ++ nv) := by
  obtain ⟨j1, j2, j3, j4⟩ := j
  obtain ⟨x', new, nv, e, J'⟩ := bfs_out (Good := OkS m n h ru) (V := intV) (set := (gNm 5).set) (body := fun k => dBlk ffM (T (k + 4))) (fun (x : Slt × Slt × Slt) ks vs lt => ffE m n h ru f (.lst (wt.map sD)) x.1 x.2 ks vs lt)
    (fun here x ks vs lt J hh hl => by
      obtain ⟨x', new, nv, e, J'⟩ := ff_one o f (.lst (wt.map sD)) here x.1 x.2 ks vs lt J hh hl
      exact ⟨(.val (sD here), x'), new, nv, e, J'⟩) wt (j2, j3, j4) ks vs [] J hw (by simp)
  refine ⟨new, (.val (.lst (new.map sD)), x'.1, x'.2), nv, fun k => ?_, J'⟩
  have e := e k
  simp only [ffE, List.nil_append, List.map_nil] at e
  unfold ffB ffW
  simp -implicitDefEqProofs [e, frzE]
theorem f_far_some (s : Stg) (q : OkS m n h ru s) : ∃ ks vs, InvB (OkS m n h ru) intV ks vs ∧ s ∈ ks ∧ ∀ k, T (k + 5) 95 [tabD m n h ru, .lst [sD s]] = ret (dD ks vs) := by
  have J0 : InvB (OkS m n h ru) intV [s] [.int 0] := ⟨by simp, by simp [q], rfl, by simp [intV]⟩
  obtain ⟨j', new, nv, e, J'⟩ := bfs_wh (Good := OkS m n h ru) (V := intV) (test := fun k => ffT.den (T (k + 4))) (body := fun k => dBlk ffB (T (k + 4))) (ffW m n h ru (.lst [sD s])) 12093235 (fun ks vs J => okS_few o J)
    (fun k wt j ks vs => by
      have e := ne_wt wt
      unfold ffT ffW
      simp -implicitDefEqProofs [e])
    (fun wt j ks vs J hw => ff_round o _ wt j ks vs J hw) fuel [s] (.none, .none, .none, .none) [s] [.int 0] J0 (by simp) (.inr (by unfold fuel; simp))
  refine ⟨[s] ++ new, [.int 0] ++ nv, J', by simp, fun k => ?_⟩
  rw [T, ft_def (d := d_far_from_some) rfl rfl rfl]
  have e := e k
  have ed : d_far_from_some.body = [(sPar 2 3 (fBi bDictP [(fComp (iSeq (cVar 1)) [5] (gNm 5) .no (cTup [(cVar 5), (cInt 0)])).e.p]).x (fBi bList [(cVar 1).p]).e.x), sWhile ffT ffB, (sFrz 2 (sRet (cVar 2)))] := rfl
  have e1 : fDictP [.lst [.tup [sD s, .int 0]]] = some (dD [s] [.int 0]) := by
    simp [fDictP, prsD, key_sD, putD, fndK, dD]
  have e2 : fList [.lst [sD s]] = some (.lst [sD s]) := rfl
  have e3 : items (.lst [sD s]) = some [sD s] := rfl
  have e4 : compGo (gNm 5).set (BC.no.den (T (k + 4))) ((cTup [(cVar 5), (cInt 0)]).den (T (k + 4))) [.val (tabD m n h ru), .val (.lst [sD s]), .none, .none, .none, .none, .none, .none] [sD s] [] = ret [.tup [sD s, .int 0]] := by
    simp -implicitDefEqProofs [compGo, no_den, m_gNm]
  rw [ed]
  simp only [ffW, List.map_cons, List.map_nil] at e
  have en : entE d_far_from_some [tabD m n h ru, .lst [sD s]] = [.val (tabD m n h ru), .val (.lst [sD s]), .none, .none, .none, .none, .none, .none] := rfl
  rw [en]
  simp -implicitDefEqProofs [e1, e2, e3, e4, x_o, xF_o, mkS_o, mkS_v, e, frzE]
end
end Rf

set_option Elab.async false
set_option linter.all false
set_option maxRecDepth 100000
set_option maxHeartbeats 1000000
set_option warning.simp.otherHead false
namespace Rf
open PySem L2

/-! ## _law_far -/
def lfI : List BS := [(sIf (tInD true (cVar 8) (pOwn 2)) [(sDPut 2 (cVar 8) (cVar 4)), (sApp 6 (cVar 8))] [])]
def lfM : List BS := [(sFor (iSeq (cCall 44 [(cVar 0), (cVar 5)])) (gTp [(gNm 7), (gNm 8)]) lfI)]
def lfT : BT := tCmp pNe (cVar 3) (fLst []).e
def lfB : List BS := [(sPar 6 4 (fLst []).x (cBin oAdd (cVar 4) (cInt 1)).x), (sFor (iSeq (cVar 3)) (gNm 5) lfM), (sFrz 6 (sSet 3 (cVar 6)))]
section
variable {m n h : Int} {ru : List Nat} (o : OkP m n h ru) (f3 : D)
include o
def lfE (m n h : Int) (ru : List Nat) (f wt : D) (mn : Int) (hr : Slt) (x : Slt × Slt) (ks : List Stg) (vs : List D) (lt : List Stg) : En := [.val (pD m n h ru), .val f, .own (dD ks vs), .val wt, .val (.int mn), hr, .own (.lst (lt.map sD)), x.1, x.2]
omit o in
theorem lf_hold (F : FT) (f wt : D) (mn : Int) (hr : Slt) (a : Mv × Stg) (ks : List Stg) (vs : List D) (lt : List Stg) (hl : vs.length = ks.length) (h : a.2 ∈ ks) : dBlk lfI F (lfE m n h' ru f wt mn hr (.val (mvD a.1), .val (sD a.2)) ks vs lt) = ret (.nx (lfE m n h' ru f wt mn hr (.val (mvD a.1), .val (sD a.2)) ks vs lt)) := by
  have e := in_in hl h
  unfold lfI lfE
  simp -implicitDefEqProofs [e]
omit o in
theorem lf_new (F : FT) (f wt : D) (mn : Int) (here : Stg) (a : Mv × Stg) (ks : List Stg) (vs : List D) (lt : List Stg) (hl : vs.length = ks.length) (h : a.2 ∉ ks) (hk : ks.length ≤ 12093235) (hlt : lt.length ≤ ks.length) : dBlk lfI F (lfE m n h' ru f wt mn (.val (sD here)) (.val (mvD a.1), .val (sD a.2)) ks vs lt) = ret (.nx (lfE m n h' ru f wt mn (.val (sD here)) (.val (mvD a.1), .val (sD a.2)) (ks ++ [a.2]) (vs ++ [.int mn]) (lt ++ [a.2]))) := by
  have e := in_out (vs := vs) h
  have e3 := put_out (vs := vs) (.int mn) h
  have e4 : vs.length < 16777216 := by omega
  have e5 : lt.length < 16777216 := by omega
  have e6 := key_sD a.2
  unfold lfI lfE
  simp -implicitDefEqProofs [dD, e, ownD, e3, e4, e5, e6, ownL]
theorem lf_one (f wt : D) (mn : Int) (here : Stg) (hr : Slt) (x : Slt × Slt) (ks : List Stg) (vs : List D) (lt : List Stg) (J : InvB (OkS m n h ru) intV ks vs) (hh : here ∈ ks) (hl : lt.length ≤ ks.length) : ∃ x' new nv, (∀ k, bnd (opt ((gNm 5).set (sD here) (lfE m n h ru f wt mn hr x ks vs lt))) (dBlk lfM (T (k + 3))) = ret (.nx (lfE m n h ru f wt mn (.val (sD here)) x' (ks ++ new) (vs ++ nv) (lt ++ new)))) ∧ InvB (OkS m n h ru) intV (ks ++ new) (vs ++ nv) := by
  have q := J.good _ hh
  have es := fun k => f_law_steps k (m := m) (h := h) (ru := ru) q.len o.n1 o.n2 (s_pile o q)
  obtain ⟨x', new, nv, e, J'⟩ := bfs_in (Good := OkS m n h ru) (V := intV) intV_mono (set := (gTp [gNm 7, gNm 8]).set) (body := fun k => dBlk lfI (T (k + 3))) (fun x ks vs lt => lfE m n h ru f wt mn (.val (sD here)) x ks vs lt) here
    (fun a x ks vs lt => tg_step a (by simp [lfE]) (by simp [lfE]))
    (fun k a ks vs lt J h => lf_hold _ f wt mn _ a ks vs lt J.len h)
    (fun a ks vs lt J hh h hl => by
      exact ⟨.int mn, ⟨mn, rfl⟩, fun k => lf_new (T (k + 3)) f wt mn here a ks vs lt J.len h (okS_few o J) hl⟩)
    (stepsL h ru here) (fun a ha => by
      obtain ⟨mv, h1, rfl⟩ := steps_mem ha
      exact q.behind h1) x ks vs lt J hh hl
  refine ⟨x', new, nv, fun k => ?_, J'⟩
  have es := es k
  have e := e k
  have e1 : (gNm 5).set (sD here) (lfE m n h ru f wt mn hr x ks vs lt) = some (lfE m n h ru f wt mn (.val (sD here)) x ks vs lt) := rfl
  have e2 : items (.lst ((stepsL h ru here).map stepD)) = some ((stepsL h ru here).map stepD) := rfl
  rw [e1, bnd_some]
  unfold lfM
  have v0 : getV (lfE m n h ru f wt mn (.val (sD here)) x ks vs lt) 0 = some (pD m n h ru) := rfl
  have v5 : getV (lfE m n h ru f wt mn (.val (sD here)) x ks vs lt) 5 = some (sD here) := rfl
  simp -implicitDefEqProofs only [z_m_blk, z_m_blk0, z_m_sFor, z_m_iSeq, z_m_cCall, z_dns_cons_p, z_dns_nil, z_m_cVar, v0, v5, opt_some, bnd_ret, bnd_some, es, e2, e]
def lfW (m n h : Int) (ru : List Nat) (f : D) (wt : List Stg) (j : Int × Slt × Slt × Slt × Slt) (ks : List Stg) (vs : List D) : En := [.val (pD m n h ru), .val f, .own (dD ks vs), .val (.lst (wt.map sD)), .val (.int j.1), j.2.1, j.2.2.1, j.2.2.2.1, j.2.2.2.2]
theorem lf_round (f : D) (wt : List Stg) (j : Int × Slt × Slt × Slt × Slt) (ks : List Stg) (vs : List D) (J : InvB (OkS m n h ru) intV ks vs) (hw : ∀ s ∈ wt, s ∈ ks) : ∃ new j' nv, (∀ k, dBlk lfB (T (k + 3)) (lfW m n h ru f wt j ks vs) = ret (.nx (lfW m n h ru f new j' (ks ++ new) (vs ++ nv)))) ∧ InvB (OkS m n h ru) intV (ks ++ new) (vs ++ nv) := by
  obtain ⟨j0, j1, j2, j3, j4⟩ := j
  obtain ⟨x', new, nv, e, J'⟩ := bfs_out (Good := OkS m n h ru) (V := intV) (set := (gNm 5).set) (body := fun k => dBlk lfM (T (k + 3))) (fun (x : Slt × Slt × Slt) ks vs lt => lfE m n h ru f (.lst (wt.map sD)) (j0 + 1) x.1 x.2 ks vs lt)
    (fun here x ks vs lt J hh hl => by
      obtain ⟨x', new, nv, e, J'⟩ := lf_one o f (.lst (wt.map sD)) (j0 + 1) here x.1 x.2 ks vs lt J hh hl
      exact ⟨(.val (sD here), x'), new, nv, e, J'⟩) wt (j1, j3, j4) ks vs [] J hw (by simp)
  refine ⟨new, (j0 + 1, x'.1, .val (.lst (new.map sD)), x'.2), nv, fun k => ?_, J'⟩
  have e := e k
  simp only [lfE, List.nil_append, List.map_nil] at e
  unfold lfB lfW
  simp -implicitDefEqProofs [x_o, xF_o, mkS_o, mkS_v, e, frzE]
theorem f_law_far (s : Stg) (q : OkS m n h ru s) : ∃ ks vs, InvB (OkS m n h ru) intV ks vs ∧ s ∈ ks ∧ ∀ k, T (k + 4) 102 [pD m n h ru, sD s] = ret (dD ks vs) := by
  have J0 : InvB (OkS m n h ru) intV [s] [.int 0] := ⟨by simp, by simp [q], rfl, by simp [intV]⟩
  obtain ⟨j', new, nv, e, J'⟩ := bfs_wh (Good := OkS m n h ru) (V := intV) (test := fun k => lfT.den (T (k + 3))) (body := fun k => dBlk lfB (T (k + 3))) (lfW m n h ru (sD s)) 12093235 (fun ks vs J => okS_few o J)
    (fun k wt j ks vs => by
      have e := ne_wt wt
      unfold lfT lfW
      simp -implicitDefEqProofs [e])
    (fun wt j ks vs J hw => lf_round o _ wt j ks vs J hw) fuel [s] (0, .none, .none, .none, .none) [s] [.int 0] J0 (by simp) (.inr (by unfold fuel; simp))
  refine ⟨[s] ++ new, [.int 0] ++ nv, J', by simp, fun k => ?_⟩
  rw [T, ft_def (d := d__law_far) rfl rfl rfl]
  have e := e k
  have ed : d__law_far.body = [(sPar3 2 3 4 (fDict1 (cVar 1) (cInt 0)).x (fLst [(cVar 1)]).e.x (cInt 0).x), sWhile lfT lfB, (sFrz 2 (sRet (cVar 2)))] := rfl
  have e1 : fD1 (sD s) (.int 0) = some (dD [s] [.int 0]) := by
    simp [fD1, key_sD, dD]
  rw [ed]
  simp only [lfW, List.map_cons, List.map_nil] at e
  have en : entE d__law_far [pD m n h ru, sD s] = [.val (pD m n h ru), .val (sD s), .none, .none, .none, .none, .none, .none, .none] := rfl
  rw [en]
  simp -implicitDefEqProofs [e1, x_o, xF_o, mkS_o, mkS_v, e, frzE]
end
end Rf

set_option Elab.async false
set_option linter.all false
set_option maxRecDepth 100000
set_option maxHeartbeats 1000000
set_option warning.simp.otherHead false
namespace Rf
open PySem L2

/-! ## put_aside, rows_out -/
theorem f_put_aside {m n h : Int} {ru : List Nat} {s : Stg} (h2 : 2 ≤ n) (h4 : n ≤ 4) (q : G0 n s) : ∃ l : List (Mv × Stg), (∀ a ∈ l, G0 n a.2) ∧ ∀ k, T (k + 5) 17 [tabD m n h ru, sD s] = ret (.lst (l.map stepD)) := by
  have es := fun k => f_steps k (m := m) (h := h) (ru := ru) q.len h2 h4 q.pile
  have ml := moves_len h ru (s := s) (by have := q.len; omega)
  obtain ⟨l, e1, e2, e3⟩ := comp_ex stepD (fun a => G0 n a.2) (set := (gTp [gNm 2, gNm 3]).set) (test := fun k => BC.no.den (T (k + 4))) (elt := fun k => (cTup [(cVar 2), (cCall 15 [(cVar 3)])]).den (T (k + 4))) (r := [.val (tabD m n h ru), .val (sD s), .none, .none]) ((stepsL h ru s).map stepD) [] (by
    intro d hd
    obtain ⟨a, ha, rfl⟩ := List.mem_map.mp hd
    obtain ⟨mv, h1, rfl⟩ := steps_mem ha
    obtain ⟨t, g1, g2⟩ := f_taken h4 (q.behind h1)
    refine ⟨_, tg_step _ (by simp) (by simp), fun _ => rfl, (mv, t), g1, fun k => ?_⟩
    have g2 := g2 (k + 2)
    simp -implicitDefEqProofs [g2]
    rfl) (by
    rw [sizeLine_eq, List.length_map]
    unfold stepsL
    rw [List.length_map, List.length_nil]
    omega)
  refine ⟨l, e2, fun k => ?_⟩
  rw [T, ft_def (d := d_put_aside) rfl rfl rfl]
  have es := es k
  have e3 := e3 k
  simp -implicitDefEqProofs at e3
  simp -implicitDefEqProofs [d_put_aside, b_put_aside, es, e3]
def rowV (n : Nat) (v : D) : Prop := ∃ l, v = .tup l ∧ l.length < n
theorem rowV_mono : ∀ n v, rowV n v → rowV (n + 1) v := fun _ _ ⟨l, h1, h2⟩ => ⟨l, h1, by omega⟩
theorem g0_few {n : Int} (hn : n ≤ 4) {V : Nat → D → Prop} {ks : List Stg} {vs : List D} (J : InvB (G0 n) V ks vs) : ks.length ≤ 12093235 := few_keys hn J.nd J.good
def roI : List BS := [(sIf (tInD true (cVar 8) (pOwn 3)) [(sDPut 3 (cVar 8) (cBin oAdd (cDIx (pOwn 3) (cVar 6)) (cTup [(cVar 7)]))), (sApp 5 (cVar 8))] [])]
def roM : List BS := [(sFor (iSeq (cCall 17 [(cVar 0), (cVar 6)])) (gTp [(gNm 7), (gNm 8)]) roI)]
def roT : BT := tCmp pNe (cVar 4) (fLst []).e
def roB : List BS := [(sOwn 5 (fLst [])), (sFor (iSeq (cVar 4)) (gNm 6) roM), (sFrz 5 (sSet 4 (cVar 5)))]
def roE (m n h : Int) (ru : List Nat) (f g wt : D) (hr : Slt) (x : Slt × Slt) (ks : List Stg) (vs : List D) (lt : List Stg) : En := [.val (tabD m n h ru), .val f, .val g, .own (dD ks vs), .val wt, .own (.lst (lt.map sD)), hr, x.1, x.2]
section
variable {m n h : Int} {ru : List Nat} (h2 : 2 ≤ n) (h4 : n ≤ 4)
theorem ro_hold (F : FT) (f g wt : D) (hr : Slt) (a : Mv × Stg) (ks : List Stg) (vs : List D) (lt : List Stg) (hl : vs.length = ks.length) (q : a.2 ∈ ks) : dBlk roI F (roE m n h ru f g wt hr (.val (mvD a.1), .val (sD a.2)) ks vs lt) = ret (.nx (roE m n h ru f g wt hr (.val (mvD a.1), .val (sD a.2)) ks vs lt)) := by
  have e := in_in hl q
  unfold roI roE
  simp -implicitDefEqProofs [e]
theorem ro_new (f g wt : D) (here : Stg) (a : Mv × Stg) (ks : List Stg) (vs : List D) (lt : List Stg) (hl : vs.length = ks.length) (hv : ∀ v ∈ vs, rowV ks.length v) (hh : here ∈ ks) (q : a.2 ∉ ks) (hk : ks.length ≤ 12093235) (hlt : lt.length ≤ ks.length) : ∃ v, rowV (ks.length + 1) v ∧ ∀ F, dBlk roI F (roE m n h ru f g wt (.val (sD here)) (.val (mvD a.1), .val (sD a.2)) ks vs lt) = ret (.nx (roE m n h ru f g wt (.val (sD here)) (.val (mvD a.1), .val (sD a.2)) (ks ++ [a.2]) (vs ++ [v]) (lt ++ [a.2]))) := by
  have e := in_out (vs := vs) q
  obtain ⟨v, h1, e2⟩ := dix_in hl hh
  obtain ⟨l, rfl, hll⟩ := hv v h1
  refine ⟨.tup (l ++ [mvD a.1]), ⟨_, rfl, by simp; omega⟩, fun F => ?_⟩
  have e3 := put_out (vs := vs) (.tup (l ++ [mvD a.1])) q
  have e4 : vs.length < 16777216 := by omega
  have e5 : lt.length < 16777216 := by omega
  have e6 := key_sD a.2
  have e7 : l.length ≤ 16777215 := by omega
  unfold roI roE
  simp -implicitDefEqProofs [dD, e, e2, ownD, e3, e4, e5, e6, e7, ownL]
include h2 h4
theorem ro_one (f g wt : D) (here : Stg) (hr : Slt) (x : Slt × Slt) (ks : List Stg) (vs : List D) (lt : List Stg) (J : InvB (G0 n) rowV ks vs) (hh : here ∈ ks) (hl : lt.length ≤ ks.length) : ∃ x' new nv, (∀ k, bnd (opt ((gNm 6).set (sD here) (roE m n h ru f g wt hr x ks vs lt))) (dBlk roM (T (k + 5))) = ret (.nx (roE m n h ru f g wt (.val (sD here)) x' (ks ++ new) (vs ++ nv) (lt ++ new)))) ∧ InvB (G0 n) rowV (ks ++ new) (vs ++ nv) := by
  have q := J.good _ hh
  obtain ⟨l, hg, es⟩ := f_put_aside (m := m) (h := h) (ru := ru) h2 h4 q
  obtain ⟨x', new, nv, e, J'⟩ := bfs_in (Good := G0 n) (V := rowV) rowV_mono (set := (gTp [gNm 7, gNm 8]).set) (body := fun k => dBlk roI (T (k + 5))) (fun x ks vs lt => roE m n h ru f g wt (.val (sD here)) x ks vs lt) here
    (fun a x ks vs lt => tg_step a (by simp [roE]) (by simp [roE]))
    (fun k a ks vs lt J h => ro_hold _ f g wt _ a ks vs lt J.len h)
    (fun a ks vs lt J hh h hl => by
      obtain ⟨v, hv, e⟩ := ro_new f g wt here a ks vs lt J.len J.val hh h (g0_few h4 J) hl
      exact ⟨v, hv, fun k => e _⟩)
    l hg x ks vs lt J hh hl
  refine ⟨x', new, nv, fun k => ?_, J'⟩
  have es := es k
  have e := e k
  have e1 : (gNm 6).set (sD here) (roE m n h ru f g wt hr x ks vs lt) = some (roE m n h ru f g wt (.val (sD here)) x ks vs lt) := rfl
  have e2 : items (.lst (l.map stepD)) = some (l.map stepD) := rfl
  rw [e1, bnd_some]
  unfold roM
  have v0 : getV (roE m n h ru f g wt (.val (sD here)) x ks vs lt) 0 = some (tabD m n h ru) := rfl
  have v5 : getV (roE m n h ru f g wt (.val (sD here)) x ks vs lt) 6 = some (sD here) := rfl
  simp -implicitDefEqProofs only [z_m_blk, z_m_blk0, z_m_sFor, z_m_iSeq, z_m_cCall, z_dns_cons_p, z_dns_nil, z_m_cVar, v0, v5, opt_some, bnd_ret, bnd_some, es, e2, e]
omit h2 h4 in
def roW (m n h : Int) (ru : List Nat) (f g : D) (wt : List Stg) (j : Slt × Slt × Slt × Slt) (ks : List Stg) (vs : List D) : En := [.val (tabD m n h ru), .val f, .val g, .own (dD ks vs), .val (.lst (wt.map sD)), j.1, j.2.1, j.2.2.1, j.2.2.2]
theorem ro_round (f g : D) (wt : List Stg) (j : Slt × Slt × Slt × Slt) (ks : List Stg) (vs : List D) (J : InvB (G0 n) rowV ks vs) (hw : ∀ s ∈ wt, s ∈ ks) : ∃ new j' nv, (∀ k, dBlk roB (T (k + 5)) (roW m n h ru f g wt j ks vs) = ret (.nx (roW m n h ru f g new j' (ks ++ new) (vs ++ nv)))) ∧ InvB (G0 n) rowV (ks ++ new) (vs ++ nv) := by
  obtain ⟨j1, j2, j3, j4⟩ := j
  obtain ⟨x', new, nv, e, J'⟩ := bfs_out (Good := G0 n) (V := rowV) (set := (gNm 6).set) (body := fun k => dBlk roM (T (k + 5))) (fun (x : Slt × Slt × Slt) ks vs lt => roE m n h ru f g (.lst (wt.map sD)) x.1 x.2 ks vs lt)
    (fun here x ks vs lt J hh hl => by
      obtain ⟨x', new, nv, e, J'⟩ := ro_one h2 h4 f g (.lst (wt.map sD)) here x.1 x.2 ks vs lt J hh hl
      exact ⟨(.val (sD here), x'), new, nv, e, J'⟩) wt (j2, j3, j4) ks vs [] J hw (by simp)
  refine ⟨new, (.val (.lst (new.map sD)), x'.1, x'.2), nv, fun k => ?_, J'⟩
  have e := e k
  simp only [roE, List.nil_append, List.map_nil] at e
  unfold roB roW
  simp -implicitDefEqProofs [e, frzE]
theorem f_rows_out (s : Stg) (q : G0 n s) : ∃ ks vs, InvB (G0 n) rowV ks vs ∧ ∀ k, T (k + 6) 63 [tabD m n h ru, sD s] = ret (dD ks vs) := by
  obtain ⟨t, qt, et⟩ := f_taken h4 q
  have J0 : InvB (G0 n) rowV [t] [.tup []] := ⟨by simp, by simp [qt], rfl, by simp [rowV]⟩
  obtain ⟨j', new, nv, e, J'⟩ := bfs_wh (Good := G0 n) (V := rowV) (test := fun k => roT.den (T (k + 5))) (body := fun k => dBlk roB (T (k + 5))) (roW m n h ru (sD s) (sD t)) 12093235 (fun ks vs J => g0_few h4 J)
    (fun k wt j ks vs => by
      have e := ne_wt wt
      unfold roT roW
      simp -implicitDefEqProofs [e])
    (fun wt j ks vs J hw => ro_round h2 h4 _ _ wt j ks vs J hw) fuel [t] (.none, .none, .none, .none) [t] [.tup []] J0 (by simp) (.inr (by unfold fuel; simp))
  refine ⟨[t] ++ new, [.tup []] ++ nv, J', fun k => ?_⟩
  rw [T, ft_def (d := d_rows_out) rfl rfl rfl]
  have e := e k
  have et := et (k + 3)
  have ed : d_rows_out.body = [(sSet 2 (cCall 15 [(cVar 1)])), (sPar 3 4 (fDict1 (cVar 2) (cTup [])).x (fLst [(cVar 2)]).e.x), sWhile roT roB, (sFrz 3 (sRet (cVar 3)))] := rfl
  have e1 : fD1 (sD t) (.tup []) = some (dD [t] [.tup []]) := by
    simp [fD1, key_sD, dD]
  rw [ed]
  simp only [roW, List.map_cons, List.map_nil] at e
  have en : entE d_rows_out [tabD m n h ru, sD s] = [.val (tabD m n h ru), .val (sD s), .none, .none, .none, .none, .none, .none, .none] := rfl
  rw [en]
  simp -implicitDefEqProofs [et, e1, x_o, xF_o, mkS_o, mkS_v, e, frzE]
end
end Rf

set_option Elab.async false
set_option linter.all false
set_option maxRecDepth 100000
set_option maxHeartbeats 1000000
set_option warning.simp.otherHead false
namespace Rf
open PySem L2

/-! ## cases -/
structure Cs where
  m : Int
  n : Int
  h : Int
  ru : List Nat
  s : Stg
  g : Stg
  q : Int
  b : Nat
abbrev Cs.tab (c : Cs) : D := tabD c.m c.n c.h c.ru
abbrev Cs.pp (c : Cs) : D := pD c.m c.n c.h c.ru
def cpD (c : Cs) : D := .tup [c.pp, sD c.s, sD c.g, .int c.q, .str [c.b]]
def ccD (c : Cs) : D := .obj 12 [c.tab, sD c.g, .int c.q, .str [c.b], cpD c]
structure OkC (c : Cs) : Prop where
  o : OkP c.m c.n c.h c.ru
  s : OkS c.m c.n c.h c.ru c.s
  g : OkS c.m c.n c.h c.ru c.g
  q1 : 0 ≤ c.q
  q2 : c.q ≤ 99
  b : c.b ∈ blks c.m
theorem fy6 : fldIx 12 6 = 0 := by decide +kernel
theorem fy10 : fldIx 12 10 = 1 := by decide +kernel
theorem fy11 : fldIx 12 11 = 2 := by decide +kernel
theorem fy12 : fldIx 12 12 = 3 := by decide +kernel
theorem fy5 : fldIx 12 5 = 4 := by decide +kernel
theorem cl12 : (clF 12).length = 5 := by decide +kernel
theorem ac_tab (c : Cs) : dAttr 6 (ccD c) = ret c.tab := by funext st; simp [dAttr, ccD, fy6]
theorem ac_goal (c : Cs) : dAttr 10 (ccD c) = ret (sD c.g) := by funext st; simp [dAttr, ccD, fy10]
theorem ac_num (c : Cs) : dAttr 11 (ccD c) = ret (.int c.q) := by funext st; simp [dAttr, ccD, fy11]
theorem ac_blk (c : Cs) : dAttr 12 (ccD c) = ret (.str [c.b]) := by funext st; simp [dAttr, ccD, fy12]
theorem ac_parts (c : Cs) : dAttr 5 (ccD c) = ret (cpD c) := by funext st; simp [dAttr, ccD, fy5]
@[simp] theorem z_ac_tab : type_of% @ac_tab := @ac_tab
@[simp] theorem z_ac_goal : type_of% @ac_goal := @ac_goal
@[simp] theorem z_ac_num : type_of% @ac_num := @ac_num
@[simp] theorem z_ac_blk : type_of% @ac_blk := @ac_blk
@[simp] theorem z_ac_parts : type_of% @ac_parts := @ac_parts
theorem ty_case (st : Sto) (c : Cs) : tyOf st (ccD c) = some (.inr 12) := rfl
theorem co15 : coD 15 = .int 99 := rfl
theorem co14 : coD 14 = .frt [.str [114, 101, 97, 99, 104], .str [109, 111, 118, 101, 115], .str [102, 114, 101, 101], .str [97, 115, 105, 100, 101]] := rfl
@[simp] theorem z_co15 : type_of% @co15 := @co15
@[simp] theorem z_co14 : type_of% @co14 := @co14
theorem f_check_two (k : Nat) {m n h : Int} {ru : List Nat} {s g : Stg} (o : OkP m n h ru) (q : OkS m n h ru s) (q2 : OkS m n h ru g) : T (k + 6) 94 [tabD m n h ru, sD s, sD g] = ret .non := by
  rw [T, ft_def (d := d_check_two) rfl rfl rfl]
  have e1 := f_check_both k o q
  have e2 := f_check_standing (k + 1) o q2
  simp -implicitDefEqProofs [d_check_two, b_check_two, e1, e2]
theorem f_up_to (k : Nat) (n b : Int) (h1 : 0 ≤ n) (h2 : n ≤ b) : T (k + 3) 113 [.int n, .int b] = ret (.bl true) := by
  rw [T, ft_def (d := d_is_up_to) rfl rfl rfl]
  have e1 := f_is_between k n 0 b h1 h2
  simp -implicitDefEqProofs [d_is_up_to, b_is_up_to, e1]
theorem blk_cases {m : Int} (h1 : 1 ≤ m) (h2 : m ≤ 5) {b : Nat} (h : b ∈ blks m) : fHas (.str [b]) (.lst (signs (blks m))) = some true := by
  have e : flatD (.str [b]) = true := rfl
  have e2 : (signs (blks m)).all flatD = true := by
    rw [List.all_eq_true]
    intro d hd
    unfold signs at hd
    obtain ⟨c, _, rfl⟩ := List.mem_map.mp hd
    rfl
  unfold fHas
  simp only [e, e2, Bool.and_self, if_true]
  congr 1
  unfold hasD
  rw [List.any_eq_true]
  refine ⟨.str [b], ?_, ?_⟩
  · unfold signs
    exact List.mem_map.mpr ⟨b, h, rfl⟩
  · simp [deq]
theorem f_is_block (k : Nat) {m n h : Int} {ru : List Nat} {b : Nat} (o : OkP m n h ru) (hb : b ∈ blks m) : T (k + 2) 114 [tabD m n h ru, .str [b]] = ret (.bl true) := by
  rw [T, ft_def (d := d_is_block) rfl rfl rfl]
  have e1 := f_blocks k m o.m1 o.m2
  have e2 : fList [.str (blks m)] = some (.lst (signs (blks m))) := rfl
  have e3 : T (k + 1) 2 [.str [b], .lst (signs (blks m))] = ret (.bl true) := by
    rw [T, ft_def (d := d_is_one_of) rfl rfl rfl]
    have e4 := blk_cases o.m1 o.m2 hb
    generalize signs (blks m) = l at *
    simp -implicitDefEqProofs [d_is_one_of, b_is_one_of, e4]
  generalize signs (blks m) = l at *
  simp -implicitDefEqProofs [d_is_block, b_is_block, e1, e2, e3]
theorem f_check_block (k : Nat) {m n h : Int} {ru : List Nat} {b : Nat} (o : OkP m n h ru) (hb : b ∈ blks m) : T (k + 3) 125 [tabD m n h ru, .str [b]] = ret .non := by
  rw [T, ft_def (d := d_check_block) rfl rfl rfl]
  have e1 := f_is_block k o hb
  simp -implicitDefEqProofs [d_check_block, b_check_block, e1]
theorem f_case_init (k : Nat) {c : Cs} (o : OkC c) : T (k + 7) 126 [c.tab, sD c.s, sD c.g, .int c.q, .str [c.b]] = ret (ccD c) := by
  rw [T, ft_ini (c := 12) (d := d_Case___init__) rfl rfl rfl]
  have e1 := f_check_two k o.o o.s o.g
  have e2 := f_up_to (k + 3) c.q 99 o.q1 o.q2
  have e3 := f_check_block (k + 3) o.o o.b
  simp -implicitDefEqProofs [d_Case___init__, b_Case___init__, entI, e1, e2, e3, fy6, fy10, fy11, fy12, fy5, cl12, setF, okLen, flMI_nx, ccD, cpD, sizeLine_eq]
theorem ini12 : iniF 12 = 126 := by decide +kernel
theorem at5 (a b c d e : D) : atI [a, b, c, d, e] 0 = some a ∧ atI [a, b, c, d, e] 1 = some b ∧ atI [a, b, c, d, e] 2 = some c ∧ atI [a, b, c, d, e] 3 = some d ∧ atI [a, b, c, d, e] 4 = some e := ⟨rfl, rfl, rfl, rfl, rfl⟩
theorem f_law_case (k : Nat) {c : Cs} (o : OkC c) : T (k + 8) 135 [cpD c] = ret (ccD c) := by
  rw [T, ft_def (d := d__law_case) rfl rfl rfl]
  have e1 := f_made (k + 1) o.o
  have e2 := f_case_init k o
  obtain ⟨a0, a1, a2, a3, a4⟩ := at5 c.pp (sD c.s) (sD c.g) (.int c.q) (.str [c.b])
  simp -implicitDefEqProofs [d__law_case, b__law_case, cpD, a0, a1, a2, a3, a4, ini12, e1, e2]
theorem m_fMkK (c : Nat) (bs : List BE) (ks : List Str) (zs : List BE) (pm : List Nat) (F : FT) (r : En) : (fMkK c bs ks zs pm).den F r = bnd (dns bs F r) fun ds => bnd (dns zs F r) fun ys => F (iniF c) (arr .non pm (ds ++ ys)) := rfl
@[simp] theorem z_m_fMkK : type_of% @m_fMkK := @m_fMkK
theorem f_law_named (k : Nat) {c : Cs} (o : OkC c) : T (k + 8) 137 [cpD c] = ret (ccD c) := by
  rw [T, ft_def (d := d__law_named) rfl rfl rfl]
  have e1 := f_made (k + 1) o.o
  have e2 := f_case_init k o
  obtain ⟨a0, a1, a2, a3, a4⟩ := at5 c.pp (sD c.s) (sD c.g) (.int c.q) (.str [c.b])
  simp -implicitDefEqProofs [d__law_named, b__law_named, cpD, a0, a1, a2, a3, a4, ini12, e1, e2, arr]
theorem f_prop (k : Nat) (c : Cs) : dProp 127 (T (k + 1)) (ccD c) = ret (sD c.s) := by
  have e1 : T (k + 1) 127 [ccD c] = ret (sD c.s) := by
    rw [T, ft_def (d := d_Case_standing) rfl rfl rfl]
    obtain ⟨_, a1, _⟩ := at5 c.pp (sD c.s) (sD c.g) (.int c.q) (.str [c.b])
    simp -implicitDefEqProofs [d_Case_standing, b_Case_standing, cpD, a1]
  funext st
  unfold dProp
  have e2 : prAt 127 = some (12, (prAt 127).get!.2) := by decide +kernel
  have e3 : clI st (ccD c) = some 12 := rfl
  rw [e2, e3]
  simp only [if_true, e1]
  rfl
theorem f_check_case (k : Nat) (c : Cs) : T (k + 1) 129 [ccD c] = ret .non := by
  rw [T, ft_def (d := d_check_case) rfl rfl rfl]
  simp -implicitDefEqProofs [d_check_case, b_check_case, ty_case]
theorem ok_cp (c : Cs) : okE (cpD c) = true := by
  obtain ⟨h1, h2⟩ := datas_str c.s
  obtain ⟨g1, g2⟩ := datas_str c.g
  simp [okE, cpD, pD, sD, isData, isDatas, dep, deps, h1, h2, g1, g2]
theorem eq_cp (c d : Cs) : fEq (cpD c) (cpD d) = some (.bl (deq (cpD c) (cpD d))) := by
  unfold fEq
  rw [ok_cp, ok_cp]; rfl
theorem ne_cp (c d : Cs) : fNe (cpD c) (cpD d) = some (.bl (!deq (cpD c) (cpD d))) := by
  unfold fNe
  rw [ok_cp, ok_cp]; rfl
theorem deqs_refl_str : ∀ l : List (List Nat), deqs (l.map D.str) (l.map D.str) = true := fun l => by rw [deqs_str]; simp
theorem deq_cp (c : Cs) : deq (cpD c) (cpD c) = true := by
  simp [cpD, pD, deq, deqs, sD_deq]
theorem f_case_eq (k : Nat) (c d : Cs) : T (k + 1) 128 [ccD c, ccD d] = ret (.bl (deq (cpD c) (cpD d))) := by
  rw [T, ft_def (d := d_Case___eq__) rfl rfl rfl]
  simp -implicitDefEqProofs [d_Case___eq__, b_Case___eq__, ty_case, eq_cp]
theorem f_case_ne1 (k : Nat) (c d : Cs) : T (k + 1) 128 [ccD c, cpD d] = ret (.bl false) := by
  rw [T, ft_def (d := d_Case___eq__) rfl rfl rfl]
  have e : ∀ st, tyOf st (cpD d) = some (.inl 4) := fun _ => rfl
  simp -implicitDefEqProofs [d_Case___eq__, b_Case___eq__, e]
theorem f_case_ne2 (k : Nat) (c : Cs) (i : Int) : T (k + 1) 128 [ccD c, .int i] = ret (.bl false) := by
  rw [T, ft_def (d := d_Case___eq__) rfl rfl rfl]
  simp -implicitDefEqProofs [d_Case___eq__, b_Case___eq__]
theorem eqI_case (st : Sto) (c : Cs) : eqI st (ccD c) = some 128 := rfl
theorem eqO_case (k : Nat) (neg : Bool) (c d : Cs) : noX (fEqO (T (k + 1)) neg (ccD c) (ccD d)) = ret (.bl (deq (cpD c) (cpD d) != neg)) := by
  funext st
  unfold noX fEqO
  rw [eqI_case, ty_case]
  simp only [f_case_eq]
  cases neg <;> cases deq (cpD c) (cpD d) <;> rfl
theorem eqO_case1 (k : Nat) (c d : Cs) : noX (fEqO (T (k + 1)) false (ccD c) (cpD d)) = ret (.bl false) := by
  funext st
  have e : ∀ st, tyOf st (cpD d) = some (.inl 4) := fun _ => rfl
  unfold noX fEqO
  rw [eqI_case, e]
  simp only [f_case_ne1]
  rfl
theorem eqO_case2 (k : Nat) (c : Cs) (i : Int) : noX (fEqO (T (k + 1)) false (ccD c) (.int i)) = ret (.bl false) := by
  funext st
  unfold noX fEqO
  rw [eqI_case, ty_int]
  simp only [f_case_ne2]
  rfl
end Rf

set_option Elab.async false
set_option linter.all false
set_option maxRecDepth 100000
set_option maxHeartbeats 1000000
set_option warning.simp.otherHead false
namespace Rf
open PySem L2

@[simp] theorem z_no_den : type_of% @no_den := @no_den
@[simp] theorem z_one_den : type_of% @one_den := @one_den
/-! ## what a case tells -/
theorem idx_mem (b : Nat) : ∀ p : List Nat, b ∈ p → ∃ i, idxS b p = some i
  | [], h => by simp at h
  | x :: r, h => by
    unfold idxS
    by_cases e : x = b
    · exact ⟨0, by rw [if_pos e]⟩
    · rw [if_neg e]
      obtain ⟨i, hi⟩ := idx_mem b r (by
        rcases List.mem_cons.mp h with z | z
        · exact absurd z.symm e
        · exact z)
      exact ⟨i + 1, by rw [hi]; rfl⟩
/-- what stands for a word that a case tells -/
def tolV (r : D) : Prop := (∃ i, r = .int i) ∨ ∃ p, r = .str p
theorem f_block_on {c : Cs} (o : OkC c) : ∃ r, (∀ k, T (k + 2) 115 [ccD c] = ret r) ∧ (r = .non ∨ tolV r) := by
  have hf : c.b ∈ c.s.flatten := o.s.perm.mem_iff.mpr o.b
  obtain ⟨p0, hp0, hb0⟩ := List.mem_flatten.mp hf
  have cc : ∀ k, compGo (gNm 3).set ((BC.one (tCmp pIn (cAttr 12 (cVar 0)) (cVar 3))).den (T (k + 1))) ((cVar 3).den (T (k + 1))) [.val (ccD c), .none, .none, .none] (c.s.map D.str) [] = ret ((c.s.filter fun p => p.contains c.b).map D.str) := by
    intro k
    rw [comp_filter (strP fun p => p.contains c.b) id]
    · rw [filter_map' D.str (strP fun p => p.contains c.b) (fun p => p.contains c.b) fun _ => rfl]
      simp
    · intro d hd
      obtain ⟨p, hp, rfl⟩ := List.mem_map.mp hd
      have e : fHas (.str [c.b]) (.str p) = some (p.contains c.b) := rfl
      refine ⟨_, rfl, ?_, rfl⟩
      simp -implicitDefEqProofs [e, strP]
    · have := o.s.len
      have := o.o.n2
      simp; omega
  have hm : p0 ∈ c.s.filter fun p => p.contains c.b := List.mem_filter.mpr ⟨hp0, by simpa using hb0⟩
  have hall : ∀ p ∈ c.s.filter fun p => p.contains c.b, c.b ∈ p := fun p hp => by simpa using (List.mem_filter.mp hp).2
  generalize (c.s.filter fun p => p.contains c.b) = l at cc hm hall
  cases l with
  | nil => simp at hm
  | cons p r =>
    obtain ⟨i, hi⟩ := idx_mem c.b p (hall p (List.mem_cons_self ..))
    have e1 : fIdxS (.str p) (.str [c.b]) = some (.int (i : Int)) := by simp [fIdxS, hi]
    have e2 : items (sD c.s) = some (c.s.map D.str) := rfl
    have e3 : atI (D.str p :: r.map D.str) 0 = some (.str p) := at0 _ _
    have e4 : fSl (.str p) (some ((i : Int) + 1)) none = some (.str (cut p (some ((i : Int) + 1)) none)) := rfl
    simp -implicitDefEqProofs at cc
    generalize cut p (some ((i : Int) + 1)) none = a at e4
    by_cases ha : a = []
    · subst ha
      refine ⟨.non, fun k => ?_, .inl rfl⟩
      rw [T, ft_def (d := d_block_on) rfl rfl rfl]
      have ep := f_prop k c
      have cc := cc k
      simp -implicitDefEqProofs [d_block_on, b_block_on, ep, e1, e2, cc, e3, e4]
    · have ha' : (a == []) = false := beq_eq_false_iff_ne.mpr ha
      obtain ⟨x, y, rfl⟩ := List.exists_cons_of_ne_nil ha
      have e5 : atI (x :: y) 0 = some x := at0 _ _
      refine ⟨.str [x], fun k => ?_, .inr (.inr ⟨_, rfl⟩)⟩
      rw [T, ft_def (d := d_block_on) rfl rfl rfl]
      have ep := f_prop k c
      have cc := cc k
      simp -implicitDefEqProofs [d_block_on, b_block_on, ep, e1, e2, cc, e3, e4, ha', e5]
theorem f_far {m n h : Int} {ru : List Nat} (o : OkP m n h ru) (s : Stg) (q : OkS m n h ru s) : ∃ ks vs, InvB (OkS m n h ru) intV ks vs ∧ s ∈ ks ∧ ∀ k, T (k + 6) 96 [tabD m n h ru, sD s] = ret (dD ks vs) := by
  obtain ⟨ks, vs, J, hs, e⟩ := f_far_some o s q
  refine ⟨ks, vs, J, hs, fun k => ?_⟩
  rw [T, ft_def (d := d_far_from) rfl rfl rfl]
  have e := e k
  simp -implicitDefEqProofs [d_far_from, b_far_from, e]
theorem isDct_d (ks : List Stg) (vs : List D) : isDct (dD ks vs) = true := rfl
theorem f_to_goal {c : Cs} (o : OkC c) : ∃ r, (∀ k, T (k + 7) 116 [ccD c] = ret r) ∧ (r = .non ∨ ∃ i, r = .int i) := by
  obtain ⟨ks, vs, J, hs, e⟩ := f_far o.o c.s o.s
  have ed := isDct_d ks vs
  rcases dget_any c.g J.len with eg | ⟨v, hv, eg⟩
  · refine ⟨.non, fun k => ?_, .inl rfl⟩
    rw [T, ft_def (d := d_fewest_to_goal) rfl rfl rfl]
    have e := e k
    have ep := f_prop (k + 5) c
    simp -implicitDefEqProofs [d_fewest_to_goal, b_fewest_to_goal, ep, e, eg, ed]
  · obtain ⟨i, rfl⟩ := J.val v hv
    refine ⟨.int i, fun k => ?_, .inr ⟨i, rfl⟩⟩
    rw [T, ft_def (d := d_fewest_to_goal) rfl rfl rfl]
    have e := e k
    have ep := f_prop (k + 5) c
    simp -implicitDefEqProofs [d_fewest_to_goal, b_fewest_to_goal, ep, e, eg, ed]
theorem f_row_out {m n h : Int} {ru : List Nat} (h2 : 2 ≤ n) (h4 : n ≤ 4) {s : Stg} (q : G0 n s) : ∃ r, (∀ k, T (k + 7) 64 [tabD m n h ru, sD s] = ret r) ∧ (r = .non ∨ ∃ l, r = .tup l) := by
  obtain ⟨ks, vs, J, e⟩ := f_rows_out (m := m) (h := h) (ru := ru) h2 h4 s q
  have ed := isDct_d ks vs
  have em : fMul (.tup [.str []]) (.int n) = some (sD (List.replicate n.toNat [])) := by
    have : n = 2 ∨ n = 3 ∨ n = 4 := by omega
    rcases this with rfl | rfl | rfl <;> rfl
  rcases dget_any (List.replicate n.toNat []) J.len with eg | ⟨v, hv, eg⟩
  · refine ⟨.non, fun k => ?_, .inl rfl⟩
    rw [T, ft_def (d := d_row_out) rfl rfl rfl]
    have e := e k
    simp -implicitDefEqProofs [d_row_out, b_row_out, e, ed, em, eg]
  · obtain ⟨l, rfl, _⟩ := J.val v hv
    refine ⟨.tup l, fun k => ?_, .inr ⟨l, rfl⟩⟩
    rw [T, ft_def (d := d_row_out) rfl rfl rfl]
    have e := e k
    simp -implicitDefEqProofs [d_row_out, b_row_out, e, ed, em, eg]
theorem f_few_out {c : Cs} (o : OkC c) : ∃ r, (∀ k, T (k + 8) 117 [ccD c] = ret r) ∧ (r = .non ∨ ∃ i, r = .int i) := by
  obtain ⟨r, e, hr⟩ := f_row_out (m := c.m) (h := c.h) (ru := c.ru) o.o.n1 o.o.n2 (o.s.g0 o.o)
  rcases hr with rfl | ⟨l, rfl⟩
  · refine ⟨.non, fun k => ?_, .inl rfl⟩
    rw [T, ft_def (d := d_fewest_out) rfl rfl rfl]
    have e := e k
    have ep := f_prop (k + 6) c
    simp -implicitDefEqProofs [d_fewest_out, b_fewest_out, ep, e]
  · refine ⟨.int l.length, fun k => ?_, .inr ⟨_, rfl⟩⟩
    rw [T, ft_def (d := d_fewest_out) rfl rfl rfl]
    have e := e k
    have ep := f_prop (k + 6) c
    simp -implicitDefEqProofs [d_fewest_out, b_fewest_out, ep, e]
theorem f_too_much (c : Cs) {r : D} (h : r = .non ∨ ∃ i, r = .int i) : ∃ b, (∀ k, T (k + 1) 118 [ccD c, r] = ret (.bl b)) ∧ (b = false → ∃ i, r = .int i) := by
  rcases h with rfl | ⟨i, rfl⟩
  · refine ⟨true, fun k => ?_, by simp⟩
    rw [T, ft_def (d := d_is_too_much) rfl rfl rfl]
    simp -implicitDefEqProofs [d_is_too_much, b_is_too_much]
  · refine ⟨decide (i > c.q), fun k => ?_, fun _ => ⟨i, rfl⟩⟩
    rw [T, ft_def (d := d_is_too_much) rfl rfl rfl]
    simp -implicitDefEqProofs [d_is_too_much, b_is_too_much]
def wReach : List Nat := [114, 101, 97, 99, 104]
def wMoves : List Nat := [109, 111, 118, 101, 115]
def wFree : List Nat := [102, 114, 101, 101]
def wAside : List Nat := [97, 115, 105, 100, 101]
theorem f_told {c : Cs} (o : OkC c) {w : List Nat} (hw : w ∈ [wReach, wMoves, wFree, wAside]) : ∃ l, (∀ k, T (k + 9) 119 [ccD c, .str w] = ret (.lst l)) ∧ (l = [] ∨ ∃ x, l = [x] ∧ (x = .non ∨ tolV x)) := by
  simp only [List.mem_cons, List.not_mem_nil, or_false] at hw
  rcases hw with rfl | rfl | rfl | rfl
  · obtain ⟨ks, vs, J, hs, e⟩ := f_far o.o c.s o.s
    by_cases hg : c.g ∈ ks
    · have ei := isin_in J.len hg
      refine ⟨[], fun k => ?_, .inl rfl⟩
      rw [T, ft_def (d := d_told_by) rfl rfl rfl]
      have ep := f_prop (k + 7) c
      have e := e (k + 2)
      simp -implicitDefEqProofs [d_told_by, b_told_by, wReach, ep, e, ei]
    · have ei := isin_out (vs := vs) hg
      have el : fLenD [dD ks vs] = some (.int vs.length) := rfl
      refine ⟨[.int vs.length], fun k => ?_, .inr ⟨_, rfl, .inr (.inl ⟨_, rfl⟩)⟩⟩
      rw [T, ft_def (d := d_told_by) rfl rfl rfl]
      have ep := f_prop (k + 7) c
      have e := e (k + 2)
      simp -implicitDefEqProofs [d_told_by, b_told_by, wReach, ep, e, ei, el]
  · obtain ⟨r, e, hr⟩ := f_to_goal o
    obtain ⟨b, e2, hb⟩ := f_too_much c hr
    have hr' : r = .non ∨ tolV r := hr.imp id .inl
    cases b with
    | true =>
      refine ⟨[r], fun k => ?_, .inr ⟨r, rfl, hr'⟩⟩
      rw [T, ft_def (d := d_told_by) rfl rfl rfl]
      have e := e (k + 1)
      have e2 := e2 (k + 7)
      simp -implicitDefEqProofs [d_told_by, b_told_by, wMoves, e, e2]
    | false =>
      refine ⟨[], fun k => ?_, .inl rfl⟩
      rw [T, ft_def (d := d_told_by) rfl rfl rfl]
      have e := e (k + 1)
      have e2 := e2 (k + 7)
      simp -implicitDefEqProofs [d_told_by, b_told_by, wMoves, e, e2]
  · obtain ⟨r, e, hr⟩ := f_block_on o
    rcases hr with rfl | hr
    · refine ⟨[], fun k => ?_, .inl rfl⟩
      rw [T, ft_def (d := d_told_by) rfl rfl rfl]
      have e := e (k + 6)
      simp -implicitDefEqProofs [d_told_by, b_told_by, wFree, e]
    · refine ⟨[r], fun k => ?_, .inr ⟨r, rfl, .inr hr⟩⟩
      rw [T, ft_def (d := d_told_by) rfl rfl rfl]
      have e := e (k + 6)
      rcases hr with ⟨i, rfl⟩ | ⟨p, rfl⟩ <;> simp -implicitDefEqProofs [d_told_by, b_told_by, wFree, e]
  · obtain ⟨r, e, hr⟩ := f_few_out o
    obtain ⟨b, e2, hb⟩ := f_too_much c hr
    have hr' : r = .non ∨ tolV r := hr.imp id .inl
    cases b with
    | true =>
      refine ⟨[r], fun k => ?_, .inr ⟨r, rfl, hr'⟩⟩
      rw [T, ft_def (d := d_told_by) rfl rfl rfl]
      have e := e k
      have e2 := e2 (k + 7)
      simp -implicitDefEqProofs [d_told_by, b_told_by, wAside, e, e2]
    | false =>
      refine ⟨[], fun k => ?_, .inl rfl⟩
      rw [T, ft_def (d := d_told_by) rfl rfl rfl]
      have e := e k
      have e2 := e2 (k + 7)
      simp -implicitDefEqProofs [d_told_by, b_told_by, wAside, e, e2]
theorem f_broken {c : Cs} (o : OkC c) {w : List Nat} (hw : w ∈ [wReach, wMoves, wFree, wAside]) : ∃ r, (∀ k, T (k + 10) 122 [ccD c, .str w] = ret r) ∧ (r = .non ∨ ∃ l, r = .tup l) := by
  obtain ⟨l, e, hl⟩ := f_told o hw
  rcases hl with rfl | ⟨x, rfl, hx⟩
  · have e1 : fEq (.lst []) (.lst []) = some (.bl true) := rfl
    refine ⟨.non, fun k => ?_, .inl rfl⟩
    rw [T, ft_def (d := d_broken) rfl rfl rfl]
    have e := e k
    simp -implicitDefEqProofs [d_broken, b_broken, e, e1]
  · have e1 : fEq (.lst [x]) (.lst []) = some (.bl false) := by
      rcases hx with rfl | ⟨i, rfl⟩ | ⟨p, rfl⟩ <;> rfl
    have e2 : atI [x] 0 = some x := at0 _ _
    refine ⟨.tup [.str w, x], fun k => ?_, .inr ⟨_, rfl⟩⟩
    rw [T, ft_def (d := d_broken) rfl rfl rfl]
    have e := e k
    simp -implicitDefEqProofs [d_broken, b_broken, e, e1, e2]
theorem f_faults {c : Cs} (o : OkC c) : ∃ l : List (List Nat), l.length ≤ 4 ∧ ∀ k, T (k + 11) 130 [ccD c] = ret (.tup (l.map D.str)) := by
  have hb : ∀ w : List Nat, ∃ b : Bool, w ∈ [wReach, wMoves, wFree, wAside] → ∀ k, (tCmp pIsNot (cCall 122 [(cVar 0), (cVar 1)]) cNon).den (T (k + 10)) [.val (ccD c), .val (.str w)] = ret b := fun w => by
    by_cases hw : w ∈ [wReach, wMoves, wFree, wAside]
    · obtain ⟨r, e, hr⟩ := f_broken o hw
      rcases hr with rfl | ⟨l, rfl⟩
      · exact ⟨false, fun _ k => by have e := e k; simp -implicitDefEqProofs [e]⟩
      · exact ⟨true, fun _ k => by have e := e k; simp -implicitDefEqProofs [e]⟩
    · exact ⟨false, fun h => absurd h hw⟩
  let P : List Nat → Bool := fun w => (hb w).choose
  have cc : ∀ k, compGo (gNm 1).set ((BC.one (tCmp pIsNot (cCall 122 [(cVar 0), (cVar 1)]) cNon)).den (T (k + 10))) ((cVar 1).den (T (k + 10))) [.val (ccD c), .none] ([wReach, wMoves, wFree, wAside].map D.str) [] = ret (([wReach, wMoves, wFree, wAside].filter P).map D.str) := by
    intro k
    rw [comp_filter (strP P) id]
    · rw [filter_map' D.str (strP P) P fun _ => rfl, List.nil_append, List.map_id_fun]
      rfl
    · intro d hd
      obtain ⟨w, hw, rfl⟩ := List.mem_map.mp hd
      exact ⟨_, rfl, (hb w).choose_spec hw k, rfl⟩
    · simp
  refine ⟨[wReach, wMoves, wFree, wAside].filter P, List.length_filter_le _ _, fun k => ?_⟩
  rw [T, ft_def (d := d_faults) rfl rfl rfl]
  have e1 := f_check_case (k + 9) c
  have hl : ([wReach, wMoves, wFree, wAside].filter P).length ≤ 4 := List.length_filter_le _ _
  have cc := cc k
  generalize [wReach, wMoves, wFree, wAside].filter P = l at cc hl
  simp -implicitDefEqProofs [wReach, wMoves, wFree, wAside] at cc
  have e2 : items (.frt [.str [114, 101, 97, 99, 104], .str [109, 111, 118, 101, 115], .str [102, 114, 101, 101], .str [97, 115, 105, 100, 101]]) = some [.str [114, 101, 97, 99, 104], .str [109, 111, 118, 101, 115], .str [102, 114, 101, 101], .str [97, 115, 105, 100, 101]] := rfl
  have hl2 : l.length ≤ 16777216 := by omega
  simp -implicitDefEqProofs [d_faults, b_faults, e1, e2, cc, hl2]
theorem eq_strs0 (l : List (List Nat)) : fEq (.tup (l.map D.str)) (.tup []) = some (.bl (l == [])) := eq_strs l []
theorem f_sound (k : Nat) {c : Cs} {l : List (List Nat)} (e : T (k + 11) 130 [ccD c] = ret (.tup (l.map D.str))) : T (k + 12) 131 [ccD c] = ret (.bl (l == [])) := by
  rw [T, ft_def (d := d_is_sound) rfl rfl rfl]
  have e1 := eq_strs0 l
  simp -implicitDefEqProofs [d_is_sound, b_is_sound, e, e1]
end Rf

set_option Elab.async false
set_option linter.all false
set_option maxRecDepth 100000
set_option maxHeartbeats 1000000
set_option warning.simp.otherHead false
namespace Rf
open PySem L2

theorem f_of_str (k : Nat) {w : Nat} {st : Sto} {l : List Nat} (hl : l ≠ []) (hz : l.length < 1073741824) (hw : WellAt w st) :
    ∃ x ∈ l, ∃ st', WellAt w st' ∧ st'.length = st.length ∧ T (k + 2) 35 [.loc w, .str l] st = .ok (.str [x]) st' := by
  rw [T, ft_def (d := d__law_of) rfl rfl rfl]
  have hp : 0 < l.length := List.length_pos_iff.mpr hl
  obtain ⟨f, st', q1, q2, q3, q4, q5⟩ := f_draw' k (w := w) (st := st) (many := l.length) (by omega) (by omega) hw
  obtain ⟨x, hx, ha⟩ := at_mem (l := l) q1 (by omega)
  refine ⟨x, hx, st', q3, q4, ?_⟩
  simp -implicitDefEqProofs [d__law_of, b__law_of, flM_ap, bnd_ap, ret_ap, q5, ha, flD]
theorem isC_str : ∀ s : List (List Nat), isCs (s.map D.str) = true
  | [] => rfl
  | x :: s => by simp [isCs, isC, isC_str s]
theorem cmps_str : ∀ s t : List (List Nat), cmpsOk (s.map D.str) (t.map D.str) = true
  | [], _ => by simp [cmpsOk]
  | _ :: _, [] => by simp [cmpsOk]
  | x :: s, y :: t => by simp [cmpsOk, cmpOk, cmps_str s t]
theorem isC_s : ∀ l : List Stg, isCs (l.map sD) = true
  | [] => rfl
  | x :: l => by simp [isCs, isC, sD, isC_str x]; exact isC_s l
theorem sort_s {l : List Stg} (h : ∀ s ∈ l, s ≠ []) : sortOk (l.map sD) = true := by
  have h1 := isC_s l
  have h2 : ((l.map sD).all fun a => (l.map sD).all fun b => cmpOk a b) = true := by
    rw [List.all_eq_true]
    intro a ha
    rw [List.all_eq_true]
    intro b hb
    obtain ⟨s, _, rfl⟩ := List.mem_map.mp ha
    obtain ⟨t, _, rfl⟩ := List.mem_map.mp hb
    simp [sD, cmpOk, cmps_str]
  have h3 : deps (l.map sD) < 60 := by
    have := (datas_s l).2
    omega
  have h4 : kindOk (l.map sD) = true := by
    have ft : ∀ s ∈ l, ∀ t ∈ l, fstTy (sD s) = fstTy (sD t) ∧ (fstTy (sD s)).isSome = true := by
      intro s hs t ht
      obtain ⟨a, r, rfl⟩ := List.exists_cons_of_ne_nil (h s hs)
      obtain ⟨b, r2, rfl⟩ := List.exists_cons_of_ne_nil (h t ht)
      exact ⟨rfl, rfl⟩
    cases l with
    | nil => rfl
    | cons s r =>
      have h0 := ft s (List.mem_cons_self ..) s (List.mem_cons_self ..)
      change ((fstTy (sD s)).isSome && ((s :: r).map sD).all fun e => decide (fstTy e = fstTy (sD s))) = true
      rw [h0.2, Bool.true_and, List.all_eq_true]
      intro e he
      obtain ⟨t, ht, rfl⟩ := List.mem_map.mp he
      exact decide_eq_true (ft t ht s (List.mem_cons_self ..)).1
  unfold sortOk
  rw [h1, h2, h4, decide_eq_true h3]
  rfl
theorem last_key {m n h : Int} {ru : List Nat} (o : OkP m n h ru) {ks : List Stg} (hk : ∀ s ∈ ks, OkS m n h ru s) {s0 : Stg} (h0 : s0 ∈ ks) : ∃ g, OkS m n h ru g ∧ fSortedD [.lst (ks.map sD)] = some (.lst (srtD (ks.map sD))) ∧ atI (srtD (ks.map sD)) (-1) = some (sD g) := by
  have hs := sort_s (l := ks) fun s hs e => by
    have h1 := (hk s hs).len
    have h2 := o.n1
    rw [e] at h1
    simp at h1
    omega
  have hp : (srtD (ks.map sD)).Perm (ks.map sD) := List.mergeSort_perm _ _
  have hne : srtD (ks.map sD) ≠ [] := by
    intro e
    have := hp.length_eq
    rw [e] at this
    have h1 : 0 < ks.length := List.length_pos_of_mem h0
    simp at this
    omega
  have hm := hp.mem_iff.mp (List.getLast_mem hne)
  obtain ⟨g, hg, e⟩ := List.mem_map.mp hm
  refine ⟨g, hk g hg, ?_, by rw [at_last hne, e]⟩
  unfold fSortedD
  simp only
  rw [if_pos hs]
theorem cut_blk {m : Int} (h1 : 1 ≤ m) (h2 : m ≤ 5) : fSl (.str [97, 98, 99, 100, 101]) none (some m) = some (.str (blks m)) := by
  have : m = 1 ∨ m = 2 ∨ m = 3 ∨ m = 4 ∨ m = 5 := by omega
  rcases this with rfl | rfl | rfl | rfl | rfl <;> rfl
theorem blk_ne {m : Int} (h1 : 1 ≤ m) (h2 : m ≤ 5) : blks m ≠ [] := by
  intro e
  have := blks_len m h1 h2
  rw [e] at this
  simp at this
  omega
theorem f_case_parts (k : Nat) {w : Nat} {st : Sto} {most tp : Int} (h1 : 1 ≤ most) (h2 : most ≤ 5) (h3 : 2 ≤ tp) (h4 : tp ≤ 4) (hw : WellAt w st) :
    ∃ c st', OkC c ∧ WellAt w st' ∧ st'.length = st.length ∧ T (k + 5) 134 [.loc w, .int most, .int tp] st = .ok (cpD c) st' := by
  rw [T, ft_def (d := d__law_case_parts) rfl rfl rfl]
  obtain ⟨m, n, h, ru, st1, o, _, _, w1, l1, e1⟩ := f_table (k + 1) h1 h2 h3 h4 hw
  obtain ⟨s, st2, q, w2, l2, e2⟩ := f_standing (k + 1) o w1
  obtain ⟨s2, st3, q2, w3, l3, e3⟩ := f_standing (k + 1) o w2
  obtain ⟨ks, vs, J, hs, e4⟩ := f_law_far o s q
  have e4 := e4 k
  obtain ⟨s3, q3, g1, g2⟩ := last_key o J.good hs
  have gl : fListD [dD ks vs] = some (.lst (ks.map sD)) := rfl
  obtain ⟨x, hx, st4, w4, l4, e5⟩ := f_of_lst (k + 2) (l := [sD s2, sD s3, sD s]) (by simp) (by simp) w3
  obtain ⟨g, hg, rfl⟩ : ∃ g, OkS m n h ru g ∧ x = sD g := by
    simp only [List.mem_cons, List.not_mem_nil, or_false] at hx
    rcases hx with rfl | rfl | rfl
    · exact ⟨_, q2, rfl⟩
    · exact ⟨_, q3, rfl⟩
    · exact ⟨_, q, rfl⟩
  obtain ⟨y, hy, st5, w5, l5, e6⟩ := f_of_tup (k + 2) (l := [.int 0, .int 1, .int 2, .int 4, .int 99]) (by simp) (by simp) w4
  obtain ⟨i, hi1, hi2, rfl⟩ : ∃ i : Int, 0 ≤ i ∧ i ≤ 99 ∧ y = .int i := by
    simp only [List.mem_cons, List.not_mem_nil, or_false] at hy
    rcases hy with rfl | rfl | rfl | rfl | rfl <;> exact ⟨_, by omega, by omega, rfl⟩
  obtain ⟨b, hb, st6, w6, l6, e7⟩ := f_of_str (k + 2) (l := blks m) (blk_ne o.m1 o.m2) (by rw [blks_len m o.m1 o.m2]; have := o.m2; omega) w5
  refine ⟨⟨m, n, h, ru, s, g, i, b⟩, st6, ⟨o, q, hg, hi1, hi2, hb⟩, w6, by omega, ?_⟩
  obtain ⟨a0, _⟩ := at4 (.int m) (.int n) (.int h) (.str ru)
  have gc := cut_blk o.m1 o.m2
  have p0 : ∀ st, fIxW st (pD m n h ru) (.int 0) = some (.int m) := fun _ => rfl
  generalize srtD (ks.map sD) = sl at g1 g2
  simp -implicitDefEqProofs [d__law_case_parts, b__law_case_parts, flM_ap, bnd_ap, ret_ap, e1, e2, e3, e4, gl, g1, g2, e5, e6, p0, gc, e7, flD, cpD]
end Rf

set_option Elab.async false
set_option linter.all false
set_option maxRecDepth 100000
set_option maxHeartbeats 1000000
set_option warning.simp.otherHead false
namespace Rf
open PySem L2

theorem m_cEqO (neg : Bool) (a b : BE) (F : FT) (r : En) : (cEqO neg a b).den F r = bnd (a.den F r) fun x => bnd (b.den F r) fun y => noX (fEqO F neg x y) := rfl
@[simp] theorem z_m_cEqO : type_of% @m_cEqO := @m_cEqO
def rA : BS := sPar 6 7 (cCall 134 [(cVar 0), (cInt 3), (cInt 3)]).x (cCall 134 [(cVar 0), (cInt 3), (cInt 3)]).x
def rB : BS := sPar 8 9 (cCall 135 [(cVar 6)]).x (cCall 137 [(cVar 6)]).x
def rC1 : List BS := [(sIf (tNot (tVal (cCall 36 [(fLst [(cAttr 5 (cAttr 6 (cVar 2))), (cProp 127 (cVar 2)), (cAttr 10 (cVar 2)), (cAttr 11 (cVar 2)), (cAttr 12 (cVar 2)), (cAttr 5 (cVar 2))]).e, (cBin oAdd (fBi bList [(cVar 6).p]).e (fLst [(cVar 6)]).e)]))) [(sRet (cBl false))] [])]
def rC : BS := sFor (iSeq (fLst [(cVar 8), (cVar 9)]).e) (gNm 2) rC1
def rD : BS := sIf (tOr [(tNot (tEqO false (cVar 8) (cVar 9))), (tEqO true (cVar 8) (cVar 9)), (tEqO false (cVar 8) (cVar 6)), (tEqO false (cVar 8) (cInt 5)), (tEqO true (cAttr 6 (cVar 8)) (cCall 38 [(cIx (cVar 6).p (cInt 0))])), (tNot (tIns (cVar 8)))]) [(sRet (cBl false))] []
def rE : BS := sSet 3 (fLst [(cBin oAdd (cBin oAdd (cSl (cVar 6) noPart (part (cInt 1))) (cTup [(cCall 91 [(cVar 0), (cIx (cVar 6).p (cInt 0))])])) (cSl (cVar 6) (part (cInt 2)) noPart)), (cBin oAdd (cBin oAdd (cSl (cVar 6) noPart (part (cInt 2))) (cTup [(cCall 91 [(cVar 0), (cIx (cVar 6).p (cInt 0))])])) (cSl (cVar 6) (part (cInt 3)) noPart)), (cBin oAdd (cSl (cVar 6) noPart (part (cInt 3))) (cTup [(cIx (cVar 7).p (cInt 3)), (cIx (cVar 6).p (cInt 4))]))]).e
def rE2 : BS := sSet 3 (cBin oAdd (cVar 3) (fLst [(cBin oAdd (cSl (cVar 6) noPart (part (cInt 4))) (cTup [(cCall 35 [(cVar 0), (cSl (cStr [97, 98, 99, 100, 101]) noPart (part (cIx (cIx (cVar 6).p (cInt 0)).p (cInt 0))))])])), (cVar 7)]).e)
def rF1 : List BS := [(sSet 10 (cCall 135 [(cVar 4)])), (sIf (tOr [(tCmp pNe (cEqO false (cVar 8) (cVar 10)) (cCmp pEq (cVar 6) (cVar 4))), (tCmp pNe (cEqO true (cVar 8) (cVar 10)) (cCmp pNe (cVar 6) (cVar 4)))]) [(sRet (cBl false))] [])]
def rF : BS := sFor (iSeq (cVar 3)) (gNm 4) rF1
def rG : BS := sSet 5 (cCall 130 [(cVar 8)])
def rH : BS := sIf (tNot (tVal (cCall 36 [(fLst [(cCall 130 [(cVar 9)]), (cCall 131 [(cVar 9)]), (cAttr 5 (cVar 8)), (cAttr 11 (cVar 8))]).e, (fLst [(cVar 5), (cCmp pEq (cVar 5) (cTup [])), (cVar 6), (cIx (cVar 6).p (cInt 3))]).e]))) [(sRet (cBl false))] []
def rAll : List BS := [rA, rB, rC, rD, rE, rE2, rF, rG, rH]
theorem right_def : d__law_right.body = [sFor (iRng1 (cInt 3)) (gNm 1) rAll, (sRet (cBl true))] := rfl
theorem same_cp (c : Cs) (h1 : c.s.length ≤ 1000) (h2 : c.g.length ≤ 1000) : SameN 2 (cpD c) := ⟨by simp, fun d hd => by
  simp only [List.mem_cons, List.not_mem_nil, or_false] at hd
  rcases hd with rfl | rfl | rfl | rfl | rfl
  · exact same_p _ _ _ _
  · exact same_strs _ h1
  · exact same_strs _ h2
  · trivial
  · trivial⟩
section
variable (k : Nat) {c d : Cs} (o : OkC c) (od : OkC d) {w : Nat} {st : Sto}
include o in
theorem OkC.sl : c.s.length ≤ 1000 ∧ c.g.length ≤ 1000 := by
  have h1 := o.s.len
  have h2 := o.g.len
  have h3 := o.o.n2
  omega
theorem right_a (hw : WellAt w st) (a1 a2 a3 a4 a5 a6 a7 a8 a9 a10 : Slt) : ∃ c d st', OkC c ∧ OkC d ∧ WellAt w st' ∧ st'.length = st.length ∧ rA.den (T (k + 12)) [.val (.loc w), a1, a2, a3, a4, a5, a6, a7, a8, a9, a10] st = .ok (.nx [.val (.loc w), a1, a2, a3, a4, a5, .val (cpD c), .val (cpD d), a8, a9, a10]) st' := by
  obtain ⟨c, st1, o, w1, l1, e1⟩ := f_case_parts (k + 7) (most := 3) (tp := 3) (by omega) (by omega) (by omega) (by omega) hw
  obtain ⟨d, st2, od, w2, l2, e2⟩ := f_case_parts (k + 7) (most := 3) (tp := 3) (by omega) (by omega) (by omega) (by omega) w1
  refine ⟨c, d, st2, o, od, w2, by omega, ?_⟩
  unfold rA
  simp -implicitDefEqProofs [bnd_ap, ret_ap, e1, e2, x_o, mkS_v]
include o
theorem right_b (a1 a2 a3 a4 a5 a8 a9 a10 : Slt) : rB.den (T (k + 12)) [.val (.loc w), a1, a2, a3, a4, a5, .val (cpD c), .val (cpD d), a8, a9, a10] = ret (.nx [.val (.loc w), a1, a2, a3, a4, a5, .val (cpD c), .val (cpD d), .val (ccD c), .val (ccD c), a10]) := by
  have e1 := f_law_case (k + 4) o
  have e2 := f_law_named (k + 4) o
  unfold rB
  simp -implicitDefEqProofs [e1, e2, x_o, mkS_v]
theorem right_c1 (a1 a3 a4 a5 a10 : Slt) : dBlk rC1 (T (k + 12)) [.val (.loc w), a1, .val (ccD c), a3, a4, a5, .val (cpD c), .val (cpD d), .val (ccD c), .val (ccD c), a10] = ret (.nx [.val (.loc w), a1, .val (ccD c), a3, a4, a5, .val (cpD c), .val (cpD d), .val (ccD c), .val (ccD c), a10]) := by
  have ep := f_prop (k + 11) c
  have e2 : fList [cpD c] = some (.lst [c.pp, sD c.s, sD c.g, .int c.q, .str [c.b]]) := rfl
  have e3 : fAdd (.lst [c.pp, sD c.s, sD c.g, .int c.q, .str [c.b]]) (.lst [cpD c]) = some (.lst [c.pp, sD c.s, sD c.g, .int c.q, .str [c.b], cpD c]) := by
    simp
  have e4 : T (k + 12) 36 [.lst [c.pp, sD c.s, sD c.g, .int c.q, .str [c.b], cpD c], .lst [c.pp, sD c.s, sD c.g, .int c.q, .str [c.b], cpD c]] = ret (.bl true) := f_same 3 _ (sameL (by simp) fun d hd => by
    simp only [List.mem_cons, List.not_mem_nil, or_false] at hd
    obtain ⟨h1, h2⟩ := o.sl
    rcases hd with rfl | rfl | rfl | rfl | rfl | rfl
    · exact same_one (same_p _ _ _ _)
    · exact same_one (same_strs _ h1)
    · exact same_one (same_strs _ h2)
    · trivial
    · trivial
    · exact same_cp c h1 h2) (k + 8)
  unfold rC1
  simp -implicitDefEqProofs [ep, e2, e4]
theorem right_c (a1 a2 a3 a4 a5 a10 : Slt) : rC.den (T (k + 12)) [.val (.loc w), a1, a2, a3, a4, a5, .val (cpD c), .val (cpD d), .val (ccD c), .val (ccD c), a10] = ret (.nx [.val (.loc w), a1, .val (ccD c), a3, a4, a5, .val (cpD c), .val (cpD d), .val (ccD c), .val (ccD c), a10]) := by
  have e := right_c1 k o (d := d) (w := w) a1 a3 a4 a5 a10
  unfold rC
  simp -implicitDefEqProofs [forGo, m_gNm, e]
theorem right_d (a1 a2 a3 a4 a5 a10 : Slt) : rD.den (T (k + 12)) [.val (.loc w), a1, a2, a3, a4, a5, .val (cpD c), .val (cpD d), .val (ccD c), .val (ccD c), a10] = ret (.nx [.val (.loc w), a1, a2, a3, a4, a5, .val (cpD c), .val (cpD d), .val (ccD c), .val (ccD c), a10]) := by
  have q1 := eqO_case (k + 11) false c c
  have q2 := eqO_case (k + 11) true c c
  have q3 := eqO_case1 (k + 11) c c
  have q4 := eqO_case2 (k + 11) c 5
  have q5 := eqO_tab (k + 11) c.m c.n c.h c.ru
  have q6 := f_made (k + 6) o.o
  have q7 : ∀ st, clI st (ccD c) = some 12 := fun _ => rfl
  have p0 : ∀ st, fIxW st (cpD c) (.int 0) = some c.pp := fun _ => rfl
  rw [deq_cp] at q1 q2
  unfold rD
  simp -implicitDefEqProofs [q1, q2, q3, q4, q5, q6, q7, p0]
  rfl
include od
theorem right_e (hw : WellAt w st) (a1 a2 a3 a4 a5 a10 : Slt) : ∃ s g st', OkS c.m c.n c.h c.ru s ∧ OkS c.m c.n c.h c.ru g ∧ WellAt w st' ∧ st'.length = st.length ∧ rE.den (T (k + 12)) [.val (.loc w), a1, a2, a3, a4, a5, .val (cpD c), .val (cpD d), .val (ccD c), .val (ccD c), a10] st = .ok (.nx [.val (.loc w), a1, a2, .val (.lst [cpD { c with s := s }, cpD { c with g := g }, cpD { c with q := d.q }]), a4, a5, .val (cpD c), .val (cpD d), .val (ccD c), .val (ccD c), a10]) st' := by
  obtain ⟨s, st1, q1, w1, l1, e1⟩ := f_standing (k + 9) o.o hw
  obtain ⟨g, st2, q2, w2, l2, e2⟩ := f_standing (k + 9) o.o w1
  refine ⟨s, g, st2, q1, q2, w2, by omega, ?_⟩
  have p0 : ∀ st, fIxW st (cpD c) (.int 0) = some c.pp := fun _ => rfl
  have p4 : ∀ st, fIxW st (cpD c) (.int 4) = some (.str [c.b]) := fun _ => rfl
  have p3 : ∀ st, fIxW st (cpD d) (.int 3) = some (.int d.q) := fun _ => rfl
  have s1 : fSl (cpD c) none (some 1) = some (.tup [c.pp]) := rfl
  have s2 : fSl (cpD c) (some 2) none = some (.tup [sD c.g, .int c.q, .str [c.b]]) := rfl
  have s3 : fSl (cpD c) none (some 2) = some (.tup [c.pp, sD c.s]) := rfl
  have s4 : fSl (cpD c) (some 3) none = some (.tup [.int c.q, .str [c.b]]) := rfl
  have s5 : fSl (cpD c) none (some 3) = some (.tup [c.pp, sD c.s, sD c.g]) := rfl
  unfold rE
  simp -implicitDefEqProofs [bnd_ap, ret_ap, e1, e2, p0, p4, p3, s1, s2, s3, s4, s5]
  exact ⟨rfl, rfl, rfl⟩
theorem right_e2 (hw : WellAt w st) (x y z : D) (a1 a2 a4 a5 a10 : Slt) : ∃ b st', b ∈ blks c.m ∧ WellAt w st' ∧ st'.length = st.length ∧ rE2.den (T (k + 12)) [.val (.loc w), a1, a2, .val (.lst [x, y, z]), a4, a5, .val (cpD c), .val (cpD d), .val (ccD c), .val (ccD c), a10] st = .ok (.nx [.val (.loc w), a1, a2, .val (.lst [x, y, z, cpD { c with b := b }, cpD d]), a4, a5, .val (cpD c), .val (cpD d), .val (ccD c), .val (ccD c), a10]) st' := by
  obtain ⟨b, hb, st1, w1, l1, e1⟩ := f_of_str (k + 10) (l := blks c.m) (blk_ne o.o.m1 o.o.m2) (by rw [blks_len c.m o.o.m1 o.o.m2]; have := o.o.m2; omega) hw
  refine ⟨b, st1, hb, w1, l1, ?_⟩
  have p0 : ∀ st, fIxW st (cpD c) (.int 0) = some c.pp := fun _ => rfl
  have p1 : ∀ st, fIxW st (pD c.m c.n c.h c.ru) (.int 0) = some (.int c.m) := fun _ => rfl
  have gc := cut_blk o.o.m1 o.o.m2
  have s1 : fSl (cpD c) none (some 4) = some (.tup [c.pp, sD c.s, sD c.g, .int c.q]) := rfl
  unfold rE2
  simp -implicitDefEqProofs [bnd_ap, ret_ap, e1, p0, p1, gc, s1]
  rfl
omit od o in
theorem right_f1 {c2 : Cs} (o2 : OkC c2) (a1 a2 a3 a5 a10 : Slt) : dBlk rF1 (T (k + 12)) [.val (.loc w), a1, a2, a3, .val (cpD c2), a5, .val (cpD c), .val (cpD d), .val (ccD c), .val (ccD c), a10] = ret (.nx [.val (.loc w), a1, a2, a3, .val (cpD c2), a5, .val (cpD c), .val (cpD d), .val (ccD c), .val (ccD c), .val (ccD c2)]) := by
  have e1 := f_law_case (k + 4) o2
  have q1 := eqO_case (k + 11) false c c2
  have q2 := eqO_case (k + 11) true c c2
  have q3 := eq_cp c c2
  have q4 := ne_cp c c2
  generalize deq (cpD c) (cpD c2) = b at *
  unfold rF1
  simp -implicitDefEqProofs [e1, q1, q2, q3, q4, ne_bb]
omit od o in
theorem right_f (l : List Cs) (hl : ∀ c2 ∈ l, OkC c2) (a1 a2 a4 a5 a10 : Slt) : ∃ a4' a10', rF.den (T (k + 12)) [.val (.loc w), a1, a2, .val (.lst (l.map cpD)), a4, a5, .val (cpD c), .val (cpD d), .val (ccD c), .val (ccD c), a10] = ret (.nx [.val (.loc w), a1, a2, .val (.lst (l.map cpD)), a4', a5, .val (cpD c), .val (cpD d), .val (ccD c), .val (ccD c), a10']) := by
  obtain ⟨r', ⟨x, y, rfl⟩, e⟩ := for_next (set := (gNm 4).set) (body := dBlk rF1 (T (k + 12))) (fun r => ∃ x y : Slt, r = [.val (.loc w), a1, a2, .val (.lst (l.map cpD)), x, a5, .val (cpD c), .val (cpD d), .val (ccD c), .val (ccD c), y]) (l.map cpD) _ ⟨a4, a10, rfl⟩ (by
    rintro e he r ⟨x, y, rfl⟩
    obtain ⟨c2, hc, rfl⟩ := List.mem_map.mp he
    exact ⟨_, _, rfl, right_f1 k (hl c2 hc) a1 a2 _ a5 y, _, _, rfl⟩)
  refine ⟨x, y, ?_⟩
  unfold rF
  simp -implicitDefEqProofs [e]
omit od in
theorem right_gh (a1 a2 a3 a4 a5 a10 : Slt) : ∃ a5', dBlk [rG, rH] (T (k + 12)) [.val (.loc w), a1, a2, a3, a4, a5, .val (cpD c), .val (cpD d), .val (ccD c), .val (ccD c), a10] = ret (.nx [.val (.loc w), a1, a2, a3, a4, a5', .val (cpD c), .val (cpD d), .val (ccD c), .val (ccD c), a10]) := by
  obtain ⟨l, hl, e⟩ := f_faults o
  have e1 := e (k + 1)
  have e2 := f_sound k (e k)
  have e3 := eq_strs0 l
  have p3 : ∀ st, fIxW st (cpD c) (.int 3) = some (.int c.q) := fun _ => rfl
  have e4 : T (k + 12) 36 [.lst [.tup (l.map D.str), .bl (l == []), cpD c, .int c.q], .lst [.tup (l.map D.str), .bl (l == []), cpD c, .int c.q]] = ret (.bl true) := f_same 3 _ (sameL (by simp) fun d hd => by
    simp only [List.mem_cons, List.not_mem_nil, or_false] at hd
    obtain ⟨h1, h2⟩ := o.sl
    rcases hd with rfl | rfl | rfl | rfl
    · exact same_one (same_strs _ (by omega))
    · trivial
    · exact same_cp c h1 h2
    · trivial) (k + 8)
  generalize l.map D.str = dl at *
  refine ⟨.val (.tup dl), ?_⟩
  generalize (l == []) = bb at *
  unfold rG rH
  simp -implicitDefEqProofs [e1, e2, e3, e4, p3]
end
theorem f_right (k : Nat) {w : Nat} {st : Sto} (hw : WellAt w st) : ∃ st', WellAt w st' ∧ st'.length = st.length ∧ T (k + 13) 48 [.loc w] st = .ok (.bl true) st' := by
  rw [T, ft_def (d := d__law_right) rfl rfl rfl]
  obtain ⟨r', st', e, ⟨hw', hl'⟩, _⟩ := for_keep (dBlk rAll (T (k + 12))) 0 (fun st2 r => (WellAt w st2 ∧ st2.length = st.length) ∧ ∃ a1 a2 a3 a4 a5 a6 a7 a8 a9 a10, r = [.val (.loc w), a1, a2, a3, a4, a5, a6, a7, a8, a9, a10]) (gNm 1).set (by
    rintro x st2 r ⟨⟨hw2, hl2⟩, a1, a2, a3, a4, a5, a6, a7, a8, a9, a10, rfl⟩
    obtain ⟨c, d, st3, o, od, w3, l3, e1⟩ := right_a k hw2 (.val x) a2 a3 a4 a5 a6 a7 a8 a9 a10
    have e2 := right_b k o (d := d) (w := w) (.val x) a2 a3 a4 a5 a8 a9 a10
    have e3 := right_c k o (d := d) (w := w) (.val x) a2 a3 a4 a5 a10
    have e4 := right_d k o (d := d) (w := w) (.val x) (.val (ccD c)) a3 a4 a5 a10
    obtain ⟨s, g, st4, qs, qg, w4, l4, e5⟩ := right_e k o od w3 (.val x) (.val (ccD c)) a3 a4 a5 a10
    obtain ⟨b, st5, hb, w5, l5, e6⟩ := right_e2 k o od w4 (cpD { c with s := s }) (cpD { c with g := g }) (cpD { c with q := d.q }) (.val x) (.val (ccD c)) a4 a5 a10
    obtain ⟨a4', a10', e7⟩ := right_f k (c := c) (d := d) (w := w) [{ c with s := s }, { c with g := g }, { c with q := d.q }, { c with b := b }, d] (by
      intro c2 hc
      simp only [List.mem_cons, List.not_mem_nil, or_false] at hc
      rcases hc with rfl | rfl | rfl | rfl | rfl
      · exact ⟨o.o, qs, o.g, o.q1, o.q2, o.b⟩
      · exact ⟨o.o, o.s, qg, o.q1, o.q2, o.b⟩
      · exact ⟨o.o, o.s, o.g, od.q1, od.q2, o.b⟩
      · exact ⟨o.o, o.s, o.g, o.q1, o.q2, hb⟩
      · exact od) (.val x) (.val (ccD c)) a4 a5 a10
    obtain ⟨a5', e8⟩ := right_gh k o (d := d) (w := w) (.val x) (.val (ccD c)) (.val (.lst ([{ c with s := s }, { c with g := g }, { c with q := d.q }, { c with b := b }, d].map cpD))) a4' a5 a10'
    refine ⟨_, [.val (.loc w), .val x, .val (ccD c), .val (.lst ([{ c with s := s }, { c with g := g }, { c with q := d.q }, { c with b := b }, d].map cpD)), a4', a5', .val (cpD c), .val (cpD d), .val (ccD c), .val (ccD c), a10'], st5, rfl, ?_, ⟨w5, by omega⟩, _, _, _, _, _, _, _, _, _, _, rfl⟩
    simp only [List.map_cons, List.map_nil] at e7 e8
    change dBlk (rA :: rB :: rC :: rD :: rE :: rE2 :: rF :: rG :: [rH]) (T (k + 12)) [.val (.loc w), .val x, a2, a3, a4, a5, a6, a7, a8, a9, a10] st2 = _
    rw [m_blk, bnd_ap, e1]
    simp only
    rw [m_blk, e2, bnd_ret]
    simp only
    rw [m_blk, e3, bnd_ret]
    simp only
    rw [m_blk, e4, bnd_ret]
    simp only
    rw [m_blk, bnd_ap, e5]
    simp only
    rw [m_blk, bnd_ap, e6]
    simp only
    rw [m_blk, e7, bnd_ret]
    simp only
    rw [e8]
    rfl) (intsD 0 3) st _ ⟨⟨hw, rfl⟩, _, _, _, _, _, _, _, _, _, _, rfl⟩
  refine ⟨st', hw', hl', ?_⟩
  have hR : inR 3 = true := inR_small (by omega) (by omega)
  rw [right_def]
  have en : entE d__law_right [.loc w] = [.val (.loc w), .none, .none, .none, .none, .none, .none, .none, .none, .none, .none] := rfl
  rw [en, flM_ap, m_blk, m_sFor, bnd_ap]
  have ei : (iRng1 (cInt 3)).den (T (k + 12)) [.val (.loc w), .none, .none, .none, .none, .none, .none, .none, .none, .none, .none] = ret (intsD 0 3) := by
    rw [m_iRng1]
    simp -implicitDefEqProofs [rng1 hR]
  rw [ei, bnd_ret, e]
  rfl
theorem plainL : ∀ ns : List Int, ns.length ≤ 63 → ∃ st', FTab (PTof tab) (15 + 1) 49 [.frl (ns.map .int)] [] = .ok (.bl true) st' := by
  intro ns hn
  rw [ft_def (d := d_law) rfl rfl rfl]
  obtain ⟨st', a', b', e⟩ := law_loop 14 0 ns hn 5 (by omega) (by omega) (fun hw => f_right 2 hw) (intsD 0 (max 1 (min ns.length 3))) (fun d hd => by
    obtain ⟨i, hi, rfl⟩ := List.mem_map.mp hd
    rw [List.mem_range] at hi
    exact ⟨i, by omega, by simp⟩) [] .none .none
  refine ⟨st', ?_⟩
  have lr := lap_rng ns.length hn
  change flM (dBlk [sFor (iRng1 (cBi bMax [(cInt 1).p, (cBi bMin [(cBi bLen [(cVar 0).p]).p, (cInt 3).p]).p])) (gNm 1) _, sRet (cBl true)] (T 15) [.val (.frl (ns.map .int)), .none, .none, .none]) [] = _
  rw [flM_ap, m_blk, m_sFor]
  have f1 : ∀ i j : Int, fMin [.int i, .int j] = some (.int (if j < i then j else i)) := fun _ _ => rfl
  have f2 : ∀ i j : Int, fMax [.int i, .int j] = some (.int (if j > i then j else i)) := fun _ _ => rfl
  have ei : (iRng1 (cBi bMax [(cInt 1).p, (cBi bMin [(cBi bLen [(cVar 0).p]).p, (cInt 3).p]).p])).den (T 15) [.val (.frl (ns.map .int)), .none, .none, .none] = ret (intsD 0 (max 1 (min ns.length 3))) := by
    simp -implicitDefEqProofs [f1, f2]
    exact congrArg opt lr
  rw [ei, bnd_ret, bnd_ap, e]
  rfl
end Rf

set_option Elab.async false
set_option linter.all false
set_option maxRecDepth 100000
set_option maxHeartbeats 0
namespace Rf
open PySem PySem.W PySem.Calls PyProof.Rows
abbrev RR : OpenRow := OpenLaw.row PySem.Challenge.rw_piletables_k84_whole_parts_of_cases
def loose0 : List PySem.Str := ["is_whole", "is_between", "is_up_to", "is_one_of", "is_tuple_of", "BLOCKS", "LEAST_MANY", "MOST_MANY", "LEAST_PILES", "MOST_PILES", "FREE", "LIGHT", "RULES", "blocks_of", "is_falling", "has_each_once", "are_piles", "fits_rule", "is_standing", "is_block"]
def loose1 : List PySem.Str := ["can_come_on", "can_move", "moved", "pairs_of", "moves_of", "steps_of", "NO_BLOCK", "next_out", "taken", "put_aside", "rows_out", "row_out", "far_from_some", "far_from", "WORDS", "block_on", "fewest_to_goal", "fewest_out", "is_too_much", "told_by"]
def loose2 : List PySem.Str := ["broken", "PileError", "InvalidNumber", "InvalidWord", "InvalidStanding", "UnknownBlock", "NotATable", "NotACase", "check_number", "check_height", "Table", "check_table", "check_standing", "check_both", "check_two", "check_block", "MOST_NUMBER", "Case", "check_case", "faults"]
def loose3 : List PySem.Str := ["is_sound", "_law_well", "_law_draw", "_law_of", "_law_same", "_law_table", "_law_made", "_law_goes_on", "_law_standing", "_law_moves", "_law_behind", "_law_steps", "_law_far", "_law_case_parts", "_law_case", "_law_named", "_law_right"]
def loose : List PySem.Str := loose0 ++ loose1 ++ loose2 ++ loose3
theorem chk : chkTab info tab = true := by decide +kernel
theorem run (w : World) : HandSHeadRun.RunEq RR (view RR.prog [86]) (hookR 5 info tab) (obR 5 info tab) 12000 loose w := by
  intro os
  kernel_rfl
def eL : TE1 := ⟨49, d_law, ⟨(top 86), "law", "law"⟩⟩
end Rf
open PySem PySem.W PySem.Calls PyProof.Rows Rf
theorem PySem.Challenge.cw_piletables_k84_whole_parts_of_cases_holds : PySem.Challenge.rw_piletables_k84_whole_parts_of_cases.Holds := by
  w_on; o_law
  refine HandSHeadRun.head_any (r := OpenLaw.row PySem.Challenge.rw_piletables_k84_whole_parts_of_cases) (q := view (OpenLaw.row PySem.Challenge.rw_piletables_k84_whole_parts_of_cases).prog [86]) (H := hookR 5 info tab) (ob := obR 5 info tab) (M := 12000) (loose := Rf.loose) (d := HandSHeadRun.topDef (OpenLaw.row PySem.Challenge.rw_piletables_k84_whole_parts_of_cases).prog 86) (kwd := []) (obR_eq 5 info tab)
    (by kernel_rfl) (fun s => by kernel_rfl) Rf.run (by kernel_rfl) (by kernel_rfl) (by kernel_rfl) (by rfl) (by first | assumption | decide +kernel) (by decide +kernel) ⟨rfl, rfl, rfl, rfl, rfl, by decide +kernel⟩ ?hw ?hc
  case hw => w_witness2
  case hc => exact law_walk (e := eL) (k := 15) rfl (by kernel_rfl) chk (List.mem_of_getElem? (show tab[62]? = some eL from rfl)) (by decide +kernel) rfl rfl (by kernel_rfl) ⟨rfl, by decide, by decide⟩ rfl plainL
