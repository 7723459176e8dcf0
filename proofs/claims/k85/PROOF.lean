import PyProof.Rows.All
import Wide.All
import OpenK.AllK
import Wide.FinOn
import HandS.ForExc
import HandS.ForMost
import HandS.IsInst
import HandS.CallSlots
import HandS.Deep
import HandS.TupMul
import HandS.TupAny
import HandS.Style
import HandS.Conv
import HandS.Walk
import HandS.Defaults
import HandS.HeadHook2
import HandS.Head0
import HandS.Head1
import HandS.Head2
import HandS.HeadEnd
import HandS.HeadHook1
import HandS.Text
import HandS.Steps
import HandS.TupLe
import HandS.More
import PyProof.CollectStr
import KE.GoesEnum
import KE.KStateDown
import PySem.Challenge.RW_piletables_k85_whole_texts_of_tables
set_option Elab.async false
set_option linter.all false
set_option maxRecDepth 100000
namespace Rf
open PySem L2
inductive D where
  | non | bl (b : Bool) | int (i : Int) | str (s : List Nat) | tup (l : List D) | lst (l : List D) | frl (l : List D)
  | dct (ks l : List D) | obj (c : Nat) (l : List D) | loc (n : Nat) | fn (i : Nat) | cls (c : Nat) | clo (i : Nat) (l : List D)
/-- the signs of a text -/
def cd (s : String) : List Nat := s.toList.map Char.toNat
def fnL : List String := ["is_whole", "is_between", "is_one_of", "blocks_of", "is_falling", "fits_rule", "can_come_on", "can_move", "moved", "pairs_of", "moves_of", "steps_of", "laid_everywhere", "standings", "next_out", "taken", "are_out", "put_aside", "left_from_all", "turned_about", "asides_of", "asides_by_standings", "hardest_of", "InvalidNumber.__init__", "InvalidWord.__init__", "NotATable.__init__", "check_number", "check_height", "Table.__init__", "Table.__eq__", "check_table", "hardest_out", "how_many_out", "_law_well", "_law_draw", "_law_of", "_law_same", "_law_table", "_law_made", "_law_goes_on", "_law_all", "_law_moves", "_law_behind", "_law_first_by", "_law_steps", "_law_taken", "_law_aside", "_law_heard", "_law_right", "law", "is_tuple_of", "is_pair", "wrong_in", "are_all", "has_each_once", "are_piles", "is_standing", "is_index", "is_move", "is_pile", "are_all_blocks", "does_bar", "barring_in", "rows_out", "row_out", "comes_out_by", "InvalidStanding.__init__", "check_standing", "check_both", "check_blocks", "barring", "fewest_aside", "aside_row", "do_come_out", "_law_bars", "_law_come_out", "_wall", "begun", "gone_on", "taken_back", "top_of", "InvalidMove.__init__", "Book.__init__", "Book.standing", "Book.row", "Book.move", "Book.back", "Book.top", "Book.hint", "Book.trial", "Book.tried", "_law_standing", "_law_word", "_law_stands", "check_two", "far_from_some", "far_from", "way_by", "way_to", "fewest_moves", "first_way", "_law_way", "_law_far", "Trial.__init__", "Trial.__enter__", "Trial.__exit__", "_law_state", "_law_ended", "_law_changed", "_law_within", "_law_outer", "_law_bent_standings", "_law_is_over", "is_up_to", "is_block", "block_on", "fewest_to_goal", "fewest_out", "is_too_much", "told_by", "is_same", "breaks", "broken", "UnknownBlock.__init__", "NotACase.__init__", "check_block", "Case.__init__", "Case.standing", "Case.__eq__", "check_case", "faults", "is_sound", "does_break", "breaking", "_law_case_parts", "_law_case", "_law_outs", "_law_named", "_law_placed", "_law_is_refused", "InvalidText.__init__", "are_signs", "are_figures", "is_first_line", "is_pile_line", "is_line", "wrong_line", "piles_in", "table_rows", "read_table", "_law_text", "_law_are_so", "_law_lines_right", "InvalidCommand.__init__", "NotABook.__init__", "words_of", "shown", "aside_from", "Console.__init__", "Console.say", "_law_picture"]
def fnPL : List (String × Option String) := [("is_whole", none), ("is_between", none), ("is_one_of", none), ("blocks_of", none), ("is_falling", none), ("fits_rule", none), ("can_come_on", none), ("can_move", none), ("moved", none), ("pairs_of", none), ("moves_of", none), ("steps_of", none), ("laid_everywhere", none), ("standings", none), ("next_out", none), ("taken", none), ("are_out", none), ("put_aside", none), ("left_from_all", none), ("turned_about", none), ("asides_of", none), ("asides_by_standings", none), ("hardest_of", none), ("InvalidNumber", some "__init__"), ("InvalidWord", some "__init__"), ("NotATable", some "__init__"), ("check_number", none), ("check_height", none), ("Table", some "__init__"), ("Table", some "__eq__"), ("check_table", none), ("hardest_out", none), ("how_many_out", none), ("_law_well", none), ("_law_draw", none), ("_law_of", none), ("_law_same", none), ("_law_table", none), ("_law_made", none), ("_law_goes_on", none), ("_law_all", none), ("_law_moves", none), ("_law_behind", none), ("_law_first_by", none), ("_law_steps", none), ("_law_taken", none), ("_law_aside", none), ("_law_heard", none), ("_law_right", none), ("law", none), ("is_tuple_of", none), ("is_pair", none), ("wrong_in", none), ("are_all", none), ("has_each_once", none), ("are_piles", none), ("is_standing", none), ("is_index", none), ("is_move", none), ("is_pile", none), ("are_all_blocks", none), ("does_bar", none), ("barring_in", none), ("rows_out", none), ("row_out", none), ("comes_out_by", none), ("InvalidStanding", some "__init__"), ("check_standing", none), ("check_both", none), ("check_blocks", none), ("barring", none), ("fewest_aside", none), ("aside_row", none), ("do_come_out", none), ("_law_bars", none), ("_law_come_out", none), ("_wall", none), ("begun", none), ("gone_on", none), ("taken_back", none), ("top_of", none), ("InvalidMove", some "__init__"), ("Book", some "__init__"), ("Book", some "standing"), ("Book", some "row"), ("Book", some "move"), ("Book", some "back"), ("Book", some "top"), ("Book", some "hint"), ("Book", some "trial"), ("Book", some "tried"), ("_law_standing", none), ("_law_word", none), ("_law_stands", none), ("check_two", none), ("far_from_some", none), ("far_from", none), ("way_by", none), ("way_to", none), ("fewest_moves", none), ("first_way", none), ("_law_way", none), ("_law_far", none), ("Trial", some "__init__"), ("Trial", some "__enter__"), ("Trial", some "__exit__"), ("_law_state", none), ("_law_ended", none), ("_law_changed", none), ("_law_within", none), ("_law_outer", none), ("_law_bent_standings", none), ("_law_is_over", none), ("is_up_to", none), ("is_block", none), ("block_on", none), ("fewest_to_goal", none), ("fewest_out", none), ("is_too_much", none), ("told_by", none), ("is_same", none), ("breaks", none), ("broken", none), ("UnknownBlock", some "__init__"), ("NotACase", some "__init__"), ("check_block", none), ("Case", some "__init__"), ("Case", some "standing"), ("Case", some "__eq__"), ("check_case", none), ("faults", none), ("is_sound", none), ("does_break", none), ("breaking", none), ("_law_case_parts", none), ("_law_case", none), ("_law_outs", none), ("_law_named", none), ("_law_placed", none), ("_law_is_refused", none), ("InvalidText", some "__init__"), ("are_signs", none), ("are_figures", none), ("is_first_line", none), ("is_pile_line", none), ("is_line", none), ("wrong_line", none), ("piles_in", none), ("table_rows", none), ("read_table", none), ("_law_text", none), ("_law_are_so", none), ("_law_lines_right", none), ("InvalidCommand", some "__init__"), ("NotABook", some "__init__"), ("words_of", none), ("shown", none), ("aside_from", none), ("Console", some "__init__"), ("Console", some "say"), ("_law_picture", none)]
def clL : List String := ["PileError", "InvalidNumber", "InvalidWord", "NotATable", "Table", "InvalidStanding", "InvalidMove", "Over", "Book", "Trial", "UnknownBlock", "NotACase", "Case", "InvalidText", "InvalidCommand", "NotABook", "Console"]
def clFL : List (List Nat) := [[], [0], [0], [0], [1, 2, 3, 4, 5], [0], [0], [], [6, 7], [8, 9], [0], [0], [6, 10, 11, 12, 5], [13], [0], [0], [8]]
def fdL : List String := ["given", "many", "piles", "height", "rule", "parts", "table", "state", "book", "kept", "goal", "number", "block", "index"]
def coL : List String := ["BLOCKS", "LEAST_MANY", "MOST_MANY", "LEAST_PILES", "MOST_PILES", "FREE", "LIGHT", "RULES", "NO_BLOCK", "LEAST_PILES_tablework", "MOST_PILES_tablework", "LEAST_PILES_takework", "MOST_PILES_takework", "MOST_BLOCKS", "WORDS", "MOST_NUMBER", "FIGURES", "LETTERS", "EMPTY", "TABLE", "PILE", "TABLE_WORDS", "PILE_WORDS", "SIZES", "NOTHING"]
def coDL : List D := [.str [97, 98, 99, 100, 101], .int 1, .int 5, .int 2, .int 4, .str [102, 114, 101, 101], .str [108, 105, 103, 104, 116], .tup [.str [102, 114, 101, 101], .str [108, 105, 103, 104, 116]], .str [122], .int 2, .int 4, .int 2, .int 4, .int 5, .tup [.str [114, 101, 97, 99, 104], .str [109, 111, 118, 101, 115], .str [102, 114, 101, 101], .str [97, 115, 105, 100, 101]], .int 99, .str [48, 49, 50, 51, 52, 53, 54, 55, 56, 57], .str [97, 98, 99, 100, 101, 102, 103, 104, 105, 106, 107, 108, 109, 110, 111, 112, 113, 114, 115, 116, 117, 118, 119, 120, 121, 122], .str [45], .str [116, 97, 98, 108, 101], .str [112, 105, 108, 101], .int 4, .int 2, .non, .str [110, 111, 110, 101]]
def blL : List String := ["len", "isinstance", "all", "any", "range", "list", "tuple", "int", "str", "min", "max", "abs", "divmod", "sorted", "enumerate", "dict", "sum", "zip", "bool"]
/-- the class whose __init__ it is -/
def iniL : List (Option Nat) := [none, none, none, none, none, none, none, none, none, none, none, none, none, none, none, none, none, none, none, none, none, none, none, some 1, some 2, some 3, none, none, some 4, none, none, none, none, none, none, none, none, none, none, none, none, none, none, none, none, none, none, none, none, none, none, none, none, none, none, none, none, none, none, none, none, none, none, none, none, none, some 5, none, none, none, none, none, none, none, none, none, none, none, none, none, none, some 6, some 8, none, none, none, none, none, none, none, none, none, none, none, none, none, none, none, none, none, none, none, none, some 9, none, none, none, none, none, none, none, none, none, none, none, none, none, none, none, none, none, none, none, some 10, some 11, none, some 12, none, none, none, none, none, none, none, none, none, none, none, none, none, some 13, none, none, none, none, none, none, none, none, none, none, none, none, some 14, some 15, none, none, none, some 16, none, none]
/-- the __init__ of a class -/
def iniFL : List Nat := [0, 23, 24, 25, 28, 66, 81, 0, 82, 103, 123, 124, 126, 140, 153, 154, 158]
/-- the __eq__ of a class -/
def eqFL : List (Option Nat) := [none, none, none, none, some 29, none, none, none, none, none, none, none, some 128, none, none, none, none]
/-- the parameters' names -/
def paL : List (List String) := [["value"], ["value", "least", "most"], ["value", "words"], ["many"], ["pile"], ["table", "pile"], ["table", "block", "pile"], ["table", "standing", "move"], ["standing", "move"], ["piles"], ["table", "standing"], ["table", "standing"], ["table", "standing", "block"], ["table"], ["piles"], ["piles"], ["piles"], ["table", "piles"], ["table"], ["table"], ["table"], ["table"], ["table"], ["self", "given"], ["self", "given"], ["self", "given"], ["value", "least", "most"], ["height", "many", "piles"], ["self", "many", "piles", "height", "rule"], ["self", "other"], ["table"], ["table"], ["table"], ["script", "lap"], ["well", "many"], ["well", "some"], ["told", "due"], ["well", "most", "top"], ["parts"], ["parts", "pile", "block"], ["parts"], ["parts", "standing"], ["standing", "move"], ["start", "nexts", "fits"], ["parts", "standing"], ["standing"], ["parts", "standing"], ["act"], ["well"], ["script"], ["value", "many"], ["value"], ["value", "least", "most", "is_right"], ["value", "least", "most", "is_right"], ["text", "blocks"], ["value", "many"], ["table", "value"], ["table", "value"], ["table", "standing", "value"], ["ahead", "value"], ["value"], ["pile", "index"], ["piles"], ["table", "standing"], ["table", "standing"], ["table", "standing", "row"], ["self", "given"], ["table", "standing"], ["table", "standing"], ["standing"], ["standing"], ["table", "standing"], ["table", "standing"], ["table", "standing", "value"], ["standing"], ["parts", "standing", "row"], ["k"], ["standing"], ["state", "move"], ["state"], ["pile"], ["self", "given"], ["self", "table", "standing"], ["self"], ["self"], ["self", "one", "two"], ["self"], ["self", "pile"], ["self", "goal"], ["self"], ["self", "action"], ["well", "parts"], ["act"], ["book", "parts", "standing", "row"], ["table", "standing", "other"], ["table", "firsts"], ["table", "first"], ["table", "far", "standing"], ["table", "standing", "goal"], ["table", "standing", "goal"], ["table", "standing", "goal"], ["parts", "standing", "goal"], ["parts", "standing"], ["self", "book"], ["self"], ["self", "kind", "value", "trace"], ["book"], ["act"], ["well", "book"], ["well", "book", "fails"], ["well", "book", "fails", "later"], ["parts", "standing"], ["act"], ["value", "most"], ["table", "value"], ["case"], ["case"], ["case"], ["case", "many"], ["case", "word"], ["value", "due"], ["case", "story"], ["case", "word"], ["self", "given"], ["self", "given"], ["table", "block"], ["self", "table", "standing", "goal", "number", "block"], ["self"], ["self", "other"], ["case"], ["case"], ["case"], ["case", "story"], ["case", "word"], ["well", "most", "top"], ["parts"], ["case"], ["parts"], ["parts"], ["parts", "k", "odd", "due"], ["self", "index"], ["word", "signs"], ["word"], ["words"], ["words"], ["index", "value"], ["rows"], ["rows"], ["table", "standing"], ["rows"], ["parts", "standing"], ["rows", "due"], ["rows", "k"], ["self", "given"], ["self", "given"], ["command"], ["standing"], ["book"], ["self", "book"], ["self", "command"], ["standing"]]
def iniC (i : Nat) : Option Nat := iniL.getD i none
def iniF (c : Nat) : Nat := iniFL.getD c 0
def eqF (c : Nat) : Option Nat := eqFL.getD c none
def paN (i : Nat) : List Str := (paL.getD i []).map Str.ofString
def tyL : List String := ["NoneType", "bool", "int", "str", "tuple", "list", "dict"]
def tyN (i : Nat) : String := tyL.getD i ""
def fnN (i : Nat) : Str := Str.ofString (fnL.getD i "")
def clN (i : Nat) : Str := Str.ofString (clL.getD i "")
def fdN (i : Nat) : Str := Str.ofString (fdL.getD i "")
def coN (i : Nat) : Str := Str.ofString (coL.getD i "")
def blN (i : Nat) : Str := Str.ofString (blL.getD i "")
def coD (i : Nat) : D := coDL.getD i .non
def clF (i : Nat) : List Nat := clFL.getD i []
def names (c : Nat) : List Str := (clF c).map fdN
/-- what of it stands in the text -/
structure Info where
  fs : List Nat
  cs : List Nat
  ks : List Nat
  bs : List Nat
end Rf

set_option Elab.async false
set_option linter.all false
set_option maxRecDepth 100000
namespace Rf
open PySem L2

/-! ## data -/
/-- what may change: a list, an instance -/
inductive SO where
  | lst (l : List D) | ins (c : Nat) (l : List D)
abbrev Sto := List SO
structure Exn where
  c : Nat
  l : List D
inductive Out (α : Type) where
  | ok (a : α) (st : Sto) | exc (x : Exn) (st : Sto) | bad
abbrev M (α : Type) := Sto → Out α
inductive Slt where
  | none | val (d : D) | own (d : D)
abbrev En := List Slt
abbrev FT := Nat → List D → M D

/-- addresses -/
structure Ad where
  I : Info
  K : PySem.W.Frag
  fa : Nat → Addr
  ca : Nat → Addr
  xv : Nat → Value

/-! ## worlds -/
structure Wd where
  mu : List Addr
  S : Addr → Prop
  H : Hp
structure Ext (w w' : Wd) : Prop where
  mu : ∃ l, w'.mu = w.mu ++ l ∧ ∀ a ∈ l, w.H a = none
  s : ∀ a, w.S a → w'.S a
  sn : ∀ a, w'.S a → w.S a ∨ w.H a = none
  keep : ∀ a, w.H a ≠ none → a ∉ w.mu → w'.H a = w.H a
  trk : ∀ a, w.H a ≠ none → w'.H a ≠ none
structure Wf (w : Wd) : Prop where
  s : ∀ a, w.S a → w.H a ≠ none ∧ a ∉ w.mu
  m : ∀ a ∈ w.mu, w.H a ≠ none
  nd : w.mu.Nodup
theorem Ext.refl (w : Wd) : Ext w w := ⟨⟨[], by simp, by simp⟩, fun _ h => h, fun _ h => .inl h, fun _ _ _ => rfl, fun _ h => h⟩
theorem Ext.nmu {w w' : Wd} (e : Ext w w') {a : Addr} (h : w.H a ≠ none) (m : a ∉ w.mu) : a ∉ w'.mu := by
  obtain ⟨l, e1, e2⟩ := e.mu
  rw [e1]
  intro q
  rcases List.mem_append.mp q with q | q
  · exact m q
  · exact h (e2 a q)
theorem Ext.trans {w w' w'' : Wd} (e : Ext w w') (f : Ext w' w'') : Ext w w'' where
  mu := by
    obtain ⟨l, e1, e2⟩ := e.mu
    obtain ⟨l', f1, f2⟩ := f.mu
    refine ⟨l ++ l', by rw [f1, e1, List.append_assoc], fun a h => ?_⟩
    rcases List.mem_append.mp h with h | h
    · exact e2 a h
    · exact Classical.byContradiction fun q => e.trk a q (f2 a h)
  s := fun a h => f.s a (e.s a h)
  sn := fun a h => by
    rcases f.sn a h with h | h
    · exact e.sn a h
    · exact .inr (Classical.byContradiction fun q => e.trk a q h)
  keep := fun a h m => (f.keep a (e.trk a h) (e.nmu h m)).trans (e.keep a h m)
  trk := fun a h => f.trk a (e.trk a h)
theorem Ext.mu_at {w w' : Wd} (e : Ext w w') {n : Nat} {a : Addr} (h : w.mu[n]? = some a) : w'.mu[n]? = some a := by
  obtain ⟨l, e1, _⟩ := e.mu
  rw [e1, List.getElem?_append_left (List.getElem?_eq_some_iff.mp h).1, h]
/-- what is told of the old world holds in the new one -/
structure Le (w w' : Wd) : Prop where
  mu : ∀ (n : Nat) (a : Addr), w.mu[n]? = some a → w'.mu[n]? = some a
  s : ∀ a, w.S a → w'.S a ∧ w'.H a = w.H a
theorem Ext.le {w w' : Wd} (e : Ext w w') (x : Wf w) : Le w w' := ⟨fun _ _ h => e.mu_at h, fun a h => ⟨e.s a h, e.keep a (x.s a h).1 (x.s a h).2⟩⟩
theorem Wf.at {w w' : Wd} (x : Wf w) (e : Ext w w') {a : Addr} (h : w.S a) : w'.H a = w.H a := e.keep a (x.s a h).1 (x.s a h).2

/-! ## what data stand for -/
def KLst (K : PySem.W.Frag) (a : Addr) (vs : List V) : Prop :=
  ∃ (o : Obj) (its : Array Value) (n : Nat), K.lookup a = some o ∧ o.cls = .type "list" ∧ o.dict = none ∧ o.data = .seq its n ∧ its.size ≤ sizeLine ∧ Vals vs its.toList
def KTup (K : PySem.W.Frag) (a : Addr) (vs : List V) : Prop :=
  ∃ (o : Obj) (its : Array Value) (n : Nat), K.lookup a = some o ∧ o.cls = .type "tuple" ∧ o.data = .seq its n ∧ its.size ≤ sizeLine ∧ Vals vs its.toList
def StrOk (s : List Nat) : Prop := s.length ≤ sizeLine ∧ ∀ c ∈ s, c < 1114112
def keyD : Key → D
  | .inl i => .int i
  | .inr s => .str s.cps.toList
def LAt (_ : Ad) (w : Wd) (a : Addr) (vs : List V) : Prop := vs.length ≤ sizeLine ∧ w.S a ∧ w.H a = some (.lst vs)
def FAt (A : Ad) (w : Wd) (a : Addr) (vs : List V) : Prop := vs.length ≤ sizeLine ∧ ((w.S a ∧ Rd w.H a (.lst vs)) ∨ KLst A.K a vs)
def TAt (A : Ad) (w : Wd) (a : Addr) (vs : List V) : Prop := vs.length ≤ sizeLine ∧ ((w.S a ∧ Rd w.H a (.tup vs)) ∨ KTup A.K a vs)
/-- the dict's object with keys ks and values vs -/
def DObj (ks : List D) (vs : List V) (o : HO) : Prop :=
  (∃ kl : List Key, ks = kl.map keyD ∧ kl.length = vs.length ∧ (kl).Nodup ∧ o = .dK (kl.zip vs)) ∨
  (∃ kl : List (List Key), ks = kl.map (fun k => .tup (k.map keyD)) ∧ kl.length = vs.length ∧ (kl).Nodup ∧ o = .dT (kl.zip vs))
mutual
def Rep (A : Ad) (w : Wd) : D → V → Prop
  | .non, v => v = .non
  | .bl b, v => v = .bl b
  | .int i, v => v = .int i
  | .str s, v => v = .str ⟨s.toArray⟩ ∧ StrOk s
  | .tup l, v => ∃ a vs, v = .ref a ∧ TAt A w a vs ∧ Reps A w l vs
  | .lst l, v => ∃ a vs, v = .ref a ∧ LAt A w a vs ∧ Reps A w l vs
  | .frl l, v => ∃ a vs, v = .ref a ∧ FAt A w a vs ∧ Reps A w l vs
  | .dct ks l, v => ∃ a vs o, v = .ref a ∧ w.S a ∧ w.H a = some o ∧ DObj ks vs o ∧ Reps A w l vs
  | .obj c l, v => ∃ a dx vs, v = .ref a ∧ w.S a ∧ (c ∈ A.I.cs ∧ l.length ≤ (clF c).length) ∧ w.H a = some (.ins (A.ca c) dx ((names c).zip vs)) ∧ Reps A w l vs
  | .loc n, v => ∃ a, v = .ref a ∧ w.mu[n]? = some a
  | .fn i, v => v = .ref (A.fa i)
  | .cls c, v => v = .ref (A.ca c)
  | .clo _ _, _ => False
def Reps (A : Ad) (w : Wd) : List D → List V → Prop
  | [], vs => vs = []
  | d :: ds, vs => ∃ v r, vs = v :: r ∧ Rep A w d v ∧ Reps A w ds r
end
/-- a container, standing at a -/
def Top (A : Ad) (w : Wd) : D → Addr → Prop
  | .lst l, a => ∃ vs, w.H a = some (.lst vs) ∧ vs.length ≤ sizeLine ∧ Reps A w l vs
  | .dct ks l, a => ∃ vs o, w.H a = some o ∧ DObj ks vs o ∧ Reps A w l vs
  | .obj c l, a => ∃ dx vs, (c ∈ A.I.cs ∧ l.length ≤ (clF c).length) ∧ w.H a = some (.ins (A.ca c) dx ((names c).zip vs)) ∧ Reps A w l vs
  | _, _ => False
def soD : SO → D
  | .lst l => .lst l
  | .ins c l => .obj c l
structure SRel (A : Ad) (w : Wd) (st : Sto) : Prop where
  wf : Wf w
  len : w.mu.length = st.length
  ob : ∀ (n : Nat) (o : SO) (a : Addr), st[n]? = some o → w.mu[n]? = some a → Top A w (soD o) a
def SlotR (A : Ad) (w : Wd) : Slt → Option V → Prop
  | .none, _ => True
  | .val d, v => ∃ u, v = some u ∧ Rep A w d u
  | .own d, v => ∃ a, v = some (.ref a) ∧ ¬ w.S a ∧ a ∉ w.mu ∧ Top A w d a
structure EnvR (A : Ad) (w : Wd) (r : En) (t : St) : Prop where
  len : r.length = t.length
  at_ : ∀ (i : Nat) x v, r[i]? = some x → t[i]? = some v → SlotR A w x v
  dis : ∀ (i j : Nat) d d' v, i ≠ j → r[i]? = some (.own d) → r[j]? = some (.own d') → t[i]? = some v → t[j]? ≠ some v

section
variable {A : Ad} {w w' : Wd}
theorem LAt.le (e : Le w w') {a vs} (h : LAt A w a vs) : LAt A w' a vs := ⟨h.1, (e.s a h.2.1).1, (e.s a h.2.1).2.trans h.2.2⟩
theorem FAt.le (e : Le w w') {a vs} (h : FAt A w a vs) : FAt A w' a vs := by
  refine ⟨h.1, ?_⟩
  rcases h.2 with ⟨h1, h2⟩ | h2
  · exact .inl ⟨(e.s a h1).1, by unfold Rd; rw [(e.s a h1).2]; exact h2⟩
  · exact .inr h2
theorem TAt.le (e : Le w w') {a vs} (h : TAt A w a vs) : TAt A w' a vs := by
  refine ⟨h.1, ?_⟩
  rcases h.2 with ⟨h1, h2⟩ | h2
  · exact .inl ⟨(e.s a h1).1, by unfold Rd; rw [(e.s a h1).2]; exact h2⟩
  · exact .inr h2
theorem LAt.seq {a vs} (h : LAt A w a vs) : SqL A.K w.H a vs := .inl (.inl h.2.2)
theorem FAt.seq {a vs} (h : FAt A w a vs) : SqL A.K w.H a vs := by
  rcases h.2 with ⟨_, h⟩ | h
  · exact .inl h
  · exact .inr h
theorem TAt.seq {a vs} (h : TAt A w a vs) : SqT A.K w.H a vs := by
  rcases h.2 with ⟨_, h⟩ | h
  · exact .inl h
  · exact .inr h
mutual
theorem Rep.le (e : Le w w') : ∀ (d : D) {v : V}, Rep A w d v → Rep A w' d v
  | .non, _, h => by simpa only [Rep] using h
  | .bl _, _, h => by simpa only [Rep] using h
  | .int _, _, h => by simpa only [Rep] using h
  | .str _, _, h => by simpa only [Rep] using h
  | .tup l, _, h => by
    simp only [Rep] at h ⊢
    obtain ⟨a, vs, h1, h2, h3⟩ := h
    exact ⟨a, vs, h1, h2.le e, Reps.le e l h3⟩
  | .lst l, _, h => by
    simp only [Rep] at h ⊢
    obtain ⟨a, vs, h1, h2, h3⟩ := h
    exact ⟨a, vs, h1, h2.le e, Reps.le e l h3⟩
  | .frl l, _, h => by
    simp only [Rep] at h ⊢
    obtain ⟨a, vs, h1, h2, h3⟩ := h
    exact ⟨a, vs, h1, h2.le e, Reps.le e l h3⟩
  | .dct ks l, _, h => by
    simp only [Rep] at h ⊢
    obtain ⟨a, vs, o, h1, h2, h3, h4, h5⟩ := h
    exact ⟨a, vs, o, h1, (e.s a h2).1, (e.s a h2).2.trans h3, h4, Reps.le e l h5⟩
  | .obj c l, _, h => by
    simp only [Rep] at h ⊢
    obtain ⟨a, dx, vs, h1, h2, h0, h3, h4⟩ := h
    exact ⟨a, dx, vs, h1, (e.s a h2).1, h0, (e.s a h2).2.trans h3, Reps.le e l h4⟩
  | .loc n, _, h => by
    simp only [Rep] at h ⊢
    obtain ⟨a, h1, h2⟩ := h
    exact ⟨a, h1, e.mu n a h2⟩
  | .fn _, _, h => by simpa only [Rep] using h
  | .cls _, _, h => by simpa only [Rep] using h
  | .clo _ _, _, h => by simp only [Rep] at h
theorem Reps.le (e : Le w w') : ∀ (l : List D) {vs : List V}, Reps A w l vs → Reps A w' l vs
  | [], _, h => by simpa only [Reps] using h
  | d :: ds, _, h => by
    simp only [Reps] at h ⊢
    obtain ⟨v, r, h1, h2, h3⟩ := h
    exact ⟨v, r, h1, Rep.le e d h2, Reps.le e ds h3⟩
end
theorem Rep.mono (x : Wf w) (e : Ext w w') {d : D} {v : V} (h : Rep A w d v) : Rep A w' d v := h.le (e.le x)
theorem Reps.mono (x : Wf w) (e : Ext w w') {l : List D} {vs : List V} (h : Reps A w l vs) : Reps A w' l vs := h.le (e.le x)
theorem Top.le (e : Le w w') {d : D} {a : Addr} (h : Top A w d a) (hk : w'.H a = w.H a) : Top A w' d a := by
  cases d with
  | lst l => obtain ⟨vs, h1, h0, h2⟩ := h; exact ⟨vs, hk.trans h1, h0, h2.le e⟩
  | dct ks l => obtain ⟨vs, o, h1, h2, h3⟩ := h; exact ⟨vs, o, hk.trans h1, h2, h3.le e⟩
  | obj c l => obtain ⟨dx, vs, h0, h1, h2⟩ := h; exact ⟨dx, vs, h0, hk.trans h1, h2.le e⟩
  | _ => exact h.elim
theorem Top.mono (x : Wf w) (e : Ext w w') {d : D} {a : Addr} (h : Top A w d a) (hk : w'.H a = w.H a) : Top A w' d a := h.le (e.le x) hk
theorem Top.rep {d : D} {a : Addr} (h : Top A w d a) (hs : w.S a) : Rep A w d (.ref a) := by
  cases d with
  | lst l => obtain ⟨vs, h1, h0, h2⟩ := h; simp only [Rep]; exact ⟨a, vs, rfl, ⟨h0, hs, h1⟩, h2⟩
  | dct ks l => obtain ⟨vs, o, h1, h2, h3⟩ := h; simp only [Rep]; exact ⟨a, vs, o, rfl, hs, h1, h2, h3⟩
  | obj c l => obtain ⟨dx, vs, h0, h1, h2⟩ := h; simp only [Rep]; exact ⟨a, dx, vs, rfl, hs, h0, h1, h2⟩
  | _ => exact h.elim
theorem Top.trk {d : D} {a : Addr} (h : Top A w d a) : w.H a ≠ none := by
  cases d with
  | lst l => obtain ⟨vs, h1, _⟩ := h; rw [h1]; simp
  | dct ks l => obtain ⟨vs, o, h1, _⟩ := h; rw [h1]; simp
  | obj c l => obtain ⟨dx, vs, _, h1, _⟩ := h; rw [h1]; simp
  | _ => exact h.elim
theorem SlotR.mono (x : Wf w) (e : Ext w w') {s : Slt} {v : Option V} (h : SlotR A w s v) : SlotR A w' s v := by
  cases s with
  | none => exact h
  | val d => obtain ⟨u, h1, h2⟩ := h; exact ⟨u, h1, h2.mono x e⟩
  | own d =>
    obtain ⟨a, h1, h2, h3, h4⟩ := h
    refine ⟨a, h1, fun q => ?_, e.nmu h4.trk h3, h4.mono x e (e.keep a h4.trk h3)⟩
    rcases e.sn a q with q | q
    · exact h2 q
    · exact h4.trk q
theorem EnvR.mono (x : Wf w) (e : Ext w w') {r : En} {t : St} (h : EnvR A w r t) : EnvR A w' r t :=
  ⟨h.len, fun i s v h1 h2 => (h.at_ i s v h1 h2).mono x e, h.dis⟩
theorem rep_non : Rep A w .non .non := by unfold Rep; rfl
theorem rep_bl (b : Bool) : Rep A w (.bl b) (.bl b) := by unfold Rep; rfl
theorem rep_int (i : Int) : Rep A w (.int i) (.int i) := by unfold Rep; rfl
theorem rep_str {s : List Nat} (h : StrOk s) : Rep A w (.str s) (.str ⟨s.toArray⟩) := by unfold Rep; exact ⟨rfl, h⟩
theorem Rep.non {v : V} (h : Rep A w .non v) : v = .non := by unfold Rep at h; exact h
theorem Rep.bl {b : Bool} {v : V} (h : Rep A w (.bl b) v) : v = .bl b := by unfold Rep at h; exact h
theorem Rep.int {i : Int} {v : V} (h : Rep A w (.int i) v) : v = .int i := by unfold Rep at h; exact h
theorem Rep.str {s : List Nat} {v : V} (h : Rep A w (.str s) v) : v = .str ⟨s.toArray⟩ ∧ StrOk s := by unfold Rep at h; exact h
theorem Rep.tup {l : List D} {v : V} (h : Rep A w (.tup l) v) : ∃ a vs, v = .ref a ∧ TAt A w a vs ∧ Reps A w l vs := by unfold Rep at h; exact h
theorem Rep.lst {l : List D} {v : V} (h : Rep A w (.lst l) v) : ∃ a vs, v = .ref a ∧ LAt A w a vs ∧ Reps A w l vs := by unfold Rep at h; exact h
theorem Rep.frl {l : List D} {v : V} (h : Rep A w (.frl l) v) : ∃ a vs, v = .ref a ∧ FAt A w a vs ∧ Reps A w l vs := by unfold Rep at h; exact h
theorem Rep.dct {ks l : List D} {v : V} (h : Rep A w (.dct ks l) v) : ∃ a vs o, v = .ref a ∧ w.S a ∧ w.H a = some o ∧ DObj ks vs o ∧ Reps A w l vs := by unfold Rep at h; exact h
theorem Rep.obj {c : Nat} {l : List D} {v : V} (h : Rep A w (.obj c l) v) : ∃ a dx vs, v = .ref a ∧ w.S a ∧ (c ∈ A.I.cs ∧ l.length ≤ (clF c).length) ∧ w.H a = some (.ins (A.ca c) dx ((names c).zip vs)) ∧ Reps A w l vs := by unfold Rep at h; exact h
theorem Rep.loc {n : Nat} {v : V} (h : Rep A w (.loc n) v) : ∃ a, v = .ref a ∧ w.mu[n]? = some a := by unfold Rep at h; exact h
theorem Rep.fn {i : Nat} {v : V} (h : Rep A w (.fn i) v) : v = .ref (A.fa i) := by unfold Rep at h; exact h
theorem Rep.cls {i : Nat} {v : V} (h : Rep A w (.cls i) v) : v = .ref (A.ca i) := by unfold Rep at h; exact h
theorem Rep.clo {i : Nat} {l : List D} {v : V} (h : Rep A w (.clo i l) v) : False := by unfold Rep at h; exact h
theorem Reps.length : ∀ {l : List D} {vs : List V}, Reps A w l vs → vs.length = l.length
  | [], _, h => by simp only [Reps] at h; rw [h]; rfl
  | d :: ds, _, h => by
    simp only [Reps] at h
    obtain ⟨v, r, rfl, _, h3⟩ := h
    simp [Reps.length h3]
theorem Reps.get : ∀ {l : List D} {vs : List V} {i : Nat} {d : D}, Reps A w l vs → l[i]? = some d → ∃ v, vs[i]? = some v ∧ Rep A w d v
  | [], _, i, d, h, e => by simp at e
  | x :: ds, _, 0, d, h, e => by
    simp only [Reps] at h
    obtain ⟨v, r, rfl, h2, _⟩ := h
    simp at e
    exact ⟨v, by simp, e ▸ h2⟩
  | x :: ds, _, i + 1, d, h, e => by
    simp only [Reps] at h
    obtain ⟨v, r, rfl, _, h3⟩ := h
    simp at e
    obtain ⟨u, h4, h5⟩ := Reps.get (i := i) h3 e
    exact ⟨u, by simpa using h4, h5⟩
theorem Reps.get' {l : List D} {vs : List V} {i : Nat} {v : V} (h : Reps A w l vs) (e : vs[i]? = some v) : ∃ d, l[i]? = some d ∧ Rep A w d v := by
  have hl := h.length
  have hi : i < l.length := by rw [← hl]; exact (List.getElem?_eq_some_iff.mp e).1
  obtain ⟨u, h1, h2⟩ := h.get (i := i) (d := l[i]) (by simp [hi])
  rw [h1] at e; cases e
  exact ⟨l[i], by simp [hi], h2⟩
theorem Reps.append : ∀ {l l' : List D} {vs vs' : List V}, Reps A w l vs → Reps A w l' vs' → Reps A w (l ++ l') (vs ++ vs')
  | [], _, _, _, h, h' => by simp only [Reps] at h; subst h; simpa using h'
  | d :: ds, l', _, vs', h, h' => by
    simp only [Reps] at h
    obtain ⟨v, r, rfl, h2, h3⟩ := h
    simp only [List.cons_append, Reps]
    exact ⟨v, r ++ vs', rfl, h2, Reps.append h3 h'⟩
theorem Reps.one {d : D} {v : V} (h : Rep A w d v) : Reps A w [d] [v] := by simp only [Reps]; exact ⟨v, [], rfl, h, rfl⟩
theorem Reps.one' {d : D} {vs : List V} (h : Reps A w [d] vs) : ∃ v, vs = [v] ∧ Rep A w d v := by
  simp only [Reps] at h
  obtain ⟨v, r, rfl, h2, rfl⟩ := h
  exact ⟨v, rfl, h2⟩
theorem Reps.nil : Reps A w [] [] := by simp only [Reps]
theorem Reps.cons {d : D} {ds : List D} {v : V} {vs : List V} (h : Rep A w d v) (h' : Reps A w ds vs) : Reps A w (d :: ds) (v :: vs) := by simp only [Reps]; exact ⟨v, vs, rfl, h, h'⟩
theorem Reps.take (n : Nat) : ∀ {l : List D} {vs : List V}, Reps A w l vs → Reps A w (l.take n) (vs.take n) := by
  induction n with
  | zero => intro l vs _; simpa using Reps.nil
  | succ n ih =>
    intro l vs h
    cases l with
    | nil => simp only [Reps] at h; subst h; simpa using Reps.nil
    | cons d ds =>
      simp only [Reps] at h
      obtain ⟨v, r, rfl, h2, h3⟩ := h
      simpa using Reps.cons h2 (ih h3)
theorem Reps.drop (n : Nat) : ∀ {l : List D} {vs : List V}, Reps A w l vs → Reps A w (l.drop n) (vs.drop n) := by
  induction n with
  | zero => intro l vs h; simpa using h
  | succ n ih =>
    intro l vs h
    cases l with
    | nil => simp only [Reps] at h; subst h; simpa using Reps.nil
    | cons d ds =>
      simp only [Reps] at h
      obtain ⟨v, r, rfl, h2, h3⟩ := h
      simpa using ih h3
theorem Reps.set {d : D} {v : V} (hd : Rep A w d v) : ∀ {l : List D} {vs : List V} (i : Nat), Reps A w l vs → Reps A w (l.set i d) (vs.set i v)
  | [], _, _, h => by simp only [Reps] at h; subst h; simpa using Reps.nil
  | x :: ds, _, 0, h => by
    simp only [Reps] at h
    obtain ⟨u, r, rfl, h2, h3⟩ := h
    simpa using Reps.cons hd h3
  | x :: ds, _, i + 1, h => by
    simp only [Reps] at h
    obtain ⟨u, r, rfl, h2, h3⟩ := h
    simpa using Reps.cons h2 (Reps.set hd i h3)
theorem Reps.reverse : ∀ {l : List D} {vs : List V}, Reps A w l vs → Reps A w l.reverse vs.reverse
  | [], _, h => by simp only [Reps] at h; subst h; simpa using Reps.nil
  | x :: ds, _, h => by
    simp only [Reps] at h
    obtain ⟨u, r, rfl, h2, h3⟩ := h
    simpa using Reps.append (Reps.reverse h3) (Reps.one h2)

/-! ### a new thing -/
/-- new and never changed -/
def Wd.pure (w : Wd) (p : Addr) (o : HO) : Wd := ⟨w.mu, fun a => w.S a ∨ a = p, upd w.H p o⟩
/-- new, not told -/
def Wd.raw (w : Wd) (p : Addr) (o : HO) : Wd := ⟨w.mu, w.S, upd w.H p o⟩
def Wd.sto (w : Wd) (p : Addr) (o : HO) : Wd := ⟨w.mu ++ [p], w.S, upd w.H p o⟩
def Wd.frz (w : Wd) (p : Addr) : Wd := ⟨w.mu, fun a => w.S a ∨ a = p, w.H⟩
theorem upd_trk {H : Hp} {p a : Addr} {o : HO} (h : H a ≠ none) : upd H p o a ≠ none := by
  unfold upd; split
  · simp
  · exact h
theorem upd_keep {H : Hp} {p a : Addr} {o : HO} (hp : H p = none) (h : H a ≠ none) : upd H p o a = H a := by
  refine upd_ne ?_
  rintro rfl
  exact h hp
theorem ext_pure {p : Addr} {o : HO} (hp : w.H p = none) : Ext w (w.pure p o) :=
  ⟨⟨[], by simp [Wd.pure], by simp⟩, fun _ h => .inl h, fun a h => h.elim .inl fun e => .inr (e ▸ hp), fun a h _ => upd_keep hp h, fun a h => upd_trk h⟩
theorem ext_raw {p : Addr} {o : HO} (hp : w.H p = none) : Ext w (w.raw p o) :=
  ⟨⟨[], by simp [Wd.raw], by simp⟩, fun _ h => h, fun a h => .inl h, fun a h _ => upd_keep hp h, fun a h => upd_trk h⟩
theorem ext_sto {p : Addr} {o : HO} (hp : w.H p = none) : Ext w (w.sto p o) :=
  ⟨⟨[p], by simp [Wd.sto], by simpa using hp⟩, fun _ h => h, fun a h => .inl h, fun a h _ => upd_keep hp h, fun a h => upd_trk h⟩
theorem Wf.raw {p : Addr} {o : HO} (x : Wf w) (hp : w.H p = none) : Wf (w.raw p o) :=
  ⟨fun a h => ⟨upd_trk (x.s a h).1, (x.s a h).2⟩, fun a h => upd_trk (x.m a h), x.nd⟩
theorem Wf.pure {p : Addr} {o : HO} (x : Wf w) (hp : w.H p = none) : Wf (w.pure p o) := by
  refine ⟨fun a h => ?_, fun a h => upd_trk (x.m a h), x.nd⟩
  rcases h with h | h
  · exact ⟨upd_trk (x.s a h).1, (x.s a h).2⟩
  · subst h
    exact ⟨by show upd w.H a o a ≠ none; rw [upd_same]; simp, fun q => x.m a q hp⟩
theorem SRel.ext0 {st : Sto} (s : SRel A w st) (e : Ext w w') (hm : w'.mu = w.mu) (hk : ∀ a ∈ w.mu, w'.H a = w.H a) (x' : Wf w') : SRel A w' st :=
  ⟨x', by rw [hm]; exact s.len, fun n o a h1 h2 => by
    rw [hm] at h2
    exact (s.ob n o a h1 h2).mono s.wf e (hk a (List.mem_of_getElem? h2))⟩
theorem SRel.pure {st : Sto} {p : Addr} {o : HO} (s : SRel A w st) (hp : w.H p = none) : SRel A (w.pure p o) st :=
  s.ext0 (ext_pure hp) rfl (fun a h => upd_keep hp (s.wf.m a h)) (s.wf.pure hp)
theorem SRel.raw {st : Sto} {p : Addr} {o : HO} (s : SRel A w st) (hp : w.H p = none) : SRel A (w.raw p o) st :=
  s.ext0 (ext_raw hp) rfl (fun a h => upd_keep hp (s.wf.m a h)) (s.wf.raw hp)
theorem rep_tup {p : Addr} {l : List D} {vs : List V} (x : Wf w) (hp : w.H p = none) (hl : vs.length ≤ sizeLine) (h : Reps A w l vs) : Rep A (w.pure p (.tup vs)) (.tup l) (.ref p) := by
  simp only [Rep]
  exact ⟨p, vs, rfl, ⟨hl, .inl ⟨.inr rfl, .inl upd_same⟩⟩, h.mono x (ext_pure hp)⟩
theorem rep_lst {p : Addr} {l : List D} {vs : List V} (x : Wf w) (hp : w.H p = none) (hl : vs.length ≤ sizeLine) (h : Reps A w l vs) : Rep A (w.pure p (.lst vs)) (.lst l) (.ref p) := by
  simp only [Rep]
  exact ⟨p, vs, rfl, ⟨hl, .inr rfl, upd_same⟩, h.mono x (ext_pure hp)⟩
end
end Rf

set_option Elab.async false
set_option linter.all false
set_option maxRecDepth 100000
namespace Rf
open PySem L2

/-! ## lifts -/
def RepX (A : Ad) (w : Wd) (x : Exn) (cls : Value) (dd : Option Addr) : Prop :=
  cls = A.xv x.c ∧ match x.l with
    | [] => dd = none
    | d :: _ => ∃ a v, dd = some a ∧ w.H a = some (.xd [(fdN ((clF x.c).headD 0), v)]) ∧ Rep A w d v
/-- R: how the data come as abstract values, the world ahead, the world behind -/
def PostG {α β : Type} (A : Ad) (R : Wd → Wd → α → β → Prop) (W : XK) (w : Wd) (Q : β → Hp → Prop) : Out α → Prop
  | .ok d st => ∀ w' v, Ext w w' → SRel A w' st → R w w' d v → Q v w'.H
  | .exc x st => ∀ w' cls dd, Ext w w' → SRel A w' st → RepX A w' x cls dd → W cls dd w'.H
  | .bad => False
def LG {α β : Type} (A : Ad) (R : Wd → Wd → α → β → Prop) (W : WX) (den : En → M α) (t : St) (H : Hp) (Q : β → Hp → Prop) : Prop :=
  ∃ (w : Wd) (r : En) (st : Sto), w.H = H ∧ EnvR A w r t ∧ SRel A w st ∧ PostG A R (fun c d H => W c d t H) w Q (den r st)
abbrev RD (A : Ad) : Wd → Wd → D → V → Prop := fun _ w' => Rep A w'
abbrev RL (A : Ad) : Wd → Wd → List D → List V → Prop := fun _ w' => Reps A w'
abbrev RB : Wd → Wd → Bool → Bool → Prop := fun _ _ a b => a = b
/-- a new container, at an address that nothing else tells -/
abbrev RF (A : Ad) : Wd → Wd → D → V → Prop := fun w w' d v => ∃ a, v = .ref a ∧ w.H a = none ∧ ¬ w'.S a ∧ a ∉ w'.mu ∧ Top A w' d a
abbrev LE (A : Ad) (W : WX) (den : En → M D) : TE := LG A (RD A) W den
abbrev LA (A : Ad) (W : WX) (den : En → M (List D)) : TA := LG A (RL A) W den
abbrev LT (A : Ad) (W : WX) (den : En → M Bool) : TT := LG A RB W den
abbrev LF (A : Ad) (W : WX) (den : En → M D) : TE := LG A (RF A) W den

/-! ## the monad -/
def bnd {α β : Type} (m : M α) (f : α → M β) : M β := fun st => match m st with
  | .ok a st' => f a st'
  | .exc x st' => .exc x st'
  | .bad => .bad
def ret {α : Type} (a : α) : M α := fun st => .ok a st
def opt {α : Type} : Option α → M α
  | some a => ret a
  | none => fun _ => .bad
def bndE {α β : Type} (m : En → M α) (f : α → En → M β) : En → M β := fun r => bnd (m r) fun a => f a r
section
variable {α β γ δ : Type} {A : Ad} {R : Wd → Wd → α → β → Prop} {R2 : Wd → Wd → γ → δ → Prop} {W : WX} {t : St} {H : Hp}
/-- two in a row: what the second and what follows want -/
theorem step {m : En → M α} {f : α → En → M γ} {Q : δ → Hp → Prop} {Q1 : β → Hp → Prop} {w0 w : Wd} {r : En} {st : Sto} (e0 : Ext w0 w) (hr : EnvR A w r t) (hs : SRel A w st)
    (hp : PostG A R2 (fun c d H => W c d t H) w0 Q (bndE m f r st))
    (k : ∀ (w' : Wd) (st' : Sto) (a : α) (b : β), EnvR A w' r t → SRel A w' st' → Ext w w' → R w w' a b → PostG A R2 (fun c d H => W c d t H) w0 Q (f a r st') → Q1 b w'.H) : LG A R W m t w.H Q1 := by
  refine ⟨w, r, st, rfl, hr, hs, ?_⟩
  unfold bndE bnd at hp
  cases e : m r st with
  | ok a st1 =>
    rw [e] at hp
    exact fun w' v ex sr rp => k w' st1 a v (hr.mono hs.wf ex) sr ex rp hp
  | exc x st1 => rw [e] at hp; exact fun w'' c dd ex sr rp => hp w'' c dd (e0.trans ex) sr rp
  | bad => rw [e] at hp; exact hp
theorem LG.of {m : En → M γ} {Q : δ → Hp → Prop} {w0 w : Wd} {r : En} {st : Sto} (hr : EnvR A w r t) (hs : SRel A w st) (e0 : Ext w0 w) (hR : ∀ w'' a b, Ext w w'' → R2 w w'' a b → R2 w0 w'' a b)
    (h : PostG A R2 (fun c d H => W c d t H) w0 Q (m r st)) : LG A R2 W m t w.H Q := by
  refine ⟨w, r, st, rfl, hr, hs, ?_⟩
  cases e : m r st with
  | ok a st1 => rw [e] at h; exact fun w' v ex sr rp => h w' v (e0.trans ex) sr (hR w' a v ex rp)
  | exc x st1 => rw [e] at h; exact fun w'' c dd ex sr rp => h w'' c dd (e0.trans ex) sr rp
  | bad => rw [e] at h; exact h
end
theorem RF.later {A : Ad} {w w' w'' : Wd} {a : D} {b : V} (e : Ext w w') (h : RF A w' w'' a b) : RF A w w'' a b := by
  obtain ⟨p, h1, h2, h3⟩ := h
  exact ⟨p, h1, Classical.byContradiction fun q => e.trk p q h2, h3⟩

/-! ## operators by values -/
/-- f is told by r -/
def Imp1 (A : Ad) (f : D → Option D) (r : V → Hp → VK → Prop) : Prop := ∀ (w : Wd) (st : Sto) (a : D) (x : V) (d : D) (Q : VK),
  SRel A w st → Rep A w a x → f a = some d → (∀ w' v, Ext w w' → SRel A w' st → Rep A w' d v → Q v w'.H) → r x w.H Q
def Imp2 (A : Ad) (f : D → D → Option D) (r : L2.R2) : Prop := ∀ (w : Wd) (st : Sto) (a b : D) (x y : V) (d : D) (Q : VK),
  SRel A w st → Rep A w a x → Rep A w b y → f a b = some d → (∀ w' v, Ext w w' → SRel A w' st → Rep A w' d v → Q v w'.H) → r x y w.H Q
def ImpL (A : Ad) (f : List D → Option D) (r : List V → Hp → VK → Prop) : Prop := ∀ (w : Wd) (st : Sto) (l : List D) (xs : List V) (d : D) (Q : VK),
  SRel A w st → Reps A w l xs → f l = some d → (∀ w' v, Ext w w' → SRel A w' st → Rep A w' d v → Q v w'.H) → r xs w.H Q
/-- the same, the value a new container -/
def ImpF (A : Ad) (f : List D → Option D) (r : List V → Hp → VK → Prop) : Prop := ∀ (w : Wd) (st : Sto) (l : List D) (xs : List V) (d : D) (Q : VK),
  SRel A w st → Reps A w l xs → f l = some d → (∀ w' v, Ext w w' → SRel A w' st → RF A w w' d v → Q v w'.H) → r xs w.H Q
def den1 (f : D → Option D) (a : En → M D) : En → M D := bndE a fun x _ => opt (f x)
def den2 (f : D → D → Option D) (a b : En → M D) : En → M D := bndE a fun x => bndE b fun y _ => opt (f x y)
def denL (f : List D → Option D) (a : En → M (List D)) : En → M D := bndE a fun x _ => opt (f x)
section
variable {A : Ad} {W : WX} {t : St} {H : Hp} {Q : VK}
theorem opt_post {α β : Type} {R : Wd → Wd → α → β → Prop} {W : XK} {w : Wd} {Q : β → Hp → Prop} {o : Option α} {st : Sto} (h : PostG A R W w Q (opt o st)) : ∃ d, o = some d ∧ ∀ w' v, Ext w w' → SRel A w' st → R w w' d v → Q v w'.H := by
  cases o with
  | none => exact h.elim
  | some d => exact ⟨d, rfl, h⟩
theorem den1_ok {f : D → Option D} {r : V → Hp → VK → Prop} {a : En → M D} (i : Imp1 A f r) (h : LE A W (den1 f a) t H Q) : LE A W a t H fun x H1 => r x H1 Q := by
  obtain ⟨w, r, st, rfl, hr, hs, hp⟩ := h
  refine step (.refl w) hr hs hp fun w1 st1 a x hr1 hs1 e1 rx hp1 => ?_
  obtain ⟨d, e, hq⟩ := opt_post hp1
  exact i w1 st1 a x d Q hs1 rx e fun w'' v ex sr rp => hq w'' v (e1.trans ex) sr rp
theorem den2_ok {f : D → D → Option D} {r : L2.R2} {a b : En → M D} (i : Imp2 A f r) (h : LE A W (den2 f a b) t H Q) : LE A W a t H fun x H1 => LE A W b t H1 fun y H2 => r x y H2 Q := by
  obtain ⟨w, r, st, rfl, hr, hs, hp⟩ := h
  refine step (.refl w) hr hs hp fun w1 st1 a x hr1 hs1 e1 rx hp1 => ?_
  refine step e1 hr1 hs1 hp1 fun w2 st2 b y hr2 hs2 e2 ry hp2 => ?_
  obtain ⟨d, e, hq⟩ := opt_post hp2
  exact i w2 st2 a b x y d Q hs2 (rx.mono hs1.wf e2) ry e fun w'' v ex sr rp => hq w'' v ((e1.trans e2).trans ex) sr rp
theorem denL_ok {f : List D → Option D} {r : List V → Hp → VK → Prop} {a : En → M (List D)} (i : ImpL A f r) (h : LE A W (denL f a) t H Q) : LA A W a t H fun x H1 => r x H1 Q := by
  obtain ⟨w, r, st, rfl, hr, hs, hp⟩ := h
  refine step (.refl w) hr hs hp fun w1 st1 a x hr1 hs1 e1 rx hp1 => ?_
  obtain ⟨d, e, hq⟩ := opt_post hp1
  exact i w1 st1 a x d Q hs1 rx e fun w'' v ex sr rp => hq w'' v (e1.trans ex) sr rp
theorem denF_ok {f : List D → Option D} {r : List V → Hp → VK → Prop} {a : En → M (List D)} (i : ImpF A f r) (h : LF A W (denL f a) t H Q) : LA A W a t H fun x H1 => r x H1 Q := by
  obtain ⟨w, r, st, rfl, hr, hs, hp⟩ := h
  refine step (.refl w) hr hs hp fun w1 st1 a x hr1 hs1 e1 rx hp1 => ?_
  obtain ⟨d, e, hq⟩ := opt_post hp1
  exact i w1 st1 a x d Q hs1 rx e fun w'' v ex sr rp => hq w'' v (e1.trans ex) sr (rp.later e1)
/-- the arguments of a call -/
def dNil : En → M (List D) := fun _ => ret []
def dCons (a : En → M D) (b : En → M (List D)) : En → M (List D) := bndE a fun x => bndE b fun xs _ => ret (x :: xs)
theorem dNil_ok {Q : List V → Hp → Prop} (h : LA A W dNil t H Q) : tNil t H Q := by
  obtain ⟨w, r, st, rfl, hr, hs, hp⟩ := h
  exact hp w [] (.refl w) hs .nil
theorem dCons_ok {a : En → M D} {b : En → M (List D)} {Q : List V → Hp → Prop} (h : LA A W (dCons a b) t H Q) : tCons (LE A W a) (LA A W b) t H Q := by
  obtain ⟨w, r, st, rfl, hr, hs, hp⟩ := h
  refine step (.refl w) hr hs hp fun w1 st1 a x hr1 hs1 e1 rx hp1 => ?_
  refine step e1 hr1 hs1 hp1 fun w2 st2 b y hr2 hs2 e2 ry hp2 => ?_
  exact hp2 w2 (x :: y) (e1.trans e2) hs2 (.cons (rx.mono hs1.wf e2) ry)
/-- a new container that nobody changes -/
theorem LF_LE {a : En → M D} (h : LE A W a t H Q) : LF A W a t H Q := by
  obtain ⟨w, r, st, rfl, hr, hs, hp⟩ := h
  refine ⟨w, r, st, rfl, hr, hs, ?_⟩
  cases e : a r st with
  | ok d st1 =>
    rw [e] at hp
    intro w' v ex sr rf
    obtain ⟨p, rfl, h1, h2, h3, h4⟩ := rf
    have x := sr.wf
    have hx : Le w' (w'.frz p) := ⟨fun _ _ q => q, fun a q => ⟨.inl q, rfl⟩⟩
    have x2 : Wf (w'.frz p) := ⟨fun a q => q.elim (x.s a) fun e => by rw [e]; exact ⟨h4.trk, h3⟩, x.m, x.nd⟩
    have s2 : SRel A (w'.frz p) st1 := ⟨x2, sr.len, fun n o a q1 q2 => (sr.ob n o a q1 q2).le hx rfl⟩
    exact hp (w'.frz p) (.ref p) ⟨ex.mu, fun a q => .inl (ex.s a q), fun a q => q.elim (ex.sn a) fun e => .inr (e ▸ h1), ex.keep, ex.trk⟩ s2 ((h4.le hx rfl).rep (.inr rfl))
  | exc x st1 => rw [e] at hp; exact hp
  | bad => rw [e] at hp; exact hp
end
/-! ## what is only looked at -/
/-- a value, or a container that one slot owns -/
def RepP (A : Ad) (w : Wd) (d : D) (v : V) : Prop := Rep A w d v ∨ ∃ a, v = .ref a ∧ ¬ w.S a ∧ a ∉ w.mu ∧ Top A w d a
def RepsP (A : Ad) (w : Wd) : List D → List V → Prop
  | [], vs => vs = []
  | d :: ds, vs => ∃ v r, vs = v :: r ∧ RepP A w d v ∧ RepsP A w ds r
def LAtP (_ : Ad) (w : Wd) (a : Addr) (vs : List V) : Prop := vs.length ≤ sizeLine ∧ w.H a = some (.lst vs)
abbrev RDP (A : Ad) : Wd → Wd → D → V → Prop := fun _ w' => RepP A w'
abbrev RLP (A : Ad) : Wd → Wd → List D → List V → Prop := fun _ w' => RepsP A w'
abbrev LEP (A : Ad) (W : WX) (den : En → M D) : TE := LG A (RDP A) W den
abbrev LAP (A : Ad) (W : WX) (den : En → M (List D)) : TA := LG A (RLP A) W den
section
variable {A : Ad} {w w' : Wd}
theorem LAtP.seq {a : Addr} {vs : List V} (h : LAtP A w a vs) : SqL A.K w.H a vs := .inl (.inl h.2)
theorem RepP.mono {d : D} {v : V} (x : Wf w) (e : Ext w w') (h : RepP A w d v) : RepP A w' d v := by
  rcases h with h | ⟨a, h1, h2, h3, h4⟩
  · exact .inl (h.mono x e)
  · exact .inr ⟨a, h1, fun q => (e.sn a q).elim h2 h4.trk, e.nmu h4.trk h3, h4.mono x e (e.keep a h4.trk h3)⟩
theorem RepP.flat {d : D} {v : V} (h : RepP A w d v) (n : ∀ a, ¬ Top A w d a) : Rep A w d v := h.elim id fun ⟨a, _, _, _, z⟩ => absurd z (n a)
theorem RepP.bl {b : Bool} {v : V} (h : RepP A w (.bl b) v) : v = .bl b := (h.flat fun _ z => z).bl
theorem RepP.int {i : Int} {v : V} (h : RepP A w (.int i) v) : v = .int i := (h.flat fun _ z => z).int
theorem RepP.str {s : List Nat} {v : V} (h : RepP A w (.str s) v) : v = .str ⟨s.toArray⟩ ∧ StrOk s := (h.flat fun _ z => z).str
theorem RepP.tupR {l : List D} {v : V} (h : RepP A w (.tup l) v) : Rep A w (.tup l) v := h.flat fun _ z => z
theorem RepP.frlR {l : List D} {v : V} (h : RepP A w (.frl l) v) : Rep A w (.frl l) v := h.flat fun _ z => z
theorem RepP.locR {n : Nat} {v : V} (h : RepP A w (.loc n) v) : Rep A w (.loc n) v := h.flat fun _ z => z
theorem RepP.tup {l : List D} {v : V} (h : RepP A w (.tup l) v) : ∃ a vs, v = .ref a ∧ TAt A w a vs ∧ Reps A w l vs := h.tupR.tup
theorem RepP.frl {l : List D} {v : V} (h : RepP A w (.frl l) v) : ∃ a vs, v = .ref a ∧ FAt A w a vs ∧ Reps A w l vs := h.frlR.frl
theorem RepP.lst {l : List D} {v : V} (h : RepP A w (.lst l) v) : ∃ a vs, v = .ref a ∧ LAtP A w a vs ∧ Reps A w l vs := by
  rcases h with h | ⟨a, h1, _, _, vs, h3, h4, h5⟩
  · obtain ⟨a, vs, h1, h2, h3⟩ := h.lst
    exact ⟨a, vs, h1, ⟨h2.1, h2.2.2⟩, h3⟩
  · exact ⟨a, vs, h1, ⟨h4, h3⟩, h5⟩
theorem RepsP.one' {d : D} {vs : List V} (h : RepsP A w [d] vs) : ∃ v, vs = [v] ∧ RepP A w d v := by
  simp only [RepsP] at h
  obtain ⟨v, r, rfl, h2, rfl⟩ := h
  exact ⟨v, rfl, h2⟩
theorem RepsP.two {a b : D} {vs : List V} (h : RepsP A w [a, b] vs) : ∃ x y, vs = [x, y] ∧ RepP A w a x ∧ RepP A w b y := by
  simp only [RepsP] at h
  obtain ⟨v, r, rfl, h2, u, r2, rfl, h3, rfl⟩ := h
  exact ⟨v, u, rfl, h2, h3⟩
theorem RepsP.nil' {vs : List V} (h : RepsP A w [] vs) : vs = [] := h
/-- f reads the store, and may change it -/
def ImpLP (A : Ad) (f : Sto → List D → Option (D × Sto)) (r : List V → Hp → VK → Prop) : Prop := ∀ (w : Wd) (st : Sto) (l : List D) (xs : List V) (d : D) (st' : Sto) (Q : VK),
  SRel A w st → RepsP A w l xs → f st l = some (d, st') → (∀ w' v, Ext w w' → SRel A w' st' → Rep A w' d v → Q v w'.H) → r xs w.H Q
def ImpFP (A : Ad) (f : Sto → List D → Option (D × Sto)) (r : List V → Hp → VK → Prop) : Prop := ∀ (w : Wd) (st : Sto) (l : List D) (xs : List V) (d : D) (st' : Sto) (Q : VK),
  SRel A w st → RepsP A w l xs → f st l = some (d, st') → (∀ w' v, Ext w w' → SRel A w' st' → RF A w w' d v → Q v w'.H) → r xs w.H Q
def optW {α : Type} : Option (α × Sto) → Out α
  | some (a, st) => .ok a st
  | none => .bad
def denP (f : Sto → List D → Option (D × Sto)) (a : En → M (List D)) : En → M D := bndE a fun x _ st => optW (f st x)
def keepSt (f : List D → Option D) : Sto → List D → Option (D × Sto) := fun st l => (f l).map fun d => (d, st)
theorem keepSt_eq {f : List D → Option D} {st st' : Sto} {l : List D} {d : D} (h : keepSt f st l = some (d, st')) : f l = some d ∧ st' = st := by
  unfold keepSt at h
  simp only [Option.map_eq_some_iff, Prod.mk.injEq] at h
  obtain ⟨x, h1, h2, h3⟩ := h
  exact ⟨h2 ▸ h1, h3.symm⟩
theorem ImpLP.keep {f : List D → Option D} {r : List V → Hp → VK → Prop} (h : ∀ (w : Wd) (st : Sto) (l : List D) (xs : List V) (d : D) (Q : VK), SRel A w st → RepsP A w l xs → f l = some d → (∀ w' v, Ext w w' → SRel A w' st → Rep A w' d v → Q v w'.H) → r xs w.H Q) : ImpLP A (keepSt f) r :=
  fun w st l xs d st' Q hs rp e q => by
    obtain ⟨e1, rfl⟩ := keepSt_eq e
    exact h w st' l xs d Q hs rp e1 q
theorem ImpFP.keep {f : List D → Option D} {r : List V → Hp → VK → Prop} (h : ∀ (w : Wd) (st : Sto) (l : List D) (xs : List V) (d : D) (Q : VK), SRel A w st → RepsP A w l xs → f l = some d → (∀ w' v, Ext w w' → SRel A w' st → RF A w w' d v → Q v w'.H) → r xs w.H Q) : ImpFP A (keepSt f) r :=
  fun w st l xs d st' Q hs rp e q => by
    obtain ⟨e1, rfl⟩ := keepSt_eq e
    exact h w st' l xs d Q hs rp e1 q
end
section
variable {A : Ad} {W : WX} {t : St} {H : Hp} {Q : VK}
theorem optW_post {α β : Type} {R : Wd → Wd → α → β → Prop} {W : XK} {w : Wd} {Q : β → Hp → Prop} {o : Option (α × Sto)} (h : PostG A R W w Q (optW o)) : ∃ d st, o = some (d, st) ∧ ∀ w' v, Ext w w' → SRel A w' st → R w w' d v → Q v w'.H := by
  cases o with
  | none => exact h.elim
  | some d => exact ⟨d.1, d.2, rfl, h⟩
theorem denP_ok {f : Sto → List D → Option (D × Sto)} {r : List V → Hp → VK → Prop} {a : En → M (List D)} (i : ImpLP A f r) (h : LE A W (denP f a) t H Q) : LAP A W a t H fun x H1 => r x H1 Q := by
  obtain ⟨w, r, st, rfl, hr, hs, hp⟩ := h
  refine step (R := RLP A) (.refl w) hr hs hp fun w1 st1 a x hr1 hs1 e1 rx hp1 => ?_
  obtain ⟨d, st2, e, hq⟩ := optW_post hp1
  exact i w1 st1 a x d st2 Q hs1 rx e fun w'' v ex sr rp => hq w'' v (e1.trans ex) sr rp
theorem denPF_ok {f : Sto → List D → Option (D × Sto)} {r : List V → Hp → VK → Prop} {a : En → M (List D)} (i : ImpFP A f r) (h : LF A W (denP f a) t H Q) : LAP A W a t H fun x H1 => r x H1 Q := by
  obtain ⟨w, r, st, rfl, hr, hs, hp⟩ := h
  refine step (R := RLP A) (.refl w) hr hs hp fun w1 st1 a x hr1 hs1 e1 rx hp1 => ?_
  obtain ⟨d, st2, e, hq⟩ := optW_post hp1
  exact i w1 st1 a x d st2 Q hs1 rx e fun w'' v ex sr rp => hq w'' v (e1.trans ex) sr (rp.later e1)
theorem dConsP_ok {a : En → M D} {b : En → M (List D)} {Q : List V → Hp → Prop} (h : LAP A W (dCons a b) t H Q) : tCons (LEP A W a) (LAP A W b) t H Q := by
  obtain ⟨w, r, st, rfl, hr, hs, hp⟩ := h
  refine step (R := RDP A) (.refl w) hr hs hp fun w1 st1 a x hr1 hs1 e1 rx hp1 => ?_
  refine step (R := RLP A) e1 hr1 hs1 hp1 fun w2 st2 b y hr2 hs2 e2 ry hp2 => ?_
  exact hp2 w2 (x :: y) (e1.trans e2) hs2 ⟨x, y, rfl, rx.mono hs1.wf e2, ry⟩
theorem dNilP_ok {Q : List V → Hp → Prop} (h : LAP A W dNil t H Q) : tNil t H Q := by
  obtain ⟨w, r, st, rfl, hr, hs, hp⟩ := h
  exact hp w [] (.refl w) hs rfl
theorem LE_LEP {den : En → M D} (h : LEP A W den t H Q) : LE A W den t H Q := by
  obtain ⟨w, r, st, rfl, hr, hs, hp⟩ := h
  refine ⟨w, r, st, rfl, hr, hs, ?_⟩
  cases e : den r st with
  | ok d st1 => rw [e] at hp; exact fun w' v ex sr rp => hp w' v ex sr (.inl rp)
  | exc x st1 => rw [e] at hp; exact hp
  | bad => rw [e] at hp; exact hp
end
end Rf

set_option Elab.async false
set_option linter.all false
set_option maxRecDepth 100000
set_option maxHeartbeats 1000000
namespace Rf
open PySem L2

/-! ## checks of names -/
def beqS (a b : Str) : Bool := a.cps.toList == b.cps.toList
theorem beqS_eq {a b : Str} (h : beqS a b = true) : a = b := by
  unfold beqS at h
  exact Str.ext' (Array.toList_inj.mp (eq_of_beq h))
def nodB : List Str → Bool
  | [] => true
  | x :: r => r.all (fun y => !beqS x y) && nodB r
theorem nodB_ok : ∀ {l : List Str}, nodB l = true → l.Nodup
  | [], _ => List.nodup_nil
  | x :: r, h => by
    simp only [nodB, Bool.and_eq_true, List.all_eq_true] at h
    refine List.nodup_cons.mpr ⟨fun hx => ?_, nodB_ok h.2⟩
    have := h.1 x hx
    simp [beqS] at this
/-- where each parameter's value stands: among the n by position, behind them those of the keywords ks -/
def pmOk (ps : List Str) (n : Nat) (ks : List Str) (pm : List Nat) : Bool :=
  decide (pm.length = ps.length) && decide (n ≤ ps.length) && nodB ks && ks.all (fun k => (ps.drop n).any fun p => beqS k p) &&
  (List.range ps.length).all fun m => if m < n then decide (pm[m]? = some m) else (match pm[m]?, ps[m]? with
    | some j, some x => decide (n ≤ j) && (match ks[j - n]? with
      | some k => beqS k x
      | none => false)
    | _, _ => false)
def arr {α : Type} (d : α) (pm : List Nat) (l : List α) : List α := pm.map fun j => l.getD j d
def KwOk (K : PySem.W.Frag) (fd : FuncData) (ps : List Str) : Prop := ∀ (s : Shared) (us ws : List Value) (ks : List Str) (pm : List Nat), K.In s.heap → ws.length = ks.length → pmOk ps us.length ks pm = true → BindsTo s fd ⟨us, ks.zip ws⟩ (ps.zip (arr .none pm (us ++ ws)))

/-! ## the context -/
/-- a plain name: none that the machine treats apart -/
def okN (x : Str) : Bool := !(x == ("__debug__" : Str)) && !(x == ("__classdict__" : Str)) && !(x == ("__name__" : Str))
def spF (A : Ad) (f : List D → M D) : Sp := fun vs H Q E => ∃ (w : Wd) (ds : List D) (st : Sto), w.H = H ∧ SRel A w st ∧ Reps A w ds vs ∧ PostG A (RD A) E w Q (f ds st)
/-- what an __init__ of the class c makes of a new instance -/
def spI (A : Ad) (c : Nat) (f : List D → M D) : Sp := fun vs H Q E => ∃ (w : Wd) (x dx : Addr) (vs' : List V) (ds : List D) (st : Sto), vs = .ref x :: vs' ∧ w.H x = none ∧ w.H dx = none ∧ dx ≠ x ∧ H = upd (upd w.H dx (.own x)) x (.ins (A.ca c) dx []) ∧
  c ∈ A.I.cs ∧ SRel A w st ∧ Reps A w ds vs' ∧ PostG A (RF A) E w (fun v H => v = .ref x → Q .non H) (f ds st)
def spX (A : Ad) (i : Nat) (f : List D → M D) : Sp := match iniC i with
  | none => spF A f
  | some c => spI A c f
def CallsOk (A : Ad) (P : Program) (w : World) (mg : Str → Option Value) (base : Heap) (k : Nat) (F : FT) : Prop :=
  ∀ i, (∃ fd ps, FnOk P w A.K mg base (L2.CX P w) (2 * k) (A.fa i) fd ps (spX A i (F i)) ∧ Binds A.K fd ps [] ∧ KwOk A.K fd ps ∧ ps = paN i) ∨ ∀ ds st, F i ds st = .bad
/-- a class that makes instances by its __init__ -/
structure ClsF (A : Ad) (mg : Str → Option Value) (c : Nat) : Prop where
  cl : Cls A.K (A.ca c)
  no : ∀ f ∈ names c, NoAttr A.K (A.ca c) f
  nd : (names c).Nodup
  ln : (names c).length < 1000
  mg : mg (clN c) = some (.ref (A.ca c))
  ok : okN (clN c) = true
  mkr : Mk A.K (A.ca c) (A.fa (iniF c))
  ic : iniC (iniF c) = some c
  ka : PySem.W.findIn A.K (.ref (A.ca c)) "__class__" = some (some (.builtin "object.__class__"))
  kn : PySem.W.specialIn A.K (.builtin "object.__class__") "__get__" = some (some (.builtin "getset_descriptor.__get__"))
  kt : PySem.W.takesIn A.K (.builtin "object.__class__") = some true
  km : PySem.W.mroIn A.K (A.ca c) (.type "object") = some true
  kb : ∀ i, i < 7 → PySem.W.kitOne A.K (.ref (A.ca c)) (.type (tyN i)) = some false ∧ PySem.W.kitOne A.K (.type (tyN i)) (.ref (A.ca c)) = some false ∧ PySem.W.notFirst A.K (A.ca c) (.type (tyN i)) = true
  kk : ∀ c' ∈ A.I.cs, PySem.W.kitOne A.K (.ref (A.ca c)) (.ref (A.ca c')) = some (decide (c = c')) ∧ PySem.W.notFirst A.K (A.ca c) (.ref (A.ca c')) = true
  kf : PySem.W.keepIn A.K (.ref (A.ca c)) = true
  eq : ∀ i, eqF c = some i → PySem.W.findIn A.K (.ref (A.ca c)) "__eq__" = some (some (.ref (A.fa i))) ∧ PySem.W.isFn A.K (.ref (A.fa i)) = true ∧ iniC i = none ∧
    PySem.W.findIn A.K (.ref (A.ca c)) "__ne__" = some (some (.builtin "object.__ne__"))
structure Facts (A : Ad) (mg : Str → Option Value) : Prop where
  fn : ∀ i ∈ A.I.fs, mg (fnN i) = some (.ref (A.fa i)) ∧ PySem.W.keepIn A.K (.ref (A.fa i)) = true ∧ iniC i = none
  co : ∀ i ∈ A.I.ks, ∃ u v, mg (coN i) = some u ∧ RelV v u ∧ ∀ w, Rep A w (coD i) v
  bl : ∀ i ∈ A.I.bs, mg (blN i) = none
  cl : ∀ c ∈ A.I.cs, ClsF A mg c
structure Ctx (A : Ad) (k : Nat) (F : FT) (X : Cx) (W : WX) : Prop where
  hK : X.K = A.K
  facts : Facts A X.mg
  calls : CallsOk A X.prog X.w X.mg X.base k F
  room : Room (2 * k + 1) X.A
  calm : X.calm = true
  nd : X.N.Nodup
  pass : ∀ t, PassesAt (L2.CX X.prog X.w) X t (fun c d H => W c d t H)

/-! ## checks -/
def visB (sc : Scope) (x : Str) : Bool := match sc.names.lookup x with
  | some .local | some .cell | some .free => true
  | _ => false
def glbB (sc : Scope) (x : Str) : Bool := match sc.names.lookup x with
  | some .globalImplicit => true
  | _ => false
def locB (sc : Scope) (x : Str) : Bool := match sc.names.lookup x with
  | some .local => true
  | _ => false
theorem visB_ok {sc : Scope} {x : Str} (h : visB sc x = true) : Vis sc x := by
  unfold visB at h
  unfold Vis
  split at h <;> simp_all
theorem glbB_ok {X : Cx} {x : Str} (h : glbB X.env.scope x = true) : Gl X x := by
  unfold glbB at h
  show X.env.scope.names.lookup x = _
  split at h <;> simp_all
theorem locB_ok {sc : Scope} {x : Str} (h : locB sc x = true) : sc.names.lookup x = some .local := by
  unfold locB at h
  split at h <;> simp_all
theorem okN_d {x : Str} (h : okN x = true) : (x == ("__debug__" : Str)) = false := by unfold okN at h; simp_all
theorem okN_c {x : Str} (h : okN x = true) : (x == ("__classdict__" : Str)) = false := by unfold okN at h; simp_all
theorem okN_n {x : Str} (h : okN x = true) : x ≠ "__name__" := by
  unfold okN at h
  simp only [Bool.and_eq_true, Bool.not_eq_true'] at h
  intro e
  rw [e] at h
  simp at h
def notStar : Expr → Bool
  | .Starred _ _ => false
  | _ => true
theorem star_cons {e : Expr} {es : List Expr} {env : Env} (h : notStar e = true) : starEach (e :: es) env = (false, eval e env) :: starEach es env := by
  cases e <;> first | rfl | cases h
theorem star_any {pos : Pos} {env : Env} : ∀ {es : List Expr}, es.all notStar = true → (backTo pos (starEach es env)).any (·.1) = false
  | [], _ => rfl
  | e :: es, h => by
    simp only [List.all_cons, Bool.and_eq_true] at h
    rw [star_cons h.1]
    have := star_any (pos := pos) (env := env) h.2
    unfold backTo at this ⊢
    rw [List.map_cons, List.any_cons, this]
    rfl
/-- as a test by its truth -/
def plainT : Expr → Bool
  | .UnaryOp _ _ _ | .BoolOp _ _ _ | .IfExp _ _ _ _ | .Compare _ _ _ _ => false
  | _ => true
theorem plainT_ok {e : Expr} {env : Env} (h : plainT e = true) (whole : Sem Value) : isTrue e env whole = (do let v ← whole; standAt e.pos; holding [v] (truthy v)) := by
  cases e <;> first | rfl | cases h
def noSup : Expr → Bool
  | .Call (.Name x _) _ _ _ => !(x == ("super" : Str))
  | _ => true
theorem base_ok {o : Expr} {m : Str} {env : Env} {whole : Sem Value} (h : noSup o = true) : attributeBase o m env whole = whole := by
  unfold attributeBase
  split
  · rename_i x p pos
    have h' : (!(x == ("super" : Str))) = true := h
    have e : (x != ("super" : Str)) = true := h'
    rw [e]
    simp
  · rfl
def plainI : Expr → Bool
  | .Slice _ _ _ _ => false
  | _ => true
theorem plainI_ok {b : Expr} (h : plainI b = true) : PlainIx b := by
  intro o i
  cases b <;> first | rfl | cases h
theorem _root_.L2.PE.imp {X : Cx} {e : Expr} {t t' : TE} (h : PE X e t) (k : ∀ σ H Q, t' σ H Q → t σ H Q) : PE X e t' := ⟨fun pins s σ H Q I q => h.run pins s σ H Q I (k σ H Q q)⟩
theorem _root_.L2.PT.imp {X : Cx} {e : Expr} {t t' : TT} (h : PT X e t) (k : ∀ σ H Q, t' σ H Q → t σ H Q) : PT X e t' := ⟨fun pins s σ H Q I q => h.run pins s σ H Q I (k σ H Q q)⟩
theorem _root_.L2.PA.imp {X : Cx} {e : List Expr} {t t' : TA} (h : PA X e t) (k : ∀ σ H Q, t' σ H Q → t σ H Q) : PA X e t' := ⟨fun pos pins s σ H Q I q => h.run pos pins s σ H Q I (k σ H Q q)⟩

/-! ## expressions -/
structure BE where
  den : FT → En → M D
  chk : Info → List Str → Scope → Expr → Bool
  snd : ∀ {A : Ad} {k : Nat} {F : FT} {X : Cx} {W : WX}, Ctx A k F X W → ∀ {e : Expr}, chk A.I X.N X.env.scope e = true → PE X e (LE A W (den F))
/-- a new container -/
structure BF where
  den : FT → En → M D
  chk : Info → List Str → Scope → Expr → Bool
  snd : ∀ {A : Ad} {k : Nat} {F : FT} {X : Cx} {W : WX}, Ctx A k F X W → ∀ {e : Expr}, chk A.I X.N X.env.scope e = true → PE X e (LF A W (den F))
structure BT where
  den : FT → En → M Bool
  chk : Info → List Str → Scope → Expr → Bool
  snd : ∀ {A : Ad} {k : Nat} {F : FT} {X : Cx} {W : WX}, Ctx A k F X W → ∀ {e : Expr}, chk A.I X.N X.env.scope e = true → PT X e (LT A W (den F))
def BF.e (b : BF) : BE := ⟨b.den, b.chk, fun C _ h => (b.snd C h).imp fun _ _ _ q => LF_LE q⟩

/-- what is only looked at -/
structure BP where
  den : FT → En → M D
  chk : Info → List Str → Scope → Expr → Bool
  snd : ∀ {A : Ad} {k : Nat} {F : FT} {X : Cx} {W : WX}, Ctx A k F X W → ∀ {e : Expr}, chk A.I X.N X.env.scope e = true → PE X e (LEP A W (den F))
def BE.p (b : BE) : BP := ⟨b.den, b.chk, fun C _ h => (b.snd C h).imp fun _ _ _ q => LE_LEP q⟩
/-- what a slot owns -/
def getO (r : En) (i : Nat) : Option D := match r[i]? with
  | some (.own d) => some d
  | _ => none
def pOwn (i : Nat) : BP where
  den _ r := opt (getO r i)
  chk _ N sc e := match e with
    | .Name x _ => (match N[i]? with
      | some y => beqS x y && visB sc x && okN x
      | none => false)
    | _ => false
  snd {A k F X W} C e h := by
    split at h
    · rename_i x pos
      split at h
      · rename_i y hy
        simp only [Bool.and_eq_true] at h
        obtain ⟨⟨h1, h2⟩, h3⟩ := h
        have e1 := beqS_eq h1
        subst e1
        refine (pe_var hy (visB_ok h2) (okN_d h3) (okN_c h3)).imp fun t H Q q => ?_
        obtain ⟨w, r, st, rfl, hr, hs, hp⟩ := q
        obtain ⟨d, e, hq⟩ := opt_post hp
        unfold getO at e
        split at e
        · rename_i d' e'
          cases e
          have hi : i < t.length := by rw [← hr.len]; exact (List.getElem?_eq_some_iff.mp e').1
          obtain ⟨a, h5, h6, h7, h8⟩ := hr.at_ i _ t[i] e' (by simp [hi])
          exact ⟨.ref a, by rw [List.getElem?_eq_getElem hi, h5], hq w _ (.refl w) hs (.inr ⟨a, rfl, h6, h7, h8⟩)⟩
        · cases e
      · cases h
    · cases h
/-- a slot's value -/
def getV (r : En) (i : Nat) : Option D := match r[i]? with
  | some (.val d) => some d
  | _ => none
def cVar (i : Nat) : BE where
  den _ r := opt (getV r i)
  chk _ N sc e := match e with
    | .Name x _ => (match N[i]? with
      | some y => beqS x y && visB sc x && okN x
      | none => false)
    | _ => false
  snd {A k F X W} C e h := by
    split at h
    · rename_i x pos
      split at h
      · rename_i y hy
        simp only [Bool.and_eq_true] at h
        obtain ⟨⟨h1, h2⟩, h3⟩ := h
        have e1 := beqS_eq h1
        subst e1
        refine (pe_var hy (visB_ok h2) (okN_d h3) (okN_c h3)).imp fun t H Q q => ?_
        obtain ⟨w, r, st, rfl, hr, hs, hp⟩ := q
        obtain ⟨d, e, hq⟩ := opt_post hp
        unfold getV at e
        split at e
        · rename_i d' e'
          cases e
          have hi : i < t.length := by rw [← hr.len]; exact (List.getElem?_eq_some_iff.mp e').1
          obtain ⟨u, h5, h6⟩ := hr.at_ i _ t[i] e' (by simp [hi])
          exact ⟨u, by rw [List.getElem?_eq_getElem hi, h5], hq w u (.refl w) hs h6⟩
        · cases e
      · cases h
    · cases h
theorem LE.const {A : Ad} {W : WX} {d : D} {v : V} (hv : ∀ w, Rep A w d v) {t : St} {H : Hp} {Q : VK} (h : LE A W (fun _ => Rf.ret d) t H Q) : tC v t H Q := by
  obtain ⟨w, r, st, rfl, hr, hs, hp⟩ := h
  exact hp w v (.refl w) hs (hv w)
def cInt (i : Int) : BE where
  den _ _ := ret (.int i)
  chk _ _ _ e := match e with
    | .Constant (.int j) _ _ => decide (i = j)
    | _ => false
  snd {A k F X W} C e h := by
    split at h
    · have e1 := of_decide_eq_true h
      subst e1
      exact pe_int.imp fun t H Q q => LE.const (fun w => rep_int _) q
    · cases h
def cBl (b : Bool) : BE where
  den _ _ := ret (.bl b)
  chk _ _ _ e := match e with
    | .Constant (.bool j) _ _ => decide (b = j)
    | _ => false
  snd {A k F X W} C e h := by
    split at h
    · have e1 := of_decide_eq_true h
      subst e1
      exact pe_bl.imp fun t H Q q => LE.const (fun w => rep_bl _) q
    · cases h
def cNon : BE where
  den _ _ := ret .non
  chk _ _ _ e := match e with
    | .Constant .none _ _ => true
    | _ => false
  snd {A k F X W} C e h := by
    split at h
    · exact pe_non.imp fun t H Q q => LE.const (fun w => rep_non) q
    · cases h
def strB (s : List Nat) : Bool := decide (s.length ≤ sizeLine) && s.all (fun c => decide (c < 1114112))
theorem strB_ok {s : List Nat} (h : strB s = true) : StrOk s := by
  unfold strB at h
  simp only [Bool.and_eq_true, decide_eq_true_eq, List.all_eq_true] at h
  exact h
def cStr (s : List Nat) : BE where
  den _ _ := ret (.str s)
  chk _ _ _ e := match e with
    | .Constant (.str x) _ _ => x.cps.toList == s && strB s
    | _ => false
  snd {A k F X W} C e h := by
    split at h
    · simp only [Bool.and_eq_true] at h
      obtain ⟨h1, h2⟩ := h
      have e1 := eq_of_beq h1
      rename_i x _ _
      have e2 : x = (⟨s.toArray⟩ : Str) := by rw [← e1]
      subst e2
      exact pe_str.imp fun t H Q q => LE.const (fun w => rep_str (strB_ok h2)) q
    · cases h
/-- a constant of the module -/
def cCon (i : Nat) : BE where
  den _ _ := ret (coD i)
  chk I _ sc e := match e with
    | .Name x _ => beqS x (coN i) && I.ks.contains i && glbB sc x && okN x
    | _ => false
  snd {A k F X W} C e h := by
    split at h
    · simp only [Bool.and_eq_true, List.contains_iff_mem] at h
      obtain ⟨⟨⟨h1, h2⟩, h3⟩, h4⟩ := h
      have e1 := beqS_eq h1
      subst e1
      obtain ⟨u, v, q1, q2, q3⟩ := C.facts.co i h2
      exact (pe_glob (glbB_ok h3) q1 q2 (okN_d h4)).imp fun t H Q q => LE.const q3 q
    · cases h

/-! ## operators -/
structure Op2 where
  op : Operator
  f : D → D → Option D
  imp : ∀ {A : Ad} {k : Nat} {F : FT} {X : Cx} {W : WX}, Ctx A k F X W → ∃ r, OpR X (binaryOp op) r ∧ Imp2 A f r
def cBin (o : Op2) (a b : BE) : BE where
  den F := den2 o.f (a.den F) (b.den F)
  chk I N sc e := match e with
    | .BinOp x op y _ => decide (op = o.op) && a.chk I N sc x && b.chk I N sc y
    | _ => false
  snd {A k F X W} C e h := by
    split at h
    · simp only [Bool.and_eq_true, decide_eq_true_eq] at h
      obtain ⟨⟨h1, h2⟩, h3⟩ := h
      subst h1
      obtain ⟨r, q1, q2⟩ := o.imp C
      exact (pe_op q1 (a.snd C h2) (b.snd C h3)).imp fun t H Q q => den2_ok q2 q
    · cases h
structure Cp2 where
  op : CmpOp
  f : D → D → Option D
  imp : ∀ {A : Ad} {k : Nat} {F : FT} {X : Cx} {W : WX}, Ctx A k F X W → ∃ r, OpR X (compareOp op) r ∧ Imp2 A f r
def notSet : Expr → Bool
  | .Set _ _ _ => false
  | _ => true
theorem notSet_ok {e : Expr} {op : CmpOp} (h : notSet e = true) : behindInMarks op e = false := by
  cases e <;> first | rfl | cases h
def cCmp (o : Cp2) (a b : BE) : BE where
  den F := den2 o.f (a.den F) (b.den F)
  chk I N sc e := match e with
    | .Compare x [op] [y] _ => decide (op = o.op) && notSet y && a.chk I N sc x && b.chk I N sc y
    | _ => false
  snd {A k F X W} C e h := by
    split at h
    · simp only [Bool.and_eq_true, decide_eq_true_eq] at h
      obtain ⟨⟨⟨h1, h0⟩, h2⟩, h3⟩ := h
      subst h1
      obtain ⟨r, q1, q2⟩ := o.imp C
      exact (pe_cmpR q1 (a.snd C h2) (b.snd C h3) (notSet_ok h0)).imp fun t H Q q => den2_ok q2 q
    · cases h
/-- a < b < c -/
def dChain (f g : D → D → Option D) (a b c : En → M D) : En → M D := bndE a fun x => bndE b fun y => bndE (fun _ => opt (f x y)) fun z => match z with
  | .bl true => bndE c fun u _ => opt (g y u)
  | .bl false => fun _ => ret (.bl false)
  | _ => fun _ => opt none
def isB (f : D → D → Option D) : Prop := ∀ a b d, f a b = some d → ∃ k, d = .bl k
def cChain (o o2 : Cp2) (a b c : BE) : BE where
  den F := dChain o.f o2.f (a.den F) (b.den F) (c.den F)
  chk I N sc e := match e with
    | .Compare x [op, op2] [y, z] _ => decide (op = o.op) && decide (op2 = o2.op) && notSet z && a.chk I N sc x && b.chk I N sc y && c.chk I N sc z
    | _ => false
  snd {A k F X W} C e h := by
    split at h
    · simp only [Bool.and_eq_true, decide_eq_true_eq] at h
      obtain ⟨⟨⟨⟨⟨h1, h6⟩, h0⟩, h2⟩, h3⟩, h4⟩ := h
      subst h1 h6
      obtain ⟨r, q1, q2⟩ := o.imp C
      obtain ⟨r', q1', q2'⟩ := o2.imp C
      refine (pe_chain q1 q1' (a.snd C h2) (b.snd C h3) (c.snd C h4) (notSet_ok h0)).imp fun t H Q q => ?_
      obtain ⟨w, r, st, rfl, hr, hs, hp⟩ := q
      refine step (.refl w) hr hs hp fun w1 st1 x vx hr1 hs1 e1 rx hp1 => ?_
      refine step e1 hr1 hs1 hp1 fun w2 st2 y vy hr2 hs2 e2 ry hp2 => ?_
      have rx2 := rx.mono hs1.wf e2
      unfold bndE bnd at hp2
      cases ez : o.f x y with
      | none => rw [ez] at hp2; exact hp2.elim
      | some z =>
        rw [ez] at hp2
        refine q2 w2 st2 x y vx vy z _ hs2 rx2 ry ez fun w3 v3 e3 hs3 r3 => ?_
        have ry3 := Rep.mono hs2.wf e3 ry
        cases z with
        | bl kb =>
          have ev : v3 = .bl kb := r3.bl
          subst ev
          refine ⟨kb, rfl, ?_⟩
          cases kb with
          | true =>
            refine iteT ?_
            have hp3 : PostG A (RD A) (fun c d H => W c d t H) w Q (bndE (c.den F) (fun u _ => opt (o2.f y u)) r st2) := hp2
            refine step ((e1.trans e2).trans e3) (hr2.mono hs2.wf e3) hs3 hp3 fun w4 st4 u vu hr4 hs4 e4 ru hp4 => ?_
            obtain ⟨d, ed, hq⟩ := opt_post hp4
            exact q2' w4 st4 y u vy vu d Q hs4 (ry3.mono hs3.wf e4) ru ed fun w5 v5 e5 s5 r5 => hq w5 v5 ((((e1.trans e2).trans e3).trans e4).trans e5) s5 r5
          | false =>
            refine iteF ?_
            exact hp2 w3 (.bl false) ((e1.trans e2).trans e3) hs3 (rep_bl _)
        | _ => exact hp2.elim
    · cases h
end Rf

set_option Elab.async false
set_option linter.all false
set_option maxRecDepth 100000
set_option maxHeartbeats 1000000
namespace Rf
open PySem L2

/-! ## data as the library compares them -/
mutual
def isData : D → Bool
  | .non | .bl _ | .int _ | .str _ => true
  | .tup l | .lst l => isDatas l
  | _ => false
def isDatas : List D → Bool
  | [] => true
  | d :: r => isData d && isDatas r
end
mutual
def toPy : D → PyData
  | .non => .none
  | .bl b => .bool b
  | .int i => .int i
  | .str s => .str ⟨s.toArray⟩
  | .tup l => .tuple (toPys l)
  | .lst l => .list (toPys l)
  | _ => .none
def toPys : List D → List PyData
  | [] => []
  | d :: r => toPy d :: toPys r
end
mutual
def dep : D → Nat
  | .tup l | .lst l => deps l + 1
  | _ => 0
def deps : List D → Nat
  | [] => 0
  | d :: r => max (dep d) (deps r)
end
mutual
def deq : D → D → Bool
  | .non, .non => true
  | .bl a, .bl b => a == b
  | .bl a, .int j => (if a then 1 else 0) == j
  | .int i, .bl b => i == (if b then 1 else 0)
  | .int i, .int j => i == j
  | .str x, .str y => x == y
  | .lst x, .lst y => deqs x y
  | .tup x, .tup y => deqs x y
  | _, _ => false
def deqs : List D → List D → Bool
  | [], [] => true
  | x :: xs, y :: ys => deq x y && deqs xs ys
  | _, _ => false
end
theorem str_beq (x y : List Nat) : ((⟨x.toArray⟩ : Str) == ⟨y.toArray⟩) = (x == y) := by
  by_cases h : x = y
  · subst h; simp
  · have h1 : ¬ ((⟨x.toArray⟩ : Str) = ⟨y.toArray⟩) := fun e => h (by injection e with e; simpa using congrArg Array.toList e)
    rw [beq_eq_false_iff_ne.mpr h1, beq_eq_false_iff_ne.mpr h]
mutual
theorem deq_py : ∀ (a b : D), isData a = true → isData b = true → deq a b = PyData.eqv (toPy a) (toPy b)
  | .non, b, _, hb => by cases b <;> first | (simp [deq, toPy, PyData.eqv]; done) | simp [isData] at hb
  | .bl x, b, _, hb => by cases b <;> first | (simp [deq, toPy, PyData.eqv]; done) | simp [isData] at hb
  | .int x, b, _, hb => by cases b <;> first | (simp [deq, toPy, PyData.eqv]; done) | simp [isData] at hb
  | .str x, b, _, hb => by cases b <;> first | (simp [deq, toPy, PyData.eqv, str_beq]; done) | simp [isData] at hb
  | .tup x, b, ha, hb => by
    cases b with
    | tup y => simp only [deq, toPy, PyData.eqv]; exact deqs_py x y (by simpa [isData] using ha) (by simpa [isData] using hb)
    | _ => first | (simp [deq, toPy, PyData.eqv]; done) | simp [isData] at hb
  | .lst x, b, ha, hb => by
    cases b with
    | lst y => simp only [deq, toPy, PyData.eqv]; exact deqs_py x y (by simpa [isData] using ha) (by simpa [isData] using hb)
    | _ => first | (simp [deq, toPy, PyData.eqv]; done) | simp [isData] at hb
  | .frl _, _, ha, _ => by simp [isData] at ha
  | .dct _ _, _, ha, _ => by simp [isData] at ha
  | .obj _ _, _, ha, _ => by simp [isData] at ha
  | .loc _, _, ha, _ => by simp [isData] at ha
  | .fn _, _, ha, _ => by simp [isData] at ha
  | .cls _, _, ha, _ => by simp [isData] at ha
  | .clo _ _, _, ha, _ => by simp [isData] at ha
theorem deqs_py : ∀ (a b : List D), isDatas a = true → isDatas b = true → deqs a b = PyData.eqvAll (toPys a) (toPys b)
  | [], [], _, _ => by simp [deqs, toPys, PyData.eqvAll]
  | [], _ :: _, _, _ => by simp [deqs, toPys, PyData.eqvAll]
  | _ :: _, [], _, _ => by simp [deqs, toPys, PyData.eqvAll]
  | x :: xs, y :: ys, ha, hb => by
    simp only [isDatas, Bool.and_eq_true] at ha hb
    simp only [deqs, toPys, PyData.eqvAll, deq_py x y ha.1 hb.1, deqs_py xs ys ha.2 hb.2]
end
mutual
theorem dep_py : ∀ (a : D), (toPy a).depth = dep a
  | .non | .bl _ | .int _ | .str _ => by simp [toPy, PyData.depth, dep]
  | .tup l => by simp only [toPy, PyData.depth, dep]; rw [deps_py l]
  | .lst l => by simp only [toPy, PyData.depth, dep]; rw [deps_py l]
  | .frl _ | .dct _ _ | .obj _ _ | .loc _ | .fn _ | .cls _ | .clo _ _ => by simp [toPy, PyData.depth, dep]
theorem deps_py : ∀ (a : List D), PyData.depthAll (toPys a) = deps a
  | [] => by simp [toPys, PyData.depthAll, deps]
  | x :: xs => by simp only [toPys, PyData.depthAll, deps]; rw [dep_py x, deps_py xs]
end
section
variable {A : Ad} {w : Wd}
mutual
theorem lay_py : ∀ (a : D) {v : V}, Rep A w a v → (toPy a).canLay0 = true
  | .non, _, _ | .bl _, _, _ | .int _, _, _ => by simp [toPy, PyData.canLay0]
  | .str s, _, h => by
    simp only [toPy, PyData.canLay0, PyData.strOk]
    have := h.str.2.2
    simpa using this
  | .tup l, _, h => by obtain ⟨_, _, _, _, h⟩ := h.tup; simp only [toPy, PyData.canLay0]; exact lays_py l h
  | .lst l, _, h => by obtain ⟨_, _, _, _, h⟩ := h.lst; simp only [toPy, PyData.canLay0]; exact lays_py l h
  | .frl _, _, _ | .dct _ _, _, _ | .obj _ _, _, _ | .loc _, _, _ | .fn _, _, _ | .cls _, _, _ | .clo _ _, _, _ => by simp [toPy, PyData.canLay0]
theorem lays_py : ∀ (a : List D) {vs : List V}, Reps A w a vs → PyData.canLayAll0 (toPys a) = true
  | [], _, _ => by simp [toPys, PyData.canLayAll0]
  | x :: xs, _, h => by
    simp only [Reps] at h
    obtain ⟨v, r, _, h1, h2⟩ := h
    simp only [toPys, PyData.canLayAll0, lay_py x h1, lays_py xs h2, Bool.and_self]
end
mutual
theorem dp_py : ∀ (a : D) {v : V}, isData a = true → Rep A w a v → Dp A.K w.H v (toPy a)
  | .non, _, _, h => by rw [h.non]; exact .non
  | .bl _, _, _, h => by rw [h.bl]; exact .bl _
  | .int _, _, _, h => by rw [h.int]; exact .int _
  | .str s, _, _, h => by rw [h.str.1]; exact .str _
  | .tup l, _, hd, h => by obtain ⟨a, vs, rfl, h1, h2⟩ := h.tup; exact .tup h1.seq (dps_py l (by simpa [isData] using hd) h2)
  | .lst l, _, hd, h => by obtain ⟨a, vs, rfl, h1, h2⟩ := h.lst; exact .lst h1.seq (dps_py l (by simpa [isData] using hd) h2)
  | .frl _, _, ha, _ => by simp [isData] at ha
  | .dct _ _, _, ha, _ => by simp [isData] at ha
  | .obj _ _, _, ha, _ => by simp [isData] at ha
  | .loc _, _, ha, _ => by simp [isData] at ha
  | .fn _, _, ha, _ => by simp [isData] at ha
  | .cls _, _, ha, _ => by simp [isData] at ha
  | .clo _ _, _, ha, _ => by simp [isData] at ha
theorem dps_py : ∀ (a : List D) {vs : List V}, isDatas a = true → Reps A w a vs → DpAll A.K w.H vs (toPys a)
  | [], _, _, h => by simp only [Reps] at h; subst h; exact .nil
  | x :: xs, _, hd, h => by
    simp only [isDatas, Bool.and_eq_true] at hd
    simp only [Reps] at h
    obtain ⟨v, r, rfl, h1, h2⟩ := h
    exact .cons (dp_py x hd.1 h1) (dps_py xs hd.2 h2)
end
end
/-- of a kind and a depth that can be compared -/
def okE (d : D) : Bool := isData d && decide (dep d ≤ 64)
theorem okE_sh {A : Ad} {w : Wd} {d : D} {v : V} (h : okE d = true) (r : Rep A w d v) : SeqAt.shaped (toPy d) = true := by
  unfold okE at h
  simp only [Bool.and_eq_true, decide_eq_true_eq] at h
  unfold SeqAt.shaped
  rw [lay_py d r, dep_py]
  simpa using h.2
def fEq (a b : D) : Option D := if okE a && okE b then some (.bl (deq a b)) else none
def fNe (a b : D) : Option D := if okE a && okE b then some (.bl (!deq a b)) else none
section
variable {A : Ad} {k : Nat} {F : FT} {X : Cx} {W : WX}
theorem Ctx.un (C : Ctx A k F X W) : X.A.units + 64 < cLine := C.room.units
def pEq : Cp2 where
  op := .Eq
  f := fEq
  imp {A k F X W} C := by
    refine ⟨_, op_eqD C.un, fun w st a b x y d Q hs ra rb e q => ?_⟩
    unfold fEq at e
    split at e
    · rename_i h
      simp only [Bool.and_eq_true] at h
      have ha := (Bool.and_eq_true_iff.mp h.1).1
      have hb := (Bool.and_eq_true_iff.mp h.2).1
      cases e
      refine ⟨toPy a, toPy b, ?_, ?_, okE_sh h.1 ra, okE_sh h.2 rb, ?_⟩
      · rw [C.hK]; exact dp_py a ha ra
      · rw [C.hK]; exact dp_py b hb rb
      · rw [← deq_py a b ha hb]; exact q w _ (.refl w) hs (rep_bl _)
    · cases e
def pNe : Cp2 where
  op := .NotEq
  f := fNe
  imp {A k F X W} C := by
    refine ⟨_, op_neD C.un, fun w st a b x y d Q hs ra rb e q => ?_⟩
    unfold fNe at e
    split at e
    · rename_i h
      simp only [Bool.and_eq_true] at h
      have ha := (Bool.and_eq_true_iff.mp h.1).1
      have hb := (Bool.and_eq_true_iff.mp h.2).1
      cases e
      refine ⟨toPy a, toPy b, ?_, ?_, okE_sh h.1 ra, okE_sh h.2 rb, ?_⟩
      · rw [C.hK]; exact dp_py a ha ra
      · rw [C.hK]; exact dp_py b hb rb
      · rw [← deq_py a b ha hb]; exact q w _ (.refl w) hs (rep_bl _)
    · cases e

/-! ## int operators -/
def fAdd : D → D → Option D
  | .int a, .int b => some (.int (a + b))
  | .str a, .str b => if a.length + b.length ≤ sizeLine then some (.str (a ++ b)) else none
  | .tup a, .tup b => if decide (a.length + b.length ≤ sizeLine) then some (.tup (a ++ b)) else none
  | .lst a, .lst b => if decide (a.length + b.length ≤ sizeLine) then some (.lst (a ++ b)) else none
  | _, _ => none
theorem strOk_app {a b : List Nat} (ha : StrOk a) (hb : StrOk b) (h : a.length + b.length ≤ sizeLine) : StrOk (a ++ b) :=
  ⟨by rw [List.length_append]; exact h, fun c hc => (List.mem_append.mp hc).elim (ha.2 c) (hb.2 c)⟩
theorem str_app (a b : List Nat) : (⟨a.toArray⟩ : Str) ++ ⟨b.toArray⟩ = ⟨(a ++ b).toArray⟩ := by
  refine TL.ext_tl ?_
  simp [TL.tl_append, TL.tl_mk]
theorem str_len (a : List Nat) : (⟨a.toArray⟩ : Str).length = a.length := by simp [Str.length]
def oAdd : Op2 where
  op := .Add
  f := fAdd
  imp {A k F X W} C := by
    refine ⟨_, op_add.or (op_add_str.or (op_catA.or op_cat)), fun w st a b x y d Q hs ra rb e q => ?_⟩
    cases a with
    | int i =>
      cases b with
      | int j =>
        cases e
        rw [ra.int, rb.int]
        exact .inl ⟨i, j, rfl, rfl, q w _ (.refl w) hs (rep_int _)⟩
      | _ => cases e
    | str s =>
      cases b with
      | str t =>
        unfold fAdd at e
        simp only at e
        split at e
        · rename_i hl
          cases e
          obtain ⟨e1, g1⟩ := ra.str
          obtain ⟨e2, g2⟩ := rb.str
          subst e1 e2
          refine .inr (.inl ⟨_, _, rfl, rfl, by rw [str_len, str_len]; exact hl, ?_⟩)
          rw [str_app]
          exact q w _ (.refl w) hs (rep_str (strOk_app g1 g2 hl))
        · cases e
      | _ => cases e
    | tup l =>
      cases b with
      | tup l' =>
        unfold fAdd at e
        simp only at e
        split at e
        · rename_i hl
          cases e
          have hl := of_decide_eq_true hl
          obtain ⟨p, vs, rfl, h1, h2⟩ := ra.tup
          obtain ⟨p', vs', rfl, h1', h2'⟩ := rb.tup
          have e1 := h2.length
          have e2 := h2'.length
          refine .inr (.inr (.inl ⟨p, p', vs, vs', rfl, rfl, by rw [C.hK]; exact h1.seq, by rw [C.hK]; exact h1'.seq, by rw [e1, e2]; exact hl, fun z => ?_, fun _ z => ?_, fun _ z a ha => ?_⟩))
          · have : l = [] := by
              rw [z] at e1
              cases l with
              | nil => rfl
              | cons _ _ => simp at e1
            subst this
            rw [List.nil_append] at q
            exact q w _ (.refl w) hs rb
          · have : l' = [] := by
              rw [z] at e2
              cases l' with
              | nil => rfl
              | cons _ _ => simp at e2
            subst this
            rw [List.append_nil] at q
            exact q w _ (.refl w) hs ra
          · exact q (w.pure a (.tup (vs ++ vs'))) (.ref a) (ext_pure ha) (hs.pure ha) (rep_tup hs.wf ha (by rw [List.length_append, e1, e2]; exact hl) (h2.append h2'))
        · cases e
      | _ => cases e
    | lst l =>
      cases b with
      | lst l' =>
        unfold fAdd at e
        simp only at e
        split at e
        · rename_i hl
          cases e
          have hl := of_decide_eq_true hl
          obtain ⟨p, vs, rfl, h1, h2⟩ := ra.lst
          obtain ⟨p', vs', rfl, h1', h2'⟩ := rb.lst
          have e1 := h2.length
          have e2 := h2'.length
          refine .inr (.inr (.inr ⟨p, p', vs, vs', rfl, rfl, h1.2.2, h1'.2.2, by rw [e1, e2]; exact hl, fun a ha => ?_⟩))
          exact q (w.pure a (.lst (vs ++ vs'))) (.ref a) (ext_pure ha) (hs.pure ha) (rep_lst hs.wf ha (by rw [List.length_append, e1, e2]; exact hl) (h2.append h2'))
        · cases e
      | _ => cases e
    | _ => cases e
def fSub : D → D → Option D
  | .int a, .int b => some (.int (a - b))
  | _, _ => none
def oSub : Op2 where
  op := .Sub
  f := fSub
  imp {A k F X W} C := by
    refine ⟨_, op_sub, fun w st a b x y d Q hs ra rb e q => ?_⟩
    cases a <;> cases b <;> cases e
    rw [ra.int, rb.int]
    exact ⟨_, _, rfl, rfl, q w _ (.refl w) hs (rep_int _)⟩
def small64 (i : Int) : Bool := decide (-(2 ^ 64) < i) && decide (i < 2 ^ 64)
def fMul : D → D → Option D
  | .int a, .int b => if small64 a || small64 b then some (.int (a * b)) else none
  | .tup l, .int k => if !l.isEmpty && decide (2 ≤ k) && decide (k ≤ 1000) && decide (l.length ≤ 1000) then some (.tup (List.replicate k.toNat l).flatten) else none
  | _, _ => none
theorem Reps.rep {A : Ad} {w : Wd} {l : List D} {vs : List V} (h : Reps A w l vs) : ∀ k : Nat, Reps A w (List.replicate k l).flatten (List.replicate k vs).flatten
  | 0 => by simpa using Reps.nil
  | k + 1 => by simp only [List.replicate_succ, List.flatten_cons]; exact h.append (Reps.rep h k)
theorem len_flat {α : Type} (l : List α) : ∀ k : Nat, (List.replicate k l).flatten.length = k * l.length
  | 0 => by simp
  | k + 1 => by simp only [List.replicate_succ, List.flatten_cons, List.length_append, len_flat l k]; rw [Nat.succ_mul, Nat.add_comm]
def oMul : Op2 where
  op := .Mult
  f := fMul
  imp {A k F X W} C := by
    refine ⟨_, op_mul.or op_repT, fun w st a b x y d Q hs ra rb e q => ?_⟩
    cases a with
    | int i =>
      cases b with
      | int j =>
        unfold fMul at e
        simp only at e
        split at e
        · rename_i hl
          cases e
          rw [ra.int, rb.int]
          refine .inl ⟨i, j, rfl, rfl, ?_, q w _ (.refl w) hs (rep_int _)⟩
          simp only [small64, Bool.or_eq_true, Bool.and_eq_true, decide_eq_true_eq] at hl
          exact hl
        · cases e
      | _ => cases e
    | tup l =>
      cases b with
      | int j =>
        unfold fMul at e
        simp only at e
        split at e
        · rename_i hl
          cases e
          simp only [Bool.and_eq_true, decide_eq_true_eq, Bool.not_eq_true', List.isEmpty_eq_false_iff] at hl
          obtain ⟨⟨⟨h0, h1⟩, h2⟩, h3⟩ := hl
          obtain ⟨p, vs, rfl, g1, g2⟩ := ra.tup
          rw [rb.int]
          have el := g2.length
          refine .inr ⟨p, j, vs, rfl, rfl, by rw [C.hK]; exact g1.seq, ?_, h1, h2, by rw [el]; exact h3, fun a ha => ?_⟩
          · rintro rfl
            cases l with
            | nil => exact h0 rfl
            | cons _ _ => simp at el
          · refine q (w.pure a _) (.ref a) (ext_pure ha) (hs.pure ha) (rep_tup hs.wf ha ?_ (g2.rep _))
            rw [len_flat, el, sizeLine_eq]
            have : j.toNat * l.length ≤ 1000 * 1000 := Nat.mul_le_mul (by omega) h3
            omega
        · cases e
      | _ => cases e
    | _ => cases e
def fDiv : D → D → Option D
  | .int a, .int b => if decide (0 < b) && decide (b < 1073741824) then some (.int (a / b)) else none
  | _, _ => none
def oDiv : Op2 where
  op := .FloorDiv
  f := fDiv
  imp {A k F X W} C := by
    refine ⟨_, op_fdiv, fun w st a b x y d Q hs ra rb e q => ?_⟩
    cases a <;> cases b <;> first | (cases e; done) | skip
    unfold fDiv at e
    simp only at e
    split at e
    · rename_i hl
      cases e
      simp only [Bool.and_eq_true, decide_eq_true_eq] at hl
      rw [ra.int, rb.int]
      exact ⟨_, _, rfl, rfl, hl, q w _ (.refl w) hs (rep_int _)⟩
    · cases e
def fMod : D → D → Option D
  | .int a, .int b => if decide (0 < b) then some (.int (a % b)) else none
  | _, _ => none
def oMod : Op2 where
  op := .Mod
  f := fMod
  imp {A k F X W} C := by
    refine ⟨_, op_mod, fun w st a b x y d Q hs ra rb e q => ?_⟩
    cases a <;> cases b <;> first | (cases e; done) | skip
    unfold fMod at e
    simp only at e
    split at e
    · rename_i hl
      cases e
      rw [ra.int, rb.int]
      exact ⟨_, _, rfl, rfl, of_decide_eq_true hl, q w _ (.refl w) hs (rep_int _)⟩
    · cases e
def fPow : D → D → Option D
  | .int a, .int b => if decide (0 ≤ b) && decide (b ≤ 1000000) && decide (a.natAbs < 2 ^ 64) then some (.int (a ^ b.toNat)) else none
  | _, _ => none
def oPow : Op2 where
  op := .Pow
  f := fPow
  imp {A k F X W} C := by
    refine ⟨_, op_pow, fun w st a b x y d Q hs ra rb e q => ?_⟩
    cases a <;> cases b <;> first | (cases e; done) | skip
    unfold fPow at e
    simp only at e
    split at e
    · rename_i hl
      cases e
      simp only [Bool.and_eq_true, decide_eq_true_eq] at hl
      rw [ra.int, rb.int]
      exact ⟨_, _, rfl, rfl, ⟨hl.1.1, hl.1.2, hl.2⟩, q w _ (.refl w) hs (rep_int _)⟩
    · cases e
/-! ## order -/
def fLt : D → D → Option D
  | .int a, .int b => some (.bl (decide (a < b)))
  | .str a, .str b => some (.bl (decide (a < b)))
  | _, _ => none
def pLt : Cp2 where
  op := .Lt
  f := fLt
  imp {A k F X W} C := by
    refine ⟨_, op_lt.or op_lt_str, fun w st a b x y d Q hs ra rb e q => ?_⟩
    cases a <;> cases b <;> cases e
    · rw [ra.int, rb.int]; exact .inl ⟨_, _, rfl, rfl, q w _ (.refl w) hs (rep_bl _)⟩
    · rw [ra.str.1, rb.str.1]; exact .inr ⟨_, _, rfl, rfl, q w _ (.refl w) hs (rep_bl _)⟩
def fGt : D → D → Option D
  | .int a, .int b => some (.bl (decide (b < a)))
  | .str a, .str b => some (.bl (decide (b < a)))
  | _, _ => none
def pGt : Cp2 where
  op := .Gt
  f := fGt
  imp {A k F X W} C := by
    refine ⟨_, op_gt.or op_gt_str, fun w st a b x y d Q hs ra rb e q => ?_⟩
    cases a <;> cases b <;> cases e
    · rw [ra.int, rb.int]; exact .inl ⟨_, _, rfl, rfl, q w _ (.refl w) hs (rep_bl _)⟩
    · rw [ra.str.1, rb.str.1]; exact .inr ⟨_, _, rfl, rfl, q w _ (.refl w) hs (rep_bl _)⟩
def fLe : D → D → Option D
  | .int a, .int b => some (.bl (decide (a ≤ b)))
  | _, _ => none
def pLe : Cp2 where
  op := .LtE
  f := fLe
  imp {A k F X W} C := by
    refine ⟨_, op_le, fun w st a b x y d Q hs ra rb e q => ?_⟩
    cases a <;> cases b <;> cases e
    rw [ra.int, rb.int]; exact ⟨_, _, rfl, rfl, q w _ (.refl w) hs (rep_bl _)⟩
def fGe : D → D → Option D
  | .int a, .int b => some (.bl (decide (b ≤ a)))
  | _, _ => none
def pGe : Cp2 where
  op := .GtE
  f := fGe
  imp {A k F X W} C := by
    refine ⟨_, op_ge, fun w st a b x y d Q hs ra rb e q => ?_⟩
    cases a <;> cases b <;> cases e
    rw [ra.int, rb.int]; exact ⟨_, _, rfl, rfl, q w _ (.refl w) hs (rep_bl _)⟩
def isNon : D → Bool
  | .non => true
  | _ => false
def fIs : D → D → Option D
  | a, .non => some (.bl (isNon a))
  | _, _ => none
def fIsNot : D → D → Option D
  | a, .non => some (.bl (!isNon a))
  | _, _ => none
theorem isNon_ok {A : Ad} {w : Wd} {a : D} {x : V} (h : Rep A w a x) : decide (x = .non) = isNon a := by
  cases a with
  | non => rw [h.non]; rfl
  | bl _ => rw [h.bl]; rfl
  | int _ => rw [h.int]; rfl
  | str _ => rw [h.str.1]; rfl
  | tup _ => obtain ⟨_, _, rfl, _⟩ := h.tup; rfl
  | lst _ => obtain ⟨_, _, rfl, _⟩ := h.lst; rfl
  | frl _ => obtain ⟨_, _, rfl, _⟩ := h.frl; rfl
  | dct _ _ => obtain ⟨_, _, _, rfl, _⟩ := h.dct; rfl
  | obj _ _ => obtain ⟨_, _, _, rfl, _⟩ := h.obj; rfl
  | loc _ => obtain ⟨_, rfl, _⟩ := h.loc; rfl
  | fn _ => rw [h.fn]; rfl
  | cls _ => rw [h.cls]; rfl
  | clo _ _ => exact h.clo.elim
def pIs : Cp2 where
  op := .Is
  f := fIs
  imp {A k F X W} C := by
    refine ⟨_, op_isN, fun w st a b x y d Q hs ra rb e q => ?_⟩
    cases b <;> cases e
    refine ⟨rb.non, ?_⟩
    rw [isNon_ok ra]
    exact q w _ (.refl w) hs (rep_bl _)
def pIsNot : Cp2 where
  op := .IsNot
  f := fIsNot
  imp {A k F X W} C := by
    refine ⟨_, op_notN, fun w st a b x y d Q hs ra rb e q => ?_⟩
    cases b <;> cases e
    refine ⟨rb.non, ?_⟩
    rw [isNon_ok ra]
    exact q w _ (.refl w) hs (rep_bl _)
end
end Rf

set_option Elab.async false
set_option linter.all false
set_option maxRecDepth 100000
set_option maxHeartbeats 1000000
namespace Rf
open PySem L2

/-! ## arguments -/
def dns : List BE → FT → En → M (List D)
  | [], _ => dNil
  | b :: bs, F => dCons (b.den F) (dns bs F)
def chs (I : Info) (N : List Str) (sc : Scope) : List BE → List Expr → Bool
  | [], [] => true
  | b :: bs, e :: es => notStar e && b.chk I N sc e && chs I N sc bs es
  | _, _ => false
section
variable {A : Ad} {k : Nat} {F : FT} {X : Cx} {W : WX}
theorem chs_star : ∀ {bs : List BE} {es : List Expr}, chs A.I X.N X.env.scope bs es = true → es.all notStar = true
  | [], [], _ => rfl
  | [], _ :: _, h => by cases h
  | _ :: _, [], h => by cases h
  | b :: bs, e :: es, h => by
    simp only [chs, Bool.and_eq_true] at h
    simp only [List.all_cons, Bool.and_eq_true]
    exact ⟨h.1.1, chs_star h.2⟩
theorem pa_of (C : Ctx A k F X W) : ∀ {bs : List BE} {es : List Expr}, chs A.I X.N X.env.scope bs es = true → PA X es (LA A W (dns bs F))
  | [], [], _ => pa_nil.imp fun t H Q q => dNil_ok q
  | [], _ :: _, h => by cases h
  | _ :: _, [], h => by cases h
  | b :: bs, e :: es, h => by
    simp only [chs, Bool.and_eq_true] at h
    exact (pa_cons (b.snd C h.1.2) (pa_of C h.2) (star_cons h.1.1)).imp fun t H Q q => dCons_ok q
end
def dnsP : List BP → FT → En → M (List D)
  | [], _ => dNil
  | b :: bs, F => dCons (b.den F) (dnsP bs F)
def chsP (I : Info) (N : List Str) (sc : Scope) : List BP → List Expr → Bool
  | [], [] => true
  | b :: bs, e :: es => notStar e && b.chk I N sc e && chsP I N sc bs es
  | _, _ => false
section
variable {A : Ad} {k : Nat} {F : FT} {X : Cx} {W : WX}
theorem chsP_star : ∀ {bs : List BP} {es : List Expr}, chsP A.I X.N X.env.scope bs es = true → es.all notStar = true
  | [], [], _ => rfl
  | [], _ :: _, h => by cases h
  | _ :: _, [], h => by cases h
  | b :: bs, e :: es, h => by
    simp only [chsP, Bool.and_eq_true] at h
    simp only [List.all_cons, Bool.and_eq_true]
    exact ⟨h.1.1, chsP_star h.2⟩
theorem pa_ofP (C : Ctx A k F X W) : ∀ {bs : List BP} {es : List Expr}, chsP A.I X.N X.env.scope bs es = true → PA X es (LAP A W (dnsP bs F))
  | [], [], _ => pa_nil.imp fun t H Q q => dNilP_ok q
  | [], _ :: _, h => by cases h
  | _ :: _, [], h => by cases h
  | b :: bs, e :: es, h => by
    simp only [chsP, Bool.and_eq_true] at h
    exact (pa_cons (b.snd C h.1.2) (pa_ofP C h.2) (star_cons h.1.1)).imp fun t H Q q => dConsP_ok q
end
theorem dns_cons {b : BE} {bs : List BE} {F : FT} : dns (b :: bs) F = dCons (b.den F) (dns bs F) := rfl

/-! ## displays -/
def okLen (l : List D) : Bool := decide (l.length ≤ sizeLine)
def mkTup (l : List D) : Option D := if okLen l then some (.tup l) else none
def mkLst (l : List D) : Option D := if okLen l then some (.lst l) else none
def cTup (bs : List BE) : BE where
  den F := denL mkTup (dns bs F)
  chk I N sc e := match e with
    | .Tuple es _ _ => chs I N sc bs es
    | _ => false
  snd {A k F X W} C e h := by
    split at h
    · refine (pe_tup (pa_of C h)).imp fun t H Q q => ?_
      refine denL_ok (r := fun xs H Q => xs.length ≤ sizeLine ∧ ∀ p, H p = none → Q (.ref p) (upd H p (.tup xs))) (fun w st l xs d Q hs rp e q => ?_) q
      unfold mkTup at e
      split at e
      · rename_i hl
        cases e
        have hl' : xs.length ≤ sizeLine := by rw [rp.length]; exact of_decide_eq_true hl
        exact ⟨hl', fun p hp => q (w.pure p _) (.ref p) (ext_pure hp) (hs.pure hp) (rep_tup hs.wf hp hl' rp)⟩
      · cases e
    · cases h
theorem top_lst {A : Ad} {w : Wd} {p : Addr} {l : List D} {vs : List V} (x : Wf w) (hp : w.H p = none) (hl : vs.length ≤ sizeLine) (h : Reps A w l vs) : RF A w (w.raw p (.lst vs)) (.lst l) (.ref p) :=
  ⟨p, rfl, hp, fun q => (x.s p q).1 hp, fun q => x.m p q hp, vs, upd_same, hl, h.mono x (ext_raw hp)⟩
def fLst (bs : List BE) : BF where
  den F := denL mkLst (dns bs F)
  chk I N sc e := match e with
    | .List es _ => chs I N sc bs es
    | _ => false
  snd {A k F X W} C e h := by
    split at h
    · refine (pe_lst (pa_of C h)).imp fun t H Q q => ?_
      refine denF_ok (r := fun xs H Q => xs.length ≤ sizeLine ∧ ∀ p, H p = none → Q (.ref p) (upd H p (.lst xs))) (fun w st l xs d Q hs rp e q => ?_) q
      unfold mkLst at e
      split at e
      · rename_i hl
        cases e
        have hl' : xs.length ≤ sizeLine := by rw [rp.length]; exact of_decide_eq_true hl
        exact ⟨hl', fun p hp => q (w.raw p _) (.ref p) (ext_raw hp) (hs.raw hp) (top_lst hs.wf hp hl' rp)⟩
      · cases e
    · cases h

/-! ## places -/
def fIx : D → D → Option D
  | .str s, .int i => (atI s i).map fun c => .str [c]
  | .tup l, .int i => atI l i
  | .lst l, .int i => atI l i
  | .frl l, .int i => atI l i
  | _, _ => none
theorem atI_len {α β : Type} {xs : List α} {ys : List β} {i : Int} {v : α} (e : xs.length = ys.length) (h : atI xs i = some v) : ∃ j : Nat, xs[j]? = some v ∧ ∀ u, ys[j]? = some u → atI ys i = some u := by
  unfold atI at h ⊢
  rw [← e]
  cases hx : ixN xs.length i with
  | none => rw [hx] at h; cases h
  | some j =>
    rw [hx] at h
    exact ⟨j, h, fun u hu => hu⟩
theorem Reps.at {A : Ad} {w : Wd} {l : List D} {vs : List V} {i : Int} {d : D} (h : Reps A w l vs) (e : atI l i = some d) : ∃ v, atI vs i = some v ∧ Rep A w d v := by
  obtain ⟨j, h1, h2⟩ := atI_len (ys := vs) h.length.symm e
  obtain ⟨v, h3, h4⟩ := h.get h1
  exact ⟨v, h2 v h3, h4⟩
theorem atI_mem {α : Type} {xs : List α} {i : Int} {v : α} (h : atI xs i = some v) : v ∈ xs := by
  unfold atI at h
  cases hx : ixN xs.length i with
  | none => rw [hx] at h; cases h
  | some j => rw [hx] at h; exact List.mem_of_getElem? h
/-- a container's items at a place; what stands at n too -/
def fIxW (st : Sto) (a b : D) : Option D := match a with
  | .loc n => (match st[n]? with
    | some (.lst l) => fIx (.lst l) b
    | _ => none)
  | a => fIx a b
theorem ix_lst {A : Ad} {w : Wd} {p : Addr} {vs : List V} {l : List D} {b d : D} {y : V} {Q : VK} (g1 : SqL A.K w.H p vs) (g2 : Reps A w l vs) (rb : Rep A w b y) (e : fIx (.lst l) b = some d) (q : ∀ v, Rep A w d v → Q v w.H) : rIx A.K (.ref p) y w.H Q := by
  cases b with
  | int i =>
    rw [rb.int]
    obtain ⟨v, h1, h2⟩ := g2.at (show atI l i = some d from e)
    exact .inl ⟨p, vs, i, v, rfl, rfl, g1, h1, q v h2⟩
  | _ => cases e
theorem imp_ix {A : Ad} {K : PySem.W.Frag} (hK : K = A.K) {w : Wd} {st : Sto} {a b : D} {x y : V} {d : D} {Q : VK} (hs : SRel A w st) (ra : RepP A w a x) (rb : Rep A w b y) (e : fIxW st a b = some d) (q : ∀ v, Rep A w d v → Q v w.H) : rIx K x y w.H Q := by
  subst hK
  cases a with
  | str s =>
    cases b with
    | int i =>
      unfold fIxW fIx at e
      simp only [Option.map_eq_some_iff] at e
      obtain ⟨c, e1, rfl⟩ := e
      obtain ⟨rfl, g⟩ := ra.str
      rw [rb.int]
      refine .inr (.inr ⟨_, i, c, rfl, rfl, by rw [str_len]; exact g.1, e1, ?_⟩)
      exact q _ (rep_str ⟨by rw [sizeLine_eq]; show 1 ≤ _; omega, fun c' hc => by simp only [List.mem_singleton] at hc; subst hc; exact g.2 _ (atI_mem e1)⟩)
    | _ => cases e
  | tup l =>
    cases b with
    | int i =>
      obtain ⟨p, vs, rfl, g1, g2⟩ := ra.tup
      rw [rb.int]
      obtain ⟨v, h1, h2⟩ := g2.at (show atI l i = some d from e)
      exact .inr (.inl ⟨p, vs, i, v, rfl, rfl, g1.seq, h1, q v h2⟩)
    | _ => cases e
  | lst l =>
    obtain ⟨p, vs, rfl, g1, g2⟩ := ra.lst
    exact ix_lst g1.seq g2 rb e q
  | frl l =>
    obtain ⟨p, vs, rfl, g1, g2⟩ := ra.frl
    exact ix_lst (l := l) g1.seq g2 rb (by cases b <;> first | exact e | cases e) q
  | loc n =>
    obtain ⟨p, rfl, hm⟩ := ra.locR.loc
    unfold fIxW at e
    simp only at e
    split at e
    · rename_i l hl
      obtain ⟨vs, g1, g2, g3⟩ := hs.ob n _ p hl hm
      exact ix_lst (.inl (.inl g1)) g3 rb e q
    · cases e
  | _ => cases e
def dIx (a b : En → M D) : En → M D := bndE a fun x => bndE b fun y _ st => opt (fIxW st x y) st
def cIx (a : BP) (b : BE) : BE where
  den F := dIx (a.den F) (b.den F)
  chk I N sc e := match e with
    | .Subscript x y _ => plainI y && a.chk I N sc x && b.chk I N sc y
    | _ => false
  snd {A k F X W} C e h := by
    split at h
    · simp only [Bool.and_eq_true] at h
      refine (pe_ix ix_seq (a.snd C h.1.2) (b.snd C h.2) (plainI_ok h.1.1)).imp fun t H Q q => ?_
      obtain ⟨w, r, st, rfl, hr, hs, hp⟩ := q
      refine step (R := RDP A) (.refl w) hr hs hp fun w1 st1 a x hr1 hs1 e1 rx hp1 => ?_
      refine step (R := RD A) e1 hr1 hs1 hp1 fun w2 st2 b y hr2 hs2 e2 ry hp2 => ?_
      obtain ⟨d, e, hq⟩ := opt_post hp2
      exact imp_ix C.hK hs2 (rx.mono hs1.wf e2) ry e fun v rv => hq w2 v (e1.trans e2) hs2 rv
    · cases h

/-! ## slices -/
/-- a part of a slice -/
structure BO where
  den : FT → En → M (Option Int)
  chk : Info → List Str → Scope → Option Expr → Bool
  snd : ∀ {A : Ad} {k : Nat} {F : FT} {X : Cx} {W : WX}, Ctx A k F X W → ∀ {e : Option Expr}, chk A.I X.N X.env.scope e = true → PO X e (LG A (fun _ _ a b => a = b) W (den F))
theorem _root_.L2.PO.imp {X : Cx} {e : Option Expr} {t t' : TO} (h : PO X e t) (k : ∀ σ H Q, t' σ H Q → t σ H Q) : PO X e t' := ⟨fun pins s σ H Q I q => h.run pins s σ H Q I (k σ H Q q)⟩
def noPart : BO where
  den _ _ := ret none
  chk _ _ _ e := match e with
    | none => true
    | _ => false
  snd {A k F X W} C e h := by
    split at h
    · refine po_none.imp fun t H Q q => ?_
      obtain ⟨w, r, st, rfl, hr, hs, hp⟩ := q
      exact hp w none (.refl w) hs rfl
    · cases h
def toI : D → Option (Option Int)
  | .int i => some (some i)
  | _ => none
def part (b : BE) : BO where
  den F := bndE (b.den F) fun x _ => opt (toI x)
  chk I N sc e := match e with
    | some e => b.chk I N sc e
    | none => false
  snd {A k F X W} C e h := by
    split at h
    · refine (po_some (b.snd C h)).imp fun t H Q q => ?_
      obtain ⟨w, r, st, rfl, hr, hs, hp⟩ := q
      refine step (R := RD A) (.refl w) hr hs hp fun w1 st1 a x hr1 hs1 e1 rx hp1 => ?_
      obtain ⟨d, e, hq⟩ := opt_post hp1
      cases a <;> cases e
      exact ⟨_, rx.int, hq w1 _ e1 hs1 rfl⟩
    · cases h
def cut {α : Type} (l : List α) (lo hi : Option Int) : List α := (l.drop (HT.sIx l.length 0 lo)).take (HT.sIx l.length l.length hi - HT.sIx l.length 0 lo)
def fSl : D → Option Int → Option Int → Option D
  | .str s, lo, hi => some (.str (cut s lo hi))
  | .tup l, lo, hi => some (.tup (cut l lo hi))
  | .lst l, lo, hi => some (.lst (cut l lo hi))
  | .frl l, lo, hi => some (.lst (cut l lo hi))
  | _, _, _ => none
def rSl (K : PySem.W.Frag) : V → Option Int → Option Int → Hp → VK → Prop := fun x lo hi H Q => rSlS x lo hi H Q ∨ (rSlA K x lo hi H Q ∨ rSlL K x lo hi H Q)
theorem cut_ok {s : List Nat} (g : StrOk s) (lo hi : Option Int) : StrOk (cut s lo hi) :=
  ⟨by unfold cut; rw [List.length_take, List.length_drop]; have := g.1; omega, fun c hc => g.2 c (List.mem_of_mem_drop (List.mem_of_mem_take hc))⟩
theorem Reps.cut {A : Ad} {w : Wd} {l : List D} {vs : List V} (h : Reps A w l vs) (lo hi : Option Int) : Reps A w (cut l lo hi) (cutV vs lo hi) := by
  unfold Rf.cut cutV
  rw [h.length]
  exact (h.drop _).take _
theorem cut_whole {α : Type} {l : List α} {lo hi : Option Int} (h : HT.sIx l.length 0 lo = 0 ∧ HT.sIx l.length l.length hi = l.length) : cut l lo hi = l := by
  unfold cut
  rw [h.1, h.2]
  simp
/-- a[lo:hi] -/
def dSl (a : En → M D) (lo hi : En → M (Option Int)) : En → M D := bndE a fun x => bndE lo fun l => bndE hi fun u _ => opt (fSl x l u)
def cSl (a : BE) (lo hi : BO) : BE where
  den F := dSl (a.den F) (lo.den F) (hi.den F)
  chk I N sc e := match e with
    | .Subscript x (.Slice l h none _) _ => a.chk I N sc x && lo.chk I N sc l && hi.chk I N sc h
    | _ => false
  snd {A k F X W} C e h := by
    split at h
    · simp only [Bool.and_eq_true] at h
      refine (pe_slice (sl_str.or (sl_tupA.or sl_list)) (a.snd C h.1.1) (lo.snd C h.1.2) (hi.snd C h.2)).imp fun t H Q q => ?_
      obtain ⟨w, r, st, rfl, hr, hs, hp⟩ := q
      refine step (R := RD A) (.refl w) hr hs hp fun w1 st1 a x hr1 hs1 e1 rx hp1 => ?_
      refine step e1 hr1 hs1 hp1 fun w2 st2 l l' hr2 hs2 e2 rl hp2 => ?_
      refine step (e1.trans e2) hr2 hs2 hp2 fun w3 st3 u u' hr3 hs3 e3 ru hp3 => ?_
      subst rl ru
      obtain ⟨d, e, hq⟩ := opt_post hp3
      have rx3 := (rx.mono hs1.wf e2).mono hs2.wf e3
      have e13 := (e1.trans e2).trans e3
      cases a with
      | str s =>
        cases e
        obtain ⟨rfl, g⟩ := rx3.str
        refine .inl ⟨_, rfl, by rw [str_len]; exact g.1, ?_⟩
        have ec : cutS ⟨s.toArray⟩ l u = ⟨(cut s l u).toArray⟩ := by unfold cutS cut; rw [str_len]
        rw [ec]
        exact hq w3 _ e13 hs3 (rep_str (cut_ok g l u))
      | tup ds =>
        cases e
        obtain ⟨p, vs, rfl, g1, g2⟩ := rx3.tup
        have el := g2.length
        refine .inr (.inl ⟨p, vs, rfl, by rw [C.hK]; exact g1.seq, fun hw => ?_, fun hw a ha => ?_⟩)
        · rw [el] at hw
          refine hq w3 _ e13 hs3 ?_
          rw [cut_whole hw]
          exact rx3
        · exact hq (w3.pure a _) (.ref a) (e13.trans (ext_pure ha)) (hs3.pure ha) (rep_tup hs3.wf ha (Nat.le_trans (cutV_length _ _ _) g1.1) (g2.cut l u))
      | lst ds =>
        cases e
        obtain ⟨p, vs, rfl, g1, g2⟩ := rx3.lst
        refine .inr (.inr ⟨p, vs, rfl, by rw [C.hK]; exact g1.seq, fun a ha => ?_⟩)
        exact hq (w3.pure a _) (.ref a) (e13.trans (ext_pure ha)) (hs3.pure ha) (rep_lst hs3.wf ha (Nat.le_trans (cutV_length _ _ _) g1.1) (g2.cut l u))
      | frl ds =>
        cases e
        obtain ⟨p, vs, rfl, g1, g2⟩ := rx3.frl
        refine .inr (.inr ⟨p, vs, rfl, by rw [C.hK]; exact g1.seq, fun a ha => ?_⟩)
        exact hq (w3.pure a _) (.ref a) (e13.trans (ext_pure ha)) (hs3.pure ha) (rep_lst hs3.wf ha (Nat.le_trans (cutV_length _ _ _) g1.1) (g2.cut l u))
      | _ => cases e
    · cases h
/-- a[::-1] of a list -/
def fRev : D → Option D
  | .lst l => some (.lst l.reverse)
  | _ => none
def fRevL (a : BE) : BF where
  den F := den1 fRev (a.den F)
  chk I N sc e := match e with
    | .Subscript x (.Slice none none (some (.UnaryOp .USub (.Constant (.int 1) _ _) _)) _) _ => a.chk I N sc x
    | _ => false
  snd {A k F X W} C e h := by
    split at h
    · refine (pe_revL (a.snd C h)).imp fun t H Q q => ?_
      obtain ⟨w, r, st, rfl, hr, hs, hp⟩ := q
      refine step (R := RD A) (.refl w) hr hs hp fun w1 st1 a x hr1 hs1 e1 rx hp1 => ?_
      obtain ⟨d, e, hq⟩ := opt_post hp1
      cases a <;> cases e
      obtain ⟨p, vs, rfl, g1, g2⟩ := rx.lst
      refine ⟨p, vs, rfl, by rw [C.hK]; exact g1.seq, fun a ha => ?_⟩
      have hl : vs.reverse.length ≤ sizeLine := by rw [List.length_reverse]; exact g1.1
      exact hq (w1.raw a _) (.ref a) (e1.trans (ext_raw ha)) (hs1.raw ha) ((top_lst hs1.wf ha hl g2.reverse).later e1)
    · cases h

/-! ## a call of a def -/
theorem calls_get {A : Ad} {k : Nat} {F : FT} {X : Cx} {W : WX} (C : Ctx A k F X W) {i : Nat} (hi : iniC i = none) {w : Wd} {ds : List D} {st : Sto} {W' : XK} {Q : VK} (hp : PostG A (RD A) W' w Q (F i ds st)) :
    ∃ fd ps, FnOk X.prog X.w X.K X.mg X.base (L2.CX X.prog X.w) (2 * k) (A.fa i) fd ps (spF A (F i)) ∧ Binds X.K fd ps [] ∧ KwOk X.K fd ps ∧ ps = paN i := by
  rcases C.calls i with h | h
  · rw [C.hK]
    unfold spX at h
    rw [hi] at h
    exact h
  · rw [h ds st] at hp; exact hp.elim
/-- the def at i, called with what stands -/
theorem call_run {A : Ad} {k : Nat} {F : FT} {X : Cx} {W : WX} (C : Ctx A k F X W) {i : Nat} (hi : iniC i = none) {w0 w : Wd} {ds : List D} {st : Sto} {vs : List V} {us : List Value} {t : St} {Q : VK} {pins : List (Addr × Obj)} {s : Shared}
    (I : Inv X pins t w.H s) (r : Vals vs us) (hs : SRel A w st) (rp : Reps A w ds vs) (e0 : Ext w0 w) (hp : PostG A (RD A) (fun c d H => W c d t H) w0 Q (F i ds st)) :
    wpAny (model X.prog X.w) X.A (call (.ref (A.fa i)) us) (EP X pins t Q) X.xe s := by
  obtain ⟨fd, ps, F1, b1, _, _⟩ := calls_get C hi hp
  refine run_fnSD (E := fun t c d H => W c d t H) (dvs := []) (ds := []) F1 (C.room.mono (Nat.le_succ _)) b1 .nil (C.pass t) I r ?_
  rw [List.append_nil]
  refine ⟨w, ds, st, rfl, hs, rp, ?_⟩
  cases e : F i ds st with
  | ok d st1 => rw [e] at hp; exact fun w' v ex sr rp => hp w' v (e0.trans ex) sr rp
  | exc x st1 => rw [e] at hp; exact fun w' c dd ex sr rp => hp w' c dd (e0.trans ex) sr rp
  | bad => rw [e] at hp; exact hp
def dCall (i : Nat) (F : FT) (a : En → M (List D)) : En → M D := bndE a fun ds _ => F i ds
def cCall (i : Nat) (bs : List BE) : BE where
  den F := dCall i F (dns bs F)
  chk I N sc e := match e with
    | .Call (.Name x _) es [] _ => beqS x (fnN i) && I.fs.contains i && glbB sc x && okN x && chs I N sc bs es
    | _ => false
  snd {A k F X W} C e h := by
    split at h
    · rename_i x p es pos
      simp only [Bool.and_eq_true, List.contains_iff_mem] at h
      obtain ⟨⟨⟨⟨h1, h2⟩, h3⟩, h4⟩, h5⟩ := h
      have e1 := beqS_eq h1
      subst e1
      obtain ⟨hm, hk, hi⟩ := C.facts.fn i h2
      have hk' : PySem.W.keepIn X.K (.ref (A.fa i)) = true := by rw [C.hK]; exact hk
      refine ⟨fun pins s t H Q I q => ?_⟩
      refine wpAny_Call_Name_kw (ld_glob I (glbB_ok h3) hm ?_ (okN_d h4))
      obtain ⟨w, r, st, rfl, hr, hs, hp⟩ := q
      cases es with
      | nil =>
        cases bs with
        | cons _ _ => cases h5
        | nil =>
          exact PySem.W.callWith_K0 I.kIn hk' (call_run C hi I .nil hs .nil (.refl w) hp)
      | cons e es =>
        have st5 := chs_star h5
        have st6 := st5
        simp only [List.all_cons, Bool.and_eq_true] at st5
        refine PySem.W.callWith_K (h₀ := X.base) I.ok.mod.kin hk' ?_ (star_cons st5.1) (star_any st5.2)
        refine thn ((pa_of C h5).run pos pins s t w.H (fun vs H1 => ∃ w1 ds st1, w1.H = H1 ∧ SRel A w1 st1 ∧ Reps A w1 ds vs ∧ Ext w w1 ∧ PostG A (RD A) (fun c d H => W c d t H) w Q (F i ds st1)) I ?_) ?_
        · exact step (.refl w) hr hs hp fun w1 st1 ds vs _ hs1 e1 rp hp1 => ⟨w1, ds, st1, rfl, hs1, rp, e1, hp1⟩
        · rintro us s1 ⟨vs, H1, I1, rv, w1, ds, st1, rfl, hs1, rp, e1, hp1⟩
          exact ⟨I1.kIn, call_run C hi I1 rv hs1 rp e1 hp1⟩
    · cases h
end Rf

set_option Elab.async false
set_option linter.all false
set_option maxRecDepth 100000
set_option maxHeartbeats 1000000
namespace Rf
open PySem L2

/-! ## built-in functions, by their values -/
inductive Tgt (v : Value) : Prop where
  | b (id : String) (e : v = .builtin id) | t (T : String) (e : v = .type T)
structure Bi where
  n : Nat
  tv : Value
  f : Sto → List D → Option (D × Sto)
  tgt : Tgt tv
  boot : bootBuiltins (blN n) = some tv
  ok : okN (blN n) = true
  imp : ∀ {A : Ad} {k : Nat} {F : FT} {X : Cx} {W : WX}, Ctx A k F X W → ∃ r, CallR X tv r ∧ ImpLP A f r
/-- the value a new container -/
structure BiF where
  n : Nat
  tv : Value
  f : Sto → List D → Option (D × Sto)
  tgt : Tgt tv
  boot : bootBuiltins (blN n) = some tv
  ok : okN (blN n) = true
  imp : ∀ {A : Ad} {k : Nat} {F : FT} {X : Cx} {W : WX}, Ctx A k F X W → ∃ r, CallR X tv r ∧ ImpFP A f r
theorem pe_bi {X : Cx} {tv : Value} {r : List V → Hp → VK → Prop} {n : Nat} {t : TA} {e : Expr} {es : List Expr} {p pos : Pos} (g : Tgt tv) (hc : CallR X tv r) (hg : Gl X (blN n)) (hm : X.mg (blN n) = none) (hv : bootBuiltins (blN n) = some tv) (ho : okN (blN n) = true)
    (ha : PA X (e :: es) t) (hs : (e :: es).all notStar = true) : PE X (.Call (.Name (blN n) p) (e :: es) [] pos) (tCB r t) := by
  simp only [List.all_cons, Bool.and_eq_true] at hs
  rcases g with ⟨id, rfl⟩ | ⟨T, rfl⟩
  · exact pe_callB hc hg hm hv ha (okN_n ho) (okN_d ho) (star_cons hs.1) (star_any hs.2)
  · exact pe_callTy hc hg hm hv ha (okN_n ho) (okN_d ho) (star_cons hs.1) (star_any hs.2)
def biChk (n : Nat) (I : Info) (N : List Str) (sc : Scope) (bs : List BP) (e : Expr) : Bool := match e with
  | .Call (.Name x _) (e :: es) [] _ => beqS x (blN n) && I.bs.contains n && glbB sc x && chsP I N sc bs (e :: es)
  | _ => false
def cBi (o : Bi) (bs : List BP) : BE where
  den F := denP o.f (dnsP bs F)
  chk I N sc e := biChk o.n I N sc bs e
  snd {A k F X W} C e h := by
    unfold biChk at h
    split at h
    · simp only [Bool.and_eq_true, List.contains_iff_mem] at h
      obtain ⟨⟨⟨h1, h2⟩, h3⟩, h5⟩ := h
      have e1 := beqS_eq h1
      subst e1
      obtain ⟨r, q1, q2⟩ := o.imp C
      exact (pe_bi o.tgt q1 (glbB_ok h3) (C.facts.bl _ h2) o.boot o.ok (pa_ofP C h5) (chsP_star h5)).imp fun t H Q q => denP_ok q2 q
    · cases h
def fBi (o : BiF) (bs : List BP) : BF where
  den F := denP o.f (dnsP bs F)
  chk I N sc e := biChk o.n I N sc bs e
  snd {A k F X W} C e h := by
    unfold biChk at h
    split at h
    · simp only [Bool.and_eq_true, List.contains_iff_mem] at h
      obtain ⟨⟨⟨h1, h2⟩, h3⟩, h5⟩ := h
      have e1 := beqS_eq h1
      subst e1
      obtain ⟨r, q1, q2⟩ := o.imp C
      exact (pe_bi o.tgt q1 (glbB_ok h3) (C.facts.bl _ h2) o.boot o.ok (pa_ofP C h5) (chsP_star h5)).imp fun t H Q q => denPF_ok q2 q
    · cases h

def fLen : List D → Option D
  | [.str s] => some (.int s.length)
  | [.tup l] => some (.int l.length)
  | [.lst l] => some (.int l.length)
  | [.frl l] => some (.int l.length)
  | _ => none
/-- what stands at n too -/
def fLenW (st : Sto) (xs : List D) : Option (D × Sto) := match xs with
  | [.loc n] => (match st[n]? with
    | some (.lst l) => some (.int l.length, st)
    | _ => none)
  | xs => keepSt fLen st xs
theorem Reps.two {A : Ad} {w : Wd} {a b : D} {vs : List V} (h : Reps A w [a, b] vs) : ∃ x y, vs = [x, y] ∧ Rep A w a x ∧ Rep A w b y := by
  simp only [Reps] at h
  obtain ⟨v, r, rfl, h2, u, r2, rfl, h3, rfl⟩ := h
  exact ⟨v, u, rfl, h2, h3⟩
def bLen : Bi where
  n := 0
  tv := .builtin "len"
  f := fLenW
  tgt := .b _ rfl
  boot := by decide +kernel
  ok := by decide +kernel
  imp {A k F X W} C := by
    refine ⟨_, call_len, fun w st l xs d st' Q hs rp e q => ?_⟩
    unfold fLenW at e
    split at e
    · rename_i n
      split at e
      · rename_i l hl
        cases e
        obtain ⟨v, rfl, h⟩ := rp.one'
        obtain ⟨p, rfl, hm⟩ := h.locR.loc
        obtain ⟨vs, g1, g2, g3⟩ := hs.ob n _ p hl hm
        exact ⟨_, _, rfl, .inl ⟨vs, .inl (.inl g1), g3.length.symm⟩, q w _ (.refl w) hs (rep_int _)⟩
      · cases e
    have e9 := keepSt_eq e
    clear e
    obtain ⟨e, rfl⟩ := e9
    unfold fLen at e
    split at e <;> cases e
    · obtain ⟨v, rfl, h⟩ := rp.one'
      obtain ⟨rfl, g⟩ := h.str
      exact ⟨_, _, rfl, ⟨by rw [str_len]; exact g.1, (str_len _).symm⟩, q w _ (.refl w) hs (rep_int _)⟩
    · obtain ⟨v, rfl, h⟩ := rp.one'
      obtain ⟨p, vs, rfl, h1, h2⟩ := h.tup
      exact ⟨_, _, rfl, .inr ⟨vs, by rw [C.hK]; exact h1.seq, h2.length.symm⟩, q w _ (.refl w) hs (rep_int _)⟩
    · obtain ⟨v, rfl, h⟩ := rp.one'
      obtain ⟨p, vs, rfl, h1, h2⟩ := h.lst
      exact ⟨_, _, rfl, .inl ⟨vs, by rw [C.hK]; exact h1.seq, h2.length.symm⟩, q w _ (.refl w) hs (rep_int _)⟩
    · obtain ⟨v, rfl, h⟩ := rp.one'
      obtain ⟨p, vs, rfl, h1, h2⟩ := h.frl
      exact ⟨_, _, rfl, .inl ⟨vs, by rw [C.hK]; exact h1.seq, h2.length.symm⟩, q w _ (.refl w) hs (rep_int _)⟩
/-- a list of truths -/
def getBs : List D → Option (List Bool)
  | [] => some []
  | .bl b :: r => (getBs r).map (b :: ·)
  | _ :: _ => none
theorem getBs_rep {A : Ad} {w : Wd} : ∀ {l : List D} {bs : List Bool} {vs : List V}, getBs l = some bs → Reps A w l vs → vs = bs.map V.bl
  | [], _, _, e, h => by cases e; simp only [Reps] at h; rw [h]; rfl
  | .bl b :: r, _, _, e, h => by
    simp only [getBs, Option.map_eq_some_iff] at e
    obtain ⟨bs, e1, rfl⟩ := e
    simp only [Reps] at h
    obtain ⟨v, r', rfl, h2, h3⟩ := h
    rw [h2.bl, getBs_rep e1 h3]; rfl
  | .non :: _, _, _, e, _ | .int _ :: _, _, _, e, _ | .str _ :: _, _, _, e, _ | .tup _ :: _, _, _, e, _ | .lst _ :: _, _, _, e, _ | .frl _ :: _, _, _, e, _ | .dct _ _ :: _, _, _, e, _
  | .obj _ _ :: _, _, _, e, _ | .loc _ :: _, _, _, e, _ | .fn _ :: _, _, _, e, _ | .cls _ :: _, _, _, e, _ | .clo _ _ :: _, _, _, e, _ => by cases e
def fAll : List D → Option D
  | [.lst l] => (getBs l).map fun bs => .bl (bs.all id)
  | _ => none
def fAny : List D → Option D
  | [.lst l] => (getBs l).map fun bs => .bl (bs.any id)
  | _ => none
def bAll : Bi where
  n := 2
  tv := .builtin "all"
  f := keepSt fAll
  tgt := .b _ rfl
  boot := by decide +kernel
  ok := by decide +kernel
  imp {A k F X W} C := by
    refine ⟨_, cr_all C.calm, .keep fun w st l xs d Q hs rp e q => ?_⟩
    unfold fAll at e
    split at e
    · simp only [Option.map_eq_some_iff] at e
      obtain ⟨bs, e1, rfl⟩ := e
      obtain ⟨v, rfl, h⟩ := rp.one'
      obtain ⟨p, vs, rfl, h1, h2⟩ := h.lst
      have := getBs_rep e1 h2
      subst this
      exact ⟨p, bs, rfl, by rw [C.hK]; exact h1.seq, q w _ (.refl w) hs (rep_bl _)⟩
    · cases e
def bAny : Bi where
  n := 3
  tv := .builtin "any"
  f := keepSt fAny
  tgt := .b _ rfl
  boot := by decide +kernel
  ok := by decide +kernel
  imp {A k F X W} C := by
    refine ⟨_, cr_any C.calm, .keep fun w st l xs d Q hs rp e q => ?_⟩
    unfold fAny at e
    split at e
    · simp only [Option.map_eq_some_iff] at e
      obtain ⟨bs, e1, rfl⟩ := e
      obtain ⟨v, rfl, h⟩ := rp.one'
      obtain ⟨p, vs, rfl, h1, h2⟩ := h.lst
      have := getBs_rep e1 h2
      subst this
      exact ⟨p, bs, rfl, by rw [C.hK]; exact h1.seq, q w _ (.refl w) hs (rep_bl _)⟩
    · cases e
def fMin : List D → Option D
  | [.int i, .int j] => some (.int (if j < i then j else i))
  | _ => none
def fMax : List D → Option D
  | [.int i, .int j] => some (.int (if j > i then j else i))
  | _ => none
def bMin : Bi where
  n := 9
  tv := .builtin "min"
  f := keepSt fMin
  tgt := .b _ rfl
  boot := by decide +kernel
  ok := by decide +kernel
  imp {A k F X W} C := by
    refine ⟨_, call_min2 C.calm, .keep fun w st l xs d Q hs rp e q => ?_⟩
    unfold fMin at e
    split at e <;> cases e
    obtain ⟨v, u, rfl, h, h'⟩ := rp.two
    exact ⟨_, _, by rw [h.int, h'.int], q w _ (.refl w) hs (rep_int _)⟩
def bMax : Bi where
  n := 10
  tv := .builtin "max"
  f := keepSt fMax
  tgt := .b _ rfl
  boot := by decide +kernel
  ok := by decide +kernel
  imp {A k F X W} C := by
    refine ⟨_, call_max2 C.calm, .keep fun w st l xs d Q hs rp e q => ?_⟩
    unfold fMax at e
    split at e <;> cases e
    obtain ⟨v, u, rfl, h, h'⟩ := rp.two
    exact ⟨_, _, by rw [h.int, h'.int], q w _ (.refl w) hs (rep_int _)⟩
def fAbs : List D → Option D
  | [.int i] => some (.int (if i < 0 then -i else i))
  | _ => none
def bAbs : Bi where
  n := 11
  tv := .builtin "abs"
  f := keepSt fAbs
  tgt := .b _ rfl
  boot := by decide +kernel
  ok := by decide +kernel
  imp {A k F X W} C := by
    refine ⟨_, call_abs, .keep fun w st l xs d Q hs rp e q => ?_⟩
    unfold fAbs at e
    split at e <;> cases e
    obtain ⟨v, rfl, h⟩ := rp.one'
    exact ⟨_, by rw [h.int], q w _ (.refl w) hs (rep_int _)⟩
def fDivmod : List D → Option D
  | [.int i, .int j] => if decide (0 < j) && decide (j < 1073741824) then some (.tup [.int (i / j), .int (i % j)]) else none
  | _ => none
def bDivmod : Bi where
  n := 12
  tv := .builtin "divmod"
  f := keepSt fDivmod
  tgt := .b _ rfl
  boot := by decide +kernel
  ok := by decide +kernel
  imp {A k F X W} C := by
    refine ⟨_, call_divmod, .keep fun w st l xs d Q hs rp e q => ?_⟩
    unfold fDivmod at e
    split at e
    · split at e
      · rename_i hl
        cases e
        simp only [Bool.and_eq_true, decide_eq_true_eq] at hl
        obtain ⟨v, u, rfl, h, h'⟩ := rp.two
        refine ⟨_, _, by rw [h.int, h'.int], hl, fun p hp => ?_⟩
        exact q (w.pure p _) (.ref p) (ext_pure hp) (hs.pure hp) (rep_tup hs.wf hp (by rw [sizeLine_eq]; show 2 ≤ _; omega) (.cons (rep_int _) (.cons (rep_int _) .nil)))
      · cases e
    · cases e
def fInt : List D → Option D
  | [.int i] => some (.int i)
  | [.str s] => if s.length ≤ 640 then (PySem.intText? ⟨s.toArray⟩).map .int else none
  | _ => none
def bInt : Bi where
  n := 7
  tv := .type "int"
  f := keepSt fInt
  tgt := .t _ rfl
  boot := by decide +kernel
  ok := by decide +kernel
  imp {A k F X W} C := by
    refine ⟨_, CallR.or call_int1 call_int_str, .keep fun w st l xs d Q hs rp e q => ?_⟩
    unfold fInt at e
    split at e
    · cases e
      obtain ⟨v, rfl, h⟩ := rp.one'
      exact .inl (.inl ⟨_, by rw [h.int], q w _ (.refl w) hs (rep_int _)⟩)
    · split at e
      · rename_i hl
        simp only [Option.map_eq_some_iff] at e
        obtain ⟨n, e1, rfl⟩ := e
        obtain ⟨v, rfl, h⟩ := rp.one'
        exact .inr ⟨_, n, by rw [h.str.1], e1, by rw [str_len]; exact hl, q w _ (.refl w) hs (rep_int _)⟩
      · cases e
    · cases e
def fStr : List D → Option D
  | [.int i] => if decide (0 ≤ i) && decide (i < 1000000) then some (.str (TL.numL i.toNat)) else none
  | _ => none
theorem num_ok {n : Nat} (h : n < 1000000) : StrOk (TL.numL n) := by
  refine ⟨Nat.le_trans (TL.numL_len (k := 6) (by decide) (by simpa using h)) (by rw [sizeLine_eq]; decide), fun c hc => ?_⟩
  have h1 := TL.numL_free (n := n) (s := c)
  rcases Nat.lt_or_ge 57 c with h2 | h2
  · exact absurd hc (h1 (.inr h2))
  · omega
def bStr : Bi where
  n := 8
  tv := .type "str"
  f := keepSt fStr
  tgt := .t _ rfl
  boot := by decide +kernel
  ok := by decide +kernel
  imp {A k F X W} C := by
    refine ⟨_, call_str_int, .keep fun w st l xs d Q hs rp e q => ?_⟩
    unfold fStr at e
    split at e
    · split at e
      · rename_i hl
        cases e
        simp only [Bool.and_eq_true, decide_eq_true_eq] at hl
        obtain ⟨v, rfl, h⟩ := rp.one'
        rename_i i
        obtain ⟨n, rfl⟩ : ∃ n : Nat, i = n := ⟨i.toNat, by omega⟩
        have hn : n < 1000000 := by omega
        refine ⟨_, by rw [h.int], ?_, ?_⟩
        · rw [Int.natAbs_natCast]
          by_cases h0 : n = 0
          · subst h0; decide
          · have : n.log2 < 1920 := by
              rw [Nat.log2_lt h0]
              exact Nat.lt_of_lt_of_le hn (Nat.le_trans (by decide : 1000000 ≤ 2 ^ 20) (Nat.pow_le_pow_right (by decide) (by decide)))
            exact this
        · have e2 : (Str.ofString (toString (n : Int)) : Str) = ⟨(TL.numL n).toArray⟩ := by
            exact TL.ext_tl (TL.tl_num n)
          show Q (.str (Str.ofString (toString (n : Int)))) w.H
          rw [e2]
          rw [Int.toNat_natCast] at q
          exact q w _ (.refl w) hs (rep_str (num_ok hn))
      · cases e
    · cases e
def fTuple : List D → Option D
  | [.lst l] => some (.tup l)
  | [.tup l] => some (.tup l)
  | _ => none
def bTuple : Bi where
  n := 6
  tv := .type "tuple"
  f := keepSt fTuple
  tgt := .t _ rfl
  boot := by decide +kernel
  ok := by decide +kernel
  imp {A k F X W} C := by
    refine ⟨_, call_tuple_of, .keep fun w st l xs d Q hs rp e q => ?_⟩
    unfold fTuple at e
    split at e <;> cases e
    · obtain ⟨v, rfl, h⟩ := rp.one'
      obtain ⟨p, vs, rfl, h1, h2⟩ := h.lst
      exact ⟨p, vs, rfl, .inl ⟨by rw [C.hK]; exact h1.seq, fun a ha => q (w.pure a _) (.ref a) (ext_pure ha) (hs.pure ha) (rep_tup hs.wf ha h1.1 h2)⟩⟩
    · obtain ⟨v, rfl, h⟩ := rp.one'
      obtain ⟨p, vs, rfl, h1, h2⟩ := h.tup
      exact ⟨p, vs, rfl, .inr ⟨by rw [C.hK]; exact h1.seq, q w _ (.refl w) hs h.tupR⟩⟩
/-- list(text) -/
def signs (s : List Nat) : List D := s.map fun c => .str [c]
def fList : List D → Option D
  | [.lst l] => some (.lst l)
  | [.tup l] => some (.lst l)
  | [.str s] => some (.lst (signs s))
  | _ => none
theorem reps_signs {A : Ad} {w : Wd} : ∀ {s : List Nat}, (∀ c ∈ s, c < 1114112) → Reps A w (signs s) (s.map fun c => .str ⟨#[c]⟩)
  | [], _ => by simpa [signs] using Reps.nil
  | c :: r, h => by
    simp only [signs, List.map_cons]
    exact .cons (rep_str ⟨by rw [sizeLine_eq]; show 1 ≤ _; omega, fun c' hc => by simp only [List.mem_singleton] at hc; subst hc; exact h _ (List.mem_cons_self ..)⟩) (reps_signs fun c hc => h c (List.mem_cons_of_mem _ hc))
theorem call_list_txt {X : Cx} (hc : X.calm = true) : CallR X (.type "list") (fun xs H Q => ∃ s : List Nat, xs = [.str ⟨s.toArray⟩] ∧ s.length ≤ sizeLine ∧ ∀ p, H p = none → Q (.ref p) (upd H p (.lst (s.map fun c => .str ⟨#[c]⟩)))) := by
  intro pins s σ H xs us Q I r h
  obtain ⟨z, rfl, hz, q⟩ := h
  obtain ⟨u, rfl, t, rfl⟩ := vals1 r
  refine call_list_str (I.ok.hd hc) _ t (fun h' tk acc' c' kp e hi => ?_) (by simpa using hz)
  have hv : Vals (z.map fun c => V.str ⟨#[c]⟩) acc'.toList := by
    have h0 : acc'.size = z.length := by simpa using hi.1
    have h2 : (z.map fun c => V.str ⟨#[c]⟩).length = acc'.toList.length := by simp [h0]
    refine vals_of_at h2 fun j x u hx hu => ?_
    obtain ⟨c, t', h1, rfl⟩ := hi.2 j u (by rw [← hu, Array.getElem?_toList])
    rw [List.getElem?_map] at hx
    have h1' : z[j]? = some c := by simpa using h1
    rw [h1'] at hx
    cases hx
    exact ⟨t', rfl⟩
  exact ⟨.ref s.heap.objs.size, _, I.laid (t' := tk) kp (Nat.le_refl _) (show ObjOk X.prog X.w _ h' _ (.lst (z.map fun c => V.str ⟨#[c]⟩)) from ⟨by rw [List.length_map]; exact hz, acc'.toList, c', hv, by simpa using e⟩), rfl, q _ (I.hok.fresh (Nat.le_refl _))⟩
def bList : BiF where
  n := 5
  tv := .type "list"
  f := keepSt fList
  tgt := .t _ rfl
  boot := by decide +kernel
  ok := by decide +kernel
  imp {A k F X W} C := by
    refine ⟨_, CallR.or call_list_of (call_list_txt C.calm), .keep fun w st l xs d Q hs rp e q => ?_⟩
    unfold fList at e
    split at e <;> cases e
    · obtain ⟨v, rfl, h⟩ := rp.one'
      obtain ⟨p, vs, rfl, h1, h2⟩ := h.lst
      exact .inl ⟨p, vs, rfl, .inl (by rw [C.hK]; exact h1.seq), fun a ha => q (w.raw a _) (.ref a) (ext_raw ha) (hs.raw ha) (top_lst hs.wf ha h1.1 h2)⟩
    · obtain ⟨v, rfl, h⟩ := rp.one'
      obtain ⟨p, vs, rfl, h1, h2⟩ := h.tup
      exact .inl ⟨p, vs, rfl, .inr (by rw [C.hK]; exact h1.seq), fun a ha => q (w.raw a _) (.ref a) (ext_raw ha) (hs.raw ha) (top_lst hs.wf ha h1.1 h2)⟩
    · obtain ⟨v, rfl, h⟩ := rp.one'
      obtain ⟨rfl, g⟩ := h.str
      exact .inr ⟨_, rfl, g.1, fun a ha => q (w.raw a _) (.ref a) (ext_raw ha) (hs.raw ha) (top_lst hs.wf ha (by rw [List.length_map]; exact g.1) (reps_signs g.2))⟩
end Rf

set_option Elab.async false
set_option linter.all false
set_option maxRecDepth 100000
set_option maxHeartbeats 1000000
namespace Rf
open PySem L2

/-! ## tests -/
theorem _root_.L2.PW.imp {X : Cx} {e : Expr} {t t' : TT} (h : PW X e t) (k : ∀ σ H Q, t' σ H Q → t σ H Q) : PW X e t' := ⟨fun whole pins s σ H Q I q => h.run whole pins s σ H Q I (k σ H Q q)⟩
def toB : D → Option Bool
  | .bl b => some b
  | _ => none
def dB (a : En → M D) : En → M Bool := bndE a fun x _ => opt (toB x)
section
variable {A : Ad} {W : WX} {t : St} {H : Hp} {Q : Bool → Hp → Prop}
theorem dB_ok {a : En → M D} (h : LT A W (dB a) t H Q) : LE A W a t H fun x H1 => ∃ c, x = .bl c ∧ Q c H1 := by
  obtain ⟨w, r, st, rfl, hr, hs, hp⟩ := h
  refine step (R := RD A) (.refl w) hr hs hp fun w1 st1 a x hr1 hs1 e1 rx hp1 => ?_
  obtain ⟨d, e, hq⟩ := opt_post hp1
  cases a <;> cases e
  exact ⟨_, rx.bl, hq w1 _ e1 hs1 rfl⟩
end
/-- a truth, as a test -/
def tVal (b : BE) : BT where
  den F := dB (b.den F)
  chk I N sc e := plainT e && b.chk I N sc e
  snd {A k F X W} C e h := by
    simp only [Bool.and_eq_true] at h
    exact (pt_val (b.snd C h.2) (plainT_ok h.1)).imp fun t H Q q => dB_ok q
def tCmp (o : Cp2) (a b : BE) : BT where
  den F := dB (den2 o.f (a.den F) (b.den F))
  chk I N sc e := match e with
    | .Compare x [op] [y] _ => decide (op = o.op) && notSet y && a.chk I N sc x && b.chk I N sc y
    | _ => false
  snd {A k F X W} C e h := by
    split at h
    · simp only [Bool.and_eq_true, decide_eq_true_eq] at h
      obtain ⟨⟨⟨h1, h0⟩, h2⟩, h3⟩ := h
      subst h1
      obtain ⟨r, q1, q2⟩ := o.imp C
      exact (pt_cmpR q1 (a.snd C h2) (b.snd C h3) (notSet_ok h0)).imp fun t H Q q => den2_ok q2 (dB_ok q)
    · cases h
def tNot (a : BT) : BT where
  den F := bndE (a.den F) fun c _ => ret (!c)
  chk I N sc e := match e with
    | .UnaryOp .Not x _ => a.chk I N sc x
    | _ => false
  snd {A k F X W} C e h := by
    split at h
    · refine (pt_not (a.snd C h)).imp fun t H Q q => ?_
      obtain ⟨w, r, st, rfl, hr, hs, hp⟩ := q
      refine step (R := RB) (.refl w) hr hs hp fun w1 st1 a x hr1 hs1 e1 rx hp1 => ?_
      subst rx
      exact hp1 w1 _ e1 hs1 rfl
    · cases h
def dAnd (m : En → M Bool) (n : En → M Bool) : En → M Bool := bndE m fun c => if c then n else fun _ => ret false
def dOr (m : En → M Bool) (n : En → M Bool) : En → M Bool := bndE m fun c => if c then (fun _ => ret true) else n
def dAnds : List BT → FT → En → M Bool
  | [], _ => fun _ => opt none
  | [a], F => a.den F
  | a :: b :: r, F => dAnd (a.den F) (dAnds (b :: r) F)
def dOrs : List BT → FT → En → M Bool
  | [], _ => fun _ => opt none
  | [a], F => a.den F
  | a :: b :: r, F => dOr (a.den F) (dOrs (b :: r) F)
def cht (I : Info) (N : List Str) (sc : Scope) : List BT → List Expr → Bool
  | [], [] => true
  | b :: bs, e :: es => b.chk I N sc e && cht I N sc bs es
  | _, _ => false
section
variable {A : Ad} {k : Nat} {F : FT} {X : Cx} {W : WX}
theorem pw_ands (C : Ctx A k F X W) {pos : Pos} : ∀ {bs : List BT} {es : List Expr}, cht A.I X.N X.env.scope bs es = true → es ≠ [] → PW X (.BoolOp .And es pos) (LT A W (dAnds bs F))
  | [], [], _, n => absurd rfl n
  | [], _ :: _, h, _ => by cases h
  | _ :: _, [], h, _ => by cases h
  | [a], [e], h, _ => by
    simp only [cht, Bool.and_eq_true] at h
    exact pw_and1 (a.snd C h.1)
  | [_], _ :: _ :: _, h, _ => by simp [cht] at h
  | _ :: _ :: _, [_], h, _ => by simp [cht] at h
  | a :: b :: r, e :: e2 :: es, h, _ => by
    rw [cht, Bool.and_eq_true] at h
    refine (pw_and (a.snd C h.1) (pw_ands C h.2 (by simp))).imp fun t H Q q => ?_
    obtain ⟨w, r', st, rfl, hr, hs, hp⟩ := q
    refine step (R := RB) (.refl w) hr hs hp fun w1 st1 c x hr1 hs1 e1 rx hp1 => ?_
    subst rx
    cases c with
    | true => exact iteT (LG.of hr1 hs1 e1 (fun _ _ _ _ q => q) hp1)
    | false => exact iteF (hp1 w1 _ e1 hs1 rfl)
theorem pw_ors (C : Ctx A k F X W) {pos : Pos} : ∀ {bs : List BT} {es : List Expr}, cht A.I X.N X.env.scope bs es = true → es ≠ [] → PW X (.BoolOp .Or es pos) (LT A W (dOrs bs F))
  | [], [], _, n => absurd rfl n
  | [], _ :: _, h, _ => by cases h
  | _ :: _, [], h, _ => by cases h
  | [a], [e], h, _ => by
    simp only [cht, Bool.and_eq_true] at h
    exact pw_or1 (a.snd C h.1)
  | [_], _ :: _ :: _, h, _ => by simp [cht] at h
  | _ :: _ :: _, [_], h, _ => by simp [cht] at h
  | a :: b :: r, e :: e2 :: es, h, _ => by
    rw [cht, Bool.and_eq_true] at h
    refine (pw_or (a.snd C h.1) (pw_ors C h.2 (by simp))).imp fun t H Q q => ?_
    obtain ⟨w, r', st, rfl, hr, hs, hp⟩ := q
    refine step (R := RB) (.refl w) hr hs hp fun w1 st1 c x hr1 hs1 e1 rx hp1 => ?_
    subst rx
    cases c with
    | true => exact iteT (hp1 w1 _ e1 hs1 rfl)
    | false => exact iteF (LG.of hr1 hs1 e1 (fun _ _ _ _ q => q) hp1)
end
def notNil : List Expr → Bool
  | [] => false
  | _ => true
theorem notNil_ok {l : List Expr} (h : notNil l = true) : l ≠ [] := by
  rintro rfl
  cases h
def tAnd (bs : List BT) : BT where
  den F := dAnds bs F
  chk I N sc e := match e with
    | .BoolOp .And es _ => notNil es && cht I N sc bs es
    | _ => false
  snd {A k F X W} C e h := by
    split at h
    · simp only [Bool.and_eq_true] at h
      exact (pw_ands C h.2 (notNil_ok h.1)).pt
    · cases h
def tOr (bs : List BT) : BT where
  den F := dOrs bs F
  chk I N sc e := match e with
    | .BoolOp .Or es _ => notNil es && cht I N sc bs es
    | _ => false
  snd {A k F X W} C e h := by
    split at h
    · simp only [Bool.and_eq_true] at h
      exact (pw_ors C h.2 (notNil_ok h.1)).pt
    · cases h
/-! ## and, or, not, if as values -/
def dAndV (m : En → M D) (n : En → M D) : En → M D := bndE m fun c => match c with
  | .bl true => n
  | .bl false => fun _ => ret (.bl false)
  | _ => fun _ => opt none
def dOrV (m : En → M D) (n : En → M D) : En → M D := bndE m fun c => match c with
  | .bl true => fun _ => ret (.bl true)
  | .bl false => n
  | _ => fun _ => opt none
def dAndVs : List BE → FT → En → M D
  | [], _ => fun _ => opt none
  | [a], F => a.den F
  | a :: b :: r, F => dAndV (a.den F) (dAndVs (b :: r) F)
def dOrVs : List BE → FT → En → M D
  | [], _ => fun _ => opt none
  | [a], F => a.den F
  | a :: b :: r, F => dOrV (a.den F) (dOrVs (b :: r) F)
def che (I : Info) (N : List Str) (sc : Scope) : List BE → List Expr → Bool
  | [], [] => true
  | b :: bs, e :: es => b.chk I N sc e && che I N sc bs es
  | _, _ => false
section
variable {A : Ad} {k : Nat} {F : FT} {X : Cx} {W : WX}
theorem pe_ands (C : Ctx A k F X W) {pos : Pos} : ∀ {bs : List BE} {es : List Expr}, che A.I X.N X.env.scope bs es = true → es ≠ [] → PE X (.BoolOp .And es pos) (LE A W (dAndVs bs F))
  | [], [], _, n => absurd rfl n
  | [], _ :: _, h, _ => by cases h
  | _ :: _, [], h, _ => by cases h
  | [a], [e], h, _ => by
    simp only [che, Bool.and_eq_true] at h
    exact pe_one (a.snd C h.1)
  | [_], _ :: _ :: _, h, _ => by simp [che] at h
  | _ :: _ :: _, [_], h, _ => by simp [che] at h
  | a :: b :: r, e :: e2 :: es, h, _ => by
    rw [che, Bool.and_eq_true] at h
    refine (pe_and (a.snd C h.1) (pe_ands C h.2 (by simp))).imp fun t H Q q => ?_
    obtain ⟨w, r', st, rfl, hr, hs, hp⟩ := q
    refine step (R := RD A) (.refl w) hr hs hp fun w1 st1 c x hr1 hs1 e1 rx hp1 => ?_
    cases c with
    | bl c =>
      refine ⟨c, rx.bl, ?_⟩
      cases c with
      | true => exact iteT (LG.of hr1 hs1 e1 (fun _ _ _ _ q => q) hp1)
      | false => exact iteF (hp1 w1 _ e1 hs1 (rep_bl _))
    | _ => exact hp1.elim
theorem pe_ors (C : Ctx A k F X W) {pos : Pos} : ∀ {bs : List BE} {es : List Expr}, che A.I X.N X.env.scope bs es = true → es ≠ [] → PE X (.BoolOp .Or es pos) (LE A W (dOrVs bs F))
  | [], [], _, n => absurd rfl n
  | [], _ :: _, h, _ => by cases h
  | _ :: _, [], h, _ => by cases h
  | [a], [e], h, _ => by
    simp only [che, Bool.and_eq_true] at h
    exact pe_one (a.snd C h.1)
  | [_], _ :: _ :: _, h, _ => by simp [che] at h
  | _ :: _ :: _, [_], h, _ => by simp [che] at h
  | a :: b :: r, e :: e2 :: es, h, _ => by
    rw [che, Bool.and_eq_true] at h
    refine (pe_or (a.snd C h.1) (pe_ors C h.2 (by simp))).imp fun t H Q q => ?_
    obtain ⟨w, r', st, rfl, hr, hs, hp⟩ := q
    refine step (R := RD A) (.refl w) hr hs hp fun w1 st1 c x hr1 hs1 e1 rx hp1 => ?_
    cases c with
    | bl c =>
      refine ⟨c, rx.bl, ?_⟩
      cases c with
      | true => exact iteT (hp1 w1 _ e1 hs1 (rep_bl _))
      | false => exact iteF (LG.of hr1 hs1 e1 (fun _ _ _ _ q => q) hp1)
    | _ => exact hp1.elim
end
def cAnd (bs : List BE) : BE where
  den F := dAndVs bs F
  chk I N sc e := match e with
    | .BoolOp .And es _ => notNil es && che I N sc bs es
    | _ => false
  snd {A k F X W} C e h := by
    split at h
    · simp only [Bool.and_eq_true] at h
      exact pe_ands C h.2 (notNil_ok h.1)
    · cases h
def cOr (bs : List BE) : BE where
  den F := dOrVs bs F
  chk I N sc e := match e with
    | .BoolOp .Or es _ => notNil es && che I N sc bs es
    | _ => false
  snd {A k F X W} C e h := by
    split at h
    · simp only [Bool.and_eq_true] at h
      exact pe_ors C h.2 (notNil_ok h.1)
    · cases h
def fNot : D → Option D
  | .bl b => some (.bl (!b))
  | _ => none
def cNot (a : BE) : BE where
  den F := den1 fNot (a.den F)
  chk I N sc e := match e with
    | .UnaryOp .Not x _ => a.chk I N sc x
    | _ => false
  snd {A k F X W} C e h := by
    split at h
    · refine (pe_not (a.snd C h)).imp fun t H Q q => ?_
      refine den1_ok (r := fun x H1 Q => ∃ c, x = .bl c ∧ Q (.bl (!c)) H1) (fun w st a x d Q hs rp e q => ?_) q
      cases a <;> cases e
      exact ⟨_, rp.bl, q w _ (.refl w) hs (rep_bl _)⟩
    · cases h
def fNeg : D → Option D
  | .int b => some (.int (-b))
  | _ => none
def cNeg (a : BE) : BE where
  den F := den1 fNeg (a.den F)
  chk I N sc e := match e with
    | .UnaryOp .USub x _ => a.chk I N sc x
    | _ => false
  snd {A k F X W} C e h := by
    split at h
    · refine (pe_un un_neg (a.snd C h)).imp fun t H Q q => ?_
      refine den1_ok (fun w st a x d Q hs rp e q => ?_) q
      cases a <;> cases e
      exact ⟨_, rp.int, q w _ (.refl w) hs (rep_int _)⟩
    · cases h
def dIf {α : Type} (c : En → M Bool) (a b : En → M α) : En → M α := bndE c fun k => if k then a else b
def cIf (c : BT) (a b : BE) : BE where
  den F := dIf (c.den F) (a.den F) (b.den F)
  chk I N sc e := match e with
    | .IfExp t x y _ => c.chk I N sc t && a.chk I N sc x && b.chk I N sc y
    | _ => false
  snd {A k F X W} C e h := by
    split at h
    · simp only [Bool.and_eq_true] at h
      refine (pe_ifExp (c.snd C h.1.1) (a.snd C h.1.2) (b.snd C h.2)).imp fun t H Q q => ?_
      obtain ⟨w, r', st, rfl, hr, hs, hp⟩ := q
      refine step (R := RB) (.refl w) hr hs hp fun w1 st1 c x hr1 hs1 e1 rx hp1 => ?_
      subst rx
      cases c with
      | true => exact iteT (LG.of hr1 hs1 e1 (fun _ _ _ _ q => q) hp1)
      | false => exact iteF (LG.of hr1 hs1 e1 (fun _ _ _ _ q => q) hp1)
    · cases h

/-! ## attributes -/
theorem look_zip : ∀ {ns : List Str} {vs : List V} {i : Nat} {x : Str} {v : V}, ns.Nodup → ns[i]? = some x → vs[i]? = some v → (ns.zip vs).lookup x = some v
  | [], _, _, _, _, _, h, _ => by simp at h
  | n :: ns, [], _, _, _, _, _, h => by simp at h
  | n :: ns, u :: vs, 0, x, v, _, h1, h2 => by
    simp at h1 h2
    subst h1 h2
    simp [List.zip_cons_cons, List.lookup]
  | n :: ns, u :: vs, i + 1, x, v, nd, h1, h2 => by
    simp at h1 h2
    have hn : x ≠ n := by
      rintro rfl
      exact (List.nodup_cons.mp nd).1 (List.mem_of_getElem? h1)
    rw [List.zip_cons_cons, List.lookup_cons, beq_eq_false_iff_ne.mpr hn]
    exact look_zip (List.nodup_cons.mp nd).2 h1 h2
/-- the place of a field -/
def fldIx (c f : Nat) : Nat := (clF c).idxOf f
/-- the field f of what d stands for -/
def dAttr (f : Nat) (d : D) : M D := fun st => match d with
  | .obj c l => opt (l[fldIx c f]?) st
  | .loc n => (match st[n]? with
    | some (.ins c l) => opt (l[fldIx c f]?) st
    | _ => .bad)
  | _ => .bad
theorem idx_name {c f i : Nat} (h : fldIx c f = i) (hi : i < (clF c).length) : (names c)[i]? = some (fdN f) := by
  unfold names
  subst h
  unfold fldIx at hi ⊢
  rw [List.getElem?_map, List.getElem?_eq_getElem hi, List.getElem_idxOf]
  rfl
theorem opt_exc {α : Type} {o : Option α} {st st' : Sto} {x : Exn} : opt o st ≠ .exc x st' := by
  cases o <;> exact fun e => nomatch e
theorem attr_run {A : Ad} {k : Nat} {F : FT} {X : Cx} {W : WX} (C : Ctx A k F X W) {w : Wd} {st : Sto} {f : Nat} {d a : D} {x : V} (hs : SRel A w st) (r : Rep A w a x) {st' : Sto} (e : dAttr f a st = .ok d st') :
    st' = st ∧ ∃ p c dx fs v, x = .ref p ∧ w.H p = some (.ins c dx fs) ∧ Cls X.K c ∧ NoAttr X.K c (fdN f) ∧ fs.lookup (fdN f) = some v ∧ Rep A w d v := by
  have fin : ∀ (c : Nat) (l : List D) (p dx : Addr) (vs : List V), (c ∈ A.I.cs ∧ l.length ≤ (clF c).length) → w.H p = some (.ins (A.ca c) dx ((names c).zip vs)) → Reps A w l vs → opt (l[fldIx c f]?) st = .ok d st' →
      st' = st ∧ ∃ C dx' fs v, w.H p = some (.ins C dx' fs) ∧ Cls X.K C ∧ NoAttr X.K C (fdN f) ∧ fs.lookup (fdN f) = some v ∧ Rep A w d v := by
    intro c l p dx vs hcs hp hv eo
    have cf := C.facts.cl c hcs.1
    have cl1 := cf.cl
    have cl2 := cf.no
    have cl3 := cf.nd
    cases ex : l[fldIx c f]? with
    | none => rw [ex] at eo; cases eo
    | some d' =>
      rw [ex] at eo
      cases eo
      obtain ⟨v, hv1, hv2⟩ := hv.get ex
      have hi : fldIx c f < (clF c).length := Nat.lt_of_lt_of_le (List.getElem?_eq_some_iff.mp ex).1 hcs.2
      have hn := idx_name rfl hi
      exact ⟨rfl, A.ca c, dx, _, v, hp, by rw [C.hK]; exact cl1, by rw [C.hK]; exact cl2 _ (List.mem_of_getElem? hn), look_zip cl3 hn hv1, hv2⟩
  cases a with
  | obj c l =>
    obtain ⟨p, dx, vs, rfl, _, h0, hp, hv⟩ := r.obj
    obtain ⟨e1, c', dx', fs, v, q⟩ := fin c l p dx vs h0 hp hv e
    exact ⟨e1, p, c', dx', fs, v, rfl, q⟩
  | loc n =>
    obtain ⟨p, rfl, hm⟩ := r.loc
    unfold dAttr at e
    simp only at e
    cases eo : st[n]? with
    | none => rw [eo] at e; cases e
    | some o =>
      rw [eo] at e
      cases o with
      | lst _ => cases e
      | ins c l =>
        obtain ⟨dx, vs, h0, hp, hv⟩ := hs.ob n _ p eo hm
        obtain ⟨e1, c', dx', fs, v, q⟩ := fin c l p dx vs h0 hp hv e
        exact ⟨e1, p, c', dx', fs, v, rfl, q⟩
  | _ => cases e
def cAttr (f : Nat) (a : BE) : BE where
  den F := bndE (a.den F) fun d _ => dAttr f d
  chk I N sc e := match e with
    | .Attribute x y _ => beqS y (fdN f) && noSup x && a.chk I N sc x
    | _ => false
  snd {A k F X W} C e h := by
    split at h
    · simp only [Bool.and_eq_true] at h
      have e1 := beqS_eq h.1.1
      subst e1
      refine (pe_fld (a.snd C h.2) (base_ok h.1.2)).imp fun t H Q q => ?_
      obtain ⟨w, r', st, rfl, hr, hs, hp⟩ := q
      refine step (R := RD A) (.refl w) hr hs hp fun w1 st1 a x hr1 hs1 e1 rx hp1 => ?_
      cases ea : dAttr f a st1 with
      | ok d st2 =>
        rw [ea] at hp1
        obtain ⟨rfl, p, c, dx, fs, v, q1, q2, q3, q4, q5, q6⟩ := attr_run C hs1 rx ea
        exact ⟨p, c, dx, fs, v, q1, q2, q3, q4, q5, hp1 w1 v e1 hs1 q6⟩
      | exc _ _ =>
        cases a with
        | obj c l => exact (opt_exc ea).elim
        | loc n =>
          unfold dAttr at ea
          simp only at ea
          cases eo : st1[n]? with
          | none => rw [eo] at ea; cases ea
          | some o =>
            rw [eo] at ea
            cases o with
            | lst _ => cases ea
            | ins c l => exact (opt_exc ea).elim
        | _ => cases ea
      | bad => rw [ea] at hp1; exact hp1.elim
    · cases h
end Rf

set_option Elab.async false
set_option linter.all false
set_option maxRecDepth 100000
set_option maxHeartbeats 1000000
namespace Rf
open PySem L2

/-! ## what is walked -/
def JOk (A : Ad) (w : Wd) (l : List D) (J : It) : Prop :=
  ∃ (G : Hp → Prop) (Y : Nat → Hp → V → Hp → Prop), Walk J l.length G Y ∧ (∀ w2, Le w w2 → Wf w2 → G w2.H) ∧
    ∀ (w2 : Wd) (st : Sto) (i : Nat) (d : D) (x : V) (H' : Hp), Le w w2 → SRel A w2 st → l[i]? = some d → Y i w2.H x H' → ∃ w3, w3.H = H' ∧ Ext w2 w3 ∧ SRel A w3 st ∧ Rep A w3 d x
abbrev RJ (A : Ad) : Wd → Wd → List D → It → Prop := fun _ w' => JOk A w'
abbrev LI (A : Ad) (W : WX) (den : En → M (List D)) : TI := LG A (RJ A) W den
structure BI where
  den : FT → En → M (List D)
  chk : Info → List Str → Scope → Expr → Expr → Bool
  snd : ∀ {A : Ad} {k : Nat} {F : FT} {X : Cx} {W : WX}, Ctx A k F X W → ∀ {tg e : Expr}, chk A.I X.N X.env.scope tg e = true → PI X tg e (LI A W (den F))
theorem Le.refl (w : Wd) : Le w w := ⟨fun _ _ h => h, fun a h => ⟨h, rfl⟩⟩
theorem Le.trans {w w' w'' : Wd} (a : Le w w') (b : Le w' w'') : Le w w'' := ⟨fun n p h => b.mu n p (a.mu n p h), fun p h => ⟨(b.s p (a.s p h).1).1, ((b.s p (a.s p h).1).2).trans (a.s p h).2⟩⟩
section
variable {A : Ad} {w : Wd} {l : List D} {vs : List V} {a : Addr} {K : PySem.W.Frag}
theorem jok_at {J : It} {G : Hp → Prop} (k : Walk J l.length G (YAt vs)) (hG : ∀ w2, Le w w2 → Wf w2 → G w2.H) (h : Reps A w l vs) : JOk A w l J := by
  refine ⟨G, YAt vs, k, hG, fun w2 st i d x H' e2 s2 hd y => ?_⟩
  obtain ⟨rfl, hx⟩ := y
  obtain ⟨v, h1, h2⟩ := h.get hd
  rw [h1] at hx
  cases hx
  exact ⟨w2, rfl, .refl w2, s2, h2.le e2⟩
theorem jok_lst (hK : K = A.K) (h1 : LAt A w a vs) (h : Reps A w l vs) : JOk A w l (Itl K a) := by
  subst hK
  have k : Walk (Itl A.K a) vs.length (fun H => SqL A.K H a vs) (YAt vs) := walk_list
  rw [h.length] at k
  exact jok_at k (fun w2 e _ => (h1.le e).seq) h
theorem jok_frl (hK : K = A.K) (h1 : FAt A w a vs) (h : Reps A w l vs) : JOk A w l (Itl K a) := by
  subst hK
  have k : Walk (Itl A.K a) vs.length (fun H => SqL A.K H a vs) (YAt vs) := walk_list
  rw [h.length] at k
  exact jok_at k (fun w2 e _ => (h1.le e).seq) h
theorem jok_tup (hK : K = A.K) (h1 : TAt A w a vs) (h : Reps A w l vs) : JOk A w l (Itt K a) := by
  subst hK
  have k : Walk (Itt A.K a) vs.length (fun H => SqT A.K H a vs) (YAt vs) := walk_tup
  rw [h.length] at k
  exact jok_at k (fun w2 e _ => (h1.le e).seq) h
theorem jok_str {s : List Nat} (g : StrOk s) : JOk A w (signs s) (Its ⟨s.toArray⟩) := by
  refine ⟨_, _, by have k := walk_str (z := ⟨s.toArray⟩); simpa [signs] using k, fun _ _ _ => trivial, fun w2 st i d x H' e2 s2 hd y => ?_⟩
  obtain ⟨rfl, c, hc, rfl⟩ := y
  refine ⟨w2, rfl, .refl w2, s2, ?_⟩
  have hc' : s[i]? = some c := by simpa using hc
  simp only [signs, List.getElem?_map, hc', Option.map_some, Option.some.injEq] at hd
  subst hd
  exact rep_str ⟨by rw [sizeLine_eq]; show 1 ≤ _; omega, fun c' h => by simp only [List.mem_singleton] at h; subst h; exact g.2 _ (List.mem_of_getElem? hc')⟩
end
def items : D → Option (List D)
  | .lst l => some l
  | .frl l => some l
  | .tup l => some l
  | .str s => some (signs s)
  | _ => none
/-- over a list, a tuple, a text -/
def iSeq (b : BE) : BI where
  den F := bndE (b.den F) fun d _ => opt (items d)
  chk I N sc _ e := b.chk I N sc e
  snd {A k F X W} C tg e h := by
    refine ⟨fun pins s t H R I q => ?_⟩
    obtain ⟨w, r, st, rfl, hr, hs, hp⟩ := q
    -- the way is chosen by what comes
    have go : ∀ (rd : TE → TI) (_ : ∀ te, PE X e te → PI X tg e (rd te)),
        (∀ te : TE, (∀ Q : VK, (∀ w' st' d v, Ext w w' → SRel A w' st' → Rep A w' d v → b.den F r st = .ok d st' → Q v w'.H) → te t w.H Q) → rd te t w.H R) →
        (∃ d st', b.den F r st = .ok d st') ∨ (∃ x st', b.den F r st = .exc x st') → wpAny (model X.prog X.w) X.A (eval e X.env) (fun v s1 => wpAny (model X.prog X.w) X.A (pyIter v) (PIE X pins t tg R) X.xe s1) X.xe s := by
      intro rd hrd hq hx
      refine (hrd _ (b.snd C h)).run pins s t w.H R I (hq _ fun Q hQ => ?_)
      refine ⟨w, r, st, rfl, hr, hs, ?_⟩
      unfold bndE bnd at hp
      cases e1 : b.den F r st with
      | ok d st1 => exact fun w' v ex sr rp => hQ w' st1 d v ex sr rp e1
      | exc x st1 => rw [e1] at hp; exact hp
      | bad => rw [e1] at hp; exact hp.elim
    have hp0 := hp
    unfold bndE bnd at hp
    cases e1 : b.den F r st with
    | bad => rw [e1] at hp; exact hp.elim
    | exc x st1 =>
      refine go (iList X.K) (fun te q => pi_list q) (fun te hte => hte _ fun w' st' d v _ _ _ e2 => ?_) (.inr ⟨x, st1, e1⟩)
      rw [e1] at e2; cases e2
    | ok d st1 =>
      rw [e1] at hp
      cases d with
      | lst l =>
        refine go (iList X.K) (fun te q => pi_list q) (fun te hte => hte _ fun w' st' d v ex sr rp e2 => ?_) (.inl ⟨_, st1, e1⟩)
        rw [e1] at e2; cases e2
        obtain ⟨a, vs, rfl, h1, h2⟩ := rp.lst
        exact ⟨a, rfl, ⟨vs, by rw [C.hK]; exact h1.seq⟩, hp w' _ ex sr (jok_lst C.hK h1 h2)⟩
      | frl l =>
        refine go (iList X.K) (fun te q => pi_list q) (fun te hte => hte _ fun w' st' d v ex sr rp e2 => ?_) (.inl ⟨_, st1, e1⟩)
        rw [e1] at e2; cases e2
        obtain ⟨a, vs, rfl, h1, h2⟩ := rp.frl
        exact ⟨a, rfl, ⟨vs, by rw [C.hK]; exact h1.seq⟩, hp w' _ ex sr (jok_frl C.hK h1 h2)⟩
      | tup l =>
        refine go (iTup X.K) (fun te q => pi_tup q) (fun te hte => hte _ fun w' st' d v ex sr rp e2 => ?_) (.inl ⟨_, st1, e1⟩)
        rw [e1] at e2; cases e2
        obtain ⟨a, vs, rfl, h1, h2⟩ := rp.tup
        exact ⟨a, rfl, ⟨vs, by rw [C.hK]; exact h1.seq⟩, hp w' _ ex sr (jok_tup C.hK h1 h2)⟩
      | str l =>
        refine go iStr (fun te q => pi_str q) (fun te hte => hte _ fun w' st' d v ex sr rp e2 => ?_) (.inl ⟨_, st1, e1⟩)
        rw [e1] at e2; cases e2
        obtain ⟨rfl, g⟩ := rp.str
        exact ⟨_, rfl, hp w' _ ex sr (jok_str g)⟩
      | _ => exact hp.elim
def intsD (lo : Int) (n : Nat) : List D := (List.range n).map fun i => .int (lo + (i : Nat))
theorem jok_range {A : Ad} {w : Wd} {lo : Int} {n : Nat} : JOk A w (intsD lo n) (Itr lo n) := by
  refine ⟨_, _, by have k := walk_range (lo := lo) (n := n); simpa [intsD] using k, fun _ _ _ => trivial, fun w2 st i d x H' e2 s2 hd y => ?_⟩
  obtain ⟨rfl, rfl⟩ := y
  refine ⟨w2, rfl, .refl w2, s2, ?_⟩
  simp only [intsD, List.getElem?_map, Option.map_eq_some_iff] at hd
  obtain ⟨j, h1, rfl⟩ := hd
  obtain ⟨h2, h3⟩ := List.getElem?_eq_some_iff.mp h1
  rw [List.getElem_range] at h3
  subst h3
  exact rep_int _
def inR (i : Int) : Bool := decide (-(2 ^ 62) ≤ i) && decide (i < 2 ^ 62)
def fRng1 : List D → Option (List D)
  | [.int j] => if inR j then some (intsD 0 j.toNat) else none
  | _ => none
def fRng2 : List D → Option (List D)
  | [.int i, .int j] => if inR i && inR j then some (intsD i (j - i).toNat) else none
  | _ => none
theorem blN4 : blN 4 = ("range" : Str) := by decide +kernel
/-- range(n) -/
def iRng1 (a : BE) : BI where
  den F := bndE (dns [a] F) fun l _ => opt (fRng1 l)
  chk I N sc _ e := match e with
    | .Call (.Name x _) [e] [] _ => beqS x (blN 4) && I.bs.contains 4 && glbB sc x && notStar e && a.chk I N sc e
    | _ => false
  snd {A k F X W} C tg e h := by
    split at h
    · rename_i x p e1 pos
      simp only [Bool.and_eq_true, List.contains_iff_mem] at h
      obtain ⟨⟨⟨⟨h1, h2⟩, h3⟩, h4⟩, h5⟩ := h
      have ex := beqS_eq h1
      subst ex
      have hm := C.facts.bl _ h2
      have hg := glbB_ok (X := X) h3
      rw [blN4] at hm hg ⊢
      have ha : PA X [e1] (LA A W (dns [a] F)) := pa_of C (by simp [chs, h4, h5])
      refine ⟨fun pins s t H R I q => (pi_range1 hg hm ha (star_cons h4)).run pins s t H R I ?_⟩
      obtain ⟨w, r, st, rfl, hr, hs, hp⟩ := q
      refine step (R := RL A) (.refl w) hr hs hp fun w1 st1 a x hr1 hs1 e1 rx hp1 => ?_
      obtain ⟨l, el, hq⟩ := opt_post hp1
      unfold fRng1 at el
      split at el
      · split at el
        · rename_i hj
          cases el
          obtain ⟨v, rfl, hv⟩ := rx.one'
          simp only [inR, Bool.and_eq_true, decide_eq_true_eq] at hj
          exact ⟨_, by rw [hv.int], hj.1, hj.2, hq w1 _ e1 hs1 jok_range⟩
        · cases el
      · cases el
    · cases h
/-- range(a, b) -/
def iRng2 (a b : BE) : BI where
  den F := bndE (dns [a, b] F) fun l _ => opt (fRng2 l)
  chk I N sc _ e := match e with
    | .Call (.Name x _) [e, e'] [] _ => beqS x (blN 4) && I.bs.contains 4 && glbB sc x && notStar e && a.chk I N sc e && notStar e' && b.chk I N sc e'
    | _ => false
  snd {A k F X W} C tg e h := by
    split at h
    · rename_i x p e1 e2 pos
      simp only [Bool.and_eq_true, List.contains_iff_mem] at h
      obtain ⟨⟨⟨⟨⟨⟨h1, h2⟩, h3⟩, h4⟩, h5⟩, h6⟩, h7⟩ := h
      have ex := beqS_eq h1
      subst ex
      have hm := C.facts.bl _ h2
      have hg := glbB_ok (X := X) h3
      rw [blN4] at hm hg ⊢
      have ha : PA X [e1, e2] (LA A W (dns [a, b] F)) := pa_of C (by simp [chs, h4, h5, h6, h7])
      refine ⟨fun pins s t H R I q => (pi_range2 hg hm ha (by rw [star_cons h4, star_cons h6]; rfl) (by rw [star_cons h6]; rfl)).run pins s t H R I ?_⟩
      obtain ⟨w, r, st, rfl, hr, hs, hp⟩ := q
      refine step (R := RL A) (.refl w) hr hs hp fun w1 st1 a x hr1 hs1 e1 rx hp1 => ?_
      obtain ⟨l, el, hq⟩ := opt_post hp1
      unfold fRng2 at el
      split at el
      · split at el
        · rename_i hj
          cases el
          obtain ⟨v, u, rfl, hv, hu⟩ := rx.two
          simp only [inR, Bool.and_eq_true, decide_eq_true_eq] at hj
          exact ⟨_, _, by rw [hv.int, hu.int], ⟨hj.1.1, hj.1.2, hj.2.1, hj.2.2⟩, hq w1 _ e1 hs1 jok_range⟩
        · cases el
      · cases el
    · cases h

/-! ## the frame -/
theorem EnvR.set {A : Ad} {w : Wd} {r : En} {t : St} {i : Nat} {d : D} {v : V} (h : EnvR A w r t) (hv : Rep A w d v) : EnvR A w (r.set i (.val d)) (t.set i (some v)) := by
  refine ⟨by simp [h.len], fun j x u h1 h2 => ?_, fun a b d1 d2 u hab h1 h2 h3 h4 => ?_⟩
  · by_cases e : i = j
    · subst e
      have hi : i < r.length := by
        have := (List.getElem?_eq_some_iff.mp h1).1
        simpa using this
      rw [List.getElem?_set_self hi] at h1
      rw [List.getElem?_set_self (by rw [← h.len]; exact hi)] at h2
      cases h1; cases h2
      exact ⟨v, rfl, hv⟩
    · rw [List.getElem?_set_ne e] at h1 h2
      exact h.at_ j x u h1 h2
  · have ea : i ≠ a := by
      rintro rfl
      have hi : i < r.length := by
        have := (List.getElem?_eq_some_iff.mp h1).1
        simpa using this
      rw [List.getElem?_set_self hi] at h1
      cases h1
    have eb : i ≠ b := by
      rintro rfl
      have hi : i < r.length := by
        have := (List.getElem?_eq_some_iff.mp h2).1
        simpa using this
      rw [List.getElem?_set_self hi] at h2
      cases h2
    rw [List.getElem?_set_ne ea] at h1 h3
    rw [List.getElem?_set_ne eb] at h2 h4
    exact h.dis a b d1 d2 u hab h1 h2 h3 h4

/-! ## targets -/
structure BG where
  set : D → En → Option En
  chk : List Str → Scope → Expr → Bool
  nn : Expr → Bool
  ws : List Nat
  /-- only the slots ws change -/
  out : ∀ {d r r'}, set d r = some r' → r'.length = r.length ∧ ∀ i, i ∉ ws → r'[i]? = r[i]?
  nov : ∀ {d r r'}, set d r = some r' → ∀ i ∈ ws, ∀ d', r'[i]? ≠ some (.own d')
  snd : ∀ {A : Ad} {X : Cx}, X.K = A.K → X.N.Nodup → X.calm = true → ∀ {e : Expr}, chk X.N X.env.scope e = true →
    PG X e fun v t H Q => ∃ (w : Wd) (r r' : En) (d : D), w.H = H ∧ EnvR A w r t ∧ Rep A w d v ∧ set d r = some r' ∧ ∀ t', EnvR A w r' t' → (∀ i, i ∉ ws → t'[i]? = t[i]?) → Q t' H
def gNm (i : Nat) : BG where
  set d r := if i < r.length then some (r.set i (.val d)) else none
  chk N sc e := match e with
    | .Name x _ => (match N[i]? with
      | some y => beqS x y && locB sc x
      | none => false)
    | _ => false
  nn _ := true
  ws := [i]
  out {d r r'} h := by
    split at h
    · cases h
      exact ⟨by simp, fun j hj => List.getElem?_set_ne (by simpa using fun e => hj (by simp [e]))⟩
    · cases h
  nov {d r r'} h j hj d' := by
    split at h
    · cases h
      have e : j = i := by simpa using hj
      subst e
      rw [List.getElem?_set_self (by assumption)]
      simp
    · cases h
  snd {A X} hK nd hc e h := by
    split at h
    · rename_i x pos
      split at h
      · rename_i y hy
        simp only [Bool.and_eq_true] at h
        have e1 := beqS_eq h.1
        subst e1
        have hl := locB_ok h.2
        refine ⟨fun pins s t H v u Q I rv q => (pg_name nd hy (.inl hl) (.inr hl)).run pins s t H v u Q I rv ?_⟩
        obtain ⟨w, r, r', d, rfl, hr, hv, e, q⟩ := q
        split at e
        · cases e
          exact q _ (hr.set hv) fun j hj => List.getElem?_set_ne (by simpa using fun e => hj (by simp [e]))
        · cases e
      · cases h
    · cases h
/-- several, one after another -/
def sets : List BG → List D → En → Option En
  | [], [], r => some r
  | g :: gs, d :: ds, r => (g.set d r).bind fun r' => sets gs ds r'
  | _, _, _ => none
def chg (N : List Str) (sc : Scope) : List BG → List Expr → Bool
  | [], [] => true
  | g :: gs, e :: es => notStar e && g.chk N sc e && chg N sc gs es
  | _, _ => false
end Rf

set_option Elab.async false
set_option linter.all false
set_option maxRecDepth 100000
set_option maxHeartbeats 1000000
namespace Rf
open PySem L2

theorem as_cons {e : Expr} {es : List Expr} {env : Env} (h : notStar e = true) : assignEach (e :: es) env = (false, assign e env) :: assignEach es env := by
  cases e <;> first | rfl | cases h
abbrev TGsL (A : Ad) (gs : List BG) : TGs := fun vs t H Q => ∃ (w : Wd) (r r' : En) (ds : List D), w.H = H ∧ EnvR A w r t ∧ Reps A w ds vs ∧ sets gs ds r = some r' ∧ ∀ t', EnvR A w r' t' → (∀ i, i ∉ gs.flatMap (·.ws) → t'[i]? = t[i]?) → Q t' H
theorem _root_.L2.PGs.imp {X : Cx} {e : List Expr} {t t' : TGs} (h : PGs X e t) (k : ∀ v σ H Q, t' v σ H Q → t v σ H Q) : PGs X e t' := ⟨fun pins s σ H v u Q I rv q => h.run pins s σ H v u Q I rv (k v σ H Q q)⟩
theorem _root_.L2.PG.imp {X : Cx} {e : Expr} {t t' : TG} (h : PG X e t) (k : ∀ v σ H Q, t' v σ H Q → t v σ H Q) : PG X e t' := ⟨fun pins s σ H v u Q I rv q => h.run pins s σ H v u Q I rv (k v σ H Q q)⟩
theorem pgs_of {A : Ad} {X : Cx} (hK : X.K = A.K) (nd : X.N.Nodup) (hc : X.calm = true) : ∀ {gs : List BG} {es : List Expr}, chg X.N X.env.scope gs es = true → PGs X es (TGsL A gs)
  | [], [], _ => pgs_nil.imp fun v t H Q q => by
    obtain ⟨w, r, r', ds, rfl, hr, hv, e, q⟩ := q
    cases ds with
    | nil =>
      cases e
      simp only [Reps] at hv
      exact ⟨hv, q t hr fun _ _ => rfl⟩
    | cons _ _ => cases e
  | [], _ :: _, h => by cases h
  | _ :: _, [], h => by cases h
  | g :: gs, e :: es, h => by
    simp only [chg, Bool.and_eq_true] at h
    refine (pgs_cons (g.snd hK nd hc h.1.2) (pgs_of hK nd hc h.2) (by rw [as_cons h.1.1]; rfl)).imp fun v t H Q q => ?_
    obtain ⟨w, r, r', ds, rfl, hr, hv, e, q⟩ := q
    cases ds with
    | nil => cases e
    | cons d ds =>
      simp only [Reps] at hv
      obtain ⟨u, us, rfl, h1, h2⟩ := hv
      simp only [sets, Option.bind_eq_some_iff] at e
      obtain ⟨r1, e1, e2⟩ := e
      refine ⟨u, us, rfl, w, r, r1, d, rfl, hr, h1, e1, fun t1 hr1 ho1 => ?_⟩
      refine ⟨w, r1, r', ds, rfl, hr1, h2, e2, fun t2 hr2 ho2 => q t2 hr2 fun i hi => ?_⟩
      simp only [List.flatMap_cons, List.mem_append, not_or] at hi
      rw [ho2 i hi.2, ho1 i hi.1]
theorem as_len {X : Env} : ∀ {es : List Expr}, (assignEach es X).length = es.length
  | [] => rfl
  | e :: es => by
    cases e <;> simp [assignEach, as_len (es := es)]
theorem as_star {X : Env} : ∀ {es : List Expr}, es.all notStar = true → (assignEach es X).findIdx? (·.1) = none
  | [], _ => rfl
  | e :: es, h => by
    simp only [List.all_cons, Bool.and_eq_true] at h
    rw [as_cons h.1, List.findIdx?_cons]
    simp [as_star h.2]
theorem chg_star {N : List Str} {sc : Scope} : ∀ {gs : List BG} {es : List Expr}, chg N sc gs es = true → es.all notStar = true ∧ es.length = gs.length
  | [], [], _ => ⟨rfl, rfl⟩
  | [], _ :: _, h => by cases h
  | _ :: _, [], h => by cases h
  | g :: gs, e :: es, h => by
    simp only [chg, Bool.and_eq_true] at h
    obtain ⟨h1, h2⟩ := chg_star h.2
    exact ⟨by simp [h.1.1, h1], by simp [h2]⟩
theorem sets_out : ∀ {gs : List BG} {ds : List D} {r r' : En}, sets gs ds r = some r' → r'.length = r.length ∧ ds.length = gs.length ∧ ∀ i, i ∉ gs.flatMap (·.ws) → r'[i]? = r[i]?
  | [], [], _, _, h => by cases h; exact ⟨rfl, rfl, fun _ _ => rfl⟩
  | [], _ :: _, _, _, h => by cases h
  | _ :: _, [], _, _, h => by cases h
  | g :: gs, d :: ds, r, r', h => by
    simp only [sets, Option.bind_eq_some_iff] at h
    obtain ⟨r1, e1, e2⟩ := h
    obtain ⟨a1, a2⟩ := g.out e1
    obtain ⟨b1, b2, b3⟩ := sets_out e2
    refine ⟨b1.trans a1, by simp [b2], fun i hi => ?_⟩
    simp only [List.flatMap_cons, List.mem_append, not_or] at hi
    rw [b3 i hi.2, a2 i hi.1]
theorem sets_nov : ∀ {gs : List BG} {ds : List D} {r r' : En}, sets gs ds r = some r' → ∀ i ∈ gs.flatMap (·.ws), ∀ d', r'[i]? ≠ some (.own d')
  | [], [], _, _, h, i, hi, _ => by simp at hi
  | [], _ :: _, _, _, h, _, _, _ => by cases h
  | _ :: _, [], _, _, h, _, _, _ => by cases h
  | g :: gs, d :: ds, r, r', h, i, hi, d' => by
    simp only [sets, Option.bind_eq_some_iff] at h
    obtain ⟨r1, e1, e2⟩ := h
    by_cases hg : i ∈ gs.flatMap (·.ws)
    · exact sets_nov e2 i hg d'
    · obtain ⟨_, _, b3⟩ := sets_out e2
      rw [b3 i hg]
      simp only [List.flatMap_cons, List.mem_append] at hi
      exact g.nov e1 i (hi.resolve_right hg) d'
/-- (a, b, ..) out of a tuple, a list -/
def gTp (gs : List BG) : BG where
  set d r := match d with
    | .tup l => sets gs l r
    | _ => none
  chk N sc e := match e with
    | .Tuple es _ _ => chg N sc gs es
    | _ => false
  nn _ := true
  ws := gs.flatMap (·.ws)
  out {d r r'} h := by
    split at h
    · obtain ⟨h1, _, h2⟩ := sets_out h
      exact ⟨h1, h2⟩
    · cases h
  nov {d r r'} h := by
    split at h
    · exact sets_nov h
    · cases h
  snd {A X} hK nd hc e h := by
    split at h
    · rename_i es k pos
      obtain ⟨h1, h2⟩ := chg_star h
      refine (pg_tup hc (pgs_of hK nd hc h) (n := es.length) as_len (as_star h1)).imp fun v t H Q q => ?_
      obtain ⟨w, r, r', d, rfl, hr, hv, e, q⟩ := q
      split at e
      · rename_i l
        obtain ⟨a, vs, rfl, g1, g2⟩ := hv.tup
        obtain ⟨_, g3, _⟩ := sets_out e
        exact ⟨a, vs, rfl, by rw [hK]; exact g1.seq, by rw [g2.length, g3, h2], w, r, r', l, rfl, hr, g2, e, q⟩
      · cases e
    · cases h

/-! ## comprehensions -/
/-- the block's own slots forgotten -/
def wipeE (r : En) : List Nat → En
  | [] => r
  | v :: vs => (wipeE r vs).set v .none
theorem wipe_env {A : Ad} {w : Wd} {r : En} {t : St} (h : EnvR A w r t) : ∀ vs : List Nat, EnvR A w (wipeE r vs) (wipe t vs)
  | [] => h
  | i :: vs => by
    have ih := wipe_env h vs
    unfold wipeE wipe
    refine ⟨by simp [ih.len], fun j x u h1 h2 => ?_, fun a b d1 d2 u hab h1 h2 h3 h4 => ?_⟩
    · by_cases e : i = j
      · subst e
        have hi : i < (wipeE r vs).length := by
          have := (List.getElem?_eq_some_iff.mp h1).1
          simpa using this
        rw [List.getElem?_set_self hi] at h1
        cases h1
        trivial
      · rw [List.getElem?_set_ne e] at h1 h2
        exact ih.at_ j x u h1 h2
    · have ea : i ≠ a := by
        rintro rfl
        have hi : i < (wipeE r vs).length := by
          have := (List.getElem?_eq_some_iff.mp h1).1
          simpa using this
        rw [List.getElem?_set_self hi] at h1
        cases h1
      have eb : i ≠ b := by
        rintro rfl
        have hi : i < (wipeE r vs).length := by
          have := (List.getElem?_eq_some_iff.mp h2).1
          simpa using this
        rw [List.getElem?_set_self hi] at h2
        cases h2
      rw [List.getElem?_set_ne ea] at h1 h3
      rw [List.getElem?_set_ne eb] at h2 h4
      exact ih.dis a b d1 d2 u hab h1 h2 h3 h4
theorem wipe_get {t : St} {i : Nat} : ∀ {vs : List Nat}, i ∉ vs → (wipe t vs)[i]? = t[i]?
  | [], _ => rfl
  | v :: vs, h => by
    simp only [List.mem_cons, not_or] at h
    unfold wipe
    rw [List.getElem?_set_ne (fun e => h.1 e.symm), wipe_get h.2]
theorem wipe_at {t : St} {i : Nat} : ∀ {vs : List Nat}, i ∈ vs → i < t.length → (wipe t vs)[i]? = some none
  | [], h, _ => by cases h
  | v :: vs, h, hl => by
    unfold wipe
    by_cases e : v = i
    · subst e
      rw [List.getElem?_set_self (by rw [wipe_length]; exact hl)]
    · rw [List.getElem?_set_ne e]
      rcases List.mem_cons.mp h with q | q
      · exact absurd q.symm e
      · exact wipe_at q hl
/-- two frames that differ at slots that are wiped -/
theorem wipe_same {t t' : St} {vs ws : List Nat} (hs : ∀ i ∈ ws, i ∈ vs) (hl : t'.length = t.length) (h : ∀ i, i ∉ ws → t'[i]? = (wipe t vs)[i]?) : wipe t' vs = wipe t vs := by
  refine List.ext_getElem? fun i => ?_
  by_cases hi : i ∈ vs
  · by_cases hlt : i < t.length
    · rw [wipe_at hi hlt, wipe_at hi (by rw [hl]; exact hlt)]
    · rw [List.getElem?_eq_none (by rw [wipe_length]; omega), List.getElem?_eq_none (by rw [wipe_length]; omega)]
  · rw [wipe_get hi, h i fun q => hi (hs i q)]
/-- one turn after another -/
def compGo (set : D → En → Option En) (test : En → M Bool) (elt : En → M D) (r : En) : List D → List D → M (List D)
  | [], acc => ret acc
  | d :: ds, acc => bnd (opt (set d r)) fun r' => bnd (test r') fun c => if c then bnd (elt r') fun y => bnd (opt (if acc.length < sizeLine then some () else none)) fun _ => compGo set test elt r ds (acc ++ [y]) else compGo set test elt r ds acc
/-- what raises within a comprehension is not told -/
def noX {α : Type} (m : M α) : M α := fun st => match m st with
  | .exc _ _ => .bad
  | o => o
def dComp (it : En → M (List D)) (vs : List Nat) (set : D → En → Option En) (test : En → M Bool) (elt : En → M D) : En → M D := fun r => bnd (it r) fun l => bnd (noX (compGo set test elt (wipeE r vs) l [])) fun acc => ret (.lst acc)
/-- the tests of a comprehension: none or one -/
inductive BC where
  | no | one (b : BT)
def BC.den (b : BC) (F : FT) : En → M Bool := match b with
  | .no => fun _ => ret true
  | .one b => b.den F
def BC.chk (b : BC) (I : Info) (N : List Str) (sc : Scope) (es : List Expr) : Bool := match b, es with
  | .no, [] => true
  | .one b, [e] => b.chk I N sc e
  | _, _ => false
theorem BC.snd {b : BC} {A : Ad} {k : Nat} {F : FT} {X : Cx} {W : WX} (C : Ctx A k F X W) {es : List Expr} (h : b.chk A.I X.N X.env.scope es = true) : PTs X es (LT A W (b.den F)) := by
  cases b with
  | no =>
    cases es with
    | nil =>
      refine ⟨fun pins s t H Q I q => pts_nil.run pins s t H Q I ?_⟩
      obtain ⟨w, r, st, rfl, hr, hs, hp⟩ := q
      exact hp w true (.refl w) hs rfl
    | cons _ _ => cases h
  | one b =>
    match es, h with
    | [], h => cases h
    | [e], h => exact pts_one (b.snd C h)
    | _ :: _ :: _, h => cases h
def notSetD : Expr → Bool
  | .Set _ _ _ => false
  | _ => true
theorem folded_ok {e : Expr} {env : Env} (h : notSetD e = true) (x : Value) : foldedSetIterable e env x = pure x := by
  cases e <;> first | rfl | cases h
abbrev noWX : WX := fun _ _ _ _ => False
theorem Ctx.blk {A : Ad} {k : Nat} {F : FT} {X : Cx} {W : WX} (C : Ctx A k F X W) (s : Shared) (H : Hp) (scope : Scope) (env : Env) (fp : List Addr) : Ctx A k F (X.blk s H scope env fp) noWX where
  hK := C.hK
  facts := C.facts
  calls := C.calls
  room := C.room
  calm := C.calm
  nd := C.nd
  pass t pins H s e s' I c := by
    obtain ⟨_, _, _, _, _, _, _, _, _, _, _, _, z⟩ := c
    exact z
theorem le_put {w : Wd} {p : Addr} {o : HO} (h : ¬ w.S p) : Le w (w.raw p o) := ⟨fun _ _ q => q, fun a q => ⟨q, upd_ne fun e => h (e ▸ q)⟩⟩
theorem ext_put {w0 w : Wd} {p : Addr} {o : HO} (e : Ext w0 w) (h : w0.H p = none) : Ext w0 (w.raw p o) :=
  ⟨e.mu, e.s, e.sn, fun a q m => (upd_ne fun z => q (by rw [z]; exact h)).trans (e.keep a q m), fun a q => upd_trk (e.trk a q)⟩
theorem srel_put {A : Ad} {w : Wd} {st : Sto} {p : Addr} {o : HO} (s : SRel A w st) (h : ¬ w.S p) (hm : p ∉ w.mu) : SRel A (w.raw p o) st :=
  ⟨⟨fun a q => ⟨upd_trk (s.wf.s a q).1, (s.wf.s a q).2⟩, fun a q => upd_trk (s.wf.m a q), s.wf.nd⟩, s.len, fun n ob a h1 h2 => (s.ob n ob a h1 h2).le (le_put h) (upd_ne fun e => hm (e ▸ List.mem_of_getElem? h2))⟩
theorem nox_step {α β γ δ : Type} {A : Ad} {R2 : Wd → Wd → γ → δ → Prop} {W : XK} {w0 : Wd} {Q : δ → Hp → Prop} {m : M α} {f : α → M β} {g : β → M γ} {st : Sto} (hp : PostG A R2 W w0 Q (bnd (noX (bnd m f)) g st)) :
    ∃ a st', m st = .ok a st' ∧ PostG A R2 W w0 Q (bnd (noX (f a)) g st') := by
  cases e : m st with
  | ok a st' =>
    have e2 : bnd (noX (bnd m f)) g st = bnd (noX (f a)) g st' := by simp only [bnd, noX, e]
    rw [e2] at hp
    exact ⟨a, st', rfl, hp⟩
  | exc x st' =>
    have e2 : bnd (noX (bnd m f)) g st = .bad := by simp only [bnd, noX, e]
    rw [e2] at hp
    exact hp.elim
  | bad =>
    have e2 : bnd (noX (bnd m f)) g st = .bad := by simp only [bnd, noX, e]
    rw [e2] at hp
    exact hp.elim
theorem opt_ok {α : Type} {o : Option α} {st st' : Sto} {a : α} (h : opt o st = .ok a st') : o = some a ∧ st' = st := by
  cases o with
  | none => cases h
  | some b => cases h; exact ⟨rfl, rfl⟩
theorem lg_ok {α β : Type} {A : Ad} {R : Wd → Wd → α → β → Prop} {W : WX} {m : En → M α} {Q : β → Hp → Prop} {w : Wd} {r : En} {st st' : Sto} {t : St} {a : α} (hr : EnvR A w r t) (hs : SRel A w st) (e : m r st = .ok a st')
    (h : ∀ w' v, Ext w w' → SRel A w' st' → R w w' a v → Q v w'.H) : LG A R W m t w.H Q := ⟨w, r, st, rfl, hr, hs, by rw [e]; exact h⟩
theorem drop_cons {α : Type} {l : List α} {i : Nat} {d : α} (h : l[i]? = some d) : l.drop i = d :: l.drop (i + 1) := by
  obtain ⟨h1, h2⟩ := List.getElem?_eq_some_iff.mp h
  rw [List.drop_eq_getElem_cons h1, h2]
abbrev gR (A : Ad) (g : BG) : TG := fun v t H Q => ∃ (w : Wd) (r r' : En) (d : D), w.H = H ∧ EnvR A w r t ∧ Rep A w d v ∧ g.set d r = some r' ∧ ∀ t', EnvR A w r' t' → (∀ i, i ∉ g.ws → t'[i]? = t[i]?) → Q t' H
theorem comp_ok {A : Ad} {W : WX} {it : En → M (List D)} {vs : List Nat} {g : BG} {test : En → M Bool} {elt : En → M D} {t : St} {H : Hp} {Q : VK} (hws : ∀ i ∈ g.ws, i ∈ vs)
    (h : LF A W (dComp it vs g.set test elt) t H Q) : tLc (LI A W it) (gR A g) (LT A noWX test) (LE A noWX elt) vs t H Q := by
  obtain ⟨w, r, st, rfl, hr, hs, hp⟩ := h
  refine step (R := RJ A) (f := fun l r => bnd (noX (compGo g.set test elt (wipeE r vs) l [])) fun acc => ret (D.lst acc)) (.refl w) hr hs hp fun w1 st1 l J hr1 hs1 e1 hJ hp1 => ?_
  intro D0 hD
  obtain ⟨G, Y, wk, hG, hY⟩ := hJ
  have hwe := wipe_env hr1 vs
  have hw0 : w.H D0 = none := Classical.byContradiction fun q => e1.trk D0 q hD
  refine lc_it wk (fun i H => ∃ (w2 : Wd) (st2 : Sto) (acc : List D) (vs' : List V), w2.H = H ∧ Ext w1 w2 ∧ SRel A w2 st2 ∧ w2.H D0 = some (.lst vs') ∧ Reps A w2 acc vs' ∧ ¬ w2.S D0 ∧ D0 ∉ w2.mu ∧ vs'.length ≤ sizeLine ∧
      PostG A (RF A) (fun c d H => W c d t H) w Q (bnd (noX (compGo g.set test elt (wipeE r vs) (l.drop i) acc)) (fun acc => ret (D.lst acc)) st2))
    ⟨w1.raw D0 (.lst []), st1, [], [], rfl, ext_raw hD, hs1.raw hD, upd_same, .nil, fun q => (hs1.wf.s D0 q).1 hD, fun q => hs1.wf.m D0 q hD, by simp, hp1⟩
    (fun i H _ ⟨w2, st2, acc, vs', e, ex, sr, _⟩ => e ▸ hG w2 (ex.le hs1.wf) sr.wf) ?_ ?_
  · rintro i x H H' hi ⟨w2, st2, acc, vs', rfl, ex, sr, hd, hv, nS, nM, hz, hp2⟩ y
    have hd' : l[i]? = some l[i] := by simp [hi]
    obtain ⟨w3, rfl, ex3, sr3, rx⟩ := hY w2 st2 i l[i] x H' (ex.le hs1.wf) sr hd' y
    rw [drop_cons hd'] at hp2
    obtain ⟨r', st3, eset, hp3⟩ := nox_step hp2
    obtain ⟨es2, rfl⟩ := opt_ok eset
    have hr3 := (hwe.mono hs1.wf ex).mono sr.wf ex3
    refine ⟨w3, wipeE r vs, r', l[i], rfl, hr3, rx, es2, fun t' ht' hout => ⟨?_, ?_⟩⟩
    · refine wipe_same hws ?_ hout
      have a1 := (g.out es2).1
      rw [← ht'.len, a1, hwe.len, wipe_length]
    · obtain ⟨c, st4, etest, hp4⟩ := nox_step hp3
      refine lg_ok (R := RB) ht' sr3 etest fun w4 b ex4 sr4 eb => ?_
      subst eb
      have hD3 : w3.H D0 = some (.lst vs') := (ex3.keep D0 (by rw [hd]; simp) nM).trans hd
      have nM3 := ex3.nmu (by rw [hd]; simp) nM
      have nS3 : ¬ w3.S D0 := fun q => (ex3.sn D0 q).elim nS fun z => by rw [hd] at z; cases z
      have hD4 : w4.H D0 = some (.lst vs') := (ex4.keep D0 (by rw [hD3]; simp) nM3).trans hD3
      have nM4 := ex4.nmu (by rw [hD3]; simp) nM3
      have nS4 : ¬ w4.S D0 := fun q => (ex4.sn D0 q).elim nS3 fun z => by rw [hD3] at z; cases z
      have hv4 := (hv.mono sr.wf ex3).mono sr3.wf ex4
      cases c with
      | false => exact iteF ⟨w4, st4, acc, vs', rfl, (ex.trans ex3).trans ex4, sr4, hD4, hv4, nS4, nM4, hz, hp4⟩
      | true =>
        refine iteT ?_
        obtain ⟨y, st5, eelt, hp5⟩ := nox_step hp4
        obtain ⟨_, st6, elen, hp6⟩ := nox_step hp5
        obtain ⟨el2, rfl⟩ := opt_ok elen
        refine lg_ok (R := RD A) (ht'.mono sr3.wf ex4) sr4 eelt fun w5 yv ex5 sr5 ry => ?_
        have hD5 : w5.H D0 = some (.lst vs') := (ex5.keep D0 (by rw [hD4]; simp) nM4).trans hD4
        have nM5 := ex5.nmu (by rw [hD4]; simp) nM4
        have nS5 : ¬ w5.S D0 := fun q => (ex5.sn D0 q).elim nS4 fun z => by rw [hD4] at z; cases z
        have hl : acc.length < sizeLine := by
          split at el2
          · assumption
          · cases el2
        have el := hv.length
        have hv6 : Reps A (w5.raw D0 (.lst (vs' ++ [yv]))) (acc ++ [y]) (vs' ++ [yv]) := ((hv4.mono sr4.wf ex5).append (.one ry)).le (le_put nS5)
        refine ⟨vs', hD5, by omega, w5.raw D0 (.lst (vs' ++ [yv])), _, acc ++ [y], vs' ++ [yv], rfl, ext_put (((ex.trans ex3).trans ex4).trans ex5) hD, srel_put sr5 nS5 nM5, upd_same, hv6, nS5, nM5, ?_, hp6⟩
        rw [List.length_append]; show vs'.length + 1 ≤ sizeLine; omega
  · rintro H ⟨w2, st2, acc, vs', rfl, ex, sr, hd, hv, nS, nM, hz, hp2⟩
    rw [List.drop_length] at hp2
    exact hp2 w2 (.ref D0) (e1.trans ex) sr ⟨D0, rfl, hw0, nS, nM, vs', hd, hz, hv⟩
def ownOf (N : List Str) (vs : List Nat) : List (Str × Nat) := vs.filterMap fun i => (N[i]?).map fun x => (x, i)
theorem ownOf_snd {N : List Str} : ∀ {vs : List Nat}, (vs.all fun i => decide (i < N.length)) = true → (ownOf N vs).map (·.2) = vs
  | [], _ => rfl
  | i :: vs, h => by
    simp only [List.all_cons, Bool.and_eq_true, decide_eq_true_eq] at h
    unfold ownOf
    rw [List.filterMap_cons, List.getElem?_eq_getElem h.1]
    simp only [Option.map_some, List.map_cons]
    congr 1
    exact ownOf_snd h.2
def compChk (it : BI) (vs : List Nat) (g : BG) (c : BC) (elt : BE) (I : Info) (N : List Str) (sc : Scope) (e : Expr) : Bool := match e with
  | .ListComp el [⟨tg, iter, ifs, 0⟩] scope _ => notSetD iter && it.chk I N sc tg iter && g.chk N (relS scope sc) tg && c.chk I N (relS scope sc) ifs && elt.chk I N (relS scope sc) el && blkC N sc scope (ownOf N vs) &&
      vs.all (fun i => decide (i < N.length)) && g.ws.all (fun i => vs.contains i)
  | _ => false
/-- [elt for g in it if c] -/
def fComp (it : BI) (vs : List Nat) (g : BG) (c : BC) (elt : BE) : BF where
  den F := dComp (it.den F) vs g.set (c.den F) (elt.den F)
  chk I N sc e := compChk it vs g c elt I N sc e
  snd {A k F X W} C e h := by
    unfold compChk at h
    split at h
    · rename_i el tg iter ifs scope pos
      simp only [Bool.and_eq_true] at h
      obtain ⟨⟨⟨⟨⟨⟨⟨h1, h2⟩, h3⟩, h4⟩, h5⟩, h6⟩, h7⟩, h8⟩ := h
      refine (pe_lc (g := gR A g) (tt := LT A noWX (c.den F)) (te := LE A noWX (elt.den F)) C.calm C.nd (it.snd C h2) (blkOk_by h6)
        (fun s H D cl fp => g.snd (X := X.blk s H scope (compEnvC scope cl D X.env) fp) C.hK C.nd C.calm h3)
        (fun s H D cl fp => BC.snd (C.blk s H scope (compEnvC scope cl D X.env) fp) h4)
        (fun s H D cl fp => elt.snd (C.blk s H scope (compEnvC scope cl D X.env) fp) h5) (folded_ok h1)).imp fun t H Q q => ?_
      rw [ownOf_snd h7]
      refine comp_ok (fun i hi => ?_) q
      have := List.all_eq_true.mp h8 i hi
      simpa using this
    · cases h
end Rf

set_option Elab.async false
set_option linter.all false
set_option maxRecDepth 100000
set_option maxHeartbeats 1000000
namespace Rf
open PySem L2

/-! ## statements -/
inductive Fl where
  | nx (r : En) | rt (d : D) | bk (r : En) | ct (r : En)
abbrev MS := En → M Fl
/-- the world at the def's entry; where an __init__'s instance stands -/
structure W0 where
  w : Wd
  x : Addr
def OwnF (w0 : W0) (r : En) (t : St) : Prop := ∀ (i : Nat) d a, r[i]? = some (.own d) → t[i]? = some (some (.ref a)) → w0.w.H a = none
structure FR (A : Ad) (w0 : W0) (w : Wd) (r : En) (t : St) (st : Sto) : Prop where
  env : EnvR A w r t
  sr : SRel A w st
  ex : Ext w0.w w
  ow : OwnF w0 r t
  slf : ∀ d, r[0]? = some (.own d) → t[0]? = some (some (.ref w0.x))
/-- w0: the def's entry; w: where the statement begins -/
def PostS (A : Ad) (W : WX) (w0 : W0) (w : Wd) (E : Ends) : Out Fl → Prop
  | .ok (.nx r) st => ∀ w' t, Le w w' → FR A w0 w' r t st → E.nx t w'.H
  | .ok (.bk r) st => ∀ w' t, Le w w' → FR A w0 w' r t st → E.bk t w'.H
  | .ok (.ct r) st => ∀ w' t, Le w w' → FR A w0 w' r t st → E.ct t w'.H
  | .ok (.rt d) st => ∀ w' v, Ext w0.w w' → SRel A w' st → Rep A w' d v → E.rt v w'.H
  | .exc x st => ∀ w' t cls dd, Ext w0.w w' → SRel A w' st → RepX A w' x cls dd → W cls dd t w'.H
  | .bad => False
def LS (A : Ad) (w0 : W0) (W : WX) (den : MS) : TS := fun E t H => ∃ (w : Wd) (r : En) (st : Sto), w.H = H ∧ FR A w0 w r t st ∧ PostS A W w0 w E (den r st)
structure CtxS (A : Ad) (k : Nat) (F : FT) (X : Cx) (W : WX) : Prop where
  c : Ctx A k F X W
  po : PassesOwn (model X.prog X.w) X.A X.env X.xe
  fn : ∀ x, X.fn x = true
  kind : X.env.scope.kind = .function
structure BS where
  den : FT → MS
  chk : Info → List Str → Scope → Stmt → Bool
  snd : ∀ {A : Ad} {k : Nat} {F : FT} {X : Cx} {W : WX}, CtxS A k F X W → ∀ {s : Stmt}, chk A.I X.N X.env.scope s = true → ∀ w0, PS X s (LS A w0 W (den F))
def dSeq (a b : MS) : MS := fun r => bnd (a r) fun o => match o with
  | .nx r' => b r'
  | o => ret o
def dBlk : List BS → FT → MS
  | [], _ => fun r => ret (.nx r)
  | s :: ss, F => dSeq (s.den F) (dBlk ss F)
def chb (I : Info) (N : List Str) (sc : Scope) : List BS → List Stmt → Bool
  | [], [] => true
  | b :: bs, s :: ss => b.chk I N sc s && chb I N sc bs ss
  | _, _ => false
theorem _root_.L2.PS.imp {X : Cx} {s : Stmt} {t t' : TS} (h : PS X s t) (k : ∀ D σ H, t' D σ H → t D σ H) : PS X s t' := ⟨fun pins s σ H D I q => h.run pins s σ H D I (k D σ H q)⟩
theorem _root_.L2.PSs.imp {X : Cx} {s : List Stmt} {t t' : TS} (h : PSs X s t) (k : ∀ D σ H, t' D σ H → t D σ H) : PSs X s t' := ⟨fun pins s σ H D I q => h.run pins s σ H D I (k D σ H q)⟩
section
variable {A : Ad} {k : Nat} {F : FT} {X : Cx} {W : WX} {w0 : W0} {E : Ends} {t : St}
theorem FR.mono {w w' : Wd} {r : En} {st st' : Sto} (h : FR A w0 w r t st) (e : Ext w w') (s : SRel A w' st') : FR A w0 w' r t st' := ⟨h.env.mono h.sr.wf e, s, h.ex.trans e, h.ow, h.slf⟩
theorem PostS.later {w w1 : Wd} {o : Out Fl} (h : PostS A W w0 w E o) (l : Le w w1) : PostS A W w0 w1 E o := by
  cases o with
  | ok o st =>
    cases o with
    | nx r => exact fun w' t l' fr => h w' t (l.trans l') fr
    | bk r => exact fun w' t l' fr => h w' t (l.trans l') fr
    | ct r => exact fun w' t l' fr => h w' t (l.trans l') fr
    | rt d => exact h
  | exc x st => exact h
  | bad => exact h
theorem seq_ok {a b : MS} {H : Hp} (h : LS A w0 W (dSeq a b) E t H) : LS A w0 W a { E with nx := LS A w0 W b E } t H := by
  obtain ⟨w, r, st, rfl, fr, hp⟩ := h
  refine ⟨w, r, st, rfl, fr, ?_⟩
  unfold dSeq bnd at hp
  cases e : a r st with
  | ok o st1 =>
    rw [e] at hp
    cases o with
    | nx r1 => exact fun w1 t1 l1 fr1 => ⟨w1, r1, st1, rfl, fr1, hp.later l1⟩
    | rt d => exact hp
    | bk r1 => exact hp
    | ct r1 => exact hp
  | exc x st1 => rw [e] at hp; exact hp
  | bad => rw [e] at hp; exact hp
theorem blk_of (C : CtxS A k F X W) (w0 : W0) : ∀ {bs : List BS} {ss : List Stmt}, chb A.I X.N X.env.scope bs ss = true → PSs X ss (LS A w0 W (dBlk bs F))
  | [], [], _ => pss_nil.imp fun E t H q => by
    obtain ⟨w, r, st, rfl, fr, hp⟩ := q
    exact hp w t (.refl w) fr
  | [], _ :: _, h => by cases h
  | _ :: _, [], h => by cases h
  | b :: bs, s :: ss, h => by
    simp only [chb, Bool.and_eq_true] at h
    exact (pss_cons (b.snd C h.1 w0) (blk_of C w0 h.2)).imp fun E t H q => seq_ok q
/-- an expression within a statement -/
theorem stepS {α β : Type} {R : Wd → Wd → α → β → Prop} {m : En → M α} {f : α → M Fl} {w : Wd} {r : En} {st : Sto} {Q1 : β → Hp → Prop} (fr : FR A w0 w r t st) (hp : PostS A W w0 w E (bnd (m r) f st))
    (k : ∀ (w' : Wd) (st' : Sto) (a : α) (b : β), FR A w0 w' r t st' → Ext w w' → R w w' a b → Le w w' → PostS A W w0 w' E (f a st') → Q1 b w'.H) : LG A R W m t w.H Q1 := by
  refine ⟨w, r, st, rfl, fr.env, fr.sr, ?_⟩
  unfold bnd at hp
  cases e : m r st with
  | ok a st1 =>
    rw [e] at hp
    exact fun w' v ex sr rp => k w' st1 a v (fr.mono ex sr) ex rp (ex.le fr.sr.wf) (hp.later (ex.le fr.sr.wf))
  | exc x st1 => rw [e] at hp; exact fun w' c dd ex sr rp => hp w' t c dd (fr.ex.trans ex) sr rp
  | bad => rw [e] at hp; exact hp
theorem postS_opt {α : Type} {o : Option α} {f : α → M Fl} {w : Wd} {st : Sto} (hp : PostS A W w0 w E (bnd (opt o) f st)) : ∃ a, o = some a ∧ PostS A W w0 w E (f a st) := by
  cases o with
  | none => exact hp.elim
  | some a => exact ⟨a, rfl, hp⟩
theorem FR.set {w : Wd} {r : En} {st : Sto} {i : Nat} {d : D} {v : V} (h : FR A w0 w r t st) (hv : Rep A w d v) : FR A w0 w (r.set i (.val d)) (t.set i (some v)) st := by
  refine ⟨h.env.set hv, h.sr, h.ex, fun j d' a h1 h2 => ?_, fun d' h1 => ?_⟩
  rotate_left
  · by_cases e : i = 0
    · subst e
      have hi : 0 < r.length := by
        have := (List.getElem?_eq_some_iff.mp h1).1
        simpa using this
      rw [List.getElem?_set_self hi] at h1
      cases h1
    · rw [List.getElem?_set_ne e] at h1 ⊢
      exact h.slf d' h1
  by_cases e : i = j
  · subst e
    have hi : i < r.length := by
      have := (List.getElem?_eq_some_iff.mp h1).1
      simpa using this
    rw [List.getElem?_set_self hi] at h1
    cases h1
  · rw [List.getElem?_set_ne e] at h1 h2
    exact h.ow j d' a h1 h2
/-- a slot takes a new container as its own -/
theorem FR.setOwn {w w' : Wd} {r : En} {st : Sto} {i : Nat} {d : D} {v : V} (h0i : i ≠ 0) (h : FR A w0 w r t st) (e : Ext w w') {st' : Sto} (s : SRel A w' st') (hv : RF A w w' d v) : FR A w0 w' (r.set i (.own d)) (t.set i (some v)) st' := by
  obtain ⟨p, rfl, h1, h2, h3, h4⟩ := hv
  have hp0 : w0.w.H p = none := Classical.byContradiction fun q => h.ex.trk p q h1
  have h' := h.mono e s
  refine ⟨⟨by simp [h.env.len], fun j x u g1 g2 => ?_, fun a b d1 d2 u hab g1 g2 g3 g4 => ?_⟩, s, h'.ex, fun j d' a g1 g2 => ?_, fun d' h1 => by rw [List.getElem?_set_ne h0i] at h1 ⊢; exact h.slf d' h1⟩
  · by_cases eij : i = j
    · subst eij
      have hi : i < r.length := by
        have := (List.getElem?_eq_some_iff.mp g1).1
        simpa using this
      rw [List.getElem?_set_self hi] at g1
      rw [List.getElem?_set_self (by rw [← h.env.len]; exact hi)] at g2
      cases g1; cases g2
      exact ⟨p, rfl, h2, h3, h4⟩
    · rw [List.getElem?_set_ne eij] at g1 g2
      exact h'.env.at_ j x u g1 g2
  · -- an old own slot stands elsewhere
    have old : ∀ (j : Nat) d', i ≠ j → r[j]? = some (.own d') → ∀ u', t[j]? = some u' → u' ≠ some (.ref p) := by
      intro j d' hij q1 u' q2 q3
      subst q3
      obtain ⟨a', ea, _, _, ht⟩ := h.env.at_ j _ _ q1 q2
      cases ea
      exact ht.trk h1
    by_cases ea : i = a
    · subst ea
      have eb : i ≠ b := hab
      have hi : i < r.length := by
        have := (List.getElem?_eq_some_iff.mp g1).1
        simpa using this
      rw [List.getElem?_set_self (by rw [← h.env.len]; exact hi)] at g3
      rw [List.getElem?_set_ne eb] at g2 g4
      cases g3
      exact old b d2 eb g2 _ g4 rfl
    · rw [List.getElem?_set_ne ea] at g1 g3
      by_cases eb : i = b
      · subst eb
        have hi : i < r.length := by
          have := (List.getElem?_eq_some_iff.mp g2).1
          simpa using this
        rw [List.getElem?_set_self (by rw [← h.env.len]; exact hi)] at g4
        cases g4
        exact old a d1 ea g1 _ g3 rfl
      · rw [List.getElem?_set_ne eb] at g2 g4
        exact h.env.dis a b d1 d2 u hab g1 g2 g3 g4
  · by_cases eij : i = j
    · subst eij
      have hi : i < r.length := by
        have := (List.getElem?_eq_some_iff.mp g1).1
        simpa using this
      rw [List.getElem?_set_self (by rw [← h.env.len]; exact hi)] at g2
      cases g2
      exact hp0
    · rw [List.getElem?_set_ne eij] at g1 g2
      exact h.ow j d' a g1 g2
end
def noComp : Expr → Bool
  | .ListComp _ _ _ _ | .SetComp _ _ _ _ | .DictComp _ _ _ _ _ => false
  | _ => true
theorem noComp_ok {e : Expr} (h : noComp e = true) (tg : Option Expr) (l : Nat) (env : Env) : swapsWith e tg l env = pure false := by
  cases e <;> first | rfl | cases h
def stoB (sc : Scope) (x : Str) : Bool := match sc.names.lookup x with
  | some .local | some .cell => true
  | _ => false
theorem stoB_ok {sc : Scope} {x : Str} (h : stoB sc x = true) : L2.Loc sc x := by
  unfold stoB at h
  unfold L2.Loc
  split at h <;> simp_all
def nameAt (N : List Str) (sc : Scope) (i : Nat) (e : Expr) : Bool := match e with
  | .Name x _ => (match N[i]? with
    | some y => beqS x y && stoB sc x
    | none => false)
  | _ => false
theorem nameAt_ok {N : List Str} {sc : Scope} {i : Nat} {e : Expr} (h : nameAt N sc i e = true) : ∃ x p, e = .Name x p ∧ N[i]? = some x ∧ L2.Loc sc x := by
  unfold nameAt at h
  split at h
  · split at h
    · rename_i hy
      simp only [Bool.and_eq_true] at h
      have := beqS_eq h.1
      subst this
      exact ⟨_, _, rfl, hy, stoB_ok h.2⟩
    · cases h
  · cases h
/-- x = e -/
def sSet (i : Nat) (b : BE) : BS where
  den F r := bnd (b.den F r) fun d => ret (.nx (r.set i (.val d)))
  chk I N sc s := match s with
    | .Assign [tg] e _ => nameAt N sc i tg && noComp e && b.chk I N sc e
    | _ => false
  snd {A k F X W} C s h w0 := by
    split at h
    · simp only [Bool.and_eq_true] at h
      obtain ⟨x, p, rfl, h1, h2⟩ := nameAt_ok h.1.1
      refine (ps_set C.c.nd h1 h2 (b.snd C.c h.2) (noComp_ok h.1.2 _ _ _) (.inl (C.fn x))).imp fun E t H q => ?_
      obtain ⟨w, r, st, rfl, fr, hp⟩ := q
      exact stepS (R := RD A) fr hp fun w1 st1 d v fr1 e1 rv _ hp1 => hp1 w1 _ (.refl w1) (fr1.set rv)
    · cases h
/-- x = e, e a new container that x alone tells -/
def sOwn (i : Nat) (b : BF) : BS where
  den F r := bnd (b.den F r) fun d => ret (.nx (r.set i (.own d)))
  chk I N sc s := match s with
    | .Assign [tg] e _ => decide (i ≠ 0) && nameAt N sc i tg && noComp e && b.chk I N sc e
    | _ => false
  snd {A k F X W} C s h w0 := by
    split at h
    · simp only [Bool.and_eq_true, decide_eq_true_eq] at h
      obtain ⟨x, p, rfl, h1, h2⟩ := nameAt_ok h.1.1.2
      refine (ps_set C.c.nd h1 h2 (b.snd C.c h.2) (noComp_ok h.1.2 _ _ _) (.inl (C.fn x))).imp fun E t H q => ?_
      obtain ⟨w, r, st, rfl, fr, hp⟩ := q
      exact stepS (R := RF A) fr hp fun w1 st1 d v fr1 e1 rv _ hp1 => hp1 w1 _ (.refl w1) (fr.setOwn h.1.1.1 e1 fr1.sr rv)
    · cases h
def sRet (b : BE) : BS where
  den F r := bnd (b.den F r) fun d => ret (.rt d)
  chk I N sc s := match s with
    | .Return (some e) _ => b.chk I N sc e
    | _ => false
  snd {A k F X W} C s h w0 := by
    split at h
    · refine (ps_ret (b.snd C.c h)).imp fun E t H q => ?_
      obtain ⟨w, r, st, rfl, fr, hp⟩ := q
      exact stepS (R := RD A) fr hp fun w1 st1 d v fr1 e1 rv _ hp1 => hp1 w1 v fr1.ex fr1.sr rv
    · cases h
def sRetN : BS where
  den F r := ret (.rt .non)
  chk I N sc s := match s with
    | .Return none _ => true
    | _ => false
  snd {A k F X W} C s h w0 := by
    split at h
    · refine ps_retN.imp fun E t H q => ?_
      obtain ⟨w, r, st, rfl, fr, hp⟩ := q
      exact hp w .non fr.ex fr.sr rep_non
    · cases h
def sExp (b : BE) : BS where
  den F r := bnd (b.den F r) fun _ => ret (.nx r)
  chk I N sc s := match s with
    | .Expr e _ => noComp e && b.chk I N sc e
    | _ => false
  snd {A k F X W} C s h w0 := by
    split at h
    · simp only [Bool.and_eq_true] at h
      refine (ps_expr (b.snd C.c h.2) (noComp_ok h.1 _ _ _)).imp fun E t H q => ?_
      obtain ⟨w, r, st, rfl, fr, hp⟩ := q
      exact stepS (R := RD A) fr hp fun w1 st1 d v fr1 e1 rv _ hp1 => hp1 w1 t (.refl w1) fr1
    · cases h
def sPass : BS where
  den F r := ret (.nx r)
  chk I N sc s := match s with
    | .Pass _ => true
    | _ => false
  snd {A k F X W} C s h w0 := by
    split at h
    · refine ps_pass.imp fun E t H q => ?_
      obtain ⟨w, r, st, rfl, fr, hp⟩ := q
      exact hp w t (.refl w) fr
    · cases h
/-- what is never come to -/
def sNev : BS where
  den _ _ _ := .bad
  chk _ _ _ _ := true
  snd {A k F X W} C s h w0 := ps_never.imp fun E t H q => by
    obtain ⟨w, r, st, rfl, fr, hp⟩ := q
    exact hp
def sIf (c : BT) (a b : List BS) : BS where
  den F r := bnd (c.den F r) fun k => if k then dBlk a F r else dBlk b F r
  chk I N sc s := match s with
    | .If t x y _ => c.chk I N sc t && chb I N sc a x && chb I N sc b y
    | _ => false
  snd {A k F X W} C s h w0 := by
    split at h
    · simp only [Bool.and_eq_true] at h
      refine (ps_if (c.snd C.c h.1.1) (blk_of C w0 h.1.2) (blk_of C w0 h.2)).imp fun E t H q => ?_
      obtain ⟨w, r, st, rfl, fr, hp⟩ := q
      refine stepS (R := RB) fr hp fun w1 st1 d v fr1 e1 rv _ hp1 => ?_
      subst rv
      cases d with
      | true => exact iteT ⟨w1, r, st1, rfl, fr1, hp1⟩
      | false => exact iteF ⟨w1, r, st1, rfl, fr1, hp1⟩
    · cases h
/-- the slots i stand told from here on: nobody changes them any more -/
def frzE (r : En) (i : Nat) : En := match r[i]? with
  | some (.own d) => r.set i (.val d)
  | _ => r
theorem FR.frz {A : Ad} {w0 : W0} {w : Wd} {r : En} {t : St} {st : Sto} (h : FR A w0 w r t st) (i : Nat) : ∃ w', w'.H = w.H ∧ Le w w' ∧ FR A w0 w' (frzE r i) t st := by
  unfold frzE
  split
  · rename_i d hd
    have hi := (List.getElem?_eq_some_iff.mp hd).1
    have hi' : i < t.length := by rw [← h.env.len]; exact hi
    obtain ⟨p, hp, h2, h3, h4⟩ := h.env.at_ i _ t[i] hd (by simp [hi'])
    have ht : t[i]? = some (some (.ref p)) := by rw [List.getElem?_eq_getElem hi', hp]
    have hp0 := h.ow i d p hd ht
    have x := h.sr.wf
    have hx : Le w (w.frz p) := ⟨fun _ _ q => q, fun a q => ⟨.inl q, rfl⟩⟩
    have x2 : Wf (w.frz p) := ⟨fun a q => q.elim (x.s a) fun e => by rw [e]; exact ⟨h4.trk, h3⟩, x.m, x.nd⟩
    have s2 : SRel A (w.frz p) st := ⟨x2, h.sr.len, fun n o a q1 q2 => (h.sr.ob n o a q1 q2).le hx rfl⟩
    refine ⟨w.frz p, rfl, hx, ⟨by simp [h.env.len], fun j s u g1 g2 => ?_, fun a b d1 d2 u hab g1 g2 g3 g4 => ?_⟩, s2, ⟨h.ex.mu, fun a q => .inl (h.ex.s a q), fun a q => q.elim (h.ex.sn a) fun e => .inr (e ▸ hp0), h.ex.keep, h.ex.trk⟩, fun j d' a g1 g2 => ?_, fun d' h1 => ?_⟩
    rotate_right
    · by_cases e : i = 0
      · subst e
        rw [List.getElem?_set_self hi] at h1
        cases h1
      · rw [List.getElem?_set_ne e] at h1
        exact h.slf d' h1
    · by_cases e : i = j
      · subst e
        rw [List.getElem?_set_self hi] at g1
        cases g1
        rw [ht] at g2
        cases g2
        exact ⟨.ref p, rfl, (h4.le hx rfl).rep (.inr rfl)⟩
      · rw [List.getElem?_set_ne e] at g1
        have q := h.env.at_ j s u g1 g2
        cases s with
        | none => trivial
        | val d' => obtain ⟨u', q1, q2⟩ := q; exact ⟨u', q1, q2.le hx⟩
        | own d' =>
          obtain ⟨a', q1, q2, q3, q4⟩ := q
          refine ⟨a', q1, fun z => ?_, q3, q4.le hx rfl⟩
          rcases z with z | z
          · exact q2 z
          · subst z
            subst q1
            exact h.env.dis i j d d' _ e hd g1 ht g2
    · have ea : i ≠ a := by
        rintro rfl
        rw [List.getElem?_set_self hi] at g1
        cases g1
      have eb : i ≠ b := by
        rintro rfl
        rw [List.getElem?_set_self hi] at g2
        cases g2
      rw [List.getElem?_set_ne ea] at g1
      rw [List.getElem?_set_ne eb] at g2
      exact h.env.dis a b d1 d2 u hab g1 g2 g3 g4
    · have e : i ≠ j := by
        rintro rfl
        rw [List.getElem?_set_self hi] at g1
        cases g1
      rw [List.getElem?_set_ne e] at g1
      exact h.ow j d' a g1 g2
  · exact ⟨w, rfl, .refl w, h⟩
/-- ahead of s the slot i is told -/
def sFrz (i : Nat) (b : BS) : BS where
  den F r := b.den F (frzE r i)
  chk I N sc s := b.chk I N sc s
  snd {A k F X W} C s h w0 := (b.snd C h w0).imp fun E t H q => by
    obtain ⟨w, r, st, rfl, fr, hp⟩ := q
    obtain ⟨w', e, l, fr'⟩ := fr.frz i
    exact ⟨w', frzE r i, st, e, fr', hp.later l⟩
end Rf

set_option Elab.async false
set_option linter.all false
set_option maxRecDepth 100000
set_option maxHeartbeats 1000000
namespace Rf
open PySem L2

/-! ## for -/
def forGo (set : D → En → Option En) (body : MS) : List D → MS
  | [], r => ret (.nx r)
  | d :: ds, r => bnd (opt (set d r)) fun r' => bnd (body r') fun o => match o with
    | .nx r2 => forGo set body ds r2
    | .ct r2 => forGo set body ds r2
    | .bk r2 => ret (.nx r2)
    | .rt d => ret (.rt d)
section
variable {A : Ad} {k : Nat} {F : FT} {X : Cx} {W : WX} {w0 : W0} {E : Ends} {t : St}
theorem FR.tgt {w : Wd} {r r' : En} {st : Sto} {g : BG} {d : D} {t' : St} (h : FR A w0 w r t st) (e : g.set d r = some r') (he : EnvR A w r' t') (ho : ∀ i, i ∉ g.ws → t'[i]? = t[i]?) : FR A w0 w r' t' st := by
  refine ⟨he, h.sr, h.ex, fun j d' a h1 h2 => ?_, fun d' h1 => ?_⟩
  rotate_left
  · by_cases hj : 0 ∈ g.ws
    · exact absurd h1 (g.nov e 0 hj d')
    · rw [(g.out e).2 0 hj] at h1
      rw [ho 0 hj]
      exact h.slf d' h1
  by_cases hj : j ∈ g.ws
  · exact absurd h1 (g.nov e j hj d')
  · rw [(g.out e).2 j hj] at h1
    rw [ho j hj] at h2
    exact h.ow j d' a h1 h2
theorem for_ok {it : En → M (List D)} {g : BG} {body : MS} {H : Hp} (h : LS A w0 W (fun r => bnd (it r) fun l => forGo g.set body l r) E t H) : tFor (LI A W it) (gR A g) (LS A w0 W body) E t H := by
  obtain ⟨w, r, st, rfl, fr, hp⟩ := h
  refine stepS (R := RJ A) (f := fun l => forGo g.set body l r) fr hp fun w1 st1 l J fr1 e1 hJ l1 hp1 => ?_
  obtain ⟨G, Y, wk, hG, hY⟩ := hJ
  refine for_it wk (fun i t H => ∃ (w2 : Wd) (r2 : En) (st2 : Sto), w2.H = H ∧ FR A w0 w2 r2 t st2 ∧ Le w1 w2 ∧ PostS A W w0 w2 E (forGo g.set body (l.drop i) r2 st2))
    ⟨w1, r, st1, rfl, fr1, .refl w1, hp1⟩ (fun i t H _ ⟨w2, r2, st2, e, fr2, l2, _⟩ => e ▸ hG w2 l2 fr2.sr.wf) ?_ ?_
  · rintro i x t2 H H' hi ⟨w2, r2, st2, rfl, fr2, l2, hp2⟩ y
    have hd' : l[i]? = some l[i] := by simp [hi]
    obtain ⟨w3, rfl, ex3, sr3, rx⟩ := hY w2 st2 i l[i] x H' l2 fr2.sr hd' y
    rw [drop_cons hd'] at hp2
    have fr3 := fr2.mono ex3 sr3
    have l3 := ex3.le fr2.sr.wf
    have hp3 := hp2.later l3
    cases es : g.set l[i] r2 with
    | none =>
      have e2 : forGo g.set body (l[i] :: l.drop (i + 1)) r2 st2 = .bad := by simp only [forGo, bnd, opt, es]
      rw [e2] at hp3
      exact hp3.elim
    | some r' =>
      refine ⟨w3, r2, r', l[i], rfl, fr3.env, rx, es, fun t' ht' ho => ?_⟩
      have fr4 := fr3.tgt es ht' ho
      refine ⟨w3, r', st2, rfl, fr4, ?_⟩
      have e2 : forGo g.set body (l[i] :: l.drop (i + 1)) r2 st2 = bnd (body r') (fun o => match o with
        | .nx r2 => forGo g.set body (l.drop (i + 1)) r2
        | .ct r2 => forGo g.set body (l.drop (i + 1)) r2
        | .bk r2 => ret (.nx r2)
        | .rt d => ret (.rt d)) st2 := by simp only [forGo, opt, es]; rfl
      rw [e2] at hp3
      unfold bnd at hp3
      cases eb : body r' st2 with
      | bad => rw [eb] at hp3; exact hp3
      | exc x st5 => rw [eb] at hp3; exact hp3
      | ok o st5 =>
        rw [eb] at hp3
        cases o with
        | nx r5 => exact fun w5 t5 l5 fr5 => ⟨w5, r5, st5, rfl, fr5, (l2.trans l3).trans l5, hp3.later l5⟩
        | ct r5 => exact fun w5 t5 l5 fr5 => ⟨w5, r5, st5, rfl, fr5, (l2.trans l3).trans l5, hp3.later l5⟩
        | bk r5 => exact hp3
        | rt d => exact hp3
  · rintro t2 H ⟨w2, r2, st2, rfl, fr2, l2, hp2⟩
    rw [List.drop_length] at hp2
    exact hp2 w2 t2 (.refl w2) fr2
end
def sFor (it : BI) (g : BG) (body : List BS) : BS where
  den F r := bnd (it.den F r) fun l => forGo g.set (dBlk body F) l r
  chk I N sc s := match s with
    | .For tg iter b [] _ => notSetD iter && it.chk I N sc tg iter && g.chk N sc tg && chb I N sc body b
    | _ => false
  snd {A k F X W} C s h w0 := by
    split at h
    · simp only [Bool.and_eq_true] at h
      obtain ⟨⟨⟨h1, h2⟩, h3⟩, h4⟩ := h
      exact (ps_for C.po C.c.calm (it.snd C.c h2) (g.snd C.c.hK C.c.nd C.c.calm h3) (blk_of C w0 h4) (folded_ok h1)).imp fun E t H q => for_ok q
    · cases h

/-! ## while -/
def whGo (test : En → M Bool) (body : MS) : Nat → MS
  | 0, _ => fun _ => .bad
  | n + 1, r => bnd (test r) fun c => if c then bnd (body r) (fun o => match o with
    | .nx r2 => whGo test body n r2
    | .ct r2 => whGo test body n r2
    | .bk r2 => ret (.nx r2)
    | .rt d => ret (.rt d)) else ret (.nx r)
theorem while_ok {A : Ad} {W : WX} {w0 : W0} {E : Ends} {t : St} {test : En → M Bool} {body : MS} {n : Nat} {H : Hp} (h : LS A w0 W (whGo test body n) E t H) : tWhile (LT A W test) (LS A w0 W body) E t H := by
  refine ⟨fun m t H => ∃ (w : Wd) (r : En) (st : Sto), w.H = H ∧ FR A w0 w r t st ∧ PostS A W w0 w E (whGo test body m r st), ⟨n, h⟩, ?_⟩
  rintro m t H ⟨w, r, st, rfl, fr, hp⟩
  cases m with
  | zero => exact hp.elim
  | succ m =>
    refine stepS (R := RB) (m := test) (f := fun c => if c then bnd (body r) (fun o => match o with
      | .nx r2 => whGo test body m r2
      | .ct r2 => whGo test body m r2
      | .bk r2 => ret (.nx r2)
      | .rt d => ret (.rt d)) else ret (.nx r)) fr hp fun w1 st1 c b fr1 e1 eb l1 hp1 => ?_
    subst eb
    cases c with
    | false => exact iteF (hp1 w1 t (.refl w1) fr1)
    | true =>
      refine iteT ⟨fun t H => ∃ (w : Wd) (r : En) (st : Sto), w.H = H ∧ FR A w0 w r t st ∧ PostS A W w0 w E (whGo test body m r st), fun t' H' q => ⟨m, Nat.lt_succ_self m, q⟩, w1, r, st1, rfl, fr1, ?_⟩
      have hp2 : PostS A W w0 w1 E (bnd (body r) (fun o => match o with
        | .nx r2 => whGo test body m r2
        | .ct r2 => whGo test body m r2
        | .bk r2 => ret (.nx r2)
        | .rt d => ret (.rt d)) st1) := hp1
      unfold bnd at hp2
      cases eb : body r st1 with
      | bad => rw [eb] at hp2; exact hp2
      | exc x st5 => rw [eb] at hp2; exact hp2
      | ok o st5 =>
        rw [eb] at hp2
        cases o with
        | nx r5 => exact fun w5 t5 l5 fr5 => ⟨w5, r5, st5, rfl, fr5, hp2.later l5⟩
        | ct r5 => exact fun w5 t5 l5 fr5 => ⟨w5, r5, st5, rfl, fr5, hp2.later l5⟩
        | bk r5 => exact hp2
        | rt d => exact hp2
def fuel : Nat := 1048576
def sWhile (c : BT) (body : List BS) : BS where
  den F := whGo (c.den F) (dBlk body F) fuel
  chk I N sc s := match s with
    | .While t b [] _ => c.chk I N sc t && chb I N sc body b
    | _ => false
  snd {A k F X W} C s h w0 := by
    split at h
    · simp only [Bool.and_eq_true] at h
      exact (ps_while C.po (c.snd C.c h.1) (blk_of C w0 h.2)).imp fun E t H q => while_ok q
    · cases h

/-! ## several names at once -/
def noTup : Expr → Bool
  | .Tuple _ _ _ => false
  | _ => true
theorem sw_none {tg e : Expr} {env : Env} (h : noTup e = true) : swappedStores [tg] e env = pure none := by
  cases e <;> first | (cases tg <;> rfl) | cases h
theorem asg_one {tg : Expr} {env : Env} (h : notStar tg = true) : (assignEach [tg] env).map (·.2) = [assign tg env] := by
  rw [as_cons h]; rfl
/-- a, b = e, e no display -/
def sTgt (g : BG) (b : BE) : BS where
  den F r := bnd (b.den F r) fun d => bnd (opt (g.set d r)) fun r' => ret (.nx r')
  chk I N sc s := match s with
    | .Assign [tg] e _ => notStar tg && noTup e && noComp e && g.chk N sc tg && b.chk I N sc e
    | _ => false
  snd {A k F X W} C s h w0 := by
    split at h
    · simp only [Bool.and_eq_true] at h
      obtain ⟨⟨⟨⟨h1, h2⟩, h3⟩, h4⟩, h5⟩ := h
      refine (ps_asg (b.snd C.c h5) (g.snd C.c.hK C.c.nd C.c.calm h4) (noComp_ok h3 _ _ _) (sw_none h2) (asg_one h1)).imp fun E t H q => ?_
      obtain ⟨w, r, st, rfl, fr, hp⟩ := q
      refine stepS (R := RD A) fr hp fun w1 st1 d v fr1 e1 rv _ hp1 => ?_
      cases es : g.set d r with
      | none =>
        have e2 : bnd (opt (g.set d r)) (fun r' => ret (Fl.nx r')) st1 = .bad := by simp only [bnd, opt, es]
        rw [e2] at hp1
        exact hp1.elim
      | some r' =>
        have e2 : bnd (opt (g.set d r)) (fun r' => ret (Fl.nx r')) st1 = .ok (.nx r') st1 := by simp only [bnd, opt, es]; rfl
        rw [e2] at hp1
        exact ⟨w1, r, r', d, rfl, fr1.env, rv, es, fun t' ht' ho => hp1 w1 t' (.refl w1) (fr1.tgt es ht' ho)⟩
    · cases h
/-- two stores that change places -/
def parB (sc : Scope) (x y : Str) (px py : Pos) (a b : Expr) : Bool :=
  locB sc x && locB sc y && !(x == y) && px.line == py.line && !((foldedForSure 8 a) && (foldedForSure 8 b)) && !((constantsAlone 8 a) && (constantsAlone 8 b)) && notStar a && notStar b
theorem par_ok {env : Env} {x y : Str} {px py pt pt2 : Pos} {kt k2 : Nat} {a b : Expr} (hk : env.scope.kind = .function) (h : parB env.scope x y px py a b = true) :
    swappedStores [.Tuple [.Name x px, .Name y py] kt pt] (.Tuple [a, b] k2 pt2) env = pure (some [x, y]) := by
  unfold parB at h
  simp only [Bool.and_eq_true, Bool.not_eq_true', beq_eq_false_iff_ne, ne_eq] at h
  obtain ⟨⟨⟨⟨⟨⟨⟨h1, h2⟩, h3⟩, h4⟩, h5⟩, h6⟩, h7⟩, h8⟩ := h
  have hb : env.blockKind = .function := by unfold Env.blockKind; rw [hk]; rfl
  have k1 : env.kindOf x = some .local := locB_ok h1
  have k2 : env.kindOf y = some .local := locB_ok h2
  have h4' := eq_of_beq h4
  have s1 : ([a, b].any fun e => match e with | .Starred .. => true | _ => false) = false := by
    have q : ∀ e : Expr, notStar e = true → (match e with | .Starred .. => true | _ => false) = false := fun e h => by cases e <;> first | rfl | cases h
    simp only [List.any_cons, List.any_nil, q a h7, q b h8, Bool.or_self]
  have e1 : (env.kindOf x == some NameKind.local) = true := by rw [k1]; rfl
  have e2 : (env.kindOf y == some NameKind.local) = true := by rw [k2]; rfl
  have e3 : (py.line == px.line) = true := by rw [h4']; simp
  have e4 : [x, y].eraseDups = [x, y] := by
    have q : (y == x) = false := beq_eq_false_iff_ne.mpr fun z => h3 z.symm
    simp [List.eraseDups_cons, q]
  have e5 : [a, b].all (foldedForSure 8) = false := by simpa [Bool.and_comm] using h5
  have e6 : [a, b].all (constantsAlone 8) = false := by simpa using h6
  have e7 : ([Expr.Name x px, Expr.Name y py].filterMap fun e => match e with
    | .Name id pos => if (env.kindOf id == some NameKind.local && pos.line == px.line) = true then some id else none
    | _ => none) = [x, y] := by
    rw [List.filterMap_cons, List.filterMap_cons, List.filterMap_nil]
    simp only [e1, e2, e3, beq_self_eq_true, Bool.and_self, if_true]
  unfold swappedStores
  simp only [hb]
  rw [if_neg (by simp)]
  rw [if_neg (fun h => Bool.noConfusion (h.symm.trans s1))]
  generalize hfm : List.filterMap _ [Expr.Name x px, Expr.Name y py] = fm
  have hfm2 : fm = [x, y] := hfm.symm.trans e7
  subst hfm2
  rw [e4, if_neg (by simp), if_neg (by rw [e5]; decide), if_neg (by rw [e6]; decide)]
end Rf

set_option Elab.async false
set_option linter.all false
set_option maxRecDepth 100000
set_option maxHeartbeats 1000000
namespace Rf
open PySem L2

/-! ## a value or a new container -/
def RX (A : Ad) (o : Bool) : Wd → Wd → D → V → Prop := match o with
  | true => RF A
  | false => RD A
def mkS (o : Bool) (d : D) : Slt := match o with
  | true => .own d
  | false => .val d
structure BX where
  o : Bool
  den : FT → En → M D
  chk : Info → List Str → Scope → Expr → Bool
  snd : ∀ {A : Ad} {k : Nat} {F : FT} {X : Cx} {W : WX}, Ctx A k F X W → ∀ {e : Expr}, chk A.I X.N X.env.scope e = true → PE X e (LG A (RX A o) W (den F))
def BE.x (b : BE) : BX := ⟨false, b.den, b.chk, fun C _ h => b.snd C h⟩
def BF.x (b : BF) : BX := ⟨true, b.den, b.chk, fun C _ h => b.snd C h⟩
section
variable {A : Ad} {k : Nat} {F : FT} {X : Cx} {W : WX} {w0 : W0} {E : Ends} {t : St}
theorem RX.up {o : Bool} {w w1 w2 : Wd} {d : D} {v : V} (x1 : Wf w1) (h : RX A o w w1 d v) (e : Ext w1 w2) : RX A o w w2 d v := by
  cases o with
  | false => exact Rep.mono x1 e h
  | true =>
    obtain ⟨p, h1, h2, h3, h4, h5⟩ := h
    refine ⟨p, h1, h2, fun q => ?_, e.nmu h5.trk h4, h5.mono x1 e (e.keep p h5.trk h4)⟩
    rcases e.sn p q with z | z
    · exact h3 z
    · exact h5.trk z
theorem FR.setX {o : Bool} {w w' : Wd} {r : En} {st st' : Sto} {i : Nat} {d : D} {v : V} (h0i : o = true → i ≠ 0) (h : FR A w0 w r t st) (e : Ext w w') (s : SRel A w' st') (hv : RX A o w w' d v) : FR A w0 w' (r.set i (mkS o d)) (t.set i (some v)) st' := by
  cases o with
  | false => exact (h.mono e s).set hv
  | true => exact h.setOwn (h0i rfl) e s hv
end
/-- a, b = e, e' -/
def sPar (i j : Nat) (a b : BX) : BS where
  den F r := bnd (a.den F r) fun x => bnd (b.den F r) fun y => ret (.nx ((r.set i (mkS a.o x)).set j (mkS b.o y)))
  chk I N sc s := match s with
    | .Assign [.Tuple [.Name x px, .Name y py] _ _] (.Tuple [e, e'] _ _) _ => decide (a.o = true → i ≠ 0) && decide (b.o = true → j ≠ 0) && decide (N[i]? = some x) && decide (N[j]? = some y) && decide (i ≠ j) && parB sc x y px py e e' && a.chk I N sc e && b.chk I N sc e'
    | _ => false
  snd {A k F X W} C s h w0 := by
    split at h
    · rename_i x px y py kt pt e e' k2 pt2 pos
      simp only [Bool.and_eq_true, decide_eq_true_eq] at h
      obtain ⟨⟨⟨⟨⟨⟨⟨z1, z2⟩, h1⟩, h2⟩, h3⟩, h4⟩, h5⟩, h6⟩ := h
      have hp0 := h4
      unfold parB at hp0
      simp only [Bool.and_eq_true] at hp0
      obtain ⟨⟨⟨⟨⟨⟨⟨l1, l2⟩, _⟩, _⟩, _⟩, _⟩, n1⟩, n2⟩ := hp0
      refine (ps_par C.c.calm C.c.nd h1 h2 h3 (locB_ok l1) (locB_ok l2) (pa_cons (a.snd C.c h5) (pa_cons (b.snd C.c h6) pa_nil (star_cons n2)) (star_cons n1)) (par_ok C.kind h4) rfl).imp fun E t H q => ?_
      obtain ⟨w, r, st, rfl, fr, hp⟩ := q
      refine stepS (R := RX A a.o) fr hp fun w1 st1 d v fr1 e1 rv _ hp1 => ?_
      refine stepS (R := RX A b.o) fr1 hp1 fun w2 st2 d2 v2 fr2 e2 rv2 _ hp2 => ?_
      refine ⟨v, v2, rfl, hp2 w2 _ (.refl w2) ?_⟩
      exact (fr.setX z1 e1 fr1.sr rv).setX z2 e2 fr2.sr rv2
    · cases h
/-- x = [elt for ..] -/
def sLc (o : Bool) (i : Nat) (it : BI) (vs : List Nat) (g : BG) (c : BC) (elt : BE) : BS where
  den F r := bnd (dComp (it.den F) vs g.set (c.den F) (elt.den F) r) fun d => ret (.nx (r.set i (mkS o d)))
  chk I N sc s := match s with
    | .Assign [.Name y py] e pos => decide (o = true → i ≠ 0) && decide (N[i]? = some y) && locB sc y && compChk it vs g c elt I N sc e && (match e with
      | .ListComp _ _ scope ep => py.line == ep.line && !(scope.names.any fun q => q.1 == y && (q.2 == .local || q.2 == .cell))
      | _ => false)
    | _ => false
  snd {A k F X W} C s h w0 := by
    split at h
    · rename_i y py e pos
      simp only [Bool.and_eq_true, decide_eq_true_eq] at h
      obtain ⟨⟨⟨⟨z0, g1⟩, g2⟩, g3⟩, g4⟩ := h
      unfold compChk at g3
      split at g3
      · rename_i el tg iter ifs scope epos
        simp only [Bool.and_eq_true, Bool.not_eq_true'] at g3 g4
        obtain ⟨⟨⟨⟨⟨⟨⟨h1, h2⟩, h3⟩, h4⟩, h5⟩, h6⟩, h7⟩, h8⟩ := g3
        refine (ps_setLc (g := gR A g) (tt := LT A noWX (c.den F)) (te := LE A noWX (elt.den F)) C.c.calm C.c.nd g1 (locB_ok g2) (sw_true C.kind (locB_ok g2) g4.1 g4.2) (it.snd C.c h2) (blkOk_by h6)
          (fun s H D cl fp => g.snd (X := X.blk s H scope (compEnvC scope cl D X.env) fp) C.c.hK C.c.nd C.c.calm h3)
          (fun s H D cl fp => BC.snd (C.c.blk s H scope (compEnvC scope cl D X.env) fp) h4)
          (fun s H D cl fp => elt.snd (C.c.blk s H scope (compEnvC scope cl D X.env) fp) h5) (folded_ok h1)).imp fun E t H q => ?_
        rw [ownOf_snd h7]
        obtain ⟨w, r, st, rfl, fr, hp⟩ := q
        have hws : ∀ i ∈ g.ws, i ∈ vs := fun i hi => by
          have := List.all_eq_true.mp h8 i hi
          simpa using this
        refine comp_ok hws (stepS (R := RF A) fr hp fun w1 st1 d v fr1 e1 rv _ hp1 => ?_)
        cases o with
        | true => exact hp1 w1 _ (.refl w1) (fr.setOwn (z0 rfl) e1 fr1.sr rv)
        | false =>
          obtain ⟨p, rfl, q1, q2, q3, q4⟩ := rv
          have x := fr1.sr.wf
          have hx : Le w1 (w1.frz p) := ⟨fun _ _ q => q, fun a q => ⟨.inl q, rfl⟩⟩
          have x2 : Wf (w1.frz p) := ⟨fun a q => q.elim (x.s a) fun e => by rw [e]; exact ⟨q4.trk, q3⟩, x.m, x.nd⟩
          have s2 : SRel A (w1.frz p) st1 := ⟨x2, fr1.sr.len, fun n o a z1 z2 => (fr1.sr.ob n o a z1 z2).le hx rfl⟩
          have e2 : Ext w (w1.frz p) := ⟨e1.mu, fun a q => .inl (e1.s a q), fun a q => q.elim (e1.sn a) fun e => .inr (e ▸ q1), e1.keep, e1.trk⟩
          exact hp1 (w1.frz p) _ hx ((fr.mono e2 s2).set ((q4.le hx rfl).rep (.inr rfl)))
      · cases g3
    · cases h

/-! ## a list that a slot owns -/
def ownL (r : En) (i : Nat) : Option (List D) := match r[i]? with
  | some (.own (.lst l)) => some l
  | _ => none
theorem ownL_eq {r : En} {i : Nat} {l : List D} (h : ownL r i = some l) : r[i]? = some (.own (.lst l)) := by
  unfold ownL at h
  split at h
  · cases h; assumption
  · cases h
section
variable {A : Ad} {k : Nat} {F : FT} {X : Cx} {W : WX} {w0 : W0} {E : Ends} {t : St}
theorem FR.own {w : Wd} {r : En} {st : Sto} {i : Nat} {d : D} (h : FR A w0 w r t st) (e : r[i]? = some (.own d)) : ∃ a, t[i]? = some (some (.ref a)) ∧ ¬ w.S a ∧ a ∉ w.mu ∧ Top A w d a ∧ w0.w.H a = none := by
  have hi := (List.getElem?_eq_some_iff.mp e).1
  have hi' : i < t.length := by rw [← h.env.len]; exact hi
  obtain ⟨p, hp, h2, h3, h4⟩ := h.env.at_ i _ t[i] e (by simp [hi'])
  have ht : t[i]? = some (some (.ref p)) := by rw [List.getElem?_eq_getElem hi', hp]
  exact ⟨p, ht, h2, h3, h4, h.ow i d p e ht⟩
theorem EnvR.own {w : Wd} {r : En} {i : Nat} {d : D} (h : EnvR A w r t) (e : r[i]? = some (.own d)) : ∃ a, t[i]? = some (some (.ref a)) ∧ ¬ w.S a ∧ a ∉ w.mu ∧ Top A w d a := by
  have hi := (List.getElem?_eq_some_iff.mp e).1
  have hi' : i < t.length := by rw [← h.len]; exact hi
  obtain ⟨p, hp, h2, h3, h4⟩ := h.at_ i _ t[i] e (by simp [hi'])
  have ht : t[i]? = some (some (.ref p)) := by rw [List.getElem?_eq_getElem hi', hp]
  exact ⟨p, ht, h2, h3, h4⟩
/-- what a slot owns is changed -/
theorem FR.putOwn {w : Wd} {r : En} {st : Sto} {i : Nat} {d d' : D} {a : Addr} {o : HO} (h : FR A w0 w r t st) (e : r[i]? = some (.own d)) (ht : t[i]? = some (some (.ref a))) (hT : Top A (w.raw a o) d' a) : FR A w0 (w.raw a o) (r.set i (.own d')) t st := by
  obtain ⟨p, hp, nS, nM, _, h0⟩ := h.own e
  rw [ht] at hp
  cases hp
  have hi := (List.getElem?_eq_some_iff.mp e).1
  refine ⟨⟨by simp [h.env.len], fun j s u g1 g2 => ?_, fun b c d1 d2 u hbc g1 g2 g3 g4 => ?_⟩, srel_put h.sr nS nM, ext_put h.ex h0, fun j d'' b g1 g2 => ?_, fun d'' h1 => ?_⟩
  rotate_right
  · by_cases ej : i = 0
    · subst ej
      exact h.slf d e
    · rw [List.getElem?_set_ne ej] at h1
      exact h.slf d'' h1
  · by_cases ej : i = j
    · subst ej
      rw [List.getElem?_set_self hi] at g1
      cases g1
      rw [ht] at g2
      cases g2
      exact ⟨a, rfl, nS, nM, hT⟩
    · rw [List.getElem?_set_ne ej] at g1
      have q := h.env.at_ j s u g1 g2
      cases s with
      | none => trivial
      | val d' => obtain ⟨u', q1, q2⟩ := q; exact ⟨u', q1, q2.le (le_put nS)⟩
      | own d' =>
        obtain ⟨a', q1, q2, q3, q4⟩ := q
        refine ⟨a', q1, q2, q3, q4.le (le_put nS) (upd_ne ?_)⟩
        rintro rfl
        subst q1
        exact h.env.dis i j d d' _ ej e g1 ht g2
  · have old : ∀ (j : Nat) dj, (r.set i (.own d'))[j]? = some (.own dj) → ∃ dj', r[j]? = some (.own dj') := by
      intro j dj q
      by_cases ej : i = j
      · subst ej; exact ⟨d, e⟩
      · rw [List.getElem?_set_ne ej] at q; exact ⟨dj, q⟩
    obtain ⟨_, q1⟩ := old b d1 g1
    obtain ⟨_, q2⟩ := old c d2 g2
    exact h.env.dis b c _ _ u hbc q1 q2 g3 g4
  · by_cases ej : i = j
    · subst ej
      rw [ht] at g2
      cases g2
      exact h0
    · rw [List.getElem?_set_ne ej] at g1
      exact h.ow j d'' b g1 g2
end
def varB (N : List Str) (sc : Scope) (i : Nat) (e : Expr) : Bool := match e with
  | .Name x _ => (match N[i]? with
    | some y => beqS x y && visB sc x && okN x
    | none => false)
  | _ => false
theorem varB_ok {X : Cx} {i : Nat} {e : Expr} (h : varB X.N X.env.scope i e = true) : PE X e (tVar i) ∧ noSup e = true ∧ notStar e = true := by
  unfold varB at h
  split at h
  · split at h
    · rename_i hy
      simp only [Bool.and_eq_true] at h
      obtain ⟨⟨h1, h2⟩, h3⟩ := h
      have := beqS_eq h1
      subst this
      exact ⟨pe_var hy (visB_ok h2) (okN_d h3) (okN_c h3), rfl, rfl⟩
    · cases h
  · cases h
/-- a method of one argument of a built-in -/
theorem pe_m {X : Cx} {o e : Expr} {to : TE} {ta : TA} {T id : String} {name : Str} {r : V → List V → Hp → VK → Prop} {apos pos : Pos} (pa : PlainAttrs T) (slot : Slot T name id) (hty : typeOf (.builtin id) = pure (.type "method_descriptor")) (hm : MtR X id r)
    (ho : PE X o to) (ha : PA X [e] ta) (hs : noSup o = true) (hn : notStar e = true) (hl : (apos.endLine == pos.line) = true) : PE X (.Call (.Attribute o name apos) [e] [] pos) (tBM X.K T r to ta) :=
  pe_bm pa slot hty hm ho ha (base_ok hs) (by rw [star_cons hn]; rfl) hl (star_cons hn) rfl
theorem ext_none {w : Wd} : True := trivial
def methB (name : String) (e : Expr) : Option (Expr × Expr) := match e with
  | .Call (.Attribute o m apos) [a] [] pos => if beqS m (Str.ofString name) && apos.endLine == pos.line && noSup o && notStar a then some (o, a) else none
  | _ => none
theorem methB_ok {name : String} {e o a : Expr} (h : methB name e = some (o, a)) : ∃ apos pos, e = .Call (.Attribute o (Str.ofString name) apos) [a] [] pos ∧ (apos.endLine == pos.line) = true ∧ noSup o = true ∧ notStar a = true := by
  unfold methB at h
  split at h
  · split at h
    · rename_i hc
      cases h
      simp only [Bool.and_eq_true] at hc
      have := beqS_eq hc.1.1.1
      subst this
      exact ⟨_, _, rfl, hc.1.1.2, hc.1.2, hc.2⟩
    · cases h
  · cases h
/-- x.append(e) -/
def sApp (i : Nat) (b : BE) : BS where
  den F r := bnd (opt (ownL r i)) fun l => bnd (b.den F r) fun d => bnd (opt (if l.length < sizeLine then some () else none)) fun _ => ret (.nx (r.set i (.own (.lst (l ++ [d])))))
  chk I N sc s := match s with
    | .Expr e _ => (match methB "append" e with
      | some (o, a) => varB N sc i o && b.chk I N sc a
      | none => false)
    | _ => false
  snd {A k F X W} C s h w0 := by
    split at h
    · split at h
      · rename_i o a hm
        obtain ⟨apos, pos, rfl, hl, hs, hn⟩ := methB_ok hm
        simp only [Bool.and_eq_true] at h
        obtain ⟨hv, _, _⟩ := varB_ok h.1
        refine (ps_expr (pe_m PySem.F.plainAttrs_list PySem.F.slot_list_append PySem.F.type_list_append mt_append hv (pa_cons (b.snd C.c h.2) pa_nil (star_cons hn)) hs hn hl) rfl).imp fun E t H q => ?_
        obtain ⟨w, r, st, rfl, fr, hp⟩ := q
        obtain ⟨l, eo, hp⟩ := postS_opt hp
        have er := ownL_eq eo
        obtain ⟨a0, ht, nS, nM, ⟨vs, hd, hz, hvs⟩, h0⟩ := fr.own er
        refine ⟨_, ht, .inl ⟨rfl, vs, .inl (.inl hd)⟩, ?_⟩
        refine stepS (R := RD A) fr hp fun w1 st1 d v fr1 e1 rv l1 hp1 => ?_
        obtain ⟨_, el, hp2⟩ := postS_opt hp1
        have hl2 : l.length < sizeLine := by
          split at el
          · assumption
          · cases el
        have hd1 : w1.H a0 = some (.lst vs) := (e1.keep a0 (by rw [hd]; simp) nM).trans hd
        have el := hvs.length
        obtain ⟨_, ht1, nS1, nM1, _, _⟩ := fr1.own er
        rw [ht] at ht1
        cases ht1
        refine ⟨a0, vs, v, rfl, rfl, hd1, by omega, hp2 (w1.raw a0 _) t (le_put nS1) (fr1.putOwn er ht ⟨vs ++ [v], upd_same, by rw [List.length_append]; show vs.length + 1 ≤ _; omega, ?_⟩)⟩
        exact ((hvs.mono fr.sr.wf e1).append (.one rv)).le (le_put nS1)
      · cases h
    · cases h
end Rf

set_option Elab.async false
set_option linter.all false
set_option maxRecDepth 100000
set_option maxHeartbeats 1000000
namespace Rf
open PySem L2

/-! ## how arguments are bound -/
theorem zip_look {ps : List Str} {us : List Value} (nd : ps.Nodup) (hl : us.length = ps.length) : ∀ (i : Nat) (x : Str), ps[i]? = some x → ∃ u, us[i]? = some u ∧ (ps.zip us).lookup x = some u := by
  induction ps generalizing us with
  | nil => intro i x h; simp at h
  | cons p ps ih =>
    cases us with
    | nil => simp at hl
    | cons u us =>
      have nd' := List.nodup_cons.mp nd
      intro i x h
      cases i with
      | zero =>
        simp at h
        subst h
        exact ⟨u, rfl, by simp [List.lookup]⟩
      | succ i =>
        simp at h
        obtain ⟨v, h1, h2⟩ := ih nd'.2 (by simpa using hl) i x h
        have hn : x ≠ p := by rintro rfl; exact nd'.1 (List.mem_of_getElem? h)
        exact ⟨v, by simpa using h1, by rw [List.zip_cons_cons, List.lookup_cons, beq_eq_false_iff_ne.mpr hn]; exact h2⟩
theorem zip_fm {ps : List Str} {us : List Value} (nd : ps.Nodup) (hl : us.length = ps.length) : (ps.filterMap fun n => ((ps.zip us).lookup n).map (n, ·)) = ps.zip us := by
  have key : ∀ (l : List (Str × Value)) (qs : List Str) (ws : List Value), ws.length = qs.length → (∀ (i : Nat) x, qs[i]? = some x → ∃ u, ws[i]? = some u ∧ l.lookup x = some u) → (qs.filterMap fun n => (l.lookup n).map (n, ·)) = qs.zip ws := by
    intro l qs
    induction qs with
    | nil => intro ws _ _; rfl
    | cons q qs ih =>
      intro ws hw h
      cases ws with
      | nil => simp at hw
      | cons u ws =>
        obtain ⟨v, h1, h2⟩ := h 0 q rfl
        simp at h1
        subst h1
        rw [List.filterMap_cons, h2]
        simp only [Option.map_some, List.zip_cons_cons]
        congr 1
        exact ih ws (by simpa using hw) fun i x hx => by
          obtain ⟨v, g1, g2⟩ := h (i + 1) x (by simpa using hx)
          exact ⟨v, by simpa using g1, g2⟩
  exact key _ ps us hl (zip_look nd hl)
theorem zip_miss {ps : List Str} {us : List Value} (nd : ps.Nodup) (hl : us.length = ps.length) : (ps.filter fun n => ((ps.zip us).lookup n).isNone) = [] := by
  rw [List.filter_eq_nil_iff]
  intro x hx
  obtain ⟨i, hi⟩ := List.getElem?_of_mem hx
  obtain ⟨u, _, h⟩ := zip_look nd hl i x hi
  simp [h]
theorem bind_plain {fd : FuncData} {as : List Arg} (hp : fd.params = { posonlyargs := [], args := as, vararg := none, kwonlyargs := [], kw_defaults := [], kwarg := none, defaults := [] }) (hd : fd.defaults = .none) (nd : (as.map (·.arg)).Nodup) (us : List Value)
    (hl : us.length = (as.map (·.arg)).length) : bindArgs fd ⟨us, []⟩ = pure ((as.map (·.arg)).zip us) := by
  unfold bindArgs
  rw [hp, hd]
  have e1 : seqItems? .none = pure none := rfl
  have h1 : ¬ us.length > as.length := by simp at hl; omega
  have e2 := zip_miss nd hl
  have e3 := zip_fm nd hl
  have e4 : ∀ n, as.length ≤ n → (as.map (·.arg)).take n = as.map (·.arg) := fun n h => List.take_of_length_le (by simpa using h)
  have e5 := e4 as.length (Nat.le_refl _)
  have e6 : (as.filterMap ((fun n => Option.map (fun x => (n, x)) (List.lookup n ((as.map (·.arg)).zip us))) ∘ (·.arg))) = (as.map (·.arg)).zip us := by rw [← List.filterMap_map]; exact e3
  simp only [List.map_nil, List.nil_append, List.append_nil, e1, pure_bind, Option.getD_none, List.toList_toArray, List.length_nil, Nat.zero_sub, List.drop_nil, List.isEmpty_nil, Bool.not_true, List.length_map]
  simp [h1, e5, e2, e6]

abbrev KV2 := List (Str × Value)
theorem forIn_slots {body : Str × Value → KV2 × KV2 → Sem (ForInStep (KV2 × KV2))} {P : Str → Prop} (hb : ∀ x s, P x.1 → List.lookup x.1 s.1 = none → body x s = pure (.yield (s.1 ++ [x], s.2))) :
    ∀ (kws : KV2) (s : KV2 × KV2), (∀ x ∈ kws, P x.1) → ((s.1 ++ kws).map (·.1)).Nodup → forIn kws s body = pure (s.1 ++ kws, s.2)
  | [], s, _, _ => by simp
  | x :: kws, s, h, nd => by
    have hn : List.lookup x.1 s.1 = none := by
      rw [List.lookup_eq_none_iff]
      intro p hp
      have h1 : p.1 ∈ s.1.map (·.1) := List.mem_map_of_mem hp
      rw [List.map_append] at nd
      have := (List.nodup_append.mp nd).2.2 p.1 h1 x.1 (by simp)
      simpa [bne_iff_ne] using fun e => this e.symm
    rw [List.forIn_cons, hb x s (h x (List.mem_cons_self ..)) hn, pure_bind]
    have := forIn_slots hb kws (s.1 ++ [x], s.2) (fun y hy => h y (List.mem_cons_of_mem _ hy)) (by simpa using nd)
    simpa using this
theorem zip_lookI {ps : List Str} (nd : ps.Nodup) : ∀ {us : List Value} {i : Nat} {x : Str} {u : Value}, ps[i]? = some x → us[i]? = some u → (ps.zip us).lookup x = some u := by
  induction ps with
  | nil => intro us i x u h; simp at h
  | cons p ps ih =>
    intro us i x u h1 h2
    have nd' := List.nodup_cons.mp nd
    cases us with
    | nil => simp at h2
    | cons v us =>
      cases i with
      | zero => simp at h1 h2; subst h1 h2; simp [List.lookup]
      | succ i =>
        simp at h1 h2
        have hn : x ≠ p := by rintro rfl; exact nd'.1 (List.mem_of_getElem? h1)
        rw [List.zip_cons_cons, List.lookup_cons, beq_eq_false_iff_ne.mpr hn]
        exact ih nd'.2 h1 h2
theorem zip_lookN {ps : List Str} {us : List Value} {x : Str} (h : x ∉ ps.take us.length) : (ps.zip us).lookup x = none := by
  rw [List.lookup_eq_none_iff]
  intro p hp
  have : p.1 ∈ ps.take us.length := by
    induction ps generalizing us with
    | nil => simp at hp
    | cons q ps ih =>
      cases us with
      | nil => simp at hp
      | cons u us =>
        rw [List.zip_cons_cons] at hp
        rcases List.mem_cons.mp hp with rfl | hp
        · simp
        · have h' : x ∉ ps.take us.length := fun z => h (by simp [z])
          have := ih h' hp
          simp [this]
  simpa [bne_iff_ne] using fun e : x = p.1 => h (e ▸ this)
theorem lookup_app {α β : Type} [BEq α] {x : α} {b : List (α × β)} : ∀ {a : List (α × β)}, (a ++ b).lookup x = (a.lookup x).orElse fun _ => b.lookup x
  | [] => rfl
  | (y, v) :: a => by
    rw [List.cons_append, List.lookup_cons, List.lookup_cons]
    cases x == y
    · exact lookup_app
    · rfl
theorem zip_fst {α β : Type} : ∀ {ps : List α} {us : List β}, (ps.zip us).map (·.1) = ps.take us.length
  | [], _ => by simp
  | _ :: _, [] => by simp
  | p :: ps, u :: us => by simp [zip_fst]
theorem fm_zip {f : Str → Option (Str × Value)} : ∀ {ps : List Str} {vs : List Value}, vs.length = ps.length → (∀ (m : Nat) x, ps[m]? = some x → ∃ v, vs[m]? = some v ∧ f x = some (x, v)) → ps.filterMap f = ps.zip vs
  | [], _, _, _ => rfl
  | p :: ps, [], h, _ => by simp at h
  | p :: ps, v :: vs, h, k => by
    obtain ⟨u, e1, e2⟩ := k 0 p rfl
    simp at e1
    subst e1
    rw [List.filterMap_cons, e2]
    simp only [List.zip_cons_cons]
    congr 1
    exact fm_zip (by simpa using h) fun m x hx => by
      obtain ⟨u, e1, e2⟩ := k (m + 1) x (by simpa using hx)
      exact ⟨u, by simpa using e1, e2⟩
theorem pm_look {ps ks : List Str} {us ws : List Value} {pm : List Nat} (nd : ps.Nodup) (h : pmOk ps us.length ks pm = true) (hw : ws.length = ks.length) :
    ∀ (m : Nat) (x : Str), ps[m]? = some x → ∃ j u, pm[m]? = some j ∧ (us ++ ws)[j]? = some u ∧ (ps.zip us ++ ks.zip ws).lookup x = some u := by
  unfold pmOk at h
  simp only [Bool.and_eq_true, decide_eq_true_eq, List.all_eq_true, List.mem_range] at h
  obtain ⟨⟨⟨⟨h1, h2⟩, h3⟩, h4⟩, h5⟩ := h
  intro m x hx
  have hm : m < ps.length := (List.getElem?_eq_some_iff.mp hx).1
  have q := h5 m hm
  by_cases hn : m < us.length
  · rw [if_pos hn] at q
    have q := of_decide_eq_true q
    have hu : us[m]? = some us[m] := by simp [hn]
    refine ⟨m, us[m], q, by rw [List.getElem?_append_left hn, hu], ?_⟩
    rw [lookup_app, zip_lookI nd hx hu]; rfl
  · rw [if_neg hn] at q
    split at q
    · rename_i j x' e1 e2
      simp only [Bool.and_eq_true, decide_eq_true_eq] at q
      obtain ⟨q1, q2⟩ := q
      rw [hx] at e2
      cases e2
      split at q2
      · rename_i k hk
        have := beqS_eq q2
        subst this
        have hj : j - us.length < ws.length := by rw [hw]; exact (List.getElem?_eq_some_iff.mp hk).1
        have hu : ws[j - us.length]? = some ws[j - us.length] := by simp [hj]
        refine ⟨j, _, e1, by rw [List.getElem?_append_right q1, hu], ?_⟩
        have nin : k ∉ ps.take us.length := fun z => by
          obtain ⟨i, hi⟩ := List.getElem?_of_mem z
          rw [List.getElem?_take] at hi
          split at hi
          · rename_i hlt
            have hp := List.pairwise_iff_getElem.mp nd
            obtain ⟨i1, i2⟩ := List.getElem?_eq_some_iff.mp hi
            obtain ⟨j1, j2⟩ := List.getElem?_eq_some_iff.mp hx
            exact hp i m i1 j1 (by omega) (i2.trans j2.symm)
          · cases hi
        rw [lookup_app, zip_lookN nin]
        show (ks.zip ws).lookup k = _
        exact zip_lookI (nodB_ok h3) hk hu
      · cases q2
    · cases q
theorem bind_kw {fd : FuncData} {as : List Arg} (hp : fd.params = { posonlyargs := [], args := as, vararg := none, kwonlyargs := [], kw_defaults := [], kwarg := none, defaults := [] }) (hd : fd.defaults = .none) (nd : (as.map (·.arg)).Nodup) (us ws : List Value) (ks : List Str) (pm : List Nat)
    (hw : ws.length = ks.length) (h : pmOk (as.map (·.arg)) us.length ks pm = true) : bindArgs fd ⟨us, ks.zip ws⟩ = pure ((as.map (·.arg)).zip (arr .none pm (us ++ ws))) := by
  have hk := pm_look nd h hw
  have h0 := h
  unfold pmOk at h0
  simp only [Bool.and_eq_true, decide_eq_true_eq, List.all_eq_true, List.mem_range] at h0
  obtain ⟨⟨⟨⟨h1, h2⟩, h3⟩, h4⟩, _⟩ := h0
  have hle : ¬ us.length > as.length := by simp at h2; omega
  have kmem : ∀ x ∈ ks.zip ws, x.1 ∈ as.map (·.arg) := fun x hx => by
    have hx1 : x.1 ∈ ks := (List.of_mem_zip hx).1
    have := h4 x.1 hx1
    rw [List.any_eq_true] at this
    obtain ⟨p, q1, q2⟩ := this
    rw [beqS_eq q2]
    exact List.mem_of_mem_drop q1
  have knd : (((as.map (·.arg)).zip us ++ ks.zip ws).map (·.1)).Nodup := by
    rw [List.map_append]
    have e1 : ((as.map (·.arg)).zip us).map (·.1) = (as.map (·.arg)).take us.length := zip_fst
    have e2 : (ks.zip ws).map (·.1) = ks := List.map_fst_zip (by omega)
    rw [e1, e2]
    refine List.nodup_append.mpr ⟨nd.sublist (List.take_sublist _ _), nodB_ok h3, fun a ha b hb e => ?_⟩
    subst e
    have := h4 a hb
    rw [List.any_eq_true] at this
    obtain ⟨p, q1, q2⟩ := this
    have e := beqS_eq q2
    subst e
    have nd2 := nd
    rw [← List.take_append_drop us.length (as.map (·.arg))] at nd2
    exact (List.nodup_append.mp nd2).2.2 a ha a q1 rfl
  have e2 : ((as.map (·.arg)).filter fun n => (((as.map (·.arg)).zip us ++ ks.zip ws).lookup n).isNone) = [] := by
    rw [List.filter_eq_nil_iff]
    intro x hx
    obtain ⟨m, hm⟩ := List.getElem?_of_mem hx
    obtain ⟨_, u, _, _, q⟩ := hk m x hm
    simp [q]
  have e3 : ((as.map (·.arg)).filterMap fun n => (((as.map (·.arg)).zip us ++ ks.zip ws).lookup n).map (n, ·)) = (as.map (·.arg)).zip (arr .none pm (us ++ ws)) := by
    refine fm_zip (by unfold arr; rw [List.length_map]; exact h1) fun m x hx => ?_
    obtain ⟨j, u, q1, q2, q3⟩ := hk m x hx
    refine ⟨u, ?_, by rw [q3]; rfl⟩
    unfold arr
    rw [List.getElem?_map, q1, Option.map_some, List.getD_eq_getElem?_getD, q2]; rfl
  unfold bindArgs
  rw [hp, hd]
  have es1 : seqItems? .none = pure none := rfl
  simp only [List.map_nil, List.nil_append, List.append_nil, List.length_map]
  rw [forIn_slots (P := fun x => x ∈ as.map (·.arg)) (fun x s hx hs => ?_) _ _ kmem (by simpa using knd)]
  rotate_left
  · rw [if_pos (by rw [Bool.or_eq_true]; exact .inl (List.contains_iff_mem.mpr hx)), if_neg (by simp [hs])]
  have e4 : ∀ n, as.length ≤ n → (as.map (·.arg)).take n = as.map (·.arg) := fun n h => List.take_of_length_le (by simpa using h)
  have e5 := e4 as.length (Nat.le_refl _)
  have e6 : (as.filterMap ((fun n => Option.map (fun x => (n, x)) (List.lookup n ((as.map (·.arg)).zip us ++ ks.zip ws))) ∘ (·.arg))) = (as.map (·.arg)).zip (arr .none pm (us ++ ws)) := by rw [← List.filterMap_map]; exact e3
  simp only [es1, pure_bind, Option.getD_none, List.toList_toArray, List.length_nil, Nat.zero_sub, List.drop_nil, List.isEmpty_nil, Bool.not_true]
  simp [hle, e5, e2, e6]

/-! ## defs -/
structure DB where
  ns : List String
  np : Nat
  body : List BS
def DB.N (d : DB) : List Str := d.ns.map Str.ofString
def DB.ps (d : DB) : List Str := d.N.take d.np
def flD : Out Fl → Out D
  | .ok (.nx _) st => .ok .non st
  | .ok (.rt v) st => .ok v st
  | .ok _ _ => .bad
  | .exc x st => .exc x st
  | .bad => .bad
def entE (d : DB) (ds : List D) : En := ds.map .val ++ List.replicate (d.ns.length - d.np) .none
def runB (d : DB) (F : FT) (ds : List D) : M D := fun st => if ds.length = d.np then flD (dBlk d.body F (entE d ds) st) else .bad
def isFun : ScopeKind → Bool
  | .function => true
  | _ => false
def fsB (N P : List Str) (sc : Scope) : Bool :=
  isFun sc.kind && !sc.isCoroutine && !sc.isGenerator && nodB N && P.all (fun x => stoB sc x) && sc.names.all (fun y => match y.2 with | .free => false | _ => true)
theorem fsB_ok {N : List Str} {n : Nat} {sc : Scope} (h : fsB N (N.take n) sc = true) : FnScope N (N.take n) sc := by
  unfold fsB at h
  simp only [Bool.and_eq_true, Bool.not_eq_true', List.all_eq_true] at h
  obtain ⟨⟨⟨⟨⟨h1, h2⟩, h3⟩, h4⟩, h5⟩, h6⟩ := h
  refine ⟨?_, h2, h3, nodB_ok h4, ?_, fun x hx => ?_, fun y hy e => ?_⟩
  · unfold isFun at h1; split at h1 <;> first | assumption | cases h1
  · rw [List.length_take]
    by_cases q : n ≤ N.length
    · rw [Nat.min_eq_left q]
    · rw [Nat.min_eq_right (by omega), List.take_of_length_le (by omega), List.take_of_length_le (by omega)]
  · exact stoB_ok (h5 x hx)
  · have := h6 y hy
    rw [e] at this
    cases this
def strsB : List Str → List Str → Bool
  | [], [] => true
  | x :: xs, y :: ys => beqS x y && strsB xs ys
  | _, _ => false
theorem strsB_eq : ∀ {a b : List Str}, strsB a b = true → a = b
  | [], [], _ => rfl
  | [], _ :: _, h => by cases h
  | _ :: _, [], h => by cases h
  | x :: xs, y :: ys, h => by
    simp only [strsB, Bool.and_eq_true] at h
    rw [beqS_eq h.1, strsB_eq h.2]
def argsB (P : List Str) (a : Arguments) : Bool := a.posonlyargs.isEmpty && a.vararg.isNone && a.kwonlyargs.isEmpty && a.kw_defaults.isEmpty && a.kwarg.isNone && a.defaults.isEmpty && strsB (a.args.map (·.arg)) P
def chkDef (I : Info) (d : DB) (st : Stmt) : Bool := decide (d.np ≤ d.ns.length) && fsB d.N d.ps (defScope st) && argsB d.ps (defArgs st) && chb I d.N (defScope st) d.body (defBody st)
theorem ent_env {A : Ad} {w : Wd} {d : DB} {ds : List D} {vs : List V} (h : Reps A w ds vs) (hn : ds.length = d.np) : EnvR A w (entE d ds) (L2.start d.N vs) := by
  have hl := h.length
  unfold entE L2.start
  refine ⟨by simp [DB.N, hl, hn], fun i x v h1 h2 => ?_, fun i j d1 d2 u hij h1 h2 h3 h4 => ?_⟩
  · by_cases q : i < ds.length
    · rw [List.getElem?_append_left (by simpa using q), List.getElem?_map] at h1
      rw [List.getElem?_append_left (by simpa [hl] using q), List.getElem?_map] at h2
      rw [List.getElem?_eq_getElem q] at h1
      rw [List.getElem?_eq_getElem (by rw [hl]; exact q)] at h2
      simp only [Option.map_some, Option.some.injEq] at h1 h2
      subst h1 h2
      obtain ⟨u, g1, g2⟩ := h.get (i := i) (d := ds[i]) (by simp [q])
      rw [List.getElem?_eq_getElem (by rw [hl]; exact q)] at g1
      cases g1
      exact ⟨_, rfl, g2⟩
    · rw [List.getElem?_append_right (by simpa using q)] at h1
      have := List.mem_of_getElem? h1
      rw [List.mem_replicate] at this
      rw [this.2]
      trivial
  · have := List.mem_of_getElem? h1
    simp at this
/-- an __init__: its instance is the first slot's own -/
def entI (d : DB) (c : Nat) (ds : List D) : En := .own (.obj c []) :: (ds.map .val ++ List.replicate (d.ns.length - d.np) .none)
def flI : Out Fl → Out D
  | .ok (.nx r) st => (match (r[0]? : Option Slt) with
    | some (Slt.own o) => .ok o st
    | _ => .bad)
  | .ok _ _ => .bad
  | .exc x st => .exc x st
  | .bad => .bad
def runI (d : DB) (c : Nat) (F : FT) (ds : List D) : M D := fun st => if ds.length + 1 = d.np then flI (dBlk d.body F (entI d c ds) st) else .bad
def runX (i : Nat) (d : DB) (F : FT) : List D → M D := match iniC i with
  | none => runB d F
  | some c => runI d c F
section
variable {A : Ad} {P : Program} {w : World} {mg : Str → Option Value} {base : Heap} {k : Nat} {F : FT} {d : DB} {st : Stmt} {x qual : Str} {f : Addr} {fd : FuncData}
theorem def_binds (hF : FunD A.K x qual (defArgs st) (defBody st) (defScope st) [] [] f fd) (hc : chkDef A.I d st = true) : Binds A.K fd d.ps [] := by
  unfold chkDef at hc
  simp only [Bool.and_eq_true, decide_eq_true_eq] at hc
  obtain ⟨⟨⟨h0, h1⟩, h2⟩, h3⟩ := hc
  have S : FnScope d.N d.ps (defScope st) := fsB_ok h1
  refine hF.bindsN fun kV doc pm an cdv ct us hl => ?_
  unfold argsB at h2
  simp only [Bool.and_eq_true] at h2
  obtain ⟨⟨⟨⟨⟨⟨a1, a2⟩, a3⟩, a4⟩, a5⟩, a6⟩, a7⟩ := h2
  have ep := strsB_eq a7
  have ea : defArgs st = { posonlyargs := [], args := (defArgs st).args, vararg := none, kwonlyargs := [], kw_defaults := [], kwarg := none, defaults := [] } := by
    generalize defArgs st = a at *
    obtain ⟨b1, b2, b3, b4, b5, b6, b7⟩ := a
    simp only [List.isEmpty_iff, Option.isNone_iff_eq_none] at a1 a2 a3 a4 a5 a6
    subst a1 a2 a3 a4 a5 a6
    rfl
  have nd : ((defArgs st).args.map (·.arg)).Nodup := by
    rw [ep]
    exact S.nd.sublist (List.take_sublist _ _)
  have := bind_plain (fd := PySem.W.fnOf x qual (defArgs st) (defBody st) (defScope st) .none kV doc pm an cdv ct) (as := (defArgs st).args) (by exact ea) rfl nd us (by rw [ep]; exact hl)
  rw [ep] at this
  exact this
theorem def_kw (hF : FunD A.K x qual (defArgs st) (defBody st) (defScope st) [] [] f fd) (hc : chkDef A.I d st = true) : KwOk A.K fd d.ps := by
  unfold chkDef at hc
  simp only [Bool.and_eq_true, decide_eq_true_eq] at hc
  obtain ⟨⟨⟨h0, h1⟩, h2⟩, h3⟩ := hc
  have S : FnScope d.N d.ps (defScope st) := fsB_ok h1
  obtain ⟨oc, od, dV, kV, doc, pmd, an, cdv, ct, osl, rfl, lk, hcd, hD, hK⟩ := hF.ex
  rcases hD with ⟨_, rfl⟩ | ⟨e, _⟩
  · intro s us ws ks pm hX hw hp
    unfold argsB at h2
    simp only [Bool.and_eq_true] at h2
    obtain ⟨⟨⟨⟨⟨⟨a1, a2⟩, a3⟩, a4⟩, a5⟩, a6⟩, a7⟩ := h2
    have ep := strsB_eq a7
    have ea : defArgs st = { posonlyargs := [], args := (defArgs st).args, vararg := none, kwonlyargs := [], kw_defaults := [], kwarg := none, defaults := [] } := by
      generalize defArgs st = a at *
      obtain ⟨b1, b2, b3, b4, b5, b6, b7⟩ := a
      simp only [List.isEmpty_iff, Option.isNone_iff_eq_none] at a1 a2 a3 a4 a5 a6
      subst a1 a2 a3 a4 a5 a6
      rfl
    have nd : ((defArgs st).args.map (·.arg)).Nodup := by
      rw [ep]
      exact S.nd.sublist (List.take_sublist _ _)
    rw [← ep] at hp ⊢
    exact .of_eq (bind_kw (as := (defArgs st).args) (by exact ea) rfl nd us ws ks pm hw hp)
  · exact absurd rfl e
theorem def_okB (hF : FunD A.K x qual (defArgs st) (defBody st) (defScope st) [] [] f fd)
    (hc : chkDef A.I d st = true) (fa : Facts A mg) (hk : CallsOk A P w mg base k F) : FnOk P w A.K mg base (L2.CX P w) (2 * (k + 1)) f fd d.ps (spF A (runB d F)) := by
  unfold chkDef at hc
  simp only [Bool.and_eq_true, decide_eq_true_eq] at hc
  obtain ⟨⟨⟨h0, h1⟩, h2⟩, h3⟩ := hc
  have S : FnScope d.N d.ps (defScope st) := fsB_ok h1
  have lps : d.ps.length = d.np := by unfold DB.ps DB.N; simp [h0]
  have len : ∀ vs H Q E, spF A (runB d F) vs H Q E → vs.length = d.ps.length := by
    rintro vs H Q E ⟨w, ds, st, _, _, rp, hp⟩
    rw [rp.length, lps]
    by_cases q : ds.length = d.np
    · exact q
    · unfold runB at hp
      rw [if_neg q] at hp
      exact hp.elim
  refine hF.ok S len fun cdv Ar outer s H vs Q E hr hsp => ?_
  have len' := len vs H Q E hsp
  obtain ⟨w0, ds, sto, rfl, sr, rp, hp⟩ := hsp
  have C : CtxS A k F (cxOf (L2.CX P w) P w A.K mg base d.N qual (defScope st) f cdv Ar outer s w0.H E) (fun c dd _ H => E c dd H) :=
    ⟨⟨rfl, fa, hk, hr, rfl, S.nd, fun t => passAt (takes_of rfl rfl rfl rfl) t⟩, passes_of rfl, fun _ => rfl, S.kind⟩
  refine ⟨LS A ⟨w0, 0⟩ (fun c dd _ H => E c dd H) (dBlk d.body F), blk_of C ⟨w0, 0⟩ h3, ?_⟩
  have hn : ds.length = d.np := by rw [← rp.length, len', lps]
  have he := ent_env (d := d) rp hn
  have noown : ∀ (i : Nat) d', (entE d ds)[i]? ≠ some (.own d') := fun i d' h1 => by
    have := List.mem_of_getElem? h1
    simp [entE] at this
  refine ⟨w0, entE d ds, sto, rfl, ⟨he, sr, .refl w0, fun i d' a h1 _ => absurd h1 (noown i d'), fun d' h1 => absurd h1 (noown 0 d')⟩, ?_⟩
  unfold runB at hp
  rw [if_pos hn] at hp
  cases eb : dBlk d.body F (entE d ds) sto with
  | bad => rw [eb] at hp; exact hp
  | exc z st1 => rw [eb] at hp; exact fun w' t c dd ex s' r => hp w' c dd ex s' r
  | ok o st1 =>
    rw [eb] at hp
    cases o with
    | nx r => exact fun w' t l fr => hp w' .non fr.ex fr.sr rep_non
    | rt v => exact hp
    | bk r => exact hp.elim
    | ct r => exact hp.elim
theorem def_okI {c : Nat} (hF : FunD A.K x qual (defArgs st) (defBody st) (defScope st) [] [] f fd)
    (hc : chkDef A.I d st = true) (fa : Facts A mg) (hk : CallsOk A P w mg base k F) : FnOk P w A.K mg base (L2.CX P w) (2 * (k + 1)) f fd d.ps (spI A c (runI d c F)) := by
  unfold chkDef at hc
  simp only [Bool.and_eq_true, decide_eq_true_eq] at hc
  obtain ⟨⟨⟨h0, h1⟩, h2⟩, h3⟩ := hc
  have S : FnScope d.N d.ps (defScope st) := fsB_ok h1
  have lps : d.ps.length = d.np := by unfold DB.ps DB.N; simp [h0]
  have len : ∀ vs H Q E, spI A c (runI d c F) vs H Q E → vs.length = d.ps.length := by
    rintro vs H Q E ⟨w, xa, dx, vs', ds, st, rfl, _, _, _, _, _, _, rp, hp⟩
    rw [List.length_cons, rp.length, lps]
    by_cases q : ds.length + 1 = d.np
    · exact q
    · unfold runI at hp
      rw [if_neg q] at hp
      exact hp.elim
  refine hF.ok S len fun cdv Ar outer s H vs Q E hr hsp => ?_
  have len' := len vs H Q E hsp
  obtain ⟨w0, xa, dx, vs', ds, sto, rfl, hx, hdx, hne, rfl, hcs, sr, rp, hp⟩ := hsp
  have C : CtxS A k F (cxOf (L2.CX P w) P w A.K mg base d.N qual (defScope st) f cdv Ar outer s (upd (upd w0.H dx (.own xa)) xa (.ins (A.ca c) dx [])) E) (fun c dd _ H => E c dd H) :=
    ⟨⟨rfl, fa, hk, hr, rfl, S.nd, fun t => passAt (takes_of rfl rfl rfl rfl) t⟩, passes_of rfl, fun _ => rfl, S.kind⟩
  refine ⟨LS A ⟨w0, xa⟩ (fun c dd _ H => E c dd H) (dBlk d.body F), blk_of C ⟨w0, xa⟩ h3, ?_⟩
  have hn : ds.length + 1 = d.np := by rw [← rp.length, ← lps, ← len']; rfl
  have e1 := ext_raw (o := .own xa) hdx
  have hx1 : (w0.raw dx (.own xa)).H xa = none := (upd_ne fun e => hne e.symm).trans hx
  have e2 := ext_raw (o := .ins (A.ca c) dx []) hx1
  have s2 : SRel A ((w0.raw dx (.own xa)).raw xa (.ins (A.ca c) dx [])) sto := (sr.raw hdx).raw hx1
  have rp2 := (rp.mono sr.wf e1).mono (sr.raw (o := .own xa) hdx).wf e2
  have nS : ¬ w0.S xa := fun q => (sr.wf.s xa q).1 hx
  have nM : xa ∉ w0.mu := fun q => sr.wf.m xa q hx
  have hlen := rp.length
  -- the first slot holds the instance, the others what is passed
  have env : EnvR A ((w0.raw dx (.own xa)).raw xa (.ins (A.ca c) dx [])) (entI d c ds) (L2.start d.N (.ref xa :: vs')) := by
    unfold entI L2.start
    refine ⟨by simp [DB.N, hlen]; omega, fun i y v g1 g2 => ?_, fun i j d1 d2 u hij g1 g2 g3 g4 => ?_⟩
    · cases i with
      | zero =>
        simp at g1 g2
        subst g1 g2
        exact ⟨xa, rfl, nS, nM, dx, [], ⟨hcs, Nat.zero_le _⟩, by rw [List.zip_nil_right]; exact upd_same, .nil⟩
      | succ i =>
        simp only [List.map_cons, List.cons_append, List.getElem?_cons_succ] at g1 g2
        by_cases q : i < ds.length
        · rw [List.getElem?_append_left (by simpa using q), List.getElem?_map, List.getElem?_eq_getElem q] at g1
          rw [List.getElem?_append_left (by simpa [hlen] using q), List.getElem?_map, List.getElem?_eq_getElem (by rw [hlen]; exact q)] at g2
          simp only [Option.map_some, Option.some.injEq] at g1 g2
          subst g1 g2
          obtain ⟨u, q1, q2⟩ := rp2.get (i := i) (d := ds[i]) (by simp [q])
          rw [List.getElem?_eq_getElem (by rw [hlen]; exact q)] at q1
          cases q1
          exact ⟨_, rfl, q2⟩
        · rw [List.getElem?_append_right (by simpa using q)] at g1
          have := List.mem_of_getElem? g1
          rw [List.mem_replicate] at this
          rw [this.2]
          trivial
    · cases i with
      | zero =>
        cases j with
        | zero => exact absurd rfl hij
        | succ j =>
          simp only [List.getElem?_cons_succ] at g2
          have := List.mem_of_getElem? g2
          simp at this
      | succ i =>
        simp only [List.getElem?_cons_succ] at g1
        have := List.mem_of_getElem? g1
        simp at this
  have t0 : (L2.start d.N (.ref xa :: vs'))[0]? = some (some (.ref xa)) := by simp [L2.start]
  refine ⟨(w0.raw dx (.own xa)).raw xa (.ins (A.ca c) dx []), entI d c ds, sto, rfl, ⟨env, s2, e1.trans e2, fun i d' a g1 g2 => ?_, fun d' _ => t0⟩, ?_⟩
  · cases i with
    | zero =>
      rw [t0] at g2
      cases g2
      exact hx
    | succ i =>
      simp only [entI, List.getElem?_cons_succ] at g1
      have := List.mem_of_getElem? g1
      simp at this
  · unfold runI at hp
    rw [if_pos hn] at hp
    cases eb : dBlk d.body F (entI d c ds) sto with
    | bad => rw [eb] at hp; exact hp
    | exc z st1 => rw [eb] at hp; exact fun w' t c dd ex s' r => hp w' c dd ex s' r
    | ok o st1 =>
      rw [eb] at hp
      cases o with
      | rt v => exact hp.elim
      | bk r => exact hp.elim
      | ct r => exact hp.elim
      | nx r =>
        intro w' t l fr
        simp only [flI] at hp
        cases e0 : r[0]? with
        | none => rw [e0] at hp; exact hp.elim
        | some sl =>
          rw [e0] at hp
          cases sl with
          | none => exact hp.elim
          | val _ => exact hp.elim
          | own o =>
            have t0' := fr.slf o e0
            obtain ⟨a, ht, q1, q2, q3, _⟩ := fr.own e0
            rw [t0'] at ht
            cases ht
            exact hp w' (.ref xa) fr.ex fr.sr ⟨xa, rfl, hx, q1, q2, q3⟩ rfl
end
theorem def_ok {A : Ad} {P : Program} {w : World} {mg : Str → Option Value} {base : Heap} {k i : Nat} {F : FT} {d : DB} {st : Stmt} {x qual : Str} {f : Addr} {fd : FuncData} (hF : FunD A.K x qual (defArgs st) (defBody st) (defScope st) [] [] f fd)
    (hc : chkDef A.I d st = true) (fa : Facts A mg) (hk : CallsOk A P w mg base k F) : FnOk P w A.K mg base (L2.CX P w) (2 * (k + 1)) f fd d.ps (spX A i (runX i d F)) ∧ Binds A.K fd d.ps [] ∧ KwOk A.K fd d.ps := by
  refine ⟨?_, def_binds hF hc, def_kw hF hc⟩
  unfold spX runX
  cases iniC i with
  | none => exact def_okB hF hc fa hk
  | some c => exact def_okI hF hc fa hk
/-- the defs of the text, to the depth k -/
def FTab (PT : Nat → Option DB) : Nat → FT
  | 0 => fun _ _ _ => .bad
  | k + 1 => fun i => match PT i with
    | none => fun _ _ => .bad
    | some d => runX i d (FTab PT k)
theorem calls_all {A : Ad} {P : Program} {w : World} {mg : Str → Option Value} {base : Heap} {PT : Nat → Option DB} (fa : Facts A mg)
    (h : ∀ i d, PT i = some d → ∃ st x qual fd, FunD A.K x qual (defArgs st) (defBody st) (defScope st) [] [] (A.fa i) fd ∧ chkDef A.I d st = true ∧ d.ps = paN i) : ∀ k, CallsOk A P w mg base k (FTab PT k)
  | 0 => fun i => .inr fun _ _ => rfl
  | k + 1 => fun i => by
    cases e : PT i with
    | none => exact .inr fun ds st => by simp only [FTab, e]
    | some d =>
      obtain ⟨st, x, qual, fd, h1, h2, h3⟩ := h i d e
      have q := def_ok (P := P) (w := w) (base := base) (i := i) h1 h2 fa (calls_all fa h k)
      have e2 : FTab PT (k + 1) i = runX i d (FTab PT k) := by simp only [FTab, e]
      rw [e2]
      exact .inl ⟨fd, d.ps, q.1, q.2.1, q.2.2, h3⟩
end Rf

set_option Elab.async false
set_option linter.all false
set_option maxRecDepth 100000
set_option maxHeartbeats 1000000
namespace Rf
open PySem L2

/-! ## where a def stands in the text -/
structure Pl where
  st : Stmt
  nm : Str
  qual : Str
structure TE1 where
  i : Nat
  d : DB
  p : Pl
def fnP (i : Nat) : Str × Option Str := (Str.ofString (fnPL.getD i ("", none)).1, (fnPL.getD i ("", none)).2.map Str.ofString)
def TE1.df (e : TE1) : He.DefD := ⟨fnP e.i, e.p.nm, e.p.qual, defArgs e.p.st, defBody e.p.st, defScope e.p.st, [], []⟩
def mkA (I : Info) (K : PySem.W.Frag) : Ad := ⟨I, K, fun i => He.fAd K (fnP i), fun c => He.ga K (clN c), fun c => .ref (He.ga K (clN c))⟩
/-! ## facts -/
def dvOf : D → He.Dv
  | .int i => .int i
  | .str s => .str ⟨s.toArray⟩
  | .bl b => .bl b
  | _ => .non
def flatB : D → Bool
  | .int _ | .bl _ | .non => true
  | .str s => strB s
  | _ => false
theorem rep_dv {A : Ad} {w : Wd} {K : PySem.W.Frag} {d : D} (h : flatB d = true) : Rep A w d (He.Dv.v K (dvOf d)) := by
  cases d <;> first | cases h | skip
  · exact rep_non
  · exact rep_bl _
  · exact rep_int _
  · exact rep_str (strB_ok h)
theorem reps_dv {A : Ad} {w : Wd} {K : PySem.W.Frag} : ∀ {l : List D}, l.all flatB = true → Reps A w l ((l.map dvOf).map (He.Dv.v K))
  | [], _ => .nil
  | d :: r, h => by
    simp only [List.all_cons, Bool.and_eq_true] at h
    exact .cons (rep_dv h.1) (reps_dv h.2)
def conB (K : PySem.W.Frag) (i : Nat) : Bool := match coD i with
  | .int j => (He.Fa.int (coN i) j).ok K
  | .str s => (He.Fa.str (coN i) ⟨s.toArray⟩).ok K && strB s
  | .tup l => (He.Fa.glo (coN i)).ok K && He.tupB K (coN i) (l.map dvOf) && l.all flatB && decide (l.length ≤ sizeLine)
  | _ => false
def clsB (K : PySem.W.Frag) (c : Nat) : Bool := (He.Fa.cls (clN c)).ok K && (names c).all (fun f => (He.Fa.noat (clN c) f).ok K) && nodB (names c) && decide ((names c).length < 1000) &&
  (He.Fa.glo (clN c)).ok K && okN (clN c) && (He.Fa.mkr (clN c)).ok K && decide (fnP (iniF c) = (clN c, some ("__init__" : Str))) && decide (iniC (iniF c) = some c)
def isiB (I : Info) (K : PySem.W.Frag) (c : Nat) : Bool :=
  He.eqO (PySem.W.findIn K (.ref (He.ga K (clN c))) "__class__") (some (some (.builtin "object.__class__"))) && He.eqO (PySem.W.specialIn K (.builtin "object.__class__") "__get__") (some (some (.builtin "getset_descriptor.__get__"))) &&
  decide (PySem.W.takesIn K (.builtin "object.__class__") = some true) && decide (PySem.W.mroIn K (He.ga K (clN c)) (.type "object") = some true) &&
  (List.range 7).all (fun i => decide (PySem.W.kitOne K (.ref (He.ga K (clN c))) (.type (tyN i)) = some false) && decide (PySem.W.kitOne K (.type (tyN i)) (.ref (He.ga K (clN c))) = some false) && PySem.W.notFirst K (He.ga K (clN c)) (.type (tyN i))) &&
  I.cs.all (fun c' => decide (PySem.W.kitOne K (.ref (He.ga K (clN c))) (.ref (He.ga K (clN c'))) = some (decide (c = c'))) && PySem.W.notFirst K (He.ga K (clN c)) (.ref (He.ga K (clN c')))) && PySem.W.keepIn K (.ref (He.ga K (clN c))) &&
  (match eqF c with
  | none => true
  | some i => He.eqO (PySem.W.findIn K (.ref (He.ga K (clN c))) "__eq__") (some (some (.ref (He.fAd K (fnP i))))) && PySem.W.isFn K (.ref (He.fAd K (fnP i))) && decide (iniC i = none) &&
    He.eqO (PySem.W.findIn K (.ref (He.ga K (clN c))) "__ne__") (some (some (.builtin "object.__ne__"))))
def factB (I : Info) (K : PySem.W.Frag) : Bool :=
  I.fs.all (fun i => (He.Fa.glo (fnN i)).ok K && (He.Fa.keep (fnN i)).ok K && decide (fnP i = (fnN i, none)) && decide (iniC i = none)) && I.ks.all (conB K) && I.bs.all (fun i => (He.Fa.free (blN i)).ok K) && I.cs.all (fun c => clsB K c && isiB I K c)
theorem facts_of {I : Info} {K : PySem.W.Frag} {h : Heap} {mg : Str → Option Value} (X : K.In h) (G : h.Ns mainGlobals mg) (c : factB I K = true) : Facts (mkA I K) mg := by
  unfold factB at c
  simp only [Bool.and_eq_true, List.all_eq_true, decide_eq_true_eq] at c
  obtain ⟨⟨⟨c1, c2⟩, c3⟩, c4⟩ := c
  refine ⟨fun i hi => ?_, fun i hi => ?_, fun i hi => He.free_ok X G (c3 i hi), fun i hi => ?_⟩
  · obtain ⟨⟨⟨h1, h2⟩, h3⟩, h4⟩ := c1 i hi
    have e : (mkA I K).fa i = He.ga K (fnN i) := by
      show He.fAd K (fnP i) = _
      rw [h3]; rfl
    rw [e]
    exact ⟨He.glo_ok X G h1, He.keep_ok h2, h4⟩
  · have := c2 i hi
    unfold conB at this
    split at this
    · rename_i j ej
      obtain ⟨t, ht⟩ := He.int_ok X G this
      exact ⟨_, .int j, ht, ⟨t, rfl⟩, fun w => by rw [ej]; exact rep_int j⟩
    · rename_i s ej
      simp only [Bool.and_eq_true] at this
      obtain ⟨t, ht⟩ := He.str_ok X G this.1
      exact ⟨_, .str ⟨s.toArray⟩, ht, ⟨t, rfl⟩, fun w => by rw [ej]; exact rep_str (strB_ok this.2)⟩
    · rename_i l ej
      simp only [Bool.and_eq_true, decide_eq_true_eq] at this
      obtain ⟨⟨⟨h1, h2⟩, h3⟩, h4⟩ := this
      refine ⟨_, .ref (He.ga K (coN i)), He.glo_ok X G h1, rfl, fun w => ?_⟩
      rw [ej]
      unfold Rep
      refine ⟨_, (l.map dvOf).map (He.Dv.v K), rfl, ⟨by simpa using h4, .inr ?_⟩, reps_dv h3⟩
      rcases He.tupB_ok h2 (fun _ => none) with (q | ⟨_, q⟩) | q
      · cases q
      · cases q
      · exact q
    · cases this
  · have c4' := c4 i hi
    have := c4'.1
    have c5 := c4'.2
    unfold isiB at c5
    simp only [Bool.and_eq_true, decide_eq_true_eq, List.all_eq_true, List.mem_range] at c5
    obtain ⟨⟨⟨⟨⟨⟨⟨k1, k2⟩, k3⟩, k4⟩, k5⟩, k6⟩, k7⟩, k8⟩ := c5
    unfold clsB at this
    simp only [Bool.and_eq_true, decide_eq_true_eq, List.all_eq_true] at this
    obtain ⟨⟨⟨⟨⟨⟨⟨⟨h1, h2⟩, h3⟩, h4⟩, h5⟩, h6⟩, h7⟩, h8⟩, h9⟩ := this
    have e : (mkA I K).fa (iniF i) = He.ma K (He.ga K (clN i)) "__init__" := by
      show He.fAd K (fnP (iniF i)) = _
      rw [h8]; rfl
    refine ⟨He.cls_ok h1, fun f hf => He.noat_ok (h2 f hf), nodB_ok h3, h4, He.glo_ok X G h5, h6, by rw [e]; exact He.mkr_ok h7, h9, He.eqO_ok k1, He.eqO_ok k2, k3, k4, fun j hj => ⟨(k5 j hj).1.1, (k5 j hj).1.2, (k5 j hj).2⟩, fun c' hc' => k6 c' hc', k7, fun j hj => ?_⟩
    rw [hj] at k8
    simp only [Bool.and_eq_true, decide_eq_true_eq] at k8
    exact ⟨He.eqO_ok k8.1.1.1, k8.1.1.2, k8.1.2, He.eqO_ok k8.2⟩
/-! ## the hook -/
def obsR (I : Info) (tab : List TE1) (K : PySem.W.Frag) : He.AlD := (factB I K && tab.all fun e => e.df.ok K, tab.map fun e => He.fnW K e.df.at_)
def valR (tab : List TE1) : He.AlD := (true, tab.map fun e => e.df.val)
def hookR (n : Nat) (I : Info) (tab : List TE1) : PySem.W.Hook where
  α := He.AlD
  obs := fun s => obsR I tab (He.frG s.heap.get? (He.asD s.heap.get? n))
  val := fun _ => valR tab
  says := fun _ h => ∃ K : PySem.W.Frag, K.In h ∧ obsR I tab K = valR tab
  of := fun _ _ e => ⟨_, He.frG_in, e⟩
  keeps := fun _ _ _ ⟨K, hK, c⟩ k => ⟨K, PySem.W.Frag.In.keeps hK k, c⟩
def obR (n : Nat) (I : Info) (tab : List TE1) (s : PySem.W.SharedT) : He.AlD := obsR I tab (He.frG (HandSHeadRun.getT s) (He.asD (HandSHeadRun.getT s) n))
theorem obR_eq (n : Nat) (I : Info) (tab : List TE1) (s : PySem.W.SharedT) : obR n I tab s = (hookR n I tab).obs s.abs := by
  have e : HandSHeadRun.getT s = s.abs.heap.get? := funext (HandSHeadRun.getT_eq s)
  unfold obR
  rw [e]; rfl
theorem saysR_def {I : Info} {tab : List TE1} {K : PySem.W.Frag} (c : obsR I tab K = valR tab) {e : TE1} (he : e ∈ tab) : ∃ fd, FunD K e.p.nm e.p.qual (defArgs e.p.st) (defBody e.p.st) (defScope e.p.st) [] [] (He.fAd K (fnP e.i)) fd := by
  have c1 : (factB I K && tab.all fun e => e.df.ok K) = true := congrArg Prod.fst c
  have c2 : (tab.map fun e => He.fnW K e.df.at_) = tab.map fun e => e.df.val := congrArg Prod.snd c
  simp only [Bool.and_eq_true, List.all_eq_true] at c1
  obtain ⟨j, hj⟩ := List.getElem?_of_mem he
  have e2 : (tab.map fun e => He.fnW K e.df.at_)[j]? = (tab.map fun e => e.df.val)[j]? := by rw [c2]
  rw [List.getElem?_map, List.getElem?_map, hj] at e2
  exact He.DefD.funD (d := e.df) (Option.some.inj e2) (c1.2 e he)
def PTof (tab : List TE1) (i : Nat) : Option DB := (tab.find? fun e => e.i == i).map (·.d)
theorem ptof_mem {tab : List TE1} {i : Nat} {d : DB} (h : PTof tab i = some d) : ∃ e ∈ tab, e.i = i ∧ e.d = d := by
  unfold PTof at h
  simp only [Option.map_eq_some_iff] at h
  obtain ⟨e, h1, h2⟩ := h
  exact ⟨e, List.mem_of_find?_eq_some h1, by have := List.find?_some h1; simpa using this, h2⟩
def chkTab (I : Info) (tab : List TE1) : Bool := tab.all fun e => chkDef I e.d e.p.st && strsB e.d.ps (paN e.i)
theorem calls_tab {I : Info} {tab : List TE1} {K : PySem.W.Frag} {h : Heap} {mg : Str → Option Value} {P : Program} {w : World} {base : Heap} (X : K.In h) (G : h.Ns mainGlobals mg) (c : obsR I tab K = valR tab) (hc : chkTab I tab = true) (k : Nat) :
    CallsOk (mkA I K) P w mg base k (FTab (PTof tab) k) := by
  have c1 : (factB I K && tab.all fun e => e.df.ok K) = true := congrArg Prod.fst c
  simp only [Bool.and_eq_true] at c1
  refine calls_all (facts_of X G c1.1) (fun i d hd => ?_) k
  obtain ⟨e, he, rfl, rfl⟩ := ptof_mem hd
  obtain ⟨fd, hF⟩ := saysR_def c he
  have q := List.all_eq_true.mp hc e he
  simp only [Bool.and_eq_true] at q
  exact ⟨e.p.st, e.p.nm, e.p.qual, fd, hF, q.1, strsB_eq q.2⟩
end Rf

set_option Elab.async false
set_option linter.all false
set_option maxRecDepth 100000
set_option maxHeartbeats 1000000
namespace Rf
open PySem L2

theorem reps_ints {A : Ad} {w : Wd} : ∀ ns : List Int, Reps A w (ns.map D.int) (ns.map V.int)
  | [] => .nil
  | n :: ns => .cons (rep_int n) (reps_ints ns)
theorem cx_out {P : Program} {w : World} {H : Hp} {s : Shared} {e : Value} {s' : Shared} (h : L2.CX P w [] H s (fun _ _ _ => False) e s') : False := by
  obtain ⟨_, _, _, _, _, _, _, _, _, _, _, _, z⟩ := h
  exact z
/-- the law's call, from the table -/
theorem law_walk {l : PySem.W.OpenLaw} {q : Program} {loose : List Str} {XP : (Str → Option Value) → Heap → Prop} {d : DefRec} {I : Info} {tab : List TE1} {n k : Nat} {e : TE1} (hn : l.most = some 63) (hdf : d.params.defaults = []) (hc : chkTab I tab = true)
    (he : e ∈ tab) (hf : e.i ∈ I.fs) (hp : PTof tab e.i = some e.d) (hnp : e.d.np = 1) (hname : d.name = fnN e.i) (hr : Room (2 * (k + 1)) callerA) (hi : iniC e.i = none)
    (run : ∀ ns : List Int, ns.length ≤ 63 → ∃ st', FTab (PTof tab) (k + 1) e.i [.frl (ns.map .int)] [] = .ok (.bl true) st') :
    PySem.W.WalkO q loose XP (hookR n I tab).says l.row.toRowW d [] (fun f vs => PySem.call f vs) := by
  refine Att.attach_call hn hdf fun w s₀ s₁ mg mb fa o pm cd doc a vs ns G Y ho hd hcd hmg hobj hints hlen hg => ?_
  obtain ⟨K, KX, c⟩ := Y
  have c1 : (factB I K && tab.all fun e => e.df.ok K) = true := congrArg Prod.fst c
  simp only [Bool.and_eq_true] at c1
  have fac := facts_of KX G.T.g c1.1
  obtain ⟨fd, hF⟩ := saysR_def c he
  have efa : fa = (mkA I K).fa e.i := by
    have h1 := (fac.fn e.i hf).1
    rw [← hname, hmg] at h1
    injection h1 with h1
    injection h1
  have hck0 := List.all_eq_true.mp hc e he
  simp only [Bool.and_eq_true] at hck0
  have hck := hck0.1
  have hck2 := hck
  unfold chkDef at hck2
  simp only [Bool.and_eq_true, decide_eq_true_eq] at hck2
  obtain ⟨⟨⟨h0, h1⟩, h2⟩, h3⟩ := hck2
  obtain ⟨x, hx⟩ : ∃ x, e.d.ps = [x] := by
    have : e.d.ps.length = 1 := by unfold DB.ps DB.N; simp [hnp] at h0 ⊢; omega
    match h : e.d.ps, this with
    | [x], _ => exact ⟨x, rfl⟩
  have eT : FTab (PTof tab) (k + 1) e.i = runB e.d (FTab (PTof tab) k) := by simp only [FTab, hp, runX, hi]
  subst efa
  refine law_call (CX := L2.CX l.prog w) (k := 2 * (k + 1)) (x := x) (fd := fd) (sp := spF (mkA I K) (FTab (PTof tab) (k + 1) e.i)) KX G.T.g G.T.b G.T.builtins G.T.nolimit hg hobj hints (Nat.le_trans hlen (by rw [sizeLine_eq]; decide)) hr
    (fun base b1 b2 => ?_) (fun s u => ?_) (fun H hO hS => ?_) fun H z s' hz => cx_out hz
  · rw [eT, ← hx]
    exact def_okB hF hck fac (calls_tab KX G.T.g c hc k)
  · have := hF.bindsA (ps := e.d.ps) (fun kV doc pm an cdv ct us hl => ?_) s [u] (by rw [hx]; rfl)
    · rw [hx] at this
      exact this
    · unfold argsB at h2
      simp only [Bool.and_eq_true] at h2
      obtain ⟨⟨⟨⟨⟨⟨a1, a2⟩, a3⟩, a4⟩, a5⟩, a6⟩, a7⟩ := h2
      have ep := strsB_eq a7
      have ea : defArgs e.p.st = { posonlyargs := [], args := (defArgs e.p.st).args, vararg := none, kwonlyargs := [], kw_defaults := [], kwarg := none, defaults := [] } := by
        generalize defArgs e.p.st = a at *
        obtain ⟨b1, b2, b3, b4, b5, b6, b7⟩ := a
        simp only [List.isEmpty_iff, Option.isNone_iff_eq_none] at a1 a2 a3 a4 a5 a6
        subst a1 a2 a3 a4 a5 a6
        rfl
      have nd : ((defArgs e.p.st).args.map (·.arg)).Nodup := by
        rw [ep, hx]
        exact List.nodup_cons.mpr ⟨by simp, List.nodup_nil⟩
      have := bind_plain (fd := PySem.W.fnOf e.p.nm e.p.qual (defArgs e.p.st) (defBody e.p.st) (defScope e.p.st) .none kV doc pm an cdv ct) (as := (defArgs e.p.st).args) (by exact ea) rfl nd us (by rw [ep]; exact hl)
      rw [ep] at this
      exact this
  · obtain ⟨st', hrun⟩ := run ns hlen
    have hz : (ns.map V.int).length ≤ sizeLine := by rw [List.length_map]; exact Nat.le_trans hlen (by rw [sizeLine_eq]; decide)
    refine ⟨⟨[], fun b => b = a ∧ H b ≠ none, H⟩, [.frl (ns.map .int)], [], rfl, ⟨⟨fun b hb => ⟨hb.2, by simp⟩, by simp, List.nodup_nil⟩, rfl, fun n o b h _ => by simp at h⟩, .one ?_, ?_⟩
    · unfold Rep
      refine ⟨a, ns.map V.int, rfl, ⟨hz, ?_⟩, reps_ints ns⟩
      rcases hS with hS | hS
      · refine .inl ⟨⟨rfl, ?_⟩, hS⟩
        rcases hS with hS | ⟨_, hS⟩ <;> (show H a ≠ none; rw [hS]; simp)
      · exact .inr hS
    · rw [hrun]
      intro w' v _ _ hv
      exact hv.bl
end Rf

set_option Elab.async false
set_option linter.all false
set_option maxRecDepth 100000
set_option maxHeartbeats 1000000
namespace Rf
open PySem L2

/-! ## in, not in -/
def flatD : D → Bool
  | .non | .bl _ | .int _ | .str _ => true
  | _ => false
def hasD (x : D) (l : List D) : Bool := l.any fun y => deq y x
theorem flat_V {A : Ad} {w : Wd} {d : D} {v : V} (h : flatD d = true) (r : Rep A w d v) : flatV v = true := by
  cases d <;> first | cases h | skip
  · rw [r.non]; rfl
  · rw [r.bl]; rfl
  · rw [r.int]; rfl
  · rw [r.str.1]; rfl
theorem flats_V {A : Ad} {w : Wd} : ∀ {l : List D} {vs : List V}, l.all flatD = true → Reps A w l vs → vs.all flatV = true
  | [], _, _, r => by simp only [Reps] at r; rw [r]; rfl
  | d :: l, _, h, r => by
    simp only [List.all_cons, Bool.and_eq_true] at h
    simp only [Reps] at r
    obtain ⟨v, rs, rfl, h1, h2⟩ := r
    rw [List.all_cons, flat_V h.1 h1, flats_V h.2 h2]; rfl
theorem eq_VD {A : Ad} {w : Wd} {d e : D} {v u : V} (hd : flatD d = true) (he : flatD e = true) (r : Rep A w d v) (q : Rep A w e u) : eqV v u = deq d e := by
  cases d <;> first | cases hd | skip
  · rw [r.non]
    cases e <;> first | cases he | skip
    · rw [q.non]; simp [eqV, deq]
    · rw [q.bl]; simp [eqV, deq]
    · rw [q.int]; simp [eqV, deq]
    · rw [q.str.1]; simp [eqV, deq]
  · rw [r.bl]
    cases e <;> first | cases he | skip
    · rw [q.non]; simp [eqV, deq]
    · rw [q.bl]; simp [eqV, deq]
    · rw [q.int]; simp [eqV, deq]
    · rw [q.str.1]; simp [eqV, deq]
  · rw [r.int]
    cases e <;> first | cases he | skip
    · rw [q.non]; simp [eqV, deq]
    · rw [q.bl]; simp [eqV, deq]
    · rw [q.int]; simp [eqV, deq]
    · rw [q.str.1]; simp [eqV, deq]
  · rw [r.str.1]
    cases e <;> first | cases he | skip
    · rw [q.non]; simp [eqV, deq]
    · rw [q.bl]; simp [eqV, deq]
    · rw [q.int]; simp [eqV, deq]
    · rw [q.str.1]
      show ((⟨_⟩ : Str) == ⟨_⟩) = _
      rw [str_beq]; simp [deq]
theorem in_VD {A : Ad} {w : Wd} {x : D} {v : V} (hx : flatD x = true) (rx : Rep A w x v) : ∀ {l : List D} {vs : List V}, l.all flatD = true → Reps A w l vs → inV v vs = hasD x l
  | [], _, _, r => by simp only [Reps] at r; rw [r]; rfl
  | d :: l, _, h, r => by
    simp only [List.all_cons, Bool.and_eq_true] at h
    simp only [Reps] at r
    obtain ⟨u, rs, rfl, h1, h2⟩ := r
    have ih := in_VD hx rx h.2 h2
    unfold inV hasD at ih ⊢
    rw [List.any_cons, List.any_cons, ih, eq_VD h.1 hx h1 rx]
theorem has_py {x : D} (hx : isData x = true) : ∀ {l : List D}, isDatas l = true → (toPys l).any (fun z => PyData.eqv z (toPy x)) = hasD x l
  | [], _ => by simp [toPys, hasD]
  | d :: l, h => by
    simp only [isDatas, Bool.and_eq_true] at h
    have ih := has_py hx h.2
    unfold hasD at ih ⊢
    rw [toPys, List.any_cons, List.any_cons, ih, deq_py d x h.1 hx]
def fHas (x y : D) : Option Bool := match y with
  | .str s => (match x with
    | .str [c] => some (s.contains c)
    | _ => none)
  | .tup l => if flatD x && l.all flatD then some (hasD x l) else none
  | .lst l => if flatD x && l.all flatD then some (hasD x l) else if okE x && okE (.lst l) then some (hasD x l) else none
  | _ => none
def fIn (x y : D) : Option D := (fHas x y).map fun b => .bl b
def fNotIn (x y : D) : Option D := (fHas x y).map fun b => .bl (!b)
theorem has_sq {A : Ad} {w : Wd} {x y : D} {b : Bool} {vx vy : V} (rx : Rep A w x vx) (ry : Rep A w y vy) (e : fHas x y = some b) :
    (∃ (c : Nat) (z : Str), vx = .str ⟨#[c]⟩ ∧ vy = .str z ∧ decide (c ∈ z.cps.toList) = b) ∨
    (∃ p xs, vy = .ref p ∧ (SqL A.K w.H p xs ∨ SqT A.K w.H p xs) ∧ flatV vx = true ∧ xs.all flatV = true ∧ inV vx xs = b) ∨
    (∃ d ds, Dp A.K w.H vx d ∧ Dp A.K w.H vy (.list ds) ∧ SeqAt.shaped d = true ∧ SeqAt.shaped (.list ds) = true ∧ (ds.any fun z => PyData.eqv z d) = b) := by
  unfold fHas at e
  split at e
  · split at e
    · rename_i s c
      cases e
      refine .inl ⟨c, _, rx.str.1, ry.str.1, ?_⟩
      simp [List.contains_eq_mem]
    · cases e
  · split at e
    · rename_i l h
      cases e
      simp only [Bool.and_eq_true] at h
      obtain ⟨p, vs, rfl, h1, h2⟩ := ry.tup
      exact .inr (.inl ⟨p, vs, rfl, .inr h1.seq, flat_V h.1 rx, flats_V h.2 h2, in_VD h.1 rx h.2 h2⟩)
    · cases e
  · split at e
    · rename_i l h
      cases e
      simp only [Bool.and_eq_true] at h
      obtain ⟨p, vs, rfl, h1, h2⟩ := ry.lst
      exact .inr (.inl ⟨p, vs, rfl, .inl h1.seq, flat_V h.1 rx, flats_V h.2 h2, in_VD h.1 rx h.2 h2⟩)
    · split at e
      · rename_i l _ h
        cases e
        simp only [Bool.and_eq_true] at h
        have ha := (Bool.and_eq_true_iff.mp h.1).1
        have hb := (Bool.and_eq_true_iff.mp h.2).1
        have hb2 : isDatas l = true := by simpa [isData] using hb
        refine .inr (.inr ⟨toPy x, toPys l, dp_py x ha rx, by have := dp_py _ hb ry; simpa [toPy] using this, okE_sh h.1 rx, by have := okE_sh h.2 ry; simpa [toPy] using this, has_py ha hb2⟩)
      · cases e
  · cases e
theorem Room.u65 {k : Nat} {A : Around} (r : Room k A) : A.units + 65 < cLine := by have := r.un; omega
def pIn : Cp2 where
  op := .In
  f := fIn
  imp {A k F X W} C := by
    refine ⟨_, op_inS.or (op_in_seq.or (op_inD (Room.u65 C.room))), fun w st a b x y d Q hs ra rb e q => ?_⟩
    unfold fIn at e
    simp only [Option.map_eq_some_iff] at e
    obtain ⟨b, e1, rfl⟩ := e
    have q' := q w _ (.refl w) hs (rep_bl b)
    rcases has_sq ra rb e1 with ⟨c, z, h1, h2, h3⟩ | ⟨p, xs, h1, h2, h3, h4, h5⟩ | ⟨d, ds, h1, h2, h3, h4, h5⟩
    · exact .inl ⟨c, z, h1, h2, by rw [h3]; exact q'⟩
    · exact .inr (.inl ⟨p, xs, h1, by rw [C.hK]; exact h2, h3, h4, by rw [h5]; exact q'⟩)
    · exact .inr (.inr ⟨d, ds, by rw [C.hK]; exact h1, by rw [C.hK]; exact h2, h3, h4, by rw [h5]; exact q'⟩)
def pNotIn : Cp2 where
  op := .NotIn
  f := fNotIn
  imp {A k F X W} C := by
    refine ⟨_, op_notInS.or (op_notIn_seq.or (op_notInD (Room.u65 C.room))), fun w st a b x y d Q hs ra rb e q => ?_⟩
    unfold fNotIn at e
    simp only [Option.map_eq_some_iff] at e
    obtain ⟨b, e1, rfl⟩ := e
    have q' := q w _ (.refl w) hs (rep_bl (!b))
    rcases has_sq ra rb e1 with ⟨c, z, h1, h2, h3⟩ | ⟨p, xs, h1, h2, h3, h4, h5⟩ | ⟨d, ds, h1, h2, h3, h4, h5⟩
    · exact .inl ⟨c, z, h1, h2, by rw [h3]; exact q'⟩
    · exact .inr (.inl ⟨p, xs, h1, by rw [C.hK]; exact h2, h3, h4, by rw [if_pos rfl, h5]; exact q'⟩)
    · exact .inr (.inr ⟨d, ds, by rw [C.hK]; exact h1, by rw [C.hK]; exact h2, h3, h4, by rw [h5]; exact q'⟩)

/-! ## isinstance -/
/-- what d is: a built-in type of tyL, a class of its own -/
abbrev Ty := Nat ⊕ Nat
def tyOf (st : Sto) : D → Option Ty
  | .non => some (.inl 0)
  | .bl _ => some (.inl 1)
  | .int _ => some (.inl 2)
  | .str _ => some (.inl 3)
  | .tup _ => some (.inl 4)
  | .lst _ => some (.inl 5)
  | .frl _ => some (.inl 5)
  | .dct _ _ => some (.inl 6)
  | .obj c _ => some (.inr c)
  | .loc n => (match st[n]? with
    | some (.lst _) => some (.inl 5)
    | some (.ins c _) => some (.inr c)
    | none => none)
  | _ => none
def isTy (x t : Ty) : Bool := decide (x = t) || (decide (x = .inl 1) && decide (t = .inl 2))
def tyV (A : Ad) : Ty → Value
  | .inl n => .type (tyN n)
  | .inr c => .ref (A.ca c)
def okTy (A : Ad) : Ty → Prop
  | .inl n => n < 7
  | .inr c => c ∈ A.I.cs
theorem ty_rep {A : Ad} {mg : Str → Option Value} (fa : Facts A mg) {w : Wd} {st : Sto} {d : D} {v : V} {t : Ty} (hs : SRel A w st) (r : Rep A w d v) (e : tyOf st d = some t) : TyX A.K w.H v (tyV A t) ∧ okTy A t := by
  have ins : ∀ (c : Nat) (p dx : Addr) (fs : List (Str × V)), c ∈ A.I.cs → w.H p = some (.ins (A.ca c) dx fs) → TyX A.K w.H (.ref p) (tyV A (.inr c)) ∧ okTy A (.inr c) := fun c p dx fs hc hp =>
    ⟨.base (.ins hp (fa.cl c hc).cl (fa.cl c hc).ka (fa.cl c hc).kn (fa.cl c hc).kt (fa.cl c hc).km), hc⟩
  cases d with
  | non => cases e; rw [r.non]; exact ⟨.base .non, (by decide : _ < 7)⟩
  | bl b => cases e; rw [r.bl]; exact ⟨.base (.bl b), (by decide : _ < 7)⟩
  | int i => cases e; rw [r.int]; exact ⟨.base (.int i), (by decide : _ < 7)⟩
  | str s => cases e; rw [r.str.1]; exact ⟨.base (.str _), (by decide : _ < 7)⟩
  | tup l =>
    cases e
    obtain ⟨a, vs, rfl, h1, _⟩ := r.tup
    refine ⟨?_, (by decide : _ < 7)⟩
    rcases h1.2 with ⟨_, h | ⟨o, h⟩⟩ | ⟨o, its, n, h1, h2, _⟩
    · exact .base (.tup h)
    · exact .fTuple h
    · exact .kTuple h1 h2
  | lst l =>
    cases e
    obtain ⟨a, vs, rfl, h1, _⟩ := r.lst
    exact ⟨.base (.lst h1.2.2), (by decide : _ < 7)⟩
  | frl l =>
    cases e
    obtain ⟨a, vs, rfl, h1, _⟩ := r.frl
    refine ⟨?_, (by decide : _ < 7)⟩
    rcases h1.2 with ⟨_, h | ⟨o, h⟩⟩ | ⟨o, its, n, h1, h2, _⟩
    · exact .base (.lst h)
    · exact .base (.frz h)
    · exact .kList h1 h2
  | dct ks l =>
    cases e
    obtain ⟨a, vs, o, rfl, _, h1, h2, _⟩ := r.dct
    refine ⟨?_, (by decide : _ < 7)⟩
    rcases h2 with ⟨kl, _, _, _, rfl⟩ | ⟨kl, _, _, _, rfl⟩
    · exact .base (.dK h1)
    · exact .base (.dT h1)
  | obj c l =>
    cases e
    obtain ⟨p, dx, vs, rfl, _, h0, hp, _⟩ := r.obj
    exact ins c p dx _ h0.1 hp
  | loc n =>
    obtain ⟨p, rfl, hm⟩ := r.loc
    unfold tyOf at e
    simp only at e
    split at e
    · rename_i l hl
      cases e
      obtain ⟨vs, h1, _⟩ := hs.ob n _ p hl hm
      exact ⟨.base (.lst h1), (by decide : _ < 7)⟩
    · rename_i c l hl
      cases e
      obtain ⟨dx, vs, h0, hp, _⟩ := hs.ob n _ p hl hm
      exact ins c p dx _ h0.1 hp
    · cases e
  | _ => cases e
theorem kit_bb : ∀ a < 7, ∀ b < 7, kitB (tyN a) (tyN b) = some (isTy (.inl a) (.inl b)) := by decide +kernel
theorem kit_ok {A : Ad} {mg : Str → Option Value} (fa : Facts A mg) {x t : Ty} (hx : okTy A x) (ht : okTy A t) : PySem.W.kitOne A.K (tyV A x) (tyV A t) = some (isTy x t) := by
  cases x with
  | inl n =>
    cases t with
    | inl m => exact kit_ty (kit_bb n hx m ht)
    | inr c => rw [show isTy (.inl n) (.inr c) = false by simp [isTy]]; exact ((fa.cl c ht).kb n hx).2.1
  | inr c =>
    cases t with
    | inl m => rw [show isTy (.inr c) (.inl m) = false by simp [isTy]]; exact ((fa.cl c hx).kb m ht).1
    | inr c' =>
      rw [show isTy (.inr c) (.inr c') = decide (c = c') by simp [isTy]]
      exact ((fa.cl c hx).kk c' ht).1
/-- the name of a built-in type, as blL has it -/
def tyB (n : Nat) : Nat := [99, 18, 7, 8, 6, 5, 15].getD n 99
/-- the class that is asked for -/
def tgB (I : Info) (sc : Scope) (t : Ty) (e : Expr) : Bool := match e, t with
  | .Name x _, .inl n => decide (0 < n) && decide (n < 7) && beqS x (blN (tyB n)) && I.bs.contains (tyB n) && glbB sc x
  | .Name x _, .inr c => beqS x (clN c) && I.cs.contains c && glbB sc x
  | _, _ => false
theorem ty_boot : ∀ n < 7, 0 < n → bootBuiltins (blN (tyB n)) = some (.type (tyN n)) ∧ okN (blN (tyB n)) = true := by decide +kernel
theorem tg_pe {A : Ad} {k : Nat} {F : FT} {X : Cx} {W : WX} (C : Ctx A k F X W) {t : Ty} {e : Expr} (h : tgB A.I X.env.scope t e = true) : ∃ c, PE X e (tC c) ∧ ClsV c (tyV A t) ∧ okTy A t ∧ notStar e = true := by
  unfold tgB at h
  split at h
  · simp only [Bool.and_eq_true, decide_eq_true_eq, List.contains_iff_mem] at h
    obtain ⟨⟨⟨⟨h0, h1⟩, h2⟩, h3⟩, h4⟩ := h
    have := beqS_eq h2
    subst this
    obtain ⟨b1, b2⟩ := ty_boot _ h1 h0
    exact ⟨.ty _, pe_bltn (glbB_ok h4) (C.facts.bl _ h3) b1 rfl (okN_n b2) (okN_d b2), .ty _, h1, rfl⟩
  · simp only [Bool.and_eq_true, List.contains_iff_mem] at h
    obtain ⟨⟨h2, h3⟩, h4⟩ := h
    have := beqS_eq h2
    subst this
    have f := C.facts.cl _ h3
    exact ⟨.ref _, pe_glob (glbB_ok h4) f.mg rfl (okN_d f.ok), .own _, h3, rfl⟩
  · cases h
theorem blN1 : blN 1 = ("isinstance" : Str) ∧ bootBuiltins (blN 1) = some (.builtin "isinstance") ∧ okN (blN 1) = true := by decide +kernel
def dIsi (t : Ty) (a : En → M D) : En → M D := bndE a fun d _ st => opt ((tyOf st d).map fun x => .bl (isTy x t)) st
/-- isinstance(a, T) -/
def cIsi (t : Ty) (a : BE) : BE where
  den F := dIsi t (a.den F)
  chk I N sc e := match e with
    | .Call (.Name x _) [e, T] [] _ => beqS x (blN 1) && I.bs.contains 1 && glbB sc x && notStar e && a.chk I N sc e && tgB I sc t T
    | _ => false
  snd {A k F X W} C e h := by
    split at h
    · rename_i x p e1 T pos
      simp only [Bool.and_eq_true, List.contains_iff_mem] at h
      obtain ⟨⟨⟨⟨⟨h1, h2⟩, h3⟩, h4⟩, h5⟩, h6⟩ := h
      have ex := beqS_eq h1
      subst ex
      obtain ⟨c, hT, hc, ht, hn⟩ := tg_pe C h6
      refine (pe_callB call_isi (glbB_ok h3) (C.facts.bl _ h2) blN1.2.1 (pa_cons (a.snd C h5) (pa_cons hT pa_nil (star_cons hn)) (by rw [star_cons h4, star_cons hn])) (okN_n blN1.2.2) (okN_d blN1.2.2) (star_cons h4) (star_any (by simp [hn]))).imp fun t' H Q q => ?_
      obtain ⟨w, r, st, rfl, hr, hs, hp⟩ := q
      refine step (R := RD A) (.refl w) hr hs hp fun w1 st1 d v hr1 hs1 e1 rv hp1 => ?_
      obtain ⟨d', e, hq⟩ := opt_post hp1
      simp only [Option.map_eq_some_iff] at e
      obtain ⟨x, e2, rfl⟩ := e
      obtain ⟨q1, q2⟩ := ty_rep C.facts hs1 rv e2
      refine ⟨v, c, tyV A x, tyV A t, isTy x t, rfl, hc, by rw [C.hK]; exact q1, by rw [C.hK]; exact kit_ok C.facts q2 ht, hq w1 _ e1 hs1 (rep_bl _)⟩
    · cases h
end Rf

set_option Elab.async false
set_option linter.all false
set_option maxRecDepth 100000
set_option maxHeartbeats 1000000
namespace Rf
open PySem L2

/-! ## a new instance -/
section
variable {A : Ad} {k : Nat} {F : FT} {X : Cx} {W : WX}
theorem calls_init (C : Ctx A k F X W) {i c : Nat} (hi : iniC i = some c) {w : Wd} {ds : List D} {st : Sto} {W' : XK} {Q : VK} (hp : PostG A (RF A) W' w Q (F i ds st)) :
    ∃ fd ps, FnOk X.prog X.w X.K X.mg X.base (L2.CX X.prog X.w) (2 * k) (A.fa i) fd ps (spI A c (F i)) ∧ Binds X.K fd ps [] ∧ KwOk X.K fd ps ∧ ps = paN i := by
  rcases C.calls i with h | h
  · rw [C.hK]
    unfold spX at h
    rw [hi] at h
    exact h
  · rw [h ds st] at hp; exact hp.elim
/-- the class at c, called with what stands -/
theorem make_run (C : Ctx A k F X W) {c : Nat} (hc : c ∈ A.I.cs) {w0 w : Wd} {ds : List D} {st : Sto} {vs : List V} {us : List Value} {t : St} {Q : VK} {pins : List (Addr × Obj)} {s : Shared}
    (I : Inv X pins t w.H s) (r : Vals vs us) (hs : SRel A w st) (rp : Reps A w ds vs) (e0 : Ext w0 w) (hp : PostG A (RF A) (fun c d H => W c d t H) w0 Q (F (iniF c) ds st)) :
    wpAny (model X.prog X.w) X.A (call (.ref (A.ca c)) us) (EP X pins t Q) X.xe s := by
  have cf := C.facts.cl c hc
  obtain ⟨fd, ps, F1, b1, _, _⟩ := calls_init C cf.ic hp
  have mk := cf.mkr
  rw [← C.hK] at mk
  have f1 := I.hok.fresh (Nat.le_succ s.heap.objs.size)
  have f0 := I.hok.fresh (Nat.le_refl s.heap.objs.size)
  have I2 := Inv.made (C := A.ca c) I
  have hq : spI A c (F (iniF c)) (.ref (s.heap.objs.size + 1) :: vs) (upd (upd w.H s.heap.objs.size (.own (s.heap.objs.size + 1))) (s.heap.objs.size + 1) (.ins (A.ca c) s.heap.objs.size []))
      (fun v H2 => v = .non ∧ Q (.ref (s.heap.objs.size + 1)) H2) (fun c d H => W c d t H) := by
    refine ⟨w, _, _, vs, ds, st, rfl, f1, f0, Nat.ne_of_lt (Nat.lt_succ_self _), rfl, hc, hs, rp, ?_⟩
    cases e : F (iniF c) ds st with
    | ok d st1 => rw [e] at hp; exact fun w' v ex sr rv ev => ⟨rfl, ev ▸ hp w' v (e0.trans ex) sr (rv.later e0)⟩
    | exc x st1 => rw [e] at hp; exact fun w' c dd ex sr rx => hp w' c dd (e0.trans ex) sr rx
    | bad => rw [e] at hp; exact hp
  have r2 : Vals (V.ref (s.heap.objs.size + 1) :: vs) (Value.ref (s.heap.objs.size + 1) :: us) := .cons rfl r
  have hl : (Value.ref (s.heap.objs.size + 1) :: us).length = ps.length := r2.length.symm.trans (F1.len _ _ _ _ hq)
  have hb := b1 _ (Value.ref (s.heap.objs.size + 1) :: us) I2.kIn (by rw [List.append_nil]; exact hl)
  rw [List.append_nil] at hb
  have run := F1.run _ X.stack _ _ ⟨Value.ref (s.heap.objs.size + 1) :: us, []⟩ _ _ _ _ (C.room.make (A.ca c) us []) (I2.env0.make (A.ca c) us []) hb r2 hq
  refine wpAny_call (make_map (f := A.fa (iniF c)) I.kIn mk.makes mk.init (beq_iff_eq.mp mk.fn) (codeAny_mono run fun o s' ho => ?_))
  cases o with
  | error z => exact C.pass t pins _ _ z s' I2 ho
  | ok fl =>
    cases fl with
    | ret u =>
      obtain ⟨v, H', I3, rv, ev, q3⟩ := I2.after ho
      subst ev
      exact ⟨rv, V.ref (s.heap.objs.size + 1), H', I3, rfl, q3⟩
    | next => cases ho
    | brk => cases ho
    | cont => cases ho
end
def dMk (c : Nat) (F : FT) (a : En → M (List D)) : En → M D := bndE a fun ds _ => F (iniF c) ds
/-- C(e, ..) -/
def fMk (c : Nat) (bs : List BE) : BF where
  den F := dMk c F (dns bs F)
  chk I N sc e := match e with
    | .Call (.Name x _) (e :: es) [] _ => beqS x (clN c) && I.cs.contains c && glbB sc x && okN x && chs I N sc bs (e :: es)
    | _ => false
  snd {A k F X W} C e h := by
    split at h
    · rename_i x p e es pos
      simp only [Bool.and_eq_true, List.contains_iff_mem] at h
      obtain ⟨⟨⟨⟨h1, h2⟩, h3⟩, h4⟩, h5⟩ := h
      have e1 := beqS_eq h1
      subst e1
      have cf := C.facts.cl c h2
      have hk' : PySem.W.keepIn X.K (.ref (A.ca c)) = true := by rw [C.hK]; exact cf.kf
      refine ⟨fun pins s t H Q I q => ?_⟩
      refine wpAny_Call_Name_kw (ld_glob I (glbB_ok h3) cf.mg ?_ (okN_d h4))
      obtain ⟨w, r, st, rfl, hr, hs, hp⟩ := q
      have st5 := chs_star h5
      have st6 := st5
      simp only [List.all_cons, Bool.and_eq_true] at st5
      refine PySem.W.callWith_K (h₀ := X.base) I.ok.mod.kin hk' ?_ (star_cons st5.1) (star_any st5.2)
      refine thn ((pa_of C h5).run pos pins s t w.H (fun vs H1 => ∃ w1 ds st1, w1.H = H1 ∧ SRel A w1 st1 ∧ Reps A w1 ds vs ∧ Ext w w1 ∧ PostG A (RF A) (fun c d H => W c d t H) w Q (F (iniF c) ds st1)) I ?_) ?_
      · exact step (.refl w) hr hs hp fun w1 st1 ds vs _ hs1 e1 rp hp1 => ⟨w1, ds, st1, rfl, hs1, rp, e1, hp1⟩
      · rintro us s1 ⟨vs, H1, I1, rv, w1, ds, st1, rfl, hs1, rp, e1, hp1⟩
        exact ⟨I1.kIn, make_run C h2 I1 rv hs1 rp e1 hp1⟩
    · cases h

/-! ## a new container that is kept in the store -/
def toSo : D → Option SO
  | .lst l => some (.lst l)
  | .obj c l => some (.ins c l)
  | _ => none
theorem toSo_eq {d : D} {o : SO} (h : toSo d = some o) : soD o = d := by
  cases d <;> cases h <;> rfl
def dSto (d : D) : M D := fun st => match toSo d with
  | some o => .ok (.loc st.length) (st ++ [o])
  | none => .bad
theorem sto_ok {A : Ad} {w w' : Wd} {st : Sto} {d : D} {v : V} {o : SO} (ex : Ext w w') (hs : SRel A w' st) (rf : RF A w w' d v) (e : toSo d = some o) :
    ∃ w'', w''.H = w'.H ∧ Ext w w'' ∧ SRel A w'' (st ++ [o]) ∧ Rep A w'' (.loc st.length) v := by
  obtain ⟨p, rfl, h1, h2, h3, h4⟩ := rf
  have hx : Le w' ⟨w'.mu ++ [p], w'.S, w'.H⟩ := ⟨fun n a q => by rw [List.getElem?_append_left (List.getElem?_eq_some_iff.mp q).1, q], fun a q => ⟨q, rfl⟩⟩
  refine ⟨⟨w'.mu ++ [p], w'.S, w'.H⟩, rfl, ?_, ⟨?_, ?_, ?_⟩, ?_⟩
  · obtain ⟨l, q1, q2⟩ := ex.mu
    refine ⟨⟨l ++ [p], by show w'.mu ++ [p] = _; rw [q1, List.append_assoc], fun a q => ?_⟩, ex.s, ex.sn, ex.keep, ex.trk⟩
    rcases List.mem_append.mp q with q | q
    · exact q2 a q
    · rw [List.mem_singleton.mp q]; exact h1
  · refine ⟨fun a q => ⟨(hs.wf.s a q).1, fun z => ?_⟩, fun a q => ?_, ?_⟩
    · rcases List.mem_append.mp z with z | z
      · exact (hs.wf.s a q).2 z
      · rw [List.mem_singleton.mp z] at q; exact h2 q
    · rcases List.mem_append.mp q with q | q
      · exact hs.wf.m a q
      · rw [List.mem_singleton.mp q]; exact h4.trk
    · show (w'.mu ++ [p]).Nodup
      refine List.nodup_append.mpr ⟨hs.wf.nd, by simp, fun a ha b hb e => ?_⟩
      rw [List.mem_singleton.mp hb] at e
      exact h3 (e ▸ ha)
  · show (w'.mu ++ [p]).length = _
    rw [List.length_append, List.length_append, hs.len]; rfl
  · intro n ob a g1 g2
    by_cases hn : n < st.length
    · rw [List.getElem?_append_left hn] at g1
      have hn' : n < w'.mu.length := by rw [hs.len]; exact hn
      have g2' : w'.mu[n]? = some a := by
        have : (w'.mu ++ [p])[n]? = some a := g2
        rwa [List.getElem?_append_left hn'] at this
      exact (hs.ob n ob a g1 g2').le hx rfl
    · rw [List.getElem?_append_right (by omega)] at g1
      have g2' : (w'.mu ++ [p])[n]? = some a := g2
      rw [List.getElem?_append_right (by rw [hs.len]; omega), hs.len] at g2'
      have h0 : n - st.length = 0 := by
        by_cases z : n - st.length = 0
        · exact z
        · rw [List.getElem?_eq_none (by simp; omega)] at g1; cases g1
      rw [h0] at g1 g2'
      simp at g1 g2'
      subst g1 g2'
      rw [toSo_eq e]
      exact h4.le hx rfl
  · unfold Rep
    exact ⟨p, rfl, by rw [← hs.len]; show (w'.mu ++ [p])[w'.mu.length]? = _; simp⟩
def BF.s (b : BF) : BE where
  den F := bndE (b.den F) fun d _ => dSto d
  chk := b.chk
  snd {A k F X W} C e h := (b.snd C h).imp fun t H Q q => by
    obtain ⟨w, r, st, rfl, hr, hs, hp⟩ := q
    refine step (R := RF A) (.refl w) hr hs hp fun w1 st1 d v hr1 hs1 e1 rv hp1 => ?_
    cases eo : toSo d with
    | none =>
      have e2 : dSto d st1 = .bad := by unfold dSto; rw [eo]
      rw [e2] at hp1
      exact hp1.elim
    | some o =>
      have e2 : dSto d st1 = .ok (.loc st1.length) (st1 ++ [o]) := by unfold dSto; rw [eo]
      rw [e2] at hp1
      obtain ⟨w2, g1, g2, g3, g4⟩ := sto_ok e1 hs1 rv eo
      rw [← g1]
      exact hp1 w2 v g2 g3 g4
end Rf

set_option Elab.async false
set_option linter.all false
set_option maxRecDepth 100000
set_option maxHeartbeats 1000000
namespace Rf
open PySem L2

/-! ## sorted(text) -/
section
open PyProof.Rows
theorem rising_pw : ∀ {r : List Nat} {c : Nat}, risingS ⟨#[c]⟩ (r.map fun c => (⟨#[c]⟩ : Str)) = true → (c :: r).Pairwise (· ≤ ·)
  | [], c, _ => by simp
  | d :: r, c, h => by
    have h' : (!Spec.ltCps [d] [c] && risingS ⟨#[d]⟩ (r.map fun c => (⟨#[c]⟩ : Str))) = true := h
    simp only [Bool.and_eq_true, Bool.not_eq_true'] at h'
    have ih := rising_pw h'.2
    have hd : c ≤ d := by
      have := h'.1
      rw [ltCps_eq] at this
      have h2 : ¬ ([d] < [c]) := of_decide_eq_false this
      rcases Nat.lt_or_ge d c with q | q
      · exact absurd (List.cons_lt_cons_iff.mpr (.inl q)) h2
      · exact q
    refine List.pairwise_cons.mpr ⟨fun x hx => ?_, ih⟩
    rcases List.mem_cons.mp hx with q | q
    · rw [q]; exact hd
    · exact Nat.le_trans hd (List.rel_of_pairwise_cons ih q)
theorem sorted_pw {l : List Nat} (h : sortedS (l.map fun c => (⟨#[c]⟩ : Str)) = true) : l.Pairwise (· ≤ ·) := by
  cases l with
  | nil => simp
  | cons c r => exact rising_pw h
theorem perm_signs {zs : List Str} {s : List Nat} (h : zs.Perm (s.map fun c => (⟨#[c]⟩ : Str))) : ∃ ys : List Nat, ys.Perm s ∧ zs = ys.map fun c => (⟨#[c]⟩ : Str) := by
  refine ⟨zs.map fun z => z.cps.toList.headD 0, ?_, ?_⟩
  · have := h.map fun z => z.cps.toList.headD 0
    rw [List.map_map] at this
    have e : ((fun z : Str => z.cps.toList.headD 0) ∘ fun c => (⟨#[c]⟩ : Str)) = id := by funext c; rfl
    rw [e, List.map_id] at this
    exact this
  · rw [List.map_map]
    refine (List.map_id zs).symm.trans (List.map_congr_left fun z hz => ?_)
    obtain ⟨c, _, rfl⟩ := List.mem_map.mp (h.mem_iff.mp hz)
    rfl
theorem strs_signs : ∀ {s : List Nat} {us : List Value}, us.length = s.length → (∀ (j : Nat) (u : Value), us[j]? = some u → ∃ c t, s[j]? = some c ∧ u = .str ⟨#[c]⟩ t) → StrsAre us (s.map fun c => (⟨#[c]⟩ : Str))
  | [], [], _, _ => .nil
  | c :: s, u :: us, hl, h => by
    obtain ⟨c', t, e1, e2⟩ := h 0 u rfl
    have : c = c' := Option.some.inj e1
    subst this
    subst e2
    exact .cons _ _ (strs_signs (by simpa using hl) fun j v e => by
      obtain ⟨c', t, a, b⟩ := h (j + 1) v (by simpa using e)
      exact ⟨c', t, by simpa using a, b⟩)
  | [], _ :: _, h, _ => by simp at h
  | _ :: _, [], h, _ => by simp at h
theorem call_sorted_txt {X : Cx} (hc : X.calm = true) : CallR X (.builtin "sorted") (fun xs H Q => ∃ s : List Nat, xs = [.str ⟨s.toArray⟩] ∧ s.length < 64 ∧
    ∀ ys : List Nat, ys.Perm s → ys.Pairwise (· ≤ ·) → ∀ p, H p = none → Q (.ref p) (upd H p (.lst (ys.map fun c => .str ⟨#[c]⟩)))) := by
  intro pins s σ H xs us Q I r h
  obtain ⟨z, rfl, hz, q⟩ := h
  obtain ⟨u, rfl, t, rfl⟩ := vals1 r
  have hsz : z.length ≤ sizeLine := by rw [sizeLine_eq]; omega
  refine Calls.call_function_entry kind_sorted plain_sorted entry_sorted (args_sorted1 _) ?_
  unfold Builtin.«sorted»
  refine wpAny_bind (m := checkCount "sorted" 1 1 _) (wpAny_pure ?_)
  refine wpAny_bind (wpAny_collect_str (A := X.A.in1) (s := s) (I.ok.hd hc) ⟨z.toArray⟩ t (fun s1 acc kp hg hd ho hi => ?_) (by simpa using hsz))
  have h0 : acc.size = z.length := by simpa using hi.1
  refine wpAny_bind (wpAny_newList ?_ (by simp [h0]; exact hsz))
  have hS : StrsAre acc.toList (z.map fun c => (⟨#[c]⟩ : Str)) := by
    refine strs_signs (by simpa using h0) fun j u e => ?_
    obtain ⟨c, t', h1, h2⟩ := hi.2 j u (by rw [← e, Array.getElem?_toList])
    exact ⟨c, t', by simpa using h1, h2⟩
  have e1 : s1 = { s with heap := s1.heap, toks := s1.toks } := by
    cases s1; cases s; simp at hg hd ho; subst hg hd ho; rfl
  have I1 : Inv X pins σ H s1 := by rw [e1]; exact I.kept kp
  have hoL : (s1.heap.push (seqObj "list" acc.toList.toArray 0)).get? s1.heap.objs.size = some (seqObj "list" acc.toList.toArray 0) := Heap.get?_push_size _ rfl
  refine wpAny_bind (wpAny_holding (wpAny_call_entry PyProof.Rows.slot_list_sort ⟨_, hoL, rfl⟩ PyProof.Rows.entry_list_sort
    (list_sort_treeK (s := { s1 with heap := s1.heap.push (seqObj "list" acc.toList.toArray 0) }) strKind_oneLt hoL hS.keysOf (fun v₁ v₂ rest e => keyKind_strs (by rw [← e]; exact hS)) (by simp [h0]; exact hz) fun st' hp hs => ⟨_, rfl, ?_⟩) (PyProof.Rows.args_list_sort _)))
  obtain ⟨zs, g1, g2, g3⟩ := sorted_out_str hS hp hs
  obtain ⟨ys, g4, rfl⟩ := perm_signs g2
  obtain ⟨ep, he'⟩ := PyProof.Rows.sortedHeap_at (vs := acc.toList) (out := (arrOf st').map (·.2)) hoL
  have fr := I1.hok.fresh (Nat.le_refl s1.heap.objs.size)
  refine wpAny_pure ⟨_, rfl, .ref s1.heap.objs.size, upd H s1.heap.objs.size (.lst (ys.map fun c => .str ⟨#[c]⟩)), I1.laid (t' := s1.toks) (fun b u hu => ?_) (Nat.le_refl _) ?_, rfl, q ys g4 (sorted_pw g3) _ fr⟩
  · rw [PyProof.Rows.sortedHeap_old (Nat.ne_of_lt (Heap.lt_size hu)) (by rw [size_push']; exact Nat.lt_succ_of_lt (Heap.lt_size hu))]
    exact Heap.get?_push_of_some _ hu
  · refine ⟨by rw [List.length_map, g4.length_eq]; exact hsz, ((arrOf st').map (·.2)).toList, ep, ?_, by rw [Array.toArray_toList]; exact he'⟩
    have := vals_of_strs g1
    rw [List.map_map] at this
    exact this
end
def sortN (s : List Nat) : List Nat := s.mergeSort fun a b => decide (a ≤ b)
theorem sortN_pw (s : List Nat) : (sortN s).Pairwise (· ≤ ·) := by
  have := List.pairwise_mergeSort (le := fun a b : Nat => decide (a ≤ b)) (fun a b c h1 h2 => by simp at *; omega) (fun a b => by simp; omega) s
  exact this.imp fun h => by simpa using h
theorem sortN_eq {ys s : List Nat} (h : ys.Perm s) (hp : ys.Pairwise (· ≤ ·)) : ys = sortN s :=
  List.Perm.eq_of_pairwise (le := (· ≤ ·)) (fun a b _ _ h1 h2 => Nat.le_antisymm h1 h2) hp (sortN_pw s) (h.trans (List.mergeSort_perm s _).symm)
def fSorted : List D → Option D
  | [.str s] => if s.length < 64 then some (.lst (signs (sortN s))) else none
  | _ => none
def bSorted : BiF where
  n := 13
  tv := .builtin "sorted"
  f := keepSt fSorted
  tgt := .b _ rfl
  boot := by decide +kernel
  ok := by decide +kernel
  imp {A k F X W} C := by
    refine ⟨_, call_sorted_txt C.calm, .keep fun w st l xs d Q hs rp e q => ?_⟩
    unfold fSorted at e
    split at e
    · split at e
      · rename_i s h64
        cases e
        obtain ⟨v, rfl, h⟩ := rp.one'
        obtain ⟨rfl, g⟩ := h.str
        refine ⟨s, rfl, h64, fun ys hp hw p hpn => ?_⟩
        rw [sortN_eq hp hw]
        have hm : ∀ c ∈ sortN s, c < 1114112 := fun c hc => g.2 c ((List.mergeSort_perm s _).mem_iff.mp hc)
        have hl : (sortN s).length = s.length := List.length_mergeSort s
        exact q (w.raw p _) (.ref p) (ext_raw hpn) (hs.raw hpn) (top_lst hs.wf hpn (by rw [List.length_map, hl]; exact g.1) (reps_signs hm))
      · cases e
    · cases e

/-! ## methods of texts -/
theorem spl_mem (S : List Nat) : ∀ (l : List Nat) (k : Nat) (acc p : List Nat), p ∈ TL.spl S k acc l → p.length ≤ acc.length + l.length ∧ ∀ c ∈ p, c ∈ acc ∨ c ∈ l
  | [], k, acc, p, h => by
    rw [TL.spl_nil, List.mem_singleton] at h
    subst h
    exact ⟨by simp, fun c hc => .inl hc⟩
  | x :: r, 0, acc, p, h => by
    cases hp : TL.pre S (x :: r) with
    | true =>
      rw [TL.spl_hit hp] at h
      rcases List.mem_cons.mp h with rfl | h
      · exact ⟨by simp, fun c hc => .inl hc⟩
      · obtain ⟨h1, h2⟩ := spl_mem S r _ [] p h
        refine ⟨by simp at h1 ⊢; omega, fun c hc => ?_⟩
        rcases h2 c hc with q | q
        · cases q
        · exact .inr (List.mem_cons_of_mem _ q)
    | false =>
      rw [TL.spl_miss hp] at h
      obtain ⟨h1, h2⟩ := spl_mem S r _ _ p h
      refine ⟨by simp at h1 ⊢; omega, fun c hc => ?_⟩
      rcases h2 c hc with q | q
      · rcases List.mem_append.mp q with q | q
        · exact .inl q
        · rw [List.mem_singleton.mp q]; exact .inr (List.mem_cons_self ..)
      · exact .inr (List.mem_cons_of_mem _ q)
  | x :: r, k + 1, acc, p, h => by
    have h' : p ∈ TL.spl S k acc r := h
    obtain ⟨h1, h2⟩ := spl_mem S r _ _ p h'
    refine ⟨by simp; omega, fun c hc => ?_⟩
    rcases h2 c hc with q | q
    · exact .inl q
    · exact .inr (List.mem_cons_of_mem _ q)
def fSplit (x y : D) : Option D := match x, y with
  | .str s, .str p => if !p.isEmpty && p.all (fun c => decide (c < 256)) && decide (s.length + 2 ≤ sizeLine) && decide ((TL.spl p 0 [] s).length ≤ sizeLine) then some (.lst ((TL.spl p 0 [] s).map .str)) else none
  | _, _ => none
theorem reps_strs {A : Ad} {w : Wd} : ∀ {zs : List Str}, (∀ z ∈ zs, StrOk z.cps.toList) → Reps A w ((zs.map fun z => z.cps.toList).map .str) (zs.map V.str)
  | [], _ => .nil
  | z :: zs, h => .cons (by have := rep_str (A := A) (w := w) (h z (List.mem_cons_self ..)); simpa using this) (reps_strs fun y hy => h y (List.mem_cons_of_mem _ hy))
def isStr : D → Bool
  | .str _ => true
  | _ => false
/-- the receiver is looked at first -/
def denM (ok : D → Bool) (f : D → D → Option D) (a b : En → M D) : En → M D := bndE a fun x => if ok x then bndE b fun y _ => opt (f x y) else fun _ _ => .bad
/-- x.split(y) -/
def fSpl (a : BE) (b : BE) : BF where
  den F := denM isStr fSplit (a.den F) (b.den F)
  chk I N sc e := match methB "split" e with
    | some (o, x) => a.chk I N sc o && b.chk I N sc x
    | none => false
  snd {A k F X W} C e h := by
    split at h
    · rename_i o x hm
      obtain ⟨apos, pos, rfl, hl, hs, hn⟩ := methB_ok hm
      simp only [Bool.and_eq_true] at h
      refine (pe_m PySem.F.plainAttrs_str PySem.F.slot_str_split PySem.F.type_str_split mt_split (a.snd C h.1) (pa_cons (b.snd C h.2) pa_nil (star_cons hn)) hs hn hl).imp fun t H Q q => ?_
      obtain ⟨w, r, st, rfl, hr, hs, hp⟩ := q
      refine step (R := RD A) (.refl w) hr hs hp fun w1 st1 x vx hr1 hs1 e1 rx hp1 => ?_
      cases x with
      | str s =>
        obtain ⟨rfl, g⟩ := rx.str
        refine ⟨rfl, ?_⟩
        have hp1' : PostG A (RF A) (fun c d H => W c d t H) w Q (bndE (b.den F) (fun y _ => opt (fSplit (.str s) y)) r st1) := hp1
        refine step (R := RD A) e1 hr1 hs1 hp1' fun w2 st2 y vy hr2 hs2 e2 ry hp2 => ?_
        obtain ⟨d, e, hq⟩ := opt_post hp2
        cases y with
        | str p =>
          unfold fSplit at e
          simp only at e
          split at e
          · rename_i hc
            cases e
            simp only [Bool.and_eq_true, decide_eq_true_eq, Bool.not_eq_true', List.isEmpty_eq_false_iff] at hc
            obtain ⟨⟨⟨c1, c2⟩, c3⟩, c4⟩ := hc
            obtain ⟨rfl, g'⟩ := ry.str
            have hk : ¬ Builtin.Str.strKind ⟨s.toArray⟩ < Builtin.Str.strKind ⟨p.toArray⟩ := TL.kind_ok (by simpa using c2)
            have es := TL.split_spl ⟨s.toArray⟩ ⟨p.toArray⟩ c1 hk
            refine ⟨_, _, rfl, rfl, by rw [str_len]; simpa using c1, by rw [str_len]; exact c3, fun a ha => ?_⟩
            have es2 : (Txt.split ⟨s.toArray⟩ ⟨p.toArray⟩).map (fun z => z.cps.toList) = TL.spl p 0 [] s := es
            rw [← es2] at hq c4
            rw [List.length_map] at c4
            have hz : ∀ z ∈ Txt.split ⟨s.toArray⟩ ⟨p.toArray⟩, StrOk z.cps.toList := fun z hz => by
              have : z.cps.toList ∈ TL.spl p 0 [] s := by rw [← es2]; exact List.mem_map_of_mem hz
              obtain ⟨m1, m2⟩ := spl_mem p s 0 [] _ this
              refine ⟨by rw [List.length_nil] at m1; omega, fun c hc => ?_⟩
              rcases m2 c hc with q | q
              · cases q
              · exact g.2 c q
            exact hq (w2.raw a _) (.ref a) ((e1.trans e2).trans (ext_raw ha)) (hs2.raw ha) ((top_lst hs2.wf ha (by rw [List.length_map]; exact c4) (reps_strs hz)).later (e1.trans e2))
          · cases e
        | _ => cases e
      | _ => exact hp1.elim
    · cases h
/-- the texts of a list -/
def getSs : List D → Option (List (List Nat))
  | [] => some []
  | .str b :: r => (getSs r).map (b :: ·)
  | _ :: _ => none
theorem getSs_eq : ∀ {l : List D} {zs : List (List Nat)}, getSs l = some zs → l = zs.map .str
  | [], _, e => by cases e; rfl
  | d :: r, zs, e => by
    cases d <;> first | (cases e; done) | skip
    simp only [getSs, Option.map_eq_some_iff] at e
    obtain ⟨bs, e1, rfl⟩ := e
    rw [getSs_eq e1]; rfl
theorem reps_getSs {A : Ad} {w : Wd} : ∀ {zs : List (List Nat)} {vs : List V}, Reps A w (zs.map .str) vs → vs = (zs.map fun z => (⟨z.toArray⟩ : Str)).map V.str ∧ ∀ z ∈ zs, StrOk z
  | [], _, h => by simp only [List.map_nil, Reps] at h; rw [h]; exact ⟨rfl, fun _ q => by cases q⟩
  | z :: zs, _, h => by
    simp only [List.map_cons, Reps] at h
    obtain ⟨v, r, rfl, h1, h2⟩ := h
    obtain ⟨g1, g2⟩ := reps_getSs h2
    obtain ⟨g3, g4⟩ := h1.str
    refine ⟨by rw [g1, g3]; rfl, fun y hy => ?_⟩
    rcases List.mem_cons.mp hy with q | q
    · rw [q]; exact g4
    · exact g2 y q
theorem join_len (S : List Nat) : ∀ zs : List (List Nat), (TL.joinL S zs).length ≤ (zs.map (·.length)).sum + zs.length * S.length
  | [] => by simp [TL.joinL]
  | [p] => by simp [TL.joinL]
  | p :: q :: r => by
    have ih := join_len S (q :: r)
    show (p ++ (S ++ TL.joinL S (q :: r))).length ≤ _
    rw [List.length_append, List.length_append, List.map_cons, List.sum_cons, List.length_cons, Nat.succ_mul]
    omega
theorem join_mem (S : List Nat) : ∀ zs : List (List Nat), ∀ c ∈ TL.joinL S zs, c ∈ S ∨ ∃ z ∈ zs, c ∈ z
  | [], c, h => by cases h
  | [p], c, h => .inr ⟨p, List.mem_cons_self .., h⟩
  | p :: q :: r, c, h => by
    have h' : c ∈ p ++ (S ++ TL.joinL S (q :: r)) := h
    rcases List.mem_append.mp h' with z | z
    · exact .inr ⟨p, List.mem_cons_self .., z⟩
    · rcases List.mem_append.mp z with z | z
      · exact .inl z
      · rcases join_mem S (q :: r) c z with y | ⟨x, y1, y2⟩
        · exact .inl y
        · exact .inr ⟨x, List.mem_cons_of_mem _ y1, y2⟩
def joinB (p : List Nat) (zs : List (List Nat)) : Bool := decide ((zs.map (·.length)).sum + zs.length * p.length ≤ 16777216)
def itemsJ : D → Option (List D)
  | .lst l => some l
  | .tup l => some l
  | .frl l => some l
  | _ => none
def fJoin (x y : D) : Option D := match x with
  | .str p => (itemsJ y).bind fun l => (getSs l).bind fun zs => if joinB p zs then some (.str (TL.joinL p zs)) else none
  | _ => none
/-- x.join(y) -/
def cJoin (a : BE) (b : BP) : BE where
  den F := denM isStr fJoin (a.den F) (b.den F)
  chk I N sc e := match methB "join" e with
    | some (o, x) => a.chk I N sc o && b.chk I N sc x
    | none => false
  snd {A k F X W} C e h := by
    split at h
    · rename_i o x hm
      obtain ⟨apos, pos, rfl, hl, hs, hn⟩ := methB_ok hm
      simp only [Bool.and_eq_true] at h
      refine (pe_m PySem.F.plainAttrs_str PySem.F.slot_str_join PySem.F.type_str_join mt_join (a.snd C h.1) (pa_cons (b.snd C h.2) pa_nil (star_cons hn)) hs hn hl).imp fun t H Q q => ?_
      obtain ⟨w, r, st, rfl, hr, hs, hp⟩ := q
      refine step (R := RD A) (.refl w) hr hs hp fun w1 st1 x vx hr1 hs1 e1 rx hp1 => ?_
      cases x with
      | str s =>
        obtain ⟨rfl, g⟩ := rx.str
        refine ⟨rfl, ?_⟩
        have hp1' : PostG A (RD A) (fun c d H => W c d t H) w Q (bndE (b.den F) (fun y _ => opt (fJoin (.str s) y)) r st1) := hp1
        refine step (R := RDP A) e1 hr1 hs1 hp1' fun w2 st2 y vy hr2 hs2 e2 ry hp2 => ?_
        obtain ⟨d, e, hq⟩ := opt_post hp2
        have key : ∀ (l : List D) (p : Addr) (vs : List V), itemsJ y = some l → vy = .ref p → (SqL X.K w2.H p vs ∨ SqT X.K w2.H p vs) → Reps A w2 l vs → ∃ a p, ∃ ys : List Str, V.str ⟨s.toArray⟩ = .str a ∧ [vy] = [.ref p] ∧ (SqL X.K w2.H p (ys.map V.str) ∨ SqT X.K w2.H p (ys.map V.str)) ∧
            (ys.map (·.length)).sum + ys.length * a.length ≤ 16777216 ∧ Q (.str (Txt.join a ys)) w2.H := by
          intro l p vs ei ev hsq hv
          unfold fJoin at e
          simp only [ei, Option.bind_some, Option.bind_eq_some_iff] at e
          obtain ⟨zs, e3, e4⟩ := e
          split at e4
          · rename_i hj
            cases e4
            rw [getSs_eq e3] at hv
            obtain ⟨g1, g2⟩ := reps_getSs hv
            subst g1 ev
            have hb : (zs.map (·.length)).sum + zs.length * s.length ≤ 16777216 := of_decide_eq_true hj
            have el : ((zs.map fun z => (⟨z.toArray⟩ : Str)).map (·.length)) = zs.map (·.length) := by rw [List.map_map]; exact List.map_congr_left fun z _ => str_len z
            refine ⟨_, p, _, rfl, rfl, hsq, by rw [el, List.length_map, str_len]; exact hb, ?_⟩
            have ej : Txt.join ⟨s.toArray⟩ (zs.map fun z => (⟨z.toArray⟩ : Str)) = ⟨(TL.joinL s zs).toArray⟩ := by
              rw [TL.join_eq]
              refine TL.ext_tl ?_
              rw [TL.tl_join, List.map_map, TL.tl_mk]
              have : (zs.map (TL.tl ∘ fun z => (⟨z.toArray⟩ : Str))) = zs := by
                refine (List.map_congr_left fun z _ => ?_).trans (List.map_id zs)
                rfl
              rw [this]
            rw [ej]
            refine hq w2 _ (e1.trans e2) hs2 (rep_str ⟨?_, fun c hc => ?_⟩)
            · have := join_len s zs
              rw [sizeLine_eq]; omega
            · rcases join_mem s zs c hc with q | ⟨z, q1, q2⟩
              · exact g.2 c q
              · exact (g2 z q1).2 c q2
          · cases e4
        cases y with
        | lst l =>
          obtain ⟨p, vs, h1, h2, h3⟩ := ry.lst
          exact key l p vs rfl h1 (.inl (by rw [C.hK]; exact h2.seq)) h3
        | tup l =>
          obtain ⟨p, vs, h1, h2, h3⟩ := ry.tup
          exact key l p vs rfl h1 (.inr (by rw [C.hK]; exact h2.seq)) h3
        | frl l =>
          obtain ⟨p, vs, h1, h2, h3⟩ := ry.frl
          exact key l p vs rfl h1 (.inl (by rw [C.hK]; exact h2.seq)) h3
        | _ => cases e
      | _ => exact hp1.elim
    · cases h
end Rf

set_option Elab.async false
set_option linter.all false
set_option maxRecDepth 100000
set_option maxHeartbeats 1000000
namespace Rf
open PySem L2

/-! ## the store is changed -/
theorem nodup_at {l : List Addr} (h : l.Nodup) {i j : Nat} {a : Addr} (hi : l[i]? = some a) (hj : l[j]? = some a) : i = j := by
  have hp := List.pairwise_iff_getElem.mp h
  obtain ⟨i1, i2⟩ := List.getElem?_eq_some_iff.mp hi
  obtain ⟨j1, j2⟩ := List.getElem?_eq_some_iff.mp hj
  rcases Nat.lt_trichotomy i j with q | q | q
  · exact absurd (i2.trans j2.symm) (hp i j i1 j1 q)
  · exact q
  · exact absurd (j2.trans i2.symm) (hp j i j1 i1 q)
theorem put_mu {A : Ad} {w : Wd} {st : Sto} {n : Nat} {a : Addr} {o : HO} {ob : SO} (hs : SRel A w st) (hm : w.mu[n]? = some a) (hT : Top A (w.raw a o) (soD ob) a) :
    Ext w (w.raw a o) ∧ Le w (w.raw a o) ∧ SRel A (w.raw a o) (st.set n ob) := by
  have ha : a ∈ w.mu := List.mem_of_getElem? hm
  have nS : ¬ w.S a := fun q => (hs.wf.s a q).2 ha
  refine ⟨⟨⟨[], by simp [Wd.raw], by simp⟩, fun _ h => h, fun _ h => .inl h, fun b _ hb => upd_ne fun e => hb (e ▸ ha), fun _ h => upd_trk h⟩, le_put nS, ⟨⟨fun b q => ⟨upd_trk (hs.wf.s b q).1, (hs.wf.s b q).2⟩, fun b q => upd_trk (hs.wf.m b q), hs.wf.nd⟩, by rw [List.length_set]; exact hs.len, fun m ob' b g1 g2 => ?_⟩⟩
  have g2' : w.mu[m]? = some b := g2
  by_cases e : n = m
  · subst e
    have hn : n < st.length := by rw [← hs.len]; exact (List.getElem?_eq_some_iff.mp hm).1
    rw [List.getElem?_set_self hn] at g1
    cases g1
    rw [hm] at g2'
    cases g2'
    exact hT
  · rw [List.getElem?_set_ne e] at g1
    refine (hs.ob m ob' b g1 g2').le (le_put nS) (upd_ne fun z => e ?_)
    subst z
    exact nodup_at hs.wf.nd hm g2'

/-! ## targets that change things -/
def PostT (A : Ad) (W : WX) (w0 : W0) (w : Wd) (Q : St → Hp → Prop) : Out En → Prop
  | .ok r st => ∀ w' t, Le w w' → FR A w0 w' r t st → Q t w'.H
  | .exc x st => ∀ w' t cls dd, Ext w0.w w' → SRel A w' st → RepX A w' x cls dd → W cls dd t w'.H
  | .bad => False
abbrev MT := D → En → M En
def TGX (A : Ad) (w0 : W0) (W : WX) (set : MT) : TG := fun v t H Q => ∃ (w : Wd) (r : En) (st : Sto) (d : D), w.H = H ∧ FR A w0 w r t st ∧ Rep A w d v ∧ PostT A W w0 w Q (set d r st)
structure BGX where
  set : FT → MT
  chk : Info → List Str → Scope → Expr → Bool
  snd : ∀ {A : Ad} {k : Nat} {F : FT} {X : Cx} {W : WX}, CtxS A k F X W → ∀ {e : Expr}, chk A.I X.N X.env.scope e = true → ∀ w0, PG X e (TGX A w0 W (set F))
section
variable {A : Ad} {k : Nat} {F : FT} {X : Cx} {W : WX} {w0 : W0} {t : St} {Q : St → Hp → Prop}
theorem PostT.later {w w1 : Wd} {o : Out En} (h : PostT A W w0 w Q o) (l : Le w w1) : PostT A W w0 w1 Q o := by
  cases o with
  | ok r st => exact fun w' t l' fr => h w' t (l.trans l') fr
  | exc x st => exact h
  | bad => exact h
/-- an expression within a target -/
theorem stepT {α β : Type} {R : Wd → Wd → α → β → Prop} {m : En → M α} {f : α → M En} {w : Wd} {r : En} {st : Sto} {Q1 : β → Hp → Prop} (fr : FR A w0 w r t st) (hp : PostT A W w0 w Q (bnd (m r) f st))
    (k : ∀ (w' : Wd) (st' : Sto) (a : α) (b : β), FR A w0 w' r t st' → Ext w w' → R w w' a b → Le w w' → PostT A W w0 w' Q (f a st') → Q1 b w'.H) : LG A R W m t w.H Q1 := by
  refine ⟨w, r, st, rfl, fr.env, fr.sr, ?_⟩
  unfold bnd at hp
  cases e : m r st with
  | ok a st1 =>
    rw [e] at hp
    exact fun w' v ex sr rp => k w' st1 a v (fr.mono ex sr) ex rp (ex.le fr.sr.wf) (hp.later (ex.le fr.sr.wf))
  | exc x st1 => rw [e] at hp; exact fun w' c dd ex sr rp => hp w' t c dd (fr.ex.trans ex) sr rp
  | bad => rw [e] at hp; exact hp
theorem postT_opt {α : Type} {o : Option α} {f : α → M En} {w : Wd} {st : Sto} (hp : PostT A W w0 w Q (bnd (opt o) f st)) : ∃ a, o = some a ∧ PostT A W w0 w Q (f a st) := by
  cases o with
  | none => exact hp.elim
  | some a => exact ⟨a, rfl, hp⟩
end
/-- a target without effects -/
def BG.x (g : BG) : BGX where
  set _ d r := opt (g.set d r)
  chk _ N sc e := g.chk N sc e
  snd {A k F X W} C e h w0 := (g.snd C.c.hK C.c.nd C.c.calm h).imp fun v t H Q q => by
    obtain ⟨w, r, st, d, rfl, fr, rv, hp⟩ := q
    have hp : PostT A W w0 w Q (opt (g.set d r) st) := hp
    cases es : g.set d r with
    | none => rw [es] at hp; exact hp.elim
    | some r' => rw [es] at hp; exact ⟨w, r, r', d, rfl, fr.env, rv, es, fun t' ht' ho => hp w t' (.refl w) (fr.tgt es ht' ho)⟩
/-- one item of a list that stands in the store -/
def setL (d x y : D) : M Unit := fun st => match x, y with
  | .loc n, .int i => (match st[n]? with
    | some (.lst l) => (match ixN l.length i with
      | some j => .ok () (st.set n (.lst (l.set j d)))
      | none => .bad)
    | _ => .bad)
  | _, _ => .bad
def gIx (a b : BE) : BGX where
  set F d r := bnd (a.den F r) fun x => bnd (b.den F r) fun y => bnd (setL d x y) fun _ => ret r
  chk I N sc e := match e with
    | .Subscript x y _ => plainI y && a.chk I N sc x && b.chk I N sc y
    | _ => false
  snd {A k F X W} C e h w0 := by
    split at h
    · rename_i o i pos
      simp only [Bool.and_eq_true] at h
      refine (pg_sub (a.snd C.c h.1.2) (b.snd C.c h.2) set_list (fun v => by cases i <;> first | rfl | cases h.1.1)).imp fun v t H Q q => ?_
      obtain ⟨w, r, st, d, rfl, fr, rv, hp⟩ := q
      refine stepT (R := RD A) fr hp fun w1 st1 x vx fr1 e1 rx _ hp1 => ?_
      refine stepT (R := RD A) fr1 hp1 fun w2 st2 y vy fr2 e2 ry _ hp2 => ?_
      have rx2 := rx.mono fr1.sr.wf e2
      have rv2 := (rv.mono fr.sr.wf e1).mono fr1.sr.wf e2
      unfold bnd setL at hp2
      split at hp2
      · rename_i u st3 hst
        split at hst
        · rename_i n i
          split at hst
          · rename_i l hl
            split at hst
            · rename_i j hj
              cases hst
              obtain ⟨p, rfl, hm⟩ := rx2.loc
              obtain ⟨vs, g1, g2, g3⟩ := fr2.sr.ob n _ p hl hm
              rw [ry.int]
              have hl2 := g3.length
              refine ⟨p, vs, i, j, rfl, rfl, g1, by rw [hl2]; exact hj, ?_⟩
              have nS : ¬ w2.S p := fun q => (fr2.sr.wf.s p q).2 (List.mem_of_getElem? hm)
              obtain ⟨q1, q2, q3⟩ := put_mu (o := .lst (vs.set j v)) (ob := .lst (l.set j d)) fr2.sr hm ⟨_, upd_same, by rw [List.length_set]; exact g2, (Reps.set rv2 j g3).le (le_put nS)⟩
              exact hp2 (w2.raw p _) t q2 (fr2.mono q1 q3)
            · cases hst
          · cases hst
        · cases hst
      · rename_i hst
        split at hst
        · split at hst
          · split at hst <;> cases hst
          · cases hst
        · cases hst
      · exact hp2.elim
    · cases h
/-- one item of a list that a slot owns -/
def gOwn (i : Nat) (b : BE) : BGX where
  set F d r := bnd (opt (ownL r i)) fun l => bnd (b.den F r) fun y => bnd (opt (match y with
    | .int k => (ixN l.length k).map fun j => l.set j d
    | _ => none)) fun l' => ret (r.set i (.own (.lst l')))
  chk I N sc e := match e with
    | .Subscript x y _ => plainI y && varB N sc i x && b.chk I N sc y
    | _ => false
  snd {A k F X W} C e h w0 := by
    split at h
    · rename_i o ix pos
      simp only [Bool.and_eq_true] at h
      obtain ⟨hv, _, _⟩ := varB_ok h.1.2
      refine (pg_sub hv (b.snd C.c h.2) set_list (fun v => by cases ix <;> first | rfl | cases h.1.1)).imp fun v t H Q q => ?_
      obtain ⟨w, r, st, d, rfl, fr, rv, hp⟩ := q
      obtain ⟨l, eo, hp⟩ := postT_opt hp
      have er := ownL_eq eo
      obtain ⟨a0, ht, nS, nM, ⟨vs, hd, hz, hvs⟩, h0⟩ := fr.own er
      refine ⟨_, ht, ?_⟩
      refine stepT (R := RD A) fr hp fun w1 st1 y vy fr1 e1 ry l1 hp1 => ?_
      obtain ⟨l', el, hp2⟩ := postT_opt hp1
      split at el
      · rename_i kk
        simp only [Option.map_eq_some_iff] at el
        obtain ⟨j, hj, rfl⟩ := el
        have hd1 : w1.H a0 = some (.lst vs) := (e1.keep a0 (by rw [hd]; simp) nM).trans hd
        obtain ⟨_, ht1, nS1, nM1, _, _⟩ := fr1.own er
        rw [ht] at ht1
        cases ht1
        have hl2 := hvs.length
        rw [ry.int]
        refine ⟨a0, vs, kk, j, rfl, rfl, hd1, by rw [hl2]; exact hj, hp2 (w1.raw a0 _) t (le_put nS1) (fr1.putOwn er ht ⟨_, upd_same, by rw [List.length_set]; exact hz, ?_⟩)⟩
        exact (Reps.set (rv.mono fr.sr.wf e1) j (hvs.mono fr.sr.wf e1)).le (le_put nS1)
      · cases el
    · cases h
/-- several, one after another -/
def setXs (F : FT) : List BGX → List D → En → M En
  | [], [], r => ret r
  | g :: gs, d :: ds, r => bnd (g.set F d r) fun r' => setXs F gs ds r'
  | _, _, _ => fun _ => .bad
def chgX (I : Info) (N : List Str) (sc : Scope) : List BGX → List Expr → Bool
  | [], [] => true
  | g :: gs, e :: es => notStar e && g.chk I N sc e && chgX I N sc gs es
  | _, _ => false
abbrev TGsX (A : Ad) (w0 : W0) (W : WX) (F : FT) (gs : List BGX) : TGs := fun vs t H Q => ∃ (w : Wd) (r : En) (st : Sto) (ds : List D), w.H = H ∧ FR A w0 w r t st ∧ Reps A w ds vs ∧ PostT A W w0 w Q (setXs F gs ds r st)
theorem pgs_ofX {A : Ad} {k : Nat} {F : FT} {X : Cx} {W : WX} (C : CtxS A k F X W) (w0 : W0) : ∀ {gs : List BGX} {es : List Expr}, chgX A.I X.N X.env.scope gs es = true → PGs X es (TGsX A w0 W F gs)
  | [], [], _ => pgs_nil.imp fun v t H Q q => by
    obtain ⟨w, r, st, ds, rfl, fr, hv, hp⟩ := q
    cases ds with
    | nil =>
      simp only [Reps] at hv
      exact ⟨hv, hp w t (.refl w) fr⟩
    | cons _ _ => exact hp.elim
  | [], _ :: _, h => by cases h
  | _ :: _, [], h => by cases h
  | g :: gs, e :: es, h => by
    simp only [chgX, Bool.and_eq_true] at h
    refine (pgs_cons (g.snd C h.1.2 w0) (pgs_ofX C w0 h.2) (by rw [as_cons h.1.1]; rfl)).imp fun v t H Q q => ?_
    obtain ⟨w, r, st, ds, rfl, fr, hv, hp⟩ := q
    cases ds with
    | nil => exact hp.elim
    | cons d ds =>
      simp only [Reps] at hv
      obtain ⟨u, us, rfl, h1, h2⟩ := hv
      refine ⟨u, us, rfl, w, r, st, d, rfl, fr, h1, ?_⟩
      have hp' : PostT A W w0 w Q (bnd (g.set F d r) (fun r' => setXs F gs ds r') st) := hp
      unfold bnd at hp'
      cases es : g.set F d r st with
      | ok r' st1 =>
        rw [es] at hp'
        exact fun w1 t1 l1 fr1 => ⟨w1, r', st1, ds, rfl, fr1, h2.le l1, hp'.later l1⟩
      | exc x st1 => rw [es] at hp'; exact hp'
      | bad => rw [es] at hp'; exact hp'
theorem chgX_star {I : Info} {N : List Str} {sc : Scope} : ∀ {gs : List BGX} {es : List Expr}, chgX I N sc gs es = true → es.all notStar = true ∧ es.length = gs.length
  | [], [], _ => ⟨rfl, rfl⟩
  | [], _ :: _, h => by cases h
  | _ :: _, [], h => by cases h
  | g :: gs, e :: es, h => by
    simp only [chgX, Bool.and_eq_true] at h
    obtain ⟨h1, h2⟩ := chgX_star h.2
    exact ⟨by simp [h.1.1, h1], by simp [h2]⟩
def gTpX (gs : List BGX) : BGX where
  set F d r := match d with
    | .tup l => if l.length = gs.length then setXs F gs l r else fun _ => .bad
    | _ => fun _ => .bad
  chk I N sc e := match e with
    | .Tuple es _ _ => chgX I N sc gs es
    | _ => false
  snd {A k F X W} C e h w0 := by
    split at h
    · rename_i es k pos
      obtain ⟨h1, h2⟩ := chgX_star h
      refine (pg_tup C.c.calm (pgs_ofX C w0 h) (n := es.length) as_len (as_star h1)).imp fun v t H Q q => ?_
      obtain ⟨w, r, st, d, rfl, fr, hv, hp⟩ := q
      cases d with
      | tup l =>
        have hp : PostT A W w0 w Q ((if l.length = gs.length then setXs F gs l r else fun _ => .bad) st) := hp
        split at hp
        · rename_i hl
          obtain ⟨a, vs, rfl, g1, g2⟩ := hv.tup
          exact ⟨a, vs, rfl, by rw [C.c.hK]; exact g1.seq, by rw [g2.length, hl, h2], w, r, st, l, rfl, fr, g2, hp⟩
        · exact hp.elim
      | _ => exact hp.elim
    · cases h
/-- target = e, e no display where the target is one -/
def sAsg (g : BGX) (b : BE) : BS where
  den F r := bnd (b.den F r) fun d => bnd (g.set F d r) fun r' => ret (.nx r')
  chk I N sc s := match s with
    | .Assign [tg] e _ => notStar tg && noTup e && noComp e && g.chk I N sc tg && b.chk I N sc e
    | _ => false
  snd {A k F X W} C s h w0 := by
    split at h
    · simp only [Bool.and_eq_true] at h
      obtain ⟨⟨⟨⟨h1, h2⟩, h3⟩, h4⟩, h5⟩ := h
      refine (ps_asg (b.snd C.c h5) (g.snd C h4 w0) (noComp_ok h3 _ _ _) (sw_none h2) (asg_one h1)).imp fun E t H q => ?_
      obtain ⟨w, r, st, rfl, fr, hp⟩ := q
      refine stepS (R := RD A) fr hp fun w1 st1 d v fr1 e1 rv _ hp1 => ?_
      refine ⟨w1, r, st1, d, rfl, fr1, rv, ?_⟩
      unfold bnd at hp1
      cases es : g.set F d r st1 with
      | ok r' st2 => rw [es] at hp1; exact fun w' t' l' fr' => hp1 w' t' l' fr'
      | exc x st2 => rw [es] at hp1; exact hp1
      | bad => rw [es] at hp1; exact hp1
    · cases h
end Rf

set_option Elab.async false
set_option linter.all false
set_option maxRecDepth 100000
set_option maxHeartbeats 1000000
namespace Rf
open PySem L2

/-! ## fields are set -/
def setF (l : List D) (i : Nat) (d : D) : Option (List D) := if i < l.length then some (l.set i d) else if i = l.length then some (l ++ [d]) else none
theorem putF_zip : ∀ {ns : List Str} {vs : List V} {i : Nat} {f : Str} {y : V}, ns.Nodup → ns[i]? = some f → i ≤ vs.length → vs.length ≤ ns.length → putF f y (ns.zip vs) = ns.zip (if i < vs.length then vs.set i y else vs ++ [y])
  | [], _, _, _, _, _, h, _, _ => by simp at h
  | n :: ns, [], 0, f, y, _, h, _, _ => by
    simp at h
    subst h
    simp [putF]
  | n :: ns, [], i + 1, f, y, _, _, h, _ => by simp at h
  | n :: ns, v :: vs, 0, f, y, _, h, _, _ => by
    simp at h
    subst h
    simp [putF]
  | n :: ns, v :: vs, i + 1, f, y, nd, h, hi, hl => by
    have nd' := List.nodup_cons.mp nd
    simp at h hi hl
    have hn : n ≠ f := by rintro rfl; exact nd'.1 (List.mem_of_getElem? h)
    rw [List.zip_cons_cons]
    show (if n = f then _ else (n, v) :: putF f y (ns.zip vs)) = _
    rw [if_neg hn, putF_zip nd'.2 h hi hl]
    by_cases q : i < vs.length
    · rw [if_pos q, if_pos (by simpa using q)]; simp
    · rw [if_neg q, if_neg (by simpa using q)]; simp
theorem setF_rep {A : Ad} {w : Wd} {l l' : List D} {vs : List V} {i : Nat} {d : D} {y : V} (e : setF l i d = some l') (h : Reps A w l vs) (hd : Rep A w d y) : i ≤ vs.length ∧ Reps A w l' (if i < vs.length then vs.set i y else vs ++ [y]) := by
  have hl := h.length
  unfold setF at e
  split at e
  · rename_i q
    cases e
    rw [hl, if_pos q]
    exact ⟨Nat.le_of_lt q, Reps.set hd i h⟩
  · split at e
    · rename_i q q2
      cases e
      rw [hl, if_neg q]
      exact ⟨Nat.le_of_eq q2, h.append (.one hd)⟩
    · cases e
theorem setF_len {l l' : List D} {i : Nat} {d : D} {n : Nat} (e : setF l i d = some l') (h : l.length ≤ n) (hi : i < n) : l'.length ≤ n := by
  unfold setF at e
  split at e
  · cases e; rw [List.length_set]; exact h
  · split at e
    · cases e; rw [List.length_append]; show l.length + 1 ≤ n; omega
    · cases e
/-- self.f = e, within an __init__: self is the first slot's own -/
def sSelf (f : Nat) (b : BE) : BS where
  den F r := bnd (b.den F r) fun d => bnd (opt (match r[0]? with
    | some (Slt.own (.obj c l)) => if fldIx c f < (clF c).length then (setF l (fldIx c f) d).map fun l' => r.set 0 (.own (.obj c l')) else none
    | _ => none)) fun r' => ret (.nx r')
  chk I N sc s := match s with
    | .Assign [.Attribute x y _] e _ => beqS y (fdN f) && varB N sc 0 x && noComp e && b.chk I N sc e
    | _ => false
  snd {A k F X W} C s h w0 := by
    split at h
    · rename_i x y pos' e pos
      simp only [Bool.and_eq_true] at h
      obtain ⟨⟨⟨h1, h2⟩, h3⟩, h4⟩ := h
      have := beqS_eq h1
      subst this
      obtain ⟨hv, _, _⟩ := varB_ok h2
      refine (ps_fld hv (b.snd C.c h4) (noComp_ok h3 _ _ _)).imp fun E t H q => ?_
      obtain ⟨w, r, st, rfl, fr, hp⟩ := q
      refine stepS (R := RD A) fr hp fun w1 st1 d v fr1 e1 rv l1 hp1 => ?_
      obtain ⟨r', er, hp2⟩ := postS_opt hp1
      split at er
      · rename_i c l e0
        split at er
        · rename_i hi
          simp only [Option.map_eq_some_iff] at er
          obtain ⟨l', el, rfl⟩ := er
          obtain ⟨a, ht, nS, nM, ⟨dx, vs, h0, hp0, hvs⟩, hw0⟩ := fr1.own e0
          have cf := C.c.facts.cl c h0.1
          have hn := idx_name (f := f) rfl hi
          have lv := hvs.length
          have ln : (names c).length = (clF c).length := by unfold names; rw [List.length_map]
          obtain ⟨g1, g2⟩ := setF_rep el hvs rv
          refine ⟨.ref a, by rw [ht], a, A.ca c, dx, _, rfl, hp0, by rw [C.c.hK]; exact cf.cl, by rw [C.c.hK]; exact cf.no _ (List.mem_of_getElem? hn), ?_, ?_⟩
          · have := cf.ln
            rw [List.length_zip]; omega
          · rw [putF_zip cf.nd hn g1 (by rw [lv, ln]; exact h0.2)]
            refine hp2 (w1.raw a _) t (le_put nS) (fr1.putOwn e0 ht ?_)
            exact ⟨dx, _, ⟨h0.1, setF_len el h0.2 hi⟩, upd_same, g2.le (le_put nS)⟩
        · cases er
      · cases er
    · cases h
/-- x.f = e, x stands in the store -/
def setFld (f : Nat) (x d : D) : M Unit := fun st => match x with
  | .loc n => (match st[n]? with
    | some (.ins c l) => if fldIx c f < (clF c).length then (match setF l (fldIx c f) d with
      | some l' => .ok () (st.set n (.ins c l'))
      | none => .bad) else .bad
    | _ => .bad)
  | _ => .bad
theorem setFld_ok {f : Nat} {x d : D} {st st' : Sto} (h : setFld f x d st = .ok () st') : ∃ n c l l', x = .loc n ∧ st[n]? = some (.ins c l) ∧ fldIx c f < (clF c).length ∧ setF l (fldIx c f) d = some l' ∧ st' = st.set n (.ins c l') := by
  unfold setFld at h
  split at h
  · split at h
    · split at h
      · split at h
        · cases h
          exact ⟨_, _, _, _, rfl, by assumption, by assumption, by assumption, rfl⟩
        · cases h
      · cases h
    · cases h
  · cases h
theorem setFld_exc {f : Nat} {x d : D} {st st' : Sto} {z : Exn} (h : setFld f x d st = .exc z st') : False := by
  unfold setFld at h
  split at h
  · split at h
    · split at h
      · split at h <;> cases h
      · cases h
    · cases h
  · cases h
def sFldS (f : Nat) (a b : BE) : BS where
  den F r := bnd (b.den F r) fun d => bnd (a.den F r) fun x => bnd (setFld f x d) fun _ => ret (.nx r)
  chk I N sc s := match s with
    | .Assign [.Attribute x y _] e _ => beqS y (fdN f) && a.chk I N sc x && noComp e && b.chk I N sc e
    | _ => false
  snd {A k F X W} C s h w0 := by
    split at h
    · rename_i x y pos' e pos
      simp only [Bool.and_eq_true] at h
      obtain ⟨⟨⟨h1, h2⟩, h3⟩, h4⟩ := h
      have := beqS_eq h1
      subst this
      refine (ps_fld (a.snd C.c h2) (b.snd C.c h4) (noComp_ok h3 _ _ _)).imp fun E t H q => ?_
      obtain ⟨w, r, st, rfl, fr, hp⟩ := q
      refine stepS (R := RD A) fr hp fun w1 st1 d v fr1 e1 rv l1 hp1 => ?_
      refine stepS (R := RD A) fr1 hp1 fun w2 st2 x vx fr2 e2 rx l2 hp2 => ?_
      unfold bnd at hp2
      cases es : setFld f x d st2 with
      | ok u st3 =>
        rw [es] at hp2
        obtain ⟨n, c, l, l', rfl, g1, g2, g3, rfl⟩ := setFld_ok es
        obtain ⟨p, rfl, hm⟩ := rx.loc
        obtain ⟨dx, vs, h0, hp0, hvs⟩ := fr2.sr.ob n _ p g1 hm
        have cf := C.c.facts.cl c h0.1
        have hn := idx_name (f := f) rfl g2
        have lv := hvs.length
        have ln : (names c).length = (clF c).length := by unfold names; rw [List.length_map]
        obtain ⟨k1, k2⟩ := setF_rep g3 hvs (rv.mono fr1.sr.wf e2)
        refine ⟨p, A.ca c, dx, _, rfl, hp0, by rw [C.c.hK]; exact cf.cl, by rw [C.c.hK]; exact cf.no _ (List.mem_of_getElem? hn), ?_, ?_⟩
        · have := cf.ln
          rw [List.length_zip]; omega
        · rw [putF_zip cf.nd hn k1 (by rw [lv, ln]; exact h0.2)]
          have nS : ¬ w2.S p := fun q => (fr2.sr.wf.s p q).2 (List.mem_of_getElem? hm)
          obtain ⟨q1, q2, q3⟩ := put_mu (o := .ins (A.ca c) dx ((names c).zip (if fldIx c f < vs.length then vs.set (fldIx c f) v else vs ++ [v]))) (ob := .ins c l') fr2.sr hm ⟨dx, _, ⟨h0.1, setF_len g3 h0.2 g2⟩, upd_same, k2.le (le_put nS)⟩
          exact hp2 (w2.raw p _) t q2 (fr2.mono q1 q3)
      | exc z st3 => exact (setFld_exc es).elim
      | bad => rw [es] at hp2; exact hp2.elim
    · cases h

/-! ## lists of a slot -/
def popI (l : List D) : D → Option (D × List D)
  | .int i => if decide (-(2 ^ 63) ≤ i) && decide (i < 2 ^ 63) then (seqIndex? i l.length).bind fun k => (l[k]?).map fun d => (d, l.eraseIdx k) else none
  | _ => none
theorem Reps.erase {A : Ad} {w : Wd} : ∀ {l : List D} {vs : List V} (i : Nat), Reps A w l vs → Reps A w (l.eraseIdx i) (vs.eraseIdx i)
  | [], _, _, h => by simp only [Reps] at h; subst h; simpa using Reps.nil
  | x :: ds, _, 0, h => by
    simp only [Reps] at h
    obtain ⟨u, r, rfl, h2, h3⟩ := h
    simpa using h3
  | x :: ds, _, i + 1, h => by
    simp only [Reps] at h
    obtain ⟨u, r, rfl, h2, h3⟩ := h
    simpa using Reps.cons h2 (Reps.erase i h3)
theorem len_erase_le {α : Type} (l : List α) (i : Nat) : (l.eraseIdx i).length ≤ l.length := by
  rw [List.length_eraseIdx]; split <;> omega
/-- y = x.pop(e) -/
def sPop (j i : Nat) (b : BE) : BS where
  den F r := bnd (opt (ownL r i)) fun l => bnd (b.den F r) fun d => bnd (opt (popI l d)) fun p => ret (.nx ((r.set i (.own (.lst p.2))).set j (.val p.1)))
  chk I N sc s := match s with
    | .Assign [tg] e _ => decide (i ≠ j) && nameAt N sc j tg && (match methB "pop" e with
      | some (o, a) => varB N sc i o && b.chk I N sc a
      | none => false)
    | _ => false
  snd {A k F X W} C s h w0 := by
    split at h
    · simp only [Bool.and_eq_true, decide_eq_true_eq] at h
      obtain ⟨⟨hij, hn⟩, h⟩ := h
      obtain ⟨y, p, rfl, n1, n2⟩ := nameAt_ok hn
      split at h
      · rename_i o a hm
        obtain ⟨apos, pos, rfl, hl, hs, hst⟩ := methB_ok hm
        simp only [Bool.and_eq_true] at h
        obtain ⟨hv, _, _⟩ := varB_ok h.1
        refine (ps_set C.c.nd n1 n2 (pe_m PySem.F.plainAttrs_list PySem.F.slot_list_pop PySem.F.type_list_pop mt_popAt hv (pa_cons (b.snd C.c h.2) pa_nil (star_cons hst)) hs hst hl) (noComp_ok rfl _ _ _) (.inl (C.fn y))).imp fun E t H q => ?_
        obtain ⟨w, r, st, rfl, fr, hp⟩ := q
        obtain ⟨l, eo, hp⟩ := postS_opt hp
        have er := ownL_eq eo
        obtain ⟨a0, ht, nS, nM, ⟨vs, hd, hz, hvs⟩, h0⟩ := fr.own er
        refine ⟨_, ht, .inl ⟨rfl, vs, .inl (.inl hd)⟩, ?_⟩
        refine stepS (R := RD A) fr hp fun w1 st1 d v fr1 e1 rv l1 hp1 => ?_
        obtain ⟨⟨x, l'⟩, el, hp2⟩ := postS_opt hp1
        cases d with
        | int kk =>
          unfold popI at el
          simp only at el
          split at el
          · rename_i hb
            simp only [Bool.and_eq_true, decide_eq_true_eq] at hb
            simp only [Option.bind_eq_some_iff, Option.map_eq_some_iff, Prod.mk.injEq] at el
            obtain ⟨ix, g1, dd, g2, rfl, rfl⟩ := el
            have hd1 : w1.H a0 = some (.lst vs) := (e1.keep a0 (by rw [hd]; simp) nM).trans hd
            obtain ⟨_, ht1, nS1, nM1, _, _⟩ := fr1.own er
            rw [ht] at ht1
            cases ht1
            have hv1 := hvs.mono fr.sr.wf e1
            have hl2 := hvs.length
            obtain ⟨u, g3, g4⟩ := hv1.get g2
            rw [rv.int]
            have hT : Top A (w1.raw a0 (.lst (vs.eraseIdx ix))) (.lst (l.eraseIdx ix)) a0 := ⟨_, upd_same, Nat.le_trans (len_erase_le _ _) hz, (Reps.erase ix hv1).le (le_put nS1)⟩
            exact ⟨a0, vs, kk, ix, u, rfl, rfl, hd1, hb.1, hb.2, by rw [hl2]; exact g1, g3, hp2 (w1.raw a0 _) _ (le_put nS1) ((fr1.putOwn er ht hT).set (g4.le (le_put nS1)))⟩
          · cases el
        | _ => cases el
      · cases h
    · cases h
/-- a list, some times over -/
def fRepD : D → D → Option D
  | .lst l, .int k => if decide (-(2 ^ 63) ≤ k) && decide (k < 2 ^ 63) && decide (l.length * k.toNat ≤ sizeLine) then some (.lst (List.replicate k.toNat l).flatten) else none
  | _, _ => none
def fRep (a b : BE) : BF where
  den F := den2 fRepD (a.den F) (b.den F)
  chk I N sc e := match e with
    | .BinOp x op y _ => decide (op = .Mult) && a.chk I N sc x && b.chk I N sc y
    | _ => false
  snd {A k F X W} C e h := by
    split at h
    · simp only [Bool.and_eq_true, decide_eq_true_eq] at h
      obtain ⟨⟨h1, h2⟩, h3⟩ := h
      subst h1
      refine (pe_op op_rep (a.snd C h2) (b.snd C h3)).imp fun t H Q q => ?_
      obtain ⟨w, r, st, rfl, hr, hs, hp⟩ := q
      refine step (R := RD A) (.refl w) hr hs hp fun w1 st1 x vx hr1 hs1 e1 rx hp1 => ?_
      refine step (R := RD A) e1 hr1 hs1 hp1 fun w2 st2 y vy hr2 hs2 e2 ry hp2 => ?_
      obtain ⟨d, e, hq⟩ := opt_post hp2
      have rx2 := rx.mono hs1.wf e2
      unfold fRepD at e
      split at e
      · split at e
        · rename_i l kk hc
          cases e
          simp only [Bool.and_eq_true, decide_eq_true_eq] at hc
          obtain ⟨p, vs, rfl, g1, g2⟩ := rx2.lst
          have el := g2.length
          rw [ry.int]
          refine ⟨p, kk, vs, rfl, rfl, g1.2.2, hc.1.1, hc.1.2, by rw [el]; exact hc.2, fun a ha => ?_⟩
          exact hq (w2.raw a _) (.ref a) ((e1.trans e2).trans (ext_raw ha)) (hs2.raw ha) ((top_lst hs2.wf ha (by rw [len_flat, el, Nat.mul_comm]; exact hc.2) (g2.rep _)).later (e1.trans e2))
        · cases e
      · cases e
    · cases h
end Rf

set_option Elab.async false
set_option linter.all false
set_option maxRecDepth 100000
set_option maxHeartbeats 1000000
namespace Rf
open PySem L2

/-! ## calls by names -/
section
variable {A : Ad} {w : Wd}
theorem reps_getD {l : List D} {xs : List V} (h : Reps A w l xs) (j : Nat) : Rep A w (l.getD j .non) (xs.getD j .non) := by
  have hl := h.length
  rw [List.getD_eq_getElem?_getD, List.getD_eq_getElem?_getD]
  by_cases q : j < l.length
  · obtain ⟨v, h1, h2⟩ := h.get (i := j) (d := l[j]) (by simp [q])
    rw [h1, List.getElem?_eq_getElem q]
    exact h2
  · rw [List.getElem?_eq_none (by omega), List.getElem?_eq_none (by omega)]
    exact rep_non
theorem reps_arr {l : List D} {xs : List V} (h : Reps A w l xs) : ∀ pm : List Nat, Reps A w (arr .non pm l) (arr .non pm xs)
  | [] => .nil
  | j :: pm => .cons (reps_getD h j) (reps_arr h pm)
theorem vals_arr {xs : List V} {us : List Value} (h : Vals xs us) : ∀ pm : List Nat, Vals (arr .non pm xs) (arr .none pm us)
  | [] => .nil
  | j :: pm => by
    refine .cons ?_ (vals_arr h pm)
    show RelV (xs.getD j .non) (us.getD j .none)
    have hl := h.length
    rw [List.getD_eq_getElem?_getD, List.getD_eq_getElem?_getD]
    by_cases q : j < xs.length
    · obtain ⟨u, h1, h2⟩ := h.get (i := j) (x := xs[j]) (by simp [q])
      rw [h1, List.getElem?_eq_getElem q]
      exact h2
    · rw [List.getElem?_eq_none (by omega), List.getElem?_eq_none (by omega)]
      exact (rfl : Value.none = Value.none)
end
def kwB (I : Info) (N : List Str) (sc : Scope) : List Str → List BE → List Keyword → Bool
  | [], [], [] => true
  | k :: ks, b :: bs, ⟨some y, e, _⟩ :: kws => beqS y k && b.chk I N sc e && kwB I N sc ks bs kws
  | _, _, _ => false
section
variable {A : Ad} {k : Nat} {F : FT} {X : Cx} {W : WX}
theorem kw_facts {pos : Pos} : ∀ {ks : List Str} {bs : List BE} {kws : List Keyword}, kwB A.I X.N X.env.scope ks bs kws = true →
    (backToKw pos (keywordEach kws X.env)).all (·.1.isSome) = true ∧ (backToKw pos (keywordEach kws X.env)).filterMap (·.1) = ks ∧ (backToKw pos (keywordEach kws X.env)).any (·.1.isNone) = false
  | [], [], [], _ => ⟨rfl, rfl, rfl⟩
  | [], [], _ :: _, h => by cases h
  | [], _ :: _, _, h => by cases h
  | _ :: _, [], _, h => by cases h
  | _ :: _, _ :: _, [], h => by cases h
  | _ :: _, _ :: _, ⟨none, _, _⟩ :: _, h => by cases h
  | k :: ks, b :: bs, ⟨some y, e, p⟩ :: kws, h => by
    simp only [kwB, Bool.and_eq_true] at h
    have := beqS_eq h.1.1
    subst this
    obtain ⟨h1, h2, h3⟩ := kw_facts (pos := pos) h.2
    refine ⟨?_, ?_, ?_⟩
    · show (true && _) = true
      exact h1
    · show y :: (backToKw pos (keywordEach kws X.env)).filterMap (·.1) = _
      rw [h2]
    · show (false || _) = false
      exact h3
theorem pk_of (C : Ctx A k F X W) : ∀ {ks : List Str} {bs : List BE} {kws : List Keyword}, kwB A.I X.N X.env.scope ks bs kws = true → PK X kws (LA A W (dns bs F))
  | [], [], [], _ => ⟨fun pos pins s t H Q I q => pk_nil.run pos pins s t H Q I (dNil_ok q)⟩
  | [], [], _ :: _, h => by cases h
  | [], _ :: _, _, h => by cases h
  | _ :: _, [], _, h => by cases h
  | _ :: _, _ :: _, [], h => by cases h
  | _ :: _, _ :: _, ⟨none, _, _⟩ :: _, h => by cases h
  | k :: ks, b :: bs, ⟨some y, e, p⟩ :: kws, h => by
    simp only [kwB, Bool.and_eq_true] at h
    exact ⟨fun pos pins s t H Q I q => (pk_cons (b.snd C h.1.2) (pk_of C h.2)).run pos pins s t H Q I (dCons_ok q)⟩
theorem kcall_run (C : Ctx A k F X W) {i : Nat} (hi : iniC i = none) {w0 w : Wd} {ds : List D} {st : Sto} {vs : List V} {us ws : List Value} {ks : List Str} {pm : List Nat} {t : St} {Q : VK} {pins : List (Addr × Obj)} {s : Shared}
    (I : Inv X pins t w.H s) (r : Vals vs (us ++ ws)) (hw : ws.length = ks.length) (hpm : pmOk (paN i) us.length ks pm = true) (hs : SRel A w st) (rp : Reps A w ds vs) (e0 : Ext w0 w) (hp : PostG A (RD A) (fun c d H => W c d t H) w0 Q (F i (arr .non pm ds) st)) :
    wpAny (model X.prog X.w) X.A (call (.ref (A.fa i)) us (ks.zip ws)) (EP X pins t Q) X.xe s := by
  obtain ⟨fd, ps, F1, b1, b2, rfl⟩ := calls_get C hi hp
  have hsp : spF A (F i) (arr .non pm vs) w.H Q (fun c d H => W c d t H) := by
    refine ⟨w, arr .non pm ds, st, rfl, hs, reps_arr rp pm, ?_⟩
    cases e : F i (arr .non pm ds) st with
    | ok d st1 => rw [e] at hp; exact fun w' v ex sr rp => hp w' v (e0.trans ex) sr rp
    | exc x st1 => rw [e] at hp; exact fun w' c dd ex sr rp => hp w' c dd (e0.trans ex) sr rp
    | bad => rw [e] at hp; exact hp
  have run := F1.run X.A X.stack s w.H ⟨us, ks.zip ws⟩ _ _ Q _ (C.room.mono (Nat.le_succ _)) I.env0 (b2 s us ws ks pm I.kIn hw hpm) (vals_arr r pm) hsp
  refine wpAny_call (codeAny_mono run fun o s' ho => ?_)
  cases o with
  | error z => exact C.pass t pins w.H s z s' I ho
  | ok fl =>
    cases fl with
    | ret u => exact I.after ho
    | next => cases ho
    | brk => cases ho
    | cont => cases ho
theorem kmake_run (C : Ctx A k F X W) {c : Nat} (hc : c ∈ A.I.cs) {w0 w : Wd} {ds : List D} {st : Sto} {vs : List V} {us ws : List Value} {ks : List Str} {pm : List Nat} {t : St} {Q : VK} {pins : List (Addr × Obj)} {s : Shared}
    (I : Inv X pins t w.H s) (r : Vals vs (us ++ ws)) (hw : ws.length = ks.length) (hpm : pmOk (paN (iniF c)) (us.length + 1) ks (0 :: pm.map (· + 1)) = true) (hs : SRel A w st) (rp : Reps A w ds vs) (e0 : Ext w0 w) (hp : PostG A (RF A) (fun c d H => W c d t H) w0 Q (F (iniF c) (arr .non pm ds) st)) :
    wpAny (model X.prog X.w) X.A (call (.ref (A.ca c)) us (ks.zip ws)) (EP X pins t Q) X.xe s := by
  have cf := C.facts.cl c hc
  obtain ⟨fd, ps, F1, b1, b2, rfl⟩ := calls_init C cf.ic hp
  have mk := cf.mkr
  rw [← C.hK] at mk
  have f1 := I.hok.fresh (Nat.le_succ s.heap.objs.size)
  have f0 := I.hok.fresh (Nat.le_refl s.heap.objs.size)
  have I2 := Inv.made (C := A.ca c) I
  have ea : ∀ {α : Type} (d : α) (x : α) (l : List α), arr d (0 :: pm.map (· + 1)) (x :: l) = x :: arr d pm l := by
    intro α d x l
    unfold arr
    rw [List.map_cons, List.map_map]
    rfl
  have hq : spI A c (F (iniF c)) (arr .non (0 :: pm.map (· + 1)) (.ref (s.heap.objs.size + 1) :: vs)) (upd (upd w.H s.heap.objs.size (.own (s.heap.objs.size + 1))) (s.heap.objs.size + 1) (.ins (A.ca c) s.heap.objs.size []))
      (fun v H2 => v = .non ∧ Q (.ref (s.heap.objs.size + 1)) H2) (fun c d H => W c d t H) := by
    rw [ea]
    refine ⟨w, _, _, arr .non pm vs, arr .non pm ds, st, rfl, f1, f0, Nat.ne_of_lt (Nat.lt_succ_self _), rfl, hc, hs, reps_arr rp pm, ?_⟩
    cases e : F (iniF c) (arr .non pm ds) st with
    | ok d st1 => rw [e] at hp; exact fun w' v ex sr rv ev => ⟨rfl, ev ▸ hp w' v (e0.trans ex) sr (rv.later e0)⟩
    | exc x st1 => rw [e] at hp; exact fun w' c dd ex sr rx => hp w' c dd (e0.trans ex) sr rx
    | bad => rw [e] at hp; exact hp
  have r2 : Vals (V.ref (s.heap.objs.size + 1) :: vs) (Value.ref (s.heap.objs.size + 1) :: us ++ ws) := .cons rfl r
  have run := F1.run _ X.stack _ _ ⟨Value.ref (s.heap.objs.size + 1) :: us, ks.zip ws⟩ _ _ _ _ (C.room.make (A.ca c) us (ks.zip ws)) (I2.env0.make (A.ca c) us (ks.zip ws)) (b2 _ (Value.ref (s.heap.objs.size + 1) :: us) ws ks (0 :: pm.map (· + 1)) I2.kIn hw hpm) (vals_arr r2 _) hq
  refine wpAny_call (make_map (f := A.fa (iniF c)) I.kIn mk.makes mk.init (beq_iff_eq.mp mk.fn) (codeAny_mono run fun o s' ho => ?_))
  cases o with
  | error z => exact C.pass t pins _ _ z s' I2 ho
  | ok fl =>
    cases fl with
    | ret u =>
      obtain ⟨v, H', I3, rv, ev, q3⟩ := I2.after ho
      subst ev
      exact ⟨rv, V.ref (s.heap.objs.size + 1), H', I3, rfl, q3⟩
    | next => cases ho
    | brk => cases ho
    | cont => cases ho
/-- what is called, by positions and by names -/
theorem callkw_run (C : Ctx A k F X W) {f : Value} (hk : PySem.W.keepIn X.K f = true) {bs zs : List BE} {es : List Expr} {kws : List Keyword} {ks : List Str} {pos : Pos} {pins : List (Addr × Obj)} {s : Shared} {t : St} {Q : VK} {w : Wd} {r : En} {st : Sto}
    {R : Wd → Wd → D → V → Prop} {g : List D → M D} (I : Inv X pins t w.H s) (h5 : chs A.I X.N X.env.scope bs es = true) (h6 : kwB A.I X.N X.env.scope ks zs kws = true) (hr : EnvR A w r t) (hs : SRel A w st)
    (hp : PostG A R (fun c d H => W c d t H) w Q (bndE (dns bs F) (fun ds => bndE (dns zs F) fun ys _ => g (ds ++ ys)) r st))
    (run : ∀ (s2 : Shared) (w2 : Wd) (st2 : Sto) (ds : List D) (vs : List V) (us ws : List Value), Inv X pins t w2.H s2 → Vals vs (us ++ ws) → us.length = bs.length → ws.length = ks.length → SRel A w2 st2 → Reps A w2 ds vs → Ext w w2 → PostG A R (fun c d H => W c d t H) w Q (g ds st2) →
      wpAny (model X.prog X.w) X.A (call f us (ks.zip ws)) (EP X pins t Q) X.xe s2) :
    wpAny (model X.prog X.w) X.A (callWith pos f [] (backTo pos (starEach es X.env)) (backToKw pos (keywordEach kws X.env))) (EP X pins t Q) X.xe s := by
  obtain ⟨k1, k2, k3⟩ := kw_facts (A := A) (X := X) (pos := pos) h6
  have lks : ∀ {ks : List Str} {bs : List BE} {kws : List Keyword}, kwB A.I X.N X.env.scope ks bs kws = true → bs.length = ks.length := by
    intro ks
    induction ks with
    | nil => intro bs kws h; cases bs with
      | nil => rfl
      | cons _ _ => cases kws <;> cases h
    | cons k ks ih => intro bs kws h; cases bs with
      | nil => cases kws <;> cases h
      | cons b bs => cases kws with
        | nil => cases h
        | cons q kws =>
          obtain ⟨y, e, p⟩ := q
          cases y with
          | none => cases h
          | some y =>
            simp only [kwB, Bool.and_eq_true] at h
            simp [ih h.2]
  have dlen : ∀ {bs : List BE} {r : En} {st st' : Sto} {ds : List D}, dns bs F r st = .ok ds st' → ds.length = bs.length := by
    intro bs
    induction bs with
    | nil => intro r st st' ds h; cases h; rfl
    | cons b bs ih =>
      intro r st st' ds h
      simp only [dns, dCons, bndE, bnd] at h
      split at h
      · rename_i a st1 e1
        split at h
        · rename_i l st2 e2
          cases h
          simp [ih e2]
        · cases h
        · cases h
      · cases h
      · cases h
  have fin : ∀ (s1 : Shared) (w1 : Wd) (st1 : Sto) (ds : List D) (vs : List V) (us : List Value), Inv X pins t w1.H s1 → Vals vs us → us.length = bs.length → EnvR A w1 r t → SRel A w1 st1 → Reps A w1 ds vs → Ext w w1 →
      PostG A R (fun c d H => W c d t H) w Q (bndE (dns zs F) (fun ys _ => g (ds ++ ys)) r st1) →
      wpAny (model X.prog X.w) X.A (evalAll ((backToKw pos (keywordEach kws X.env)).map (·.2))) (fun ws s₂ => X.K.In s₂.heap ∧ wpAny (model X.prog X.w) X.A (call f us (((backToKw pos (keywordEach kws X.env)).filterMap (·.1)).zip ws)) (EP X pins t Q) X.xe s₂) X.xe s1 := by
    intro s1 w1 st1 ds vs us I1 rv hu hr1 hs1 rp e1 hp1
    refine thn ((pk_of C h6).run pos pins s1 t w1.H (fun vz H2 => ∃ w2 ys st2, w2.H = H2 ∧ SRel A w2 st2 ∧ Reps A w2 (ds ++ ys) (vs ++ vz) ∧ Ext w w2 ∧ vz.length = ks.length ∧ PostG A R (fun c d H => W c d t H) w Q (g (ds ++ ys) st2)) I1 ?_) ?_
    · refine ⟨w1, r, st1, rfl, hr1, hs1, ?_⟩
      unfold bndE bnd at hp1
      cases e : dns zs F r st1 with
      | ok ys st2 =>
        rw [e] at hp1
        intro w2 vz ex sr rz
        exact ⟨w2, ys, st2, rfl, sr, (rp.mono hs1.wf ex).append rz, e1.trans ex, by rw [rz.length, dlen e, lks h6], hp1⟩
      | exc x st2 => rw [e] at hp1; exact fun w2 c dd ex sr rx => hp1 w2 c dd (e1.trans ex) sr rx
      | bad => rw [e] at hp1; exact hp1
    · rintro ws s2 ⟨vz, H2, I2, rz, w2, ys, st2, rfl, hs2, rp2, e2, hl, hp2⟩
      refine ⟨I2.kIn, ?_⟩
      rw [k2]
      exact run s2 w2 st2 _ _ us ws I2 (rv.append rz) hu (by rw [← rz.length, hl]) hs2 rp2 e2 hp2
  cases es with
  | nil =>
    cases bs with
    | cons _ _ => cases h5
    | nil =>
      exact PySem.W.callWith_KW0 (h₀ := X.base) I.ok.mod.kin hk k1 (fin s w st [] [] [] I .nil rfl hr hs .nil (.refl w) hp) (by show (false || _) = false; exact k3)
  | cons e es =>
    have st5 := chs_star h5
    have st6 := st5
    simp only [List.all_cons, Bool.and_eq_true] at st5
    refine PySem.W.callWith_KW (h₀ := X.base) I.ok.mod.kin hk k1 ?_ (by rw [star_any st6]; exact k3) (star_cons st5.1)
    refine thn ((pa_of C h5).run pos pins s t w.H (fun vs H1 => ∃ w1 ds st1, w1.H = H1 ∧ EnvR A w1 r t ∧ SRel A w1 st1 ∧ Reps A w1 ds vs ∧ Ext w w1 ∧ vs.length = bs.length ∧ PostG A R (fun c d H => W c d t H) w Q (bndE (dns zs F) (fun ys _ => g (ds ++ ys)) r st1)) I ?_) ?_
    · refine ⟨w, r, st, rfl, hr, hs, ?_⟩
      unfold bndE bnd at hp
      cases e : dns bs F r st with
      | ok ds st1 =>
        rw [e] at hp
        intro w1 vs ex sr rp
        exact ⟨w1, ds, st1, rfl, hr.mono hs.wf ex, sr, rp, ex, by rw [rp.length, dlen e], hp⟩
      | exc x st2 => rw [e] at hp; exact hp
      | bad => rw [e] at hp; exact hp
    · rintro us s1 ⟨vs, H1, I1, rv, w1, ds, st1, rfl, hr1, hs1, rp, e1, hl, hp1⟩
      exact fin s1 w1 st1 ds vs us I1 rv (by rw [← rv.length, hl]) hr1 hs1 rp e1 hp1
end
/-- f(e, .., k = v, ..) -/
def cCallK (i : Nat) (bs : List BE) (ks : List Str) (zs : List BE) (pm : List Nat) : BE where
  den F := bndE (dns bs F) fun ds => bndE (dns zs F) fun ys _ => F i (arr .non pm (ds ++ ys))
  chk I N sc e := match e with
    | .Call (.Name x _) es kws _ => beqS x (fnN i) && I.fs.contains i && glbB sc x && okN x && chs I N sc bs es && kwB I N sc ks zs kws && pmOk (paN i) bs.length ks pm
    | _ => false
  snd {A k F X W} C e h := by
    split at h
    · rename_i x p es kws pos
      simp only [Bool.and_eq_true, List.contains_iff_mem] at h
      obtain ⟨⟨⟨⟨⟨⟨h1, h2⟩, h3⟩, h4⟩, h5⟩, h6⟩, h7⟩ := h
      have e1 := beqS_eq h1
      subst e1
      obtain ⟨hm, hk, hi⟩ := C.facts.fn i h2
      have hk' : PySem.W.keepIn X.K (.ref (A.fa i)) = true := by rw [C.hK]; exact hk
      refine ⟨fun pins s t H Q I q => ?_⟩
      refine wpAny_Call_Name_kw (ld_glob I (glbB_ok h3) hm ?_ (okN_d h4))
      obtain ⟨w, r, st, rfl, hr, hs, hp⟩ := q
      exact callkw_run C hk' (g := fun l => F i (arr .non pm l)) I h5 h6 hr hs hp fun s2 w2 st2 ds vs us ws I2 rv hu hw hs2 rp e2 hp2 => kcall_run C hi I2 rv hw (by rw [hu]; exact h7) hs2 rp e2 hp2
    · cases h
/-- C(e, .., k = v, ..) -/
def fMkK (c : Nat) (bs : List BE) (ks : List Str) (zs : List BE) (pm : List Nat) : BF where
  den F := bndE (dns bs F) fun ds => bndE (dns zs F) fun ys _ => F (iniF c) (arr .non pm (ds ++ ys))
  chk I N sc e := match e with
    | .Call (.Name x _) es kws _ => beqS x (clN c) && I.cs.contains c && glbB sc x && okN x && chs I N sc bs es && kwB I N sc ks zs kws && pmOk (paN (iniF c)) (bs.length + 1) ks (0 :: pm.map (· + 1))
    | _ => false
  snd {A k F X W} C e h := by
    split at h
    · rename_i x p es kws pos
      simp only [Bool.and_eq_true, List.contains_iff_mem] at h
      obtain ⟨⟨⟨⟨⟨⟨h1, h2⟩, h3⟩, h4⟩, h5⟩, h6⟩, h7⟩ := h
      have e1 := beqS_eq h1
      subst e1
      have cf := C.facts.cl c h2
      have hk' : PySem.W.keepIn X.K (.ref (A.ca c)) = true := by rw [C.hK]; exact cf.kf
      refine ⟨fun pins s t H Q I q => ?_⟩
      refine wpAny_Call_Name_kw (ld_glob I (glbB_ok h3) cf.mg ?_ (okN_d h4))
      obtain ⟨w, r, st, rfl, hr, hs, hp⟩ := q
      exact callkw_run C hk' (g := fun l => F (iniF c) (arr .non pm l)) I h5 h6 hr hs hp fun s2 w2 st2 ds vs us ws I2 rv hu hw hs2 rp e2 hp2 => kmake_run C h2 I2 rv hw (by rw [hu]; exact h7) hs2 rp e2 hp2
    · cases h
end Rf

set_option Elab.async false
set_option linter.all false
set_option maxRecDepth 100000
set_option maxHeartbeats 1000000
namespace Rf
open PySem L2

/-! ## enumerate(a tuple) -/
set_option maxHeartbeats 1000000 in
theorem meets_enumT (t : Addr) (items : Array Value) :
    Meets (Builtin.«enumerate.__new__» ⟨[.type "enumerate", .ref t], []⟩) (fun _ R s => s.heap.IsTuple t items ∧
      R (.ok (.ret (.ref (s.heap.push { cls := .type "tuple_iterator", data := .fields #[.ref t, .int 0 0] }).objs.size)))
        { s with heap := (s.heap.push { cls := .type "tuple_iterator", data := .fields #[.ref t, .int 0 0] }).push { cls := .type "enumerate", data := .fields #[.none, .bool false, .ref s.heap.objs.size, rawInt 0, .none, .none] } }) :=
  .of_wp fun prog w A R s h => by
    obtain ⟨hp, g, d, tk, os⟩ := s; obtain ⟨h1, h⟩ := h
    have hsub := sub_enumerate
    have q1 : ∀ {A' : Around} {E : Value → Shared → Prop} {Q : Value → Shared → Prop}, Q (.ref hp.objs.size) ⟨hp.push { cls := .type "tuple_iterator", data := .fields #[.ref t, .int 0 0] }, g, d, tk, os⟩ → wpAny (model prog w) A' (pyIter (.ref t)) Q E ⟨hp, g, d, tk, os⟩ :=
      fun q => (begins_tuple t items).iter prog w _ _ ⟨hp, g, d, tk, os⟩ _ h1 q
    wp_walk using q1
    refine wpAny_stack_any fun st => wpAny_pure ?_
    split
    · rename_i c _ _ _ _ _
      cases (c == Value.type "enumerate")
      · wp_walk using q1
        exact ⟨_, rfl, h⟩
      · wp_walk using q1
        exact ⟨_, rfl, h⟩
    · wp_walk using q1
      exact ⟨_, rfl, h⟩
/-- the tuple's items in new pairs -/
def Ien (K : PySem.W.Frag) (a : Addr) (xs : List V) : It :=
  ⟨fun i H => i < xs.length ∧ SqT K H a xs, fun i H v H' => ∃ T x, v = .ref T ∧ H T = none ∧ H' = upd H T (.tup [.int (i : Nat), x]) ∧ xs[i]? = some x, fun i H => xs.length ≤ i ∧ SqT K H a xs⟩
theorem turn_enT {P : Program} {w : World} {K : PySem.W.Frag} {elts : List Expr} {kk : Nat} {tpos : Pos} (a e it : Addr) (xs : List V) (hai : a ≠ it) (hae : a ≠ e) :
    Turn P w K (.Tuple elts kk tpos) (Ien K a xs) [e, it] e (fun i h => (∃ old, IsEnum h e it ((i : Nat) : Int) old) ∧ h.IsTupleIter it a i ∧ e ≠ it) where
  mem := by simp
  obj := fun i h st b hb => by
    obtain ⟨⟨old, he⟩, ⟨o, ho, hc, hd⟩, _⟩ := st
    rcases (by simpa using hb : b = e ∨ b = it) with z | z
    · subst z; exact ⟨_, he, fun v q => nomatch q⟩
    · subst z; exact ⟨o, ho, fun v q => by rw [hd] at q; cases q⟩
  keep := fun i h h' st k => by
    obtain ⟨⟨old, he⟩, hi, hne⟩ := st
    exact ⟨⟨old, k e (by simp) _ he⟩, hi.at fun o q => k it (by simp) o q, hne⟩
  item := by
    intro X hP hw hK hc i pins s σ H E I hf st hg
    subst hP hw hK
    obtain ⟨⟨old, he⟩, hit, hne⟩ := st
    obtain ⟨hi, hq⟩ := hg
    obtain ⟨its, rv, p, hz⟩ := I.tuple hq
    have hl := rv.length
    have hel : e < s.heap.objs.size := Heap.lt_size he
    have hil : it < s.heap.objs.size := by obtain ⟨_, q, _⟩ := hit; exact Heap.lt_size q
    have D : Draws X.prog X.w X.A.in1 it [it, a] its.toArray.size (fun j v => its.toArray[j]? = some v) (fun j h => h.IsTupleIter it a j ∧ h.IsTuple a its.toArray) := Draws.tuple (A := X.A.in1) (I.ok.hd hc) it a hai its.toArray
    refine wpAny_pyNext_enum_itemC D he ⟨hit, p⟩ (by rw [List.size_toArray]; omega) hne (by simp [hne, Ne.symm hae]) fun u h' tk hu ho hs' hT hsz hk => ?_
    refine ⟨_, rfl, wpAny_letOwnedTupleGo_enum (s := { s with heap := h', toks := tk + 1 }) ho fun h'' he' sb => ?_⟩
    obtain ⟨x, hx⟩ : ∃ x, xs[i]? = some x := ⟨xs[i], by simp [hi]⟩
    obtain ⟨u', hu', ru⟩ := rv.get hx
    have eu : u' = u := by
      have q : its[i]? = some u := by simpa using hu
      rw [q] at hu'
      exact (Option.some.inj hu').symm
    subst eu
    have hT2 : h''.get? s.heap.objs.size = some { cls := .type "tuple", data := .seq #[.int i tk, u'] } := (sb.2 _ (Nat.ne_of_gt hel)).trans hT
    have new : ObjOk X.prog X.w (upd H s.heap.objs.size (.tup [.int (i : Nat), x])) h'' s.heap.objs.size (.tup [.int (i : Nat), x]) :=
      ⟨by show 2 ≤ sizeLine; decide, [.int i tk, u'], .cons ⟨_, rfl⟩ (.cons ru .nil), ⟨_, hT2, rfl, _, rfl⟩⟩
    have I1 : Inv X pins σ (upd H s.heap.objs.size (.tup [.int (i : Nat), x])) { s with heap := h'', toks := tk + 1 } :=
      I.turnedNew (ch := [e, it]) (fun b ob hb q => (sb.2 b (fun z => hb (by simp [z]))).trans (hk b ob (fun z => hb (by simp [z])) (fun z => hb (by simp [z])) q)) hf (Nat.le_refl _) new
    refine ⟨.ref s.heap.objs.size, _, I1, rfl, ⟨_, x, rfl, I.hok.fresh (Nat.le_refl _), rfl, hx⟩, ⟨⟨u', ?_⟩, hs'.1.at fun o q => (sb.2 it (Ne.symm hne)).trans q, hne⟩, fun b hb => ?_⟩
    · have e1 : ((i + 1 : Nat) : Int) = (i : Int) + 1 := by omega
      rw [e1]; exact he'
    · have hb' : b < s.heap.objs.size := by
        rcases (by simpa using hb : b = e ∨ b = it) with z | z
        · subst z; exact hel
        · subst z; exact hil
      rw [upd_ne (Nat.ne_of_lt hb')]
      exact (hf b hb).1
  done := by
    intro X hP hw hK hc i pins s σ H E I hf st hg
    subst hP hw hK
    obtain ⟨⟨old, he⟩, hit, hne⟩ := st
    obtain ⟨hi, hq⟩ := hg
    obtain ⟨its, rv, p, hz⟩ := I.tuple hq
    obtain ⟨f0, f1, f2, f3, f4, f5⟩ := hf it (by simp)
    have hl := rv.length
    have hx : its.toArray[i]? = none := by simp; omega
    have hT : s.TypeIs (.ref e) "enumerate" := ⟨_, he, rfl⟩
    unfold pyNext
    refine wpAny_bind (wpAny_attempt (wpAny_callSpecial?_slot (name := Str.ofString "__next__") hT F.slot_enumerate_next (wpAny_call_entry F.slot_enumerate_next hT F.entry_enumerate_next ?_ (F.args_enumerate_next_1 _))))
    show wpAny _ _ (field (.ref e) 2 >>= _) _ _ _
    refine wpAny_bind (wpAny_field he rfl (x := .ref it) rfl ?_)
    refine wpAny_bind (wpAny_nextOf_tuple_end (I.ok.hd hc) hit p hx fun h' x he' hx' => ?_)
    obtain ⟨o, ho, hcl⟩ := hx'
    refine wpAny_bind (wpAny_isInstance (T := "StopIteration") (b := true) ⟨o, ho, hcl⟩ isSubtype_stop ?_)
    exact wpAny_pure ⟨rfl, I.turned (t' := s.toks) (fun b o hb q => he' b o hb q) f0 f1 f3 f4 f5⟩
  self := fun A i s Q E st h => let ⟨⟨_, he⟩, _⟩ := st; wpAny_pyIter_enum he h
theorem walk_enT {K : PySem.W.Frag} {a : Addr} {xs : List V} : Walk (Ien K a xs) xs.length (fun H => SqT K H a xs) (YPair (fun i => some (.int (i : Nat))) (fun i => xs[i]?)) := by
  refine ⟨fun i _ hi q => ⟨hi, q⟩, fun _ q => ⟨Nat.le_refl _, q⟩, fun i H v H' _ q y => ?_⟩
  obtain ⟨T, x, h1, h2, h3, h4⟩ := y
  exact ⟨T, .int (i : Nat), x, h1, h2, h3, rfl, h4⟩
def iEnT (K : PySem.W.Frag) (ta : TA) : TI := fun σ H R => ta σ H fun vs H1 => ∃ a xs, vs = [.ref a] ∧ ((SqL K H1 a xs ∧ R (Ite K a) H1) ∨ (SqT K H1 a xs ∧ R (Ien K a xs) H1))
theorem pi_enT {X : Cx} {e : Expr} {ta : TA} {p pos tpos : Pos} {elts : List Expr} {kk : Nat} (hg : Gl X "enumerate") (hm : X.mg "enumerate" = none) (ha : PA X [e] ta) (hs : starEach [e] X.env = [(false, eval e X.env)]) :
    PI X (.Tuple elts kk tpos) (.Call (.Name "enumerate" p) [e] [] pos) (iEnT X.K ta) := by
  refine ⟨fun pins s σ H R I h => ?_⟩
  refine PyProof.Rows.Call_ (ld_blt I hg hm PyProof.Rows.boot_enumerate (PyProof.Rows.callWith_type1 (thn (ha.run pos pins s σ H _ I h) fun us s1 ⟨vs, H1, I1, r1, q1⟩ => ?_) hs rfl))
  obtain ⟨a, xs, ex, q⟩ := q1
  subst ex
  obtain ⟨u, rfl, ru⟩ := r1.one
  cases ru
  have fp : ∀ b ∈ [s1.heap.objs.size + 1, s1.heap.objs.size], FpOk X pins H1 b := fun b hb => by
    have hle : s1.heap.objs.size ≤ b := by
      rcases (by simpa using hb : b = s1.heap.objs.size + 1 ∨ b = s1.heap.objs.size) with z | z
      · rw [z]; exact Nat.le_add_right _ _
      · rw [z]; exact Nat.le_refl _
    exact I1.fpOk hle (I1.hok.fresh hle)
  rcases q with ⟨hq, q⟩ | ⟨hq, q⟩
  · obtain ⟨its, rv, p', hz⟩ := I1.list hq
    refine call_enumerate_list p'.isList fun h' he hit hsz hk => wpAny_pyIter_enum he ?_
    exact ⟨s1.heap.objs.size + 1, [s1.heap.objs.size + 1, s1.heap.objs.size], _, _, H1, rfl, I1.kept (t' := s1.toks) hk, turn_enum a (s1.heap.objs.size + 1) s1.heap.objs.size, ⟨⟨.none, he⟩, hit, Nat.succ_ne_self _⟩, fp, q⟩
  · obtain ⟨its, rv, p', hz⟩ := I1.tuple hq
    have hal : a < s1.heap.objs.size := by obtain ⟨o, ho, _⟩ := p'; exact Heap.lt_size ho
    refine callType_new F.called_enumerate (by decide) (F.typeCall_enumerate_1 _) (F.newCall_enumerate_1 _) (fun obj => F.args_object_init_2 obj _) F.entry_enumerate_new (meets_enumT a its.toArray) ⟨p', ?_⟩
    have hzz : (s1.heap.push { cls := .type "tuple_iterator", data := .fields #[.ref a, .int 0 0] }).objs.size = s1.heap.objs.size + 1 := Heap.size_push ..
    show _ ∧ _
    rw [hzz]
    generalize hh' : (s1.heap.push { cls := .type "tuple_iterator", data := .fields #[.ref a, .int 0 0] }).push { cls := .type "enumerate", data := .fields #[.none, .bool false, .ref s1.heap.objs.size, rawInt 0, .none, .none] } = h'
    have he : IsEnum h' (s1.heap.objs.size + 1) s1.heap.objs.size 0 .none := by
      have := Heap.get?_push_size (s1.heap.push { cls := .type "tuple_iterator", data := .fields #[.ref a, .int 0 0] }) (o := { cls := .type "enumerate", data := .fields #[.none, .bool false, .ref s1.heap.objs.size, rawInt 0, .none, .none] }) rfl
      rw [hzz, hh'] at this
      exact this
    have hk : ∀ b o, s1.heap.get? b = some o → h'.get? b = some o := fun b o x => by rw [← hh']; exact Heap.get?_push_of_some _ (Heap.get?_push_of_some _ x)
    have hit : h'.IsTupleIter s1.heap.objs.size a 0 := ⟨_, by rw [← hh']; exact Heap.get?_push_of_some _ (Heap.get?_push_size _ rfl), rfl, rfl⟩
    refine ⟨⟨_, he, rfl⟩, wpAny_pyIter_enum he ?_⟩
    exact ⟨s1.heap.objs.size + 1, [s1.heap.objs.size + 1, s1.heap.objs.size], _, _, H1, rfl, I1.kept (t' := s1.toks) hk, turn_enT a (s1.heap.objs.size + 1) s1.heap.objs.size xs (Nat.ne_of_lt hal) (Nat.ne_of_lt (Nat.lt_succ_of_lt hal)),
      ⟨⟨.none, he⟩, hit, Nat.succ_ne_self _⟩, fp, q⟩
/-- (0, a), (1, b), .. -/
def numsD : Nat → List D → List D
  | _, [] => []
  | n, d :: r => .tup [.int n, d] :: numsD (n + 1) r
theorem numsD_len : ∀ (n : Nat) (l : List D), (numsD n l).length = l.length
  | _, [] => rfl
  | n, d :: r => by simp [numsD, numsD_len (n + 1) r]
theorem numsD_at : ∀ (n : Nat) (l : List D) (i : Nat), (numsD n l)[i]? = (l[i]?).map fun d => .tup [.int ((n + i : Nat) : Int), d]
  | n, [], i => by simp [numsD]
  | n, d :: r, 0 => by simp [numsD]
  | n, d :: r, i + 1 => by
    simp only [numsD, List.getElem?_cons_succ, numsD_at (n + 1) r i]
    rw [show n + 1 + i = n + (i + 1) by omega]
theorem jok_pair {A : Ad} {w : Wd} {l : List D} {vs : List V} {J : It} {G : Hp → Prop} (k : Walk J l.length G (YPair (fun i => some (.int (i : Nat))) (fun i => vs[i]?))) (hG : ∀ w2, Le w w2 → Wf w2 → G w2.H) (h : Reps A w l vs) : JOk A w (numsD 0 l) J := by
  refine ⟨G, _, by rw [numsD_len]; exact k, hG, fun w2 st i d x H' e2 s2 hd y => ?_⟩
  obtain ⟨T, x1, x2, rfl, hT, rfl, y1, y2⟩ := y
  rw [numsD_at] at hd
  simp only [Option.map_eq_some_iff, Nat.zero_add] at hd
  obtain ⟨d', hd', rfl⟩ := hd
  cases y1
  obtain ⟨v, h1, h2⟩ := h.get hd'
  have y2 : vs[i]? = some x2 := y2
  rw [h1] at y2
  cases y2
  exact ⟨w2.pure T _, rfl, ext_pure hT, s2.pure hT, rep_tup s2.wf hT (by rw [sizeLine_eq]; show 2 ≤ _; omega) (.cons (rep_int _) (.one (h2.le e2)))⟩
theorem blN14 : blN 14 = ("enumerate" : Str) := by decide +kernel
def fEnum : List D → Option (List D)
  | [.lst l] => some (numsD 0 l)
  | [.tup l] => some (numsD 0 l)
  | _ => none
/-- enumerate(e), the target a tuple -/
def iEnum2 (a : BE) : BI where
  den F := bndE (dns [a] F) fun l _ => opt (fEnum l)
  chk I N sc tg e := match tg, e with
    | .Tuple _ _ _, .Call (.Name x _) [e] [] _ => beqS x (blN 14) && I.bs.contains 14 && glbB sc x && notStar e && a.chk I N sc e
    | _, _ => false
  snd {A k F X W} C tg e h := by
    split at h
    · rename_i elts kk tpos x p e1 pos
      simp only [Bool.and_eq_true, List.contains_iff_mem] at h
      obtain ⟨⟨⟨⟨h1, h2⟩, h3⟩, h4⟩, h5⟩ := h
      have ex := beqS_eq h1
      subst ex
      have hm := C.facts.bl _ h2
      have hg := glbB_ok (X := X) h3
      rw [blN14] at hm hg ⊢
      have ha : PA X [e1] (LA A W (dns [a] F)) := pa_of C (by simp [chs, h4, h5])
      refine ⟨fun pins s t H R I q => (pi_enT hg hm ha (star_cons h4)).run pins s t H R I ?_⟩
      obtain ⟨w, r, st, rfl, hr, hs, hp⟩ := q
      refine step (R := RL A) (.refl w) hr hs hp fun w1 st1 a x hr1 hs1 e1 rx hp1 => ?_
      obtain ⟨l, el, hq⟩ := opt_post hp1
      unfold fEnum at el
      split at el
      · cases el
        obtain ⟨v, rfl, hv⟩ := rx.one'
        obtain ⟨p, vs, rfl, g1, g2⟩ := hv.lst
        refine ⟨p, vs, rfl, .inl ⟨by rw [C.hK]; exact g1.seq, hq w1 _ e1 hs1 (jok_pair (vs := vs) (G := fun H => SqL X.K H p vs) ?_ (fun w2 e _ => ?_) g2)⟩⟩
        · rw [← g2.length]; exact walk_enum
        · rw [C.hK]; exact (g1.le e).seq
      · cases el
        obtain ⟨v, rfl, hv⟩ := rx.one'
        obtain ⟨p, vs, rfl, g1, g2⟩ := hv.tup
        refine ⟨p, vs, rfl, .inr ⟨by rw [C.hK]; exact g1.seq, hq w1 _ e1 hs1 (jok_pair (vs := vs) (G := fun H => SqT X.K H p vs) ?_ (fun w2 e _ => ?_) g2)⟩⟩
        · rw [← g2.length]; exact walk_enT
        · rw [C.hK]; exact (g1.le e).seq
      · cases el
    · cases h
end Rf

set_option Elab.async false
set_option linter.all false
set_option maxRecDepth 100000
set_option maxHeartbeats 1000000
namespace Rf
open PySem L2

/-! ## == and != by an own __eq__ -/
section
open PySem.W
variable {prog : Program} {w : World} {A : Around} {E : Value → Shared → Prop} {s : Shared} {K : Frag} {x C f : Addr} {ox : Obj} {od : Option Obj} {b tb : Value}
theorem ne_bind (self : Value) : bindSpecial (.builtin "object.__ne__") self = pure (.builtin "object.__ne__", [self]) :=
  (Slot.of (T := "object") (name := "__ne__") (owner := "object") (n := "__ne__") (by rw [typeLookup_type, builtinLookup_eq_fast]; kernel_rfl) (by decide +kernel) (by decide +kernel) (by decide +kernel) (.inl (by decide +kernel)) (by rw [isSubtype_type]; kernel_rfl)).bind self
theorem ne_plain : plainId "object.__ne__" = true := by decide +kernel
theorem bound_B {M : Model} {args : List Value} {name : Str} {id : String} {Q : Option Value → Shared → Prop} (X : K.In s.heap) (I : InstAt s.heap x ox C od) (hs : findIn K (.ref C) name = some (some (.builtin id))) (hb : bindSpecial (.builtin id) (.ref x) = pure (.builtin id, [.ref x]))
    (h : wpAny M A (call (.builtin id) (.ref x :: args)) (fun v => Q (some v)) E s) : wpAny M A (callSpecialIfBound? (.ref x) name args) Q E s := by
  have B : Looks M s.heap (bindSpecial (.builtin id) (.ref x)) (.builtin id, [.ref x]) := Looks.of_pure hb
  simp only [callSpecialIfBound?, bindSpecialIfBound?]
  refine wpAny_holding (wpAny_bind (wpAny_bind (wpAny_bind (I.type.here ((looks_findIn X hs).here ?_)))))
  refine wpAny_bind (wpAny_askSetting (wpAny_ite ?_))
  have last : wpAny M A (call (.builtin id) ([.ref x] ++ args) >>= fun v => pure (some v)) Q E s := wpAny_bind (wpAny_mono h (fun v s' h' => wpAny_pure h') fun _ _ h' => h')
  split
  · exact wpAny_bind (B.here (wpAny_pure (by exact last)))
  · exact wpAny_tryCatch (wpAny_bind (B.here (wpAny_pure (by exact last))))
theorem ne_body {Q : Fin → Shared → Prop} (X : K.In s.heap) (I : InstAt s.heap x ox C od) (he : findIn K (.ref C) "__eq__" = some (some (.ref f))) (hf : isFn K (.ref f) = true) (hu : A.units < cLine)
    (h : wpAny (model prog w) A (call (.ref f) [.ref x, b]) (fun v s' => ∃ c, v = .bool c ∧ Q (.done (.ret (.bool (!c)))) s') E s) : wpAny (model prog w) A (Builtin.«object.__ne__» ⟨[.ref x, b], []⟩) Q E s := by
  have X' := X
  have I' := I
  have key : ∀ (k : Option Value → Sem Fin), (∀ c s', Q (.done (.ret (.bool (!c)))) s' → wpAny (model prog w) A (k (some (.bool c))) Q E s') → wpAny (model prog w) A (callSpecialIfBound? (.ref x) (Str.ofString "__eq__") [b] >>= k) Q E s := by
    intro k hk
    refine wpAny_bind (ifBound_K X' I' he hf (wpAny_mono h (fun v s' hv => ?_) fun _ _ e => e))
    obtain ⟨c, rfl, hq⟩ := hv
    exact hk c s' hq
  obtain ⟨hh, g, d, t, os⟩ := s
  unfold Builtin.«object.__ne__»
  repeat (first
    | with_reducible refine wpAny_cRoomFor hu ?_
    | (with_reducible refine key _ fun c s' hq => ?_)
    | wp_step)
  obtain ⟨hh, g, d, t, os⟩ := s'
  repeat (first | exact hq | exact wpAny_pure hq | exact wpAny_truthy_bool hq | (refine wpAny_bind (m := truthy (.bool _)) (wpAny_truthy_bool ?_)) | wp_step)
theorem ne_K {Q : Value → Shared → Prop} (hu : A.units + 1 < cLine) (X : K.In s.heap) (I : InstAt s.heap x ox C od) (hb : Looks (model prog w) s.heap (typeOf b) tb) (hn : notFirst K C tb = true)
    (hne : findIn K (.ref C) "__ne__" = some (some (.builtin "object.__ne__"))) (he : findIn K (.ref C) "__eq__" = some (some (.ref f))) (hf : isFn K (.ref f) = true) (top : mroIn K C (.type "object") = some true)
    (h : wpAny (model prog w) A.in1 (call (.ref f) [.ref x, b]) (fun v s' => ∃ c, v = .bool c ∧ Q (.bool (!c)) s') E s) : wpAny (model prog w) A (richCompare .NotEq (.ref x) b) Q E s := by
  have t2 : Looks (model prog w) s.heap (isInstance (.ref x) (.type "object")) true := I.type.andThen (looks_mroIn X top)
  have one : wpAny (model prog w) A (tryCompare (.ref x) "__ne__" b) (fun r s' => ∃ v, r = some v ∧ Q v s') E s := by
    unfold tryCompare
    refine wpAny_bind (bound_B X I hne (ne_bind _) (wpAny_call (codeAny_call_builtin ne_plain PySem.F.cmpEntry_ne (check_slot PySem.F.cmpKind_ne PySem.F.cmpSplit_ne t2 (PySem.F.cmpArgs_ne _ _)
      (ne_body (A := A.in1) X I he hf hu (wpAny_mono h (fun v s' hv => ?_) fun _ _ e => e))))))
    obtain ⟨c, rfl, hq⟩ := hv
    exact ⟨c, rfl, wpAny_pure ⟨_, rfl, hq⟩⟩
  unfold richCompare
  simp only [oneThing_ref]
  rw [cmpInfo_NotEq]
  dsimp only
  refine wpAny_holding (wpAny_bind (wpAny_cRoomFor (Nat.lt_of_succ_lt hu) ?_))
  refine wpAny_bind (I.type.here (wpAny_bind (hb.here ?_)))
  split
  · rename_i q
    have e : subIn K tb (.ref C) = some false := by
      rcases Bool.or_eq_true_iff.mp hn with e | e
      · rw [beq_iff_eq.mp e] at q; simp at q
      · exact beq_iff_eq.mp e
    refine wpAny_bind ((looks_subIn X e).here ?_)
    simp only [Bool.false_eq_true, if_false]
    refine wpAny_bind (wpAny_mono one (fun r s' z => ?_) fun _ _ e => e)
    obtain ⟨v, rfl, hq⟩ := z
    exact wpAny_pure hq
  · refine wpAny_bind (wpAny_pure ?_)
    simp only [Bool.false_eq_true, if_false]
    refine wpAny_bind (wpAny_mono one (fun r s' z => ?_) fun _ _ e => e)
    obtain ⟨v, rfl, hq⟩ := z
    exact wpAny_pure hq
end
/-- the __eq__ of what d is -/
def eqI (st : Sto) (d : D) : Option Nat := match tyOf st d with
  | some (.inr c) => eqF c
  | _ => none
def outB (neg : Bool) : Out D → Out D
  | .ok (.bl c) st => .ok (.bl (if neg then !c else c)) st
  | _ => .bad
def fEqO (F : FT) (neg : Bool) (x y : D) : M D := fun st => match eqI st x with
  | some i => (match tyOf st y with
    | some _ => outB neg (F i [x, y] st)
    | none => .bad)
  | none => opt ((if neg then fNe else fEq) x y) st
abbrev noE : XK := fun _ _ _ => False
theorem pass_no {X : Cx} : Passes (L2.CX X.prog X.w) X noE := fun pins σ H s e s' I c => by
  obtain ⟨_, _, _, _, _, _, _, _, _, _, _, _, z⟩ := c
  exact z.elim
def rEqO (A : Ad) (F : FT) (neg : Bool) : L2.R2 := fun x y H Q => ∃ (w : Wd) (st : Sto) (a b : D), w.H = H ∧ SRel A w st ∧ Rep A w a x ∧ Rep A w b y ∧ PostG A (RD A) noE w Q (fEqO F neg a b st)
section
variable {A : Ad} {k : Nat} {F : FT} {X : Cx} {W : WX}
theorem outB_ok {neg : Bool} {o : Out D} {R : Wd → Wd → D → V → Prop} {w : Wd} {Q : VK} (h : PostG A R noE w Q (outB neg o)) : ∃ c st, o = .ok (.bl c) st ∧ PostG A R noE w Q (.ok (.bl (if neg then !c else c)) st) := by
  cases o with
  | ok d st =>
    cases d with
    | bl c => exact ⟨c, st, rfl, h⟩
    | _ => exact h.elim
  | exc x st => exact h.elim
  | bad => exact h.elim
theorem or_eqO (C : Ctx A k F X W) (neg : Bool) : OpR X (compareOp (if neg then .NotEq else .Eq)) (rEqO A F neg) := by
  intro pins s σ H x y v u Q I rx ry h
  obtain ⟨w, st, a, b, rfl, hs, ra, rb, hp⟩ := h
  unfold fEqO at hp
  cases ei : eqI st a with
  | none =>
    rw [ei] at hp
    cases neg with
    | false =>
      obtain ⟨d, e, hq⟩ := opt_post (R := RD A) hp
      obtain ⟨r, q1, q2⟩ := pEq.imp C
      exact q1 pins s σ w.H x y v u Q I rx ry (q2 w st a b x y d Q hs ra rb e hq)
    | true =>
      obtain ⟨d, e, hq⟩ := opt_post (R := RD A) hp
      obtain ⟨r, q1, q2⟩ := pNe.imp C
      exact q1 pins s σ w.H x y v u Q I rx ry (q2 w st a b x y d Q hs ra rb e hq)
  | some i =>
    rw [ei] at hp
    cases ey : tyOf st b with
    | none => rw [ey] at hp; exact hp.elim
    | some ty =>
      rw [ey] at hp
      simp only at hp
      obtain ⟨c0, st1, ef, hp1⟩ := outB_ok hp
      obtain ⟨ty1, ty2⟩ := ty_rep C.facts hs rb ey
      rw [← C.hK] at ty1
      obtain ⟨P, Z, zp, _⟩ := kit_of I ry ty1
      have hb := Z.ty (model X.prog X.w) s.heap I.kIn zp
      -- the left one is an instance
      have inst : ∃ (c p dx : Addr) (cc : Nat) (fs : List (Str × V)), x = .ref p ∧ cc ∈ A.I.cs ∧ eqF cc = some i ∧ w.H p = some (.ins (A.ca cc) dx fs) := by
        unfold eqI at ei
        cases a with
        | obj c l =>
          obtain ⟨p, dx, vs, rfl, _, h0, hp, _⟩ := ra.obj
          exact ⟨p, p, dx, c, _, rfl, h0.1, ei, hp⟩
        | loc n =>
          obtain ⟨p, rfl, hm⟩ := ra.loc
          simp only [tyOf] at ei
          cases eo : st[n]? with
          | none => rw [eo] at ei; cases ei
          | some o =>
            rw [eo] at ei
            cases o with
            | lst _ => cases ei
            | ins c l =>
              obtain ⟨dx, vs, h0, hp, _⟩ := hs.ob n _ p eo hm
              exact ⟨p, p, dx, c, _, rfl, h0.1, ei, hp⟩
        | _ => cases ei
      obtain ⟨_, p, dx, cc, fs, rfl, hcc, heq, hp0⟩ := inst
      cases (show v = Value.ref p from rx)
      have cf := C.facts.cl cc hcc
      obtain ⟨e1, e2, e3, e4⟩ := cf.eq i heq
      rw [← C.hK] at e1 e2 e4
      have hn : PySem.W.notFirst X.K (A.ca cc) (tyV A ty) = true := by
        rw [C.hK]
        cases ty with
        | inl n => exact (cf.kb n ty2).2.2
        | inr c' => exact (cf.kk c' ty2).2
      obtain ⟨mA, O, _⟩ := ins_get I.hok hp0
      obtain ⟨od, J, _⟩ := O.look
      have hp2 : PostG A (RD A) noE w (fun v' H' => ∃ c, v' = .bl c ∧ Q (.bl (if neg then !c else c)) H') (F i [a, b] st) := by
        rw [ef]
        intro w' v' ex sr rv
        exact ⟨c0, rv.bl, hp1 w' _ ex sr (rep_bl _)⟩
      obtain ⟨fd, ps, F1, b1, _, _⟩ := calls_get C e3 hp2
      have hsp : spF A (F i) [.ref p, y] w.H (fun v' H' => ∃ c, v' = .bl c ∧ Q (.bl (if neg then !c else c)) H') noE := ⟨w, [a, b], st, rfl, hs, .cons ra (.one rb), hp2⟩
      have rvs : Vals [V.ref p, y] [Value.ref p, u] := .cons rfl (.cons ry .nil)
      have hl : [Value.ref p, u].length = ps.length := rvs.length.symm.trans (F1.len _ _ _ _ hsp)
      have hbi := b1 s [Value.ref p, u] I.kIn (by rw [List.append_nil]; exact hl)
      rw [List.append_nil] at hbi
      have eqo : ∀ op a b, op = CmpOp.Eq ∨ op = CmpOp.NotEq → compareOp op a b = richCompare op a b := fun op a b z => by rcases z with rfl | rfl <;> rfl
      cases neg with
      | false =>
        obtain ⟨m, hF⟩ := I.fr
        show wpAny _ _ (compareOp .Eq _ _) _ _ _
        rw [eqo _ _ _ (.inl rfl)]
        refine PySem.W.cmp_K (op := .Eq) (tb := tyV A ty) C.room.units0 hF I.ok.mod.kin J hb hn e1 e2 ?_
        refine wpAny_call (codeAny_mono (F1.run X.A X.stack s w.H ⟨[.ref p, u], []⟩ _ _ _ _ (C.room.mono (Nat.le_succ _)) I.env0 hbi rvs hsp) fun o s' ho => ?_)
        cases o with
        | error z => exact pass_no pins σ w.H s z s' I ho
        | ok fl =>
          cases fl with
          | ret u' =>
            obtain ⟨v', H', I3, rv, c, rfl, q3⟩ := I.after ho
            cases (show u' = Value.bool c from rv)
            exact ⟨.bl c, H', I3, rfl, q3⟩
          | next => cases ho
          | brk => cases ho
          | cont => cases ho
      | true =>
        show wpAny _ _ (compareOp .NotEq _ _) _ _ _
        rw [eqo _ _ _ (.inr rfl)]
        refine ne_K (tb := tyV A ty) (by have := C.room.units; omega) I.kIn J hb hn e4 e1 e2 (by rw [C.hK]; exact cf.km) ?_
        have e0 : Env0 X.prog X.w X.K X.mg X.base X.A.in1 X.stack s w.H := I.env0.in1
        refine wpAny_call (codeAny_mono (F1.run X.A.in1 X.stack s w.H ⟨[.ref p, u], []⟩ _ _ _ _ C.room.in1 e0 hbi rvs hsp) fun o s' ho => ?_)
        cases o with
        | error z => exact pass_no pins σ w.H s z s' I ho
        | ok fl =>
          cases fl with
          | ret u' =>
            obtain ⟨v', H', I3, rv, c, rfl, q3⟩ := I.after ho
            cases (show u' = Value.bool c from rv)
            exact ⟨c, rfl, .bl (!c), H', I3, rfl, q3⟩
          | next => cases ho
          | brk => cases ho
          | cont => cases ho
end
def dEqO (F : FT) (neg : Bool) (a b : En → M D) : En → M D := bndE a fun x => bndE b fun y _ => noX (fEqO F neg x y)
theorem eqO_step {A : Ad} {F : FT} {neg : Bool} {W : WX} {t : St} {H : Hp} {Q : VK} {a b : En → M D} (h : LE A W (dEqO F neg a b) t H Q) : tOp (rEqO A F neg) (LE A W a) (LE A W b) t H Q := by
  obtain ⟨w, r, st, rfl, hr, hs, hp⟩ := h
  refine step (R := RD A) (.refl w) hr hs hp fun w1 st1 x vx hr1 hs1 e1 rx hp1 => ?_
  refine step (R := RD A) e1 hr1 hs1 hp1 fun w2 st2 y vy hr2 hs2 e2 ry hp2 => ?_
  refine ⟨w2, st2, x, y, rfl, hs2, rx.mono hs1.wf e2, ry, ?_⟩
  unfold noX at hp2
  cases e : fEqO F neg x y st2 with
  | ok d st3 => rw [e] at hp2; exact fun w' v ex sr rv => hp2 w' v ((e1.trans e2).trans ex) sr rv
  | exc z st3 => rw [e] at hp2; exact hp2.elim
  | bad => rw [e] at hp2; exact hp2.elim
def opOf (neg : Bool) : CmpOp := if neg then .NotEq else .Eq
def cEqO (neg : Bool) (a b : BE) : BE where
  den F := dEqO F neg (a.den F) (b.den F)
  chk I N sc e := match e with
    | .Compare x [op] [y] _ => decide (op = opOf neg) && notSet y && a.chk I N sc x && b.chk I N sc y
    | _ => false
  snd {A k F X W} C e h := by
    split at h
    · simp only [Bool.and_eq_true, decide_eq_true_eq] at h
      obtain ⟨⟨⟨h1, h0⟩, h2⟩, h3⟩ := h
      subst h1
      exact (pe_cmpR (or_eqO C neg) (a.snd C h2) (b.snd C h3) (notSet_ok h0)).imp fun t H Q q => eqO_step q
    · cases h
def tEqO (neg : Bool) (a b : BE) : BT where
  den F := dB (dEqO F neg (a.den F) (b.den F))
  chk I N sc e := match e with
    | .Compare x [op] [y] _ => decide (op = opOf neg) && notSet y && a.chk I N sc x && b.chk I N sc y
    | _ => false
  snd {A k F X W} C e h := by
    split at h
    · simp only [Bool.and_eq_true, decide_eq_true_eq] at h
      obtain ⟨⟨⟨h1, h0⟩, h2⟩, h3⟩ := h
      subst h1
      exact (pt_cmpR (or_eqO C neg) (a.snd C h2) (b.snd C h3) (notSet_ok h0)).imp fun t H Q q => eqO_step (dB_ok q)
    · cases h
end Rf

set_option Elab.async false
set_option linter.all false
set_option maxRecDepth 100000
set_option maxHeartbeats 1000000
namespace Rf
open PySem L2

/-! ## a, b = e, e', one of the names kept in a cell -/
theorem sw_cell {env : Env} {x y : Str} {px py pt pt2 : Pos} {kt k2 : Nat} {a b : Expr} (h : (!locB env.scope x || !locB env.scope y) = true) :
    swappedStores [.Tuple [.Name x px, .Name y py] kt pt] (.Tuple [a, b] k2 pt2) env = pure none := by
  have nl : ∀ z, locB env.scope z = false → (env.kindOf z == some NameKind.local) = false := fun z q => by
    have e : env.kindOf z = env.scope.names.lookup z := rfl
    rw [e]
    unfold locB at q
    cases ek : env.scope.names.lookup z with
    | none => rfl
    | some k => rw [ek] at q; cases k <;> first | rfl | cases q
  have e1 : ∀ (ln : Nat), (([Expr.Name x px, Expr.Name y py].filterMap fun e => match e with
    | .Name id pos => if (env.kindOf id == some NameKind.local && pos.line == ln) = true then some id else none
    | _ => none).length != [Expr.Name x px, Expr.Name y py].length) = true := by
    intro ln
    have hle : ([Expr.Name x px, Expr.Name y py].filterMap fun e => match e with
      | .Name id pos => if (env.kindOf id == some NameKind.local && pos.line == ln) = true then some id else none
      | _ => none).length < 2 := by
      rw [List.filterMap_cons, List.filterMap_cons, List.filterMap_nil]
      rcases Bool.or_eq_true_iff.mp h with q | q
      · have := nl x (by simpa using q)
        simp only [this, Bool.false_and, Bool.false_eq_true, if_false]
        split
        · simp
        · rename_i heq; split at heq <;> simp_all
      · have := nl y (by simpa using q)
        simp only [this, Bool.false_and, Bool.false_eq_true, if_false]
        split
        · simp
        · simp
    simp only [bne_iff_ne, ne_eq]
    show ¬ _ = 2
    omega
  unfold swappedStores
  simp only []
  split
  · rfl
  · split
    · rfl
    · rw [if_pos (by rw [Bool.or_eq_true]; exact .inl (e1 _))]
def sPar2 (i j : Nat) (a b : BX) : BS where
  den F r := bnd (a.den F r) fun x => bnd (b.den F r) fun y => ret (.nx ((r.set i (mkS a.o x)).set j (mkS b.o y)))
  chk I N sc s := match s with
    | .Assign [.Tuple [.Name x px, .Name y py] _ _] (.Tuple [e, e'] _ _) _ => decide (a.o = true → i ≠ 0) && decide (b.o = true → j ≠ 0) && decide (N[i]? = some x) && decide (N[j]? = some y) && stoB sc x && stoB sc y && (!locB sc x || !locB sc y) && notStar e && notStar e' && a.chk I N sc e && b.chk I N sc e'
    | _ => false
  snd {A k F X W} C s h w0 := by
    split at h
    · rename_i x px y py kt pt e e' k2 pt2 pos
      simp only [Bool.and_eq_true, decide_eq_true_eq] at h
      obtain ⟨⟨⟨⟨⟨⟨⟨⟨⟨⟨z1, z2⟩, h1⟩, h2⟩, h3⟩, h4⟩, h5⟩, n1⟩, n2⟩, h7⟩, h8⟩ := h
      refine (ps_asg (pe_tup (pa_cons (a.snd C.c h7) (pa_cons (b.snd C.c h8) pa_nil (star_cons n2)) (star_cons n1)))
        (pg_tup C.c.calm (pgs_cons (pg_name C.c.nd h1 (stoB_ok h3) (.inl (C.fn x))) (pgs_cons (pg_name C.c.nd h2 (stoB_ok h4) (.inl (C.fn y))) pgs_nil rfl) rfl)) (hw := sw_cell h5)).imp fun E t H q => ?_
      obtain ⟨w, r, st, rfl, fr, hp⟩ := q
      refine stepS (R := RX A a.o) fr hp fun w1 st1 d v fr1 e1 rv _ hp1 => ?_
      refine stepS (R := RX A b.o) fr1 hp1 fun w2 st2 d2 v2 fr2 e2 rv2 _ hp2 => ?_
      refine ⟨by rw [sizeLine_eq]; show 2 ≤ _; omega, fun p hpn => ?_⟩
      have ex := ext_raw (o := .tup [v, v2]) hpn
      have sr := fr2.sr.raw (o := .tup [v, v2]) hpn
      refine ⟨p, [v, v2], rfl, .inl (.inl upd_same), rfl, v, [v2], rfl, v2, [], rfl, rfl, ?_⟩
      exact hp2 (w2.raw p _) _ (ex.le fr2.sr.wf) ((fr.setX z1 e1 fr1.sr rv).setX z2 (e2.trans ex) sr (rv2.up fr2.sr.wf ex))
    · cases h
end Rf

set_option Elab.async false
set_option linter.all false
set_option maxRecDepth 100000
set_option maxHeartbeats 1000000
namespace Rf
open PySem L2
def top (i : Nat) : Stmt := PySem.Challenge.pw_piletables_k85_whole_texts_of_tables.main.body.getD i (.Pass ⟨0, 0, 0, 0⟩)
def inC (s : Stmt) (j : Nat) : Stmt := match s with
  | .ClassDef _ _ _ b _ _ _ _ _ _ _ => b.getD j (.Pass ⟨0, 0, 0, 0⟩)
  | s => s
def b_is_whole : List BS := [
  (sRet (cAnd [(cIsi (.inl 2) (cVar 0)), (cNot (cIsi (.inl 1) (cVar 0)))]))]
def d_is_whole : DB := ⟨["value"], 1, b_is_whole⟩
def b_is_between : List BS := [
  (sRet (cAnd [(cCall 0 [(cVar 0)]), (cChain pLe pLe (cVar 1) (cVar 0) (cVar 2))]))]
def d_is_between : DB := ⟨["value", "least", "most"], 3, b_is_between⟩
def b_is_one_of : List BS := [
  (sRet (cAnd [(cIsi (.inl 3) (cVar 0)), (cCmp pIn (cVar 0) (cVar 1))]))]
def d_is_one_of : DB := ⟨["value", "words"], 2, b_is_one_of⟩
def b_is_tuple_of : List BS := [
  (sRet (cAnd [(cIsi (.inl 4) (cVar 0)), (cCmp pEq (cBi bLen [(cVar 0).p]) (cVar 1))]))]
def d_is_tuple_of : DB := ⟨["value", "many"], 2, b_is_tuple_of⟩
def b_blocks_of : List BS := [
  (sRet (cSl (cCon 0) noPart (part (cVar 0))))]
def d_blocks_of : DB := ⟨["many"], 1, b_blocks_of⟩
def b_is_falling : List BS := [
  (sRet (cBi bAll [(fComp (iRng2 (cInt 1) (cBi bLen [(cVar 0).p])) [1] (gNm 1) .no (cCmp pLt (cIx (cVar 0).p (cVar 1)) (cIx (cVar 0).p (cBin oSub (cVar 1) (cInt 1))))).e.p]))]
def d_is_falling : DB := ⟨["pile", "index"], 1, b_is_falling⟩
def b_has_each_once : List BS := [
  (sRet (cAnd [(cCmp pEq (cBi bLen [(cVar 0).p]) (cBi bLen [(cVar 1).p])), (cBi bAll [(fComp (iSeq (cVar 1)) [2] (gNm 2) .no (cCmp pIn (cVar 2) (cVar 0))).e.p])]))]
def d_has_each_once : DB := ⟨["text", "blocks", "block"], 2, b_has_each_once⟩
def b_are_piles : List BS := [
  (sRet (cAnd [(cCall 50 [(cVar 0), (cVar 1)]), (cBi bAll [(fComp (iSeq (cVar 0)) [2] (gNm 2) .no (cIsi (.inl 3) (cVar 2))).e.p])]))]
def d_are_piles : DB := ⟨["value", "many", "pile"], 2, b_are_piles⟩
def b_fits_rule : List BS := [
  (sRet (cAnd [(cCmp pLe (cBi bLen [(cVar 1).p]) (cAttr 3 (cVar 0))), (cOr [(cCmp pEq (cAttr 4 (cVar 0)) (cCon 5)), (cCall 4 [(cVar 1)])])]))]
def d_fits_rule : DB := ⟨["table", "pile"], 2, b_fits_rule⟩
def b_is_standing : List BS := [
  (sIf (tOr [(tNot (tVal (cCall 55 [(cVar 1), (cAttr 2 (cVar 0))]))), (tNot (tVal (cCall 54 [(cJoin (cStr []) (cVar 1).p), (cCall 3 [(cAttr 1 (cVar 0))])])))]) [(sRet (cBl false))] []),
  (sRet (cBi bAll [(fComp (iSeq (cVar 1)) [2] (gNm 2) .no (cCall 5 [(cVar 0), (cVar 2)])).e.p]))]
def d_is_standing : DB := ⟨["table", "value", "pile"], 2, b_is_standing⟩
def b_check_number : List BS := [
  (sIf (tNot (tVal (cCall 1 [(cVar 0), (cVar 1), (cVar 2)]))) [sNev] [])]
def d_check_number : DB := ⟨["value", "least", "most"], 3, b_check_number⟩
def b_check_height : List BS := [
  (sExp (cCall 26 [(cVar 0), (cInt 1), (cVar 1)])),
  (sIf (tCmp pLt (cBin oMul (cVar 0) (cVar 2)) (cVar 1)) [sNev] [])]
def d_check_height : DB := ⟨["height", "many", "piles"], 3, b_check_height⟩
def b_Table___init__ : List BS := [
  (sExp (cCall 26 [(cVar 1), (cCon 1), (cCon 2)])),
  (sExp (cCall 26 [(cVar 2), (cCon 3), (cCon 4)])),
  (sExp (cCall 27 [(cVar 3), (cVar 1), (cVar 2)])),
  (sIf (tNot (tVal (cCall 2 [(cVar 4), (cCon 7)]))) [sNev] []),
  (sSelf 1 (cVar 1)),
  (sSelf 2 (cVar 2)),
  (sSelf 3 (cVar 3)),
  (sSelf 4 (cVar 4)),
  (sSelf 5 (cTup [(cVar 1), (cVar 2), (cVar 3), (cVar 4)]))]
def d_Table___init__ : DB := ⟨["self", "many", "piles", "height", "rule"], 5, b_Table___init__⟩
def b_Table___eq__ : List BS := [
  (sRet (cAnd [(cIsi (.inr 4) (cVar 1)), (cCmp pEq (cAttr 5 (cVar 0)) (cAttr 5 (cVar 1)))]))]
def d_Table___eq__ : DB := ⟨["self", "other"], 2, b_Table___eq__⟩
def b_check_table : List BS := [
  (sIf (tNot (tVal (cIsi (.inr 4) (cVar 0)))) [sNev] [])]
def d_check_table : DB := ⟨["table"], 1, b_check_table⟩
def b_check_standing : List BS := [
  (sIf (tNot (tVal (cCall 56 [(cVar 0), (cVar 1)]))) [sNev] [])]
def d_check_standing : DB := ⟨["table", "standing"], 2, b_check_standing⟩
def b_check_both : List BS := [
  (sExp (cCall 30 [(cVar 0)])),
  (sExp (cCall 67 [(cVar 0), (cVar 1)]))]
def d_check_both : DB := ⟨["table", "standing"], 2, b_check_both⟩
def b_are_signs : List BS := [
  (sRet (cAnd [(cCmp pNe (cVar 0) (cStr [])), (cBi bAll [(fComp (iSeq (cVar 0)) [2] (gNm 2) .no (cCmp pIn (cVar 2) (cVar 1))).e.p])]))]
def d_are_signs : DB := ⟨["word", "signs", "sign"], 2, b_are_signs⟩
def b_are_figures : List BS := [
  (sRet (cAnd [(cCall 141 [(cVar 0), (cCon 16)]), (cOr [(cCmp pEq (cVar 0) (cStr [48])), (cCmp pNe (cIx (cVar 0).p (cInt 0)) (cStr [48]))])]))]
def d_are_figures : DB := ⟨["word"], 1, b_are_figures⟩
def b_is_first_line : List BS := [
  (sIf (tOr [(tCmp pNe (cBi bLen [(cVar 0).p]) (cCon 21)), (tCmp pNe (cIx (cVar 0).p (cInt 0)) (cCon 19))]) [(sRet (cBl false))] []),
  (sRet (cAnd [(cCall 142 [(cIx (cVar 0).p (cInt 1))]), (cCall 142 [(cIx (cVar 0).p (cInt 2))]), (cCall 141 [(cIx (cVar 0).p (cInt 3)), (cCon 17)])]))]
def d_is_first_line : DB := ⟨["words"], 1, b_is_first_line⟩
def b_is_pile_line : List BS := [
  (sIf (tOr [(tCmp pNe (cBi bLen [(cVar 0).p]) (cCon 22)), (tCmp pNe (cIx (cVar 0).p (cInt 0)) (cCon 20))]) [(sRet (cBl false))] []),
  (sRet (cOr [(cCmp pEq (cIx (cVar 0).p (cInt 1)) (cCon 18)), (cCall 141 [(cIx (cVar 0).p (cInt 1)), (cCon 17)])]))]
def d_is_pile_line : DB := ⟨["words"], 1, b_is_pile_line⟩
def b_is_line : List BS := [
  (sIf (tNot (tVal (cIsi (.inl 3) (cVar 1)))) [(sRet (cBl false))] []),
  (sSet 2 (fSpl (cVar 1) (cStr [32])).e),
  (sRet (cIf (tCmp pEq (cVar 0) (cInt 0)) (cCall 143 [(cVar 2)]) (cCall 144 [(cVar 2)])))]
def d_is_line : DB := ⟨["index", "value", "words"], 2, b_is_line⟩
def b_wrong_line : List BS := [
  (sIf (tOr [(tNot (tVal (cIsi (.inl 4) (cVar 0)))), (tCmp pEq (cVar 0) (cTup []))]) [(sRet (fLst [cNon]).e)] []),
  (sFor (iEnum2 (cVar 0)) (gTp [(gNm 1), (gNm 2)]) [(sIf (tNot (tVal (cCall 145 [(cVar 1), (cVar 2)]))) [(sRet (fLst [(cVar 1)]).e)] [])]),
  (sRet (fLst []).e)]
def d_wrong_line : DB := ⟨["rows", "index", "line"], 1, b_wrong_line⟩
def b_piles_in : List BS := [
  (sLc false 1 (iSeq (cSl (cVar 0) (part (cInt 1)) noPart)) [2] (gNm 2) .no (cIx (fSpl (cVar 2) (cStr [32])).e.p (cInt 1))),
  (sRet (cBi bTuple [(fComp (iSeq (cVar 1)) [3] (gNm 3) .no (cIf (tCmp pEq (cVar 3) (cCon 18)) (cStr []) (cVar 3))).e.p]))]
def d_piles_in : DB := ⟨["rows", "words", "line", "word"], 1, b_piles_in⟩
def b_table_rows : List BS := [
  (sExp (cCall 68 [(cVar 0), (cVar 1)])),
  (sSet 2 (cJoin (cStr [32]) (fLst [(cCon 19), (cBi bStr [(cAttr 1 (cVar 0)).p]), (cBi bStr [(cAttr 3 (cVar 0)).p]), (cAttr 4 (cVar 0))]).e.p)),
  (sRet (cBin oAdd (cTup [(cVar 2)]) (cBi bTuple [(fComp (iSeq (cVar 1)) [3] (gNm 3) .no (cBin oAdd (cBin oAdd (cCon 20) (cStr [32])) (cIf (tCmp pEq (cVar 3) (cStr [])) (cCon 18) (cVar 3)))).e.p])))]
def d_table_rows : DB := ⟨["table", "standing", "first", "pile"], 2, b_table_rows⟩
def b_read_table : List BS := [
  (sSet 1 (cCall 146 [(cVar 0)])),
  (sIf (tCmp pNe (cVar 1) (fLst []).e) [sNev] []),
  (sSet 2 (fSpl (cIx (cVar 0).p (cInt 0)) (cStr [32])).e),
  (sSet 3 (cCall 147 [(cVar 0)])),
  (sSet 4 (fMk 4 [(cBi bInt [(cIx (cVar 2).p (cInt 1)).p]), (cBi bLen [(cVar 3).p]), (cBi bInt [(cIx (cVar 2).p (cInt 2)).p]), (cIx (cVar 2).p (cInt 3))]).e),
  (sExp (cCall 67 [(cVar 4), (cVar 3)])),
  (sRet (cTup [(cVar 4), (cVar 3)]))]
def d_read_table : DB := ⟨["rows", "wrong", "words", "standing", "table"], 1, b_read_table⟩
def b__law_well : List BS := [
  (sSet 2 (cIf (tCmp pLt (cVar 1) (cBi bLen [(cVar 0).p])) (cBi bInt [(cIx (cVar 0).p (cVar 1)).p]) (cInt 0))),
  (sSet 3 (cBin oAdd (cInt 773098) (cBin oMul (cInt 433) (cVar 1)))),
  (sFor (iSeq (cBin oAdd (cSl (cVar 0) noPart (part (cInt 12))) (fLst [(cVar 2)]).e)) (gNm 4) [(sSet 3 (cBin oMod (cBi bInt [(cBin oAdd (cBin oAdd (cBin oMul (cVar 3) (cInt 16807)) (cBin oMod (cBi bInt [(cVar 4).p]) (cInt 2147481359))) (cInt 211)).p]) (cInt 2147482093)))]),
  (sRet (fLst [(cIf (tOr [(tCmp pLt (cVar 2) (cInt 0)), (tCmp pGe (cVar 2) (cBin oPow (cInt 10) (cInt 15)))]) (cBin oMod (cBi bAbs [(cVar 2).p]) (cBin oPow (cInt 10) (cInt 60))) (cInt 0)), (cVar 3), (cInt 0)]).s)]
def d__law_well : DB := ⟨["script", "lap", "own", "stir", "cell"], 2, b__law_well⟩
def b__law_draw : List BS := [
  (sIf (tCmp pGt (cIx (cVar 0).p (cInt 0)) (cInt 0)) [(sAsg (gTpX [(gIx (cVar 0) (cInt 0)), (gNm 2).x]) (cBi bDivmod [(cIx (cVar 0).p (cInt 0)).p, (cVar 1).p])), (sRet (cVar 2))] []),
  (sAsg (gIx (cVar 0) (cInt 2)) (cBin oAdd (cIx (cVar 0).p (cInt 2)) (cInt 1))),
  (sAsg (gIx (cVar 0) (cInt 1)) (cBin oMod (cBi bInt [(cBin oAdd (cBin oAdd (cBin oMul (cIx (cVar 0).p (cInt 1)) (cBin oAdd (cBin oMod (cBi bInt [(cIx (cVar 0).p (cInt 1)).p]) (cInt 8837)) (cInt 41011))) (cBin oMul (cInt 9787) (cIx (cVar 0).p (cInt 2)))) (cInt 167)).p]) (cInt 2147481199))),
  (sRet (cBin oMod (cBi bInt [(cBin oDiv (cIx (cVar 0).p (cInt 1)) (cInt 487)).p]) (cVar 1)))]
def d__law_draw : DB := ⟨["well", "many", "figure"], 2, b__law_draw⟩
def b__law_of : List BS := [
  (sRet (cIx (cVar 1).p (cCall 34 [(cVar 0), (cBi bLen [(cVar 1).p])])))]
def d__law_of : DB := ⟨["well", "some"], 2, b__law_of⟩
def b__law_same : List BS := [
  (sIf (tOr [(tVal (cIsi (.inl 4) (cVar 1))), (tVal (cIsi (.inl 5) (cVar 1)))]) [(sSet 2 (cIf (tVal (cIsi (.inl 4) (cVar 1))) (cIsi (.inl 4) (cVar 0)) (cIsi (.inl 5) (cVar 0)))), (sRet (cAnd [(cVar 2), (cCmp pEq (cBi bLen [(cVar 0).p]) (cBi bLen [(cVar 1).p])), (cBi bAll [(fComp (iRng1 (cBi bLen [(cVar 1).p])) [3] (gNm 3) .no (cCall 36 [(cIx (cVar 0).p (cVar 3)), (cIx (cVar 1).p (cVar 3))])).e.p])]))] []),
  (sIf (tCmp pIs (cVar 1) cNon) [(sRet (cCmp pIs (cVar 0) cNon))] []),
  (sIf (tVal (cIsi (.inl 1) (cVar 1))) [(sRet (cAnd [(cIsi (.inl 1) (cVar 0)), (cCmp pEq (cVar 0) (cVar 1))]))] []),
  (sIf (tVal (cIsi (.inl 2) (cVar 1))) [(sRet (cAnd [(cIsi (.inl 2) (cVar 0)), (cNot (cIsi (.inl 1) (cVar 0))), (cCmp pEq (cVar 0) (cVar 1))]))] []),
  (sRet (cAnd [(cIsi (.inl 3) (cVar 1)), (cIsi (.inl 3) (cVar 0)), (cCmp pEq (cVar 0) (cVar 1))]))]
def d__law_same : DB := ⟨["told", "due", "fits", "k"], 2, b__law_same⟩
def b__law_table : List BS := [
  (sPar 4 5 (cBin oAdd (cInt 1) (cCall 34 [(cVar 0), (cVar 1)])).x (cBin oAdd (cInt 2) (cCall 34 [(cVar 0), (cBin oSub (cVar 2) (cInt 1))])).x),
  (sSet 3 (cBin oDiv (cBi bInt [(cBin oSub (cBin oAdd (cVar 4) (cVar 5)) (cInt 1)).p]) (cVar 5))),
  (sRet (cTup [(cVar 4), (cVar 5), (cBin oAdd (cVar 3) (cCall 34 [(cVar 0), (cBin oAdd (cBin oSub (cVar 4) (cVar 3)) (cInt 1))])), (cCall 35 [(cVar 0), (cTup [(cStr [102, 114, 101, 101]), (cStr [102, 114, 101, 101]), (cStr [108, 105, 103, 104, 116])])])]))]
def d__law_table : DB := ⟨["well", "most", "top", "least", "many", "piles"], 3, b__law_table⟩
def b__law_made : List BS := [
  (sRet (fMk 4 [(cIx (cVar 0).p (cInt 0)), (cIx (cVar 0).p (cInt 1)), (cIx (cVar 0).p (cInt 2)), (cIx (cVar 0).p (cInt 3))]).e)]
def d__law_made : DB := ⟨["parts"], 1, b__law_made⟩
def b__law_standing : List BS := [
  (sPar2 3 4 (fBi bList [(cSl (cStr [97, 98, 99, 100, 101]) noPart (part (cIx (cVar 1).p (cInt 0)))).p]).x (fRep (fLst [(cStr [])]).e (cIx (cVar 1).p (cInt 1))).x),
  (sFor (iRng1 (cIx (cVar 1).p (cInt 0))) (gNm 2) [(sPop 5 3 (cCall 34 [(cVar 0), (cBi bLen [(pOwn 3)])])), (sSet 6 (cCall 35 [(cVar 0), (fComp (iRng1 (cIx (cVar 1).p (cInt 1))) [8] (gNm 8) (.one (tCmp pLt (cBi bLen [(cIx (pOwn 4) (cVar 8)).p]) (cIx (cVar 1).p (cInt 2)))) (cVar 8)).e])), (sAsg (gOwn 4 (cVar 6)) (cBin oAdd (cIx (pOwn 4) (cVar 6)) (cVar 5)))]),
  (sFrz 4 (sRet (cBi bTuple [(fComp (iSeq (cVar 4)) [7] (gNm 7) .no (cIf (tCmp pEq (cIx (cVar 1).p (cInt 3)) (cStr [108, 105, 103, 104, 116])) (cJoin (cStr []) (fRevL (fBi bSorted [(cVar 7).p]).e).e.p) (cVar 7))).e.p])))]
def d__law_standing : DB := ⟨["well", "parts", "lap", "left", "piles", "block", "at", "pile", "k"], 2, b__law_standing⟩
def b__law_text : List BS := [
  (sRet (cBin oAdd (cTup [(cBin oAdd (cBin oAdd (cBin oAdd (cBin oAdd (cBin oAdd (cStr [116, 97, 98, 108, 101, 32]) (cBi bStr [(cIx (cVar 0).p (cInt 0)).p])) (cStr [32])) (cBi bStr [(cIx (cVar 0).p (cInt 2)).p])) (cStr [32])) (cIx (cVar 0).p (cInt 3)))]) (cBi bTuple [(fComp (iSeq (cVar 1)) [2] (gNm 2) .no (cBin oAdd (cStr [112, 105, 108, 101, 32]) (cIf (tCmp pNe (cVar 2) (cStr [])) (cVar 2) (cStr [45])))).e.p])))]
def d__law_text : DB := ⟨["parts", "standing", "pile"], 2, b__law_text⟩
def b__law_right : List BS := [
  (sFor (iRng1 (cInt 4)) (gNm 1) [(sSet 2 (cCall 37 [(cVar 0), (cInt 5), (cInt 4)])), (sPar 6 7 (cCall 38 [(cVar 2)]).x (cCall 91 [(cVar 0), (cVar 2)]).x), (sSet 3 (cCall 150 [(cVar 2), (cVar 7)])), (sIf (tNot (tVal (cCall 36 [(fLst [(cCall 148 [(cVar 6), (cVar 7)]), (cCallK 148 [] ["standing", "table"] [(cVar 7), (cVar 6)] [1, 0])]).e, (fLst [(cVar 3), (cVar 3)]).e]))) [(sRet (cBl false))] []), (sFor (iSeq (fLst [(cCall 149 [(cVar 3)]), (cCallK 149 [] ["rows"] [(cVar 3)] [0]), (cCall 149 [(cCall 148 [(cVar 6), (cVar 7)])])]).e) (gNm 4) [(sIf (tOr [(tNot (tVal (cIsi (.inl 4) (cVar 4)))), (tCmp pNe (cBi bLen [(cVar 4).p]) (cInt 2)), (tNot (tVal (cCall 36 [(fLst [(cAttr 5 (cIx (cVar 4).p (cInt 0))), (cIx (cVar 4).p (cInt 1))]).e, (fLst [(cVar 2), (cVar 7)]).e]))), (tEqO true (cIx (cVar 4).p (cInt 0)) (cVar 6))]) [(sRet (cBl false))] [])]), (sSet 5 (cCall 37 [(cVar 0), (cInt 5), (cInt 4)])), (sFor (iSeq (fLst [(cTup [(cVar 2), (cCall 91 [(cVar 0), (cVar 2)])]), (cTup [(cVar 5), (cCall 91 [(cVar 0), (cVar 5)])])]).e) (gTp [(gNm 8), (gNm 9)]) [(sSet 10 (cCall 148 [(cCall 38 [(cVar 8)]), (cVar 9)])), (sIf (tOr [(tCmp pNe (cCmp pEq (cVar 10) (cVar 3)) (cCmp pEq (cTup [(cVar 8), (cVar 9)]) (cTup [(cVar 2), (cVar 7)]))), (tNot (tVal (cCall 36 [(cVar 10), (cCall 150 [(cVar 8), (cVar 9)])])))]) [(sRet (cBl false))] [])])]),
  (sRet (cBl true))]
def d__law_right : DB := ⟨["well", "lap", "parts", "rows", "told", "other", "made", "standing", "some", "far", "text"], 1, b__law_right⟩
def b_law : List BS := [
  (sFor (iRng1 (cBi bMax [(cInt 1).p, (cBi bMin [(cBi bLen [(cVar 0).p]).p, (cInt 3).p]).p])) (gNm 1) [(sSet 2 (cCall 33 [(cVar 0), (cVar 1)])), (sIf (tNot (tVal (cBi bAll [(fComp (iRng1 (cInt 6)) [3] (gNm 3) .no (cCall 48 [(cVar 2)])).e.p]))) [(sRet (cBl false))] [])]),
  (sRet (cBl true))]
def d_law : DB := ⟨["script", "lap", "well", "again"], 1, b_law⟩
def info : Info := ⟨[0, 1, 2, 3, 4, 5, 26, 27, 30, 33, 34, 35, 36, 37, 38, 48, 49, 50, 54, 55, 56, 67, 68, 91, 141, 142, 143, 144, 145, 146, 147, 148, 149, 150], [4], [0, 1, 2, 3, 4, 5, 7, 16, 17, 18, 19, 20, 21, 22], [0, 1, 2, 4, 5, 6, 7, 8, 9, 10, 11, 12, 13, 14, 18]⟩
def tab : List TE1 := [
  ⟨0, d_is_whole, ⟨(top 8), "is_whole", "is_whole"⟩⟩,
  ⟨1, d_is_between, ⟨(top 9), "is_between", "is_between"⟩⟩,
  ⟨2, d_is_one_of, ⟨(top 10), "is_one_of", "is_one_of"⟩⟩,
  ⟨50, d_is_tuple_of, ⟨(top 11), "is_tuple_of", "is_tuple_of"⟩⟩,
  ⟨3, d_blocks_of, ⟨(top 21), "blocks_of", "blocks_of"⟩⟩,
  ⟨4, d_is_falling, ⟨(top 22), "is_falling", "is_falling"⟩⟩,
  ⟨54, d_has_each_once, ⟨(top 23), "has_each_once", "has_each_once"⟩⟩,
  ⟨55, d_are_piles, ⟨(top 24), "are_piles", "are_piles"⟩⟩,
  ⟨5, d_fits_rule, ⟨(top 25), "fits_rule", "fits_rule"⟩⟩,
  ⟨56, d_is_standing, ⟨(top 26), "is_standing", "is_standing"⟩⟩,
  ⟨26, d_check_number, ⟨(top 28), "check_number", "check_number"⟩⟩,
  ⟨27, d_check_height, ⟨(top 29), "check_height", "check_height"⟩⟩,
  ⟨28, d_Table___init__, ⟨(inC (top 30) 0), "__init__", "Table.__init__"⟩⟩,
  ⟨29, d_Table___eq__, ⟨(inC (top 30) 1), "__eq__", "Table.__eq__"⟩⟩,
  ⟨30, d_check_table, ⟨(top 31), "check_table", "check_table"⟩⟩,
  ⟨67, d_check_standing, ⟨(top 32), "check_standing", "check_standing"⟩⟩,
  ⟨68, d_check_both, ⟨(top 33), "check_both", "check_both"⟩⟩,
  ⟨141, d_are_signs, ⟨(top 42), "are_signs", "are_signs"⟩⟩,
  ⟨142, d_are_figures, ⟨(top 43), "are_figures", "are_figures"⟩⟩,
  ⟨143, d_is_first_line, ⟨(top 44), "is_first_line", "is_first_line"⟩⟩,
  ⟨144, d_is_pile_line, ⟨(top 45), "is_pile_line", "is_pile_line"⟩⟩,
  ⟨145, d_is_line, ⟨(top 46), "is_line", "is_line"⟩⟩,
  ⟨146, d_wrong_line, ⟨(top 47), "wrong_line", "wrong_line"⟩⟩,
  ⟨147, d_piles_in, ⟨(top 48), "piles_in", "piles_in"⟩⟩,
  ⟨148, d_table_rows, ⟨(top 50), "table_rows", "table_rows"⟩⟩,
  ⟨149, d_read_table, ⟨(top 51), "read_table", "read_table"⟩⟩,
  ⟨33, d__law_well, ⟨(top 53), "_law_well", "_law_well"⟩⟩,
  ⟨34, d__law_draw, ⟨(top 54), "_law_draw", "_law_draw"⟩⟩,
  ⟨35, d__law_of, ⟨(top 55), "_law_of", "_law_of"⟩⟩,
  ⟨36, d__law_same, ⟨(top 56), "_law_same", "_law_same"⟩⟩,
  ⟨37, d__law_table, ⟨(top 57), "_law_table", "_law_table"⟩⟩,
  ⟨38, d__law_made, ⟨(top 58), "_law_made", "_law_made"⟩⟩,
  ⟨91, d__law_standing, ⟨(top 59), "_law_standing", "_law_standing"⟩⟩,
  ⟨150, d__law_text, ⟨(top 60), "_law_text", "_law_text"⟩⟩,
  ⟨48, d__law_right, ⟨(top 61), "_law_right", "_law_right"⟩⟩,
  ⟨49, d_law, ⟨(top 62), "law", "law"⟩⟩]
end Rf

set_option Elab.async false
set_option linter.all false
set_option maxRecDepth 100000
set_option maxHeartbeats 1000000
namespace Rf
open PySem L2

/-! ## the monad -/
theorem bnd_ret {α β : Type} (a : α) (f : α → M β) : bnd (ret a) f = f a := rfl
theorem bnd_some {α β : Type} (a : α) (f : α → M β) : bnd (opt (some a)) f = f a := rfl
theorem bndE_def {α β : Type} (m : En → M α) (f : α → En → M β) (r : En) : bndE m f r = bnd (m r) fun a => f a r := rfl
theorem opt_some {α : Type} (a : α) : opt (some a) = ret a := rfl
theorem bnd_assoc {α β γ : Type} (m : M α) (f : α → M β) (g : β → M γ) : bnd (bnd m f) g = bnd m fun a => bnd (f a) g := by
  funext st
  unfold bnd
  cases m st <;> rfl
theorem bnd_id {α : Type} (m : M α) : bnd m ret = m := by
  funext st
  unfold bnd
  cases m st <;> rfl
theorem noX_ret {α : Type} (a : α) : noX (ret a) = ret a := rfl
theorem den1_def (f : D → Option D) (a : En → M D) (r : En) : den1 f a r = bnd (a r) fun x => opt (f x) := rfl
theorem den2_def (f : D → D → Option D) (a b : En → M D) (r : En) : den2 f a b r = bnd (a r) fun x => bnd (b r) fun y => opt (f x y) := rfl
theorem denL_def (f : List D → Option D) (a : En → M (List D)) (r : En) : denL f a r = bnd (a r) fun x => opt (f x) := rfl
theorem denP_keep (f : List D → Option D) (a : En → M (List D)) (r : En) : denP (keepSt f) a r = bnd (a r) fun x => opt (f x) := by
  funext st
  unfold denP bndE bnd
  cases a r st with
  | ok l st' =>
    show optW (keepSt f st' l) = opt (f l) st'
    unfold keepSt
    cases f l <;> rfl
  | exc _ _ => rfl
  | bad => rfl
theorem denM_def (ok : D → Bool) (f : D → D → Option D) (a b : En → M D) (r : En) : denM ok f a b r = bnd (a r) fun x => if ok x then bnd (b r) fun y => opt (f x y) else fun _ => .bad := by
  unfold denM
  rw [bndE_def]
  congr 1
  funext x
  split <;> rfl
theorem dns_nil (F : FT) (r : En) : dns [] F r = ret [] := rfl
theorem dns_cons' (b : BE) (bs : List BE) (F : FT) (r : En) : dns (b :: bs) F r = bnd (b.den F r) fun x => bnd (dns bs F r) fun xs => ret (x :: xs) := rfl
theorem dnsP_nil (F : FT) (r : En) : dnsP [] F r = ret [] := rfl
theorem dnsP_cons (b : BP) (bs : List BP) (F : FT) (r : En) : dnsP (b :: bs) F r = bnd (b.den F r) fun x => bnd (dnsP bs F r) fun xs => ret (x :: xs) := rfl

/-! ## the bundles' meanings -/
section
variable (F : FT) (r : En)
theorem m_p (b : BE) : b.p.den F r = b.den F r := rfl
theorem m_e (b : BF) : b.e.den F r = b.den F r := rfl
theorem m_pOwn (i : Nat) : (pOwn i).den F r = opt (getO r i) := rfl
theorem m_cVar (i : Nat) : (cVar i).den F r = opt (getV r i) := rfl
theorem m_cInt (i : Int) : (cInt i).den F r = ret (.int i) := rfl
theorem m_cBl (b : Bool) : (cBl b).den F r = ret (.bl b) := rfl
theorem m_cNon : cNon.den F r = ret .non := rfl
theorem m_cStr (s : List Nat) : (cStr s).den F r = ret (.str s) := rfl
theorem m_cCon (i : Nat) : (cCon i).den F r = ret (coD i) := rfl
theorem m_cBin (o : Op2) (a b : BE) : (cBin o a b).den F r = bnd (a.den F r) fun x => bnd (b.den F r) fun y => opt (o.f x y) := rfl
theorem m_cCmp (o : Cp2) (a b : BE) : (cCmp o a b).den F r = bnd (a.den F r) fun x => bnd (b.den F r) fun y => opt (o.f x y) := rfl
theorem m_cTup (bs : List BE) : (cTup bs).den F r = bnd (dns bs F r) fun l => opt (mkTup l) := rfl
theorem m_fLst (bs : List BE) : (fLst bs).den F r = bnd (dns bs F r) fun l => opt (mkLst l) := rfl
theorem m_cIx (a : BP) (b : BE) : (cIx a b).den F r = bnd (a.den F r) fun x => bnd (b.den F r) fun y st => opt (fIxW st x y) st := rfl
theorem m_cCall (i : Nat) (bs : List BE) : (cCall i bs).den F r = bnd (dns bs F r) fun l => F i l := rfl
theorem m_fMk (c : Nat) (bs : List BE) : (fMk c bs).den F r = bnd (dns bs F r) fun l => F (iniF c) l := rfl
theorem m_cIsi (t : Ty) (a : BE) : (cIsi t a).den F r = bnd (a.den F r) fun d st => opt ((tyOf st d).map fun x => .bl (isTy x t)) st := rfl
theorem m_cNot (a : BE) : (cNot a).den F r = bnd (a.den F r) fun x => opt (fNot x) := rfl
theorem m_cAnd1 (a : BE) : (cAnd [a]).den F r = a.den F r := rfl
theorem m_cAnd (a b : BE) (l : List BE) : (cAnd (a :: b :: l)).den F r = bnd (a.den F r) fun c => match c with
  | .bl true => (cAnd (b :: l)).den F r
  | .bl false => ret (.bl false)
  | _ => opt none := by
  show dAndV (a.den F) (dAndVs (b :: l) F) r = _
  unfold dAndV
  rw [bndE_def]
  congr 1
  funext c
  cases c with
  | bl b => cases b <;> rfl
  | _ => rfl
theorem m_cOr1 (a : BE) : (cOr [a]).den F r = a.den F r := rfl
theorem m_cOr (a b : BE) (l : List BE) : (cOr (a :: b :: l)).den F r = bnd (a.den F r) fun c => match c with
  | .bl true => ret (.bl true)
  | .bl false => (cOr (b :: l)).den F r
  | _ => opt none := by
  show dOrV (a.den F) (dOrVs (b :: l) F) r = _
  unfold dOrV
  rw [bndE_def]
  congr 1
  funext c
  cases c with
  | bl b => cases b <;> rfl
  | _ => rfl
theorem m_cChain (o o2 : Cp2) (a b c : BE) : (cChain o o2 a b c).den F r = bnd (a.den F r) fun x => bnd (b.den F r) fun y => bnd (opt (o.f x y)) fun z => match z with
  | .bl true => bnd (c.den F r) fun u => opt (o2.f y u)
  | .bl false => ret (.bl false)
  | _ => opt none := by
  show dChain o.f o2.f (a.den F) (b.den F) (c.den F) r = _
  unfold dChain
  rw [bndE_def]
  congr 1
  funext x
  rw [bndE_def]
  congr 1
  funext y
  rw [bndE_def]
  congr 1
  funext z
  cases z with
  | bl b => cases b <;> rfl
  | _ => rfl
theorem m_cBi (o : Bi) (bs : List BP) : (cBi o bs).den F r = denP o.f (dnsP bs F) r := rfl
theorem m_fBi (o : BiF) (bs : List BP) : (fBi o bs).den F r = denP o.f (dnsP bs F) r := rfl
theorem m_cIf (c : BT) (a b : BE) : (cIf c a b).den F r = bnd (c.den F r) fun k => if k then a.den F r else b.den F r := by
  show dIf (c.den F) (a.den F) (b.den F) r = _
  unfold dIf
  rw [bndE_def]
  congr 1
  funext k
  split <;> rfl
theorem m_cAttr (f : Nat) (a : BE) : (cAttr f a).den F r = bnd (a.den F r) fun d => dAttr f d := rfl
theorem m_cSl (a : BE) (lo hi : BO) : (cSl a lo hi).den F r = bnd (a.den F r) fun x => bnd (lo.den F r) fun l => bnd (hi.den F r) fun u => opt (fSl x l u) := rfl
theorem m_noPart : noPart.den F r = ret none := rfl
theorem m_part (b : BE) : (part b).den F r = bnd (b.den F r) fun x => opt (toI x) := rfl
theorem m_fRevL (a : BE) : (fRevL a).den F r = bnd (a.den F r) fun x => opt (fRev x) := rfl
theorem m_fRep (a b : BE) : (fRep a b).den F r = bnd (a.den F r) fun x => bnd (b.den F r) fun y => opt (fRepD x y) := rfl
theorem m_fSpl (a b : BE) : (fSpl a b).den F r = bnd (a.den F r) fun x => if isStr x then bnd (b.den F r) fun y => opt (fSplit x y) else fun _ => .bad := denM_def ..
theorem m_cJoin (a : BE) (b : BP) : (cJoin a b).den F r = bnd (a.den F r) fun x => if isStr x then bnd (b.den F r) fun y => opt (fJoin x y) else fun _ => .bad := denM_def ..
theorem m_cCallK (i : Nat) (bs : List BE) (ks : List Str) (zs : List BE) (pm : List Nat) : (cCallK i bs ks zs pm).den F r = bnd (dns bs F r) fun ds => bnd (dns zs F r) fun ys => F i (arr .non pm (ds ++ ys)) := rfl
theorem m_fComp (it : BI) (vs : List Nat) (g : BG) (c : BC) (elt : BE) : (fComp it vs g c elt).den F r = bnd (it.den F r) fun l => bnd (noX (compGo g.set (c.den F) (elt.den F) (wipeE r vs) l [])) fun acc => ret (.lst acc) := rfl
theorem m_s (b : BF) : b.s.den F r = bnd (b.den F r) dSto := rfl
-- tests
theorem m_tVal (a : BE) : (tVal a).den F r = bnd (a.den F r) fun x => opt (toB x) := rfl
theorem m_tCmp (o : Cp2) (a b : BE) : (tCmp o a b).den F r = bnd (a.den F r) fun x => bnd (b.den F r) fun y => bnd (opt (o.f x y)) fun z => opt (toB z) := by
  show dB (den2 o.f (a.den F) (b.den F)) r = _
  unfold dB
  rw [bndE_def, den2_def, bnd_assoc]
  congr 1
  funext x
  rw [bnd_assoc]
theorem m_tNot (a : BT) : (tNot a).den F r = bnd (a.den F r) fun c => ret (!c) := rfl
theorem m_tAnd1 (a : BT) : (tAnd [a]).den F r = a.den F r := rfl
theorem m_tAnd (a b : BT) (l : List BT) : (tAnd (a :: b :: l)).den F r = bnd (a.den F r) fun c => if c then (tAnd (b :: l)).den F r else ret false := by
  show dAnd (a.den F) (dAnds (b :: l) F) r = _
  unfold dAnd
  rw [bndE_def]
  congr 1
  funext c
  split <;> rfl
theorem m_tOr1 (a : BT) : (tOr [a]).den F r = a.den F r := rfl
theorem m_tOr (a b : BT) (l : List BT) : (tOr (a :: b :: l)).den F r = bnd (a.den F r) fun c => if c then ret true else (tOr (b :: l)).den F r := by
  show dOr (a.den F) (dOrs (b :: l) F) r = _
  unfold dOr
  rw [bndE_def]
  congr 1
  funext c
  split <;> rfl
theorem m_tEqO (neg : Bool) (a b : BE) : (tEqO neg a b).den F r = bnd (a.den F r) fun x => bnd (b.den F r) fun y => bnd (noX (fEqO F neg x y)) fun z => opt (toB z) := by
  show dB (dEqO F neg (a.den F) (b.den F)) r = _
  unfold dB dEqO
  rw [bndE_def, bndE_def, bnd_assoc]
  congr 1
  funext x
  rw [bndE_def, bnd_assoc]
-- iterables
theorem m_iSeq (b : BE) : (iSeq b).den F r = bnd (b.den F r) fun d => opt (items d) := rfl
theorem m_iRng1 (a : BE) : (iRng1 a).den F r = bnd (dns [a] F r) fun l => opt (fRng1 l) := rfl
theorem m_iRng2 (a b : BE) : (iRng2 a b).den F r = bnd (dns [a, b] F r) fun l => opt (fRng2 l) := rfl
theorem m_iEnum2 (a : BE) : (iEnum2 a).den F r = bnd (dns [a] F r) fun l => opt (fEnum l) := rfl
-- statements
theorem m_blk0 : dBlk [] F r = ret (.nx r) := rfl
theorem m_blk (s : BS) (ss : List BS) : dBlk (s :: ss) F r = bnd (s.den F r) fun o => match o with
  | .nx r' => dBlk ss F r'
  | o => ret o := rfl
theorem m_sSet (i : Nat) (b : BE) : (sSet i b).den F r = bnd (b.den F r) fun d => ret (.nx (r.set i (.val d))) := rfl
theorem m_sOwn (i : Nat) (b : BF) : (sOwn i b).den F r = bnd (b.den F r) fun d => ret (.nx (r.set i (.own d))) := rfl
theorem m_sRet (b : BE) : (sRet b).den F r = bnd (b.den F r) fun d => ret (.rt d) := rfl
theorem m_sExp (b : BE) : (sExp b).den F r = bnd (b.den F r) fun _ => ret (.nx r) := rfl
theorem m_sIf (c : BT) (a b : List BS) : (sIf c a b).den F r = bnd (c.den F r) fun k => if k then dBlk a F r else dBlk b F r := rfl
theorem m_sFor (it : BI) (g : BG) (body : List BS) : (sFor it g body).den F r = bnd (it.den F r) fun l => forGo g.set (dBlk body F) l r := rfl
theorem m_sTgt (g : BG) (b : BE) : (sTgt g b).den F r = bnd (b.den F r) fun d => bnd (opt (g.set d r)) fun r' => ret (.nx r') := rfl
theorem m_sLc (o : Bool) (i : Nat) (it : BI) (vs : List Nat) (g : BG) (c : BC) (elt : BE) : (sLc o i it vs g c elt).den F r = bnd (bnd (it.den F r) fun l => bnd (noX (compGo g.set (c.den F) (elt.den F) (wipeE r vs) l [])) fun acc => ret (.lst acc)) fun d => ret (.nx (r.set i (mkS o d))) := rfl
theorem m_sPar (i j : Nat) (a b : BX) : (sPar i j a b).den F r = bnd (a.den F r) fun x => bnd (b.den F r) fun y => ret (.nx ((r.set i (mkS a.o x)).set j (mkS b.o y))) := rfl
theorem m_sPar2 (i j : Nat) (a b : BX) : (sPar2 i j a b).den F r = bnd (a.den F r) fun x => bnd (b.den F r) fun y => ret (.nx ((r.set i (mkS a.o x)).set j (mkS b.o y))) := rfl
theorem m_x (b : BE) : b.x.den F r = b.den F r := rfl
theorem m_xF (b : BF) : b.x.den F r = b.den F r := rfl
theorem m_sAsg (g : BGX) (b : BE) : (sAsg g b).den F r = bnd (b.den F r) fun d => bnd (g.set F d r) fun r' => ret (.nx r') := rfl
theorem m_sFrz (i : Nat) (b : BS) : (sFrz i b).den F r = b.den F (frzE r i) := rfl
theorem m_sSelf (f : Nat) (b : BE) : (sSelf f b).den F r = bnd (b.den F r) fun d => bnd (opt (match r[0]? with
    | some (Slt.own (.obj c l)) => if fldIx c f < (clF c).length then (setF l (fldIx c f) d).map fun l' => r.set 0 (.own (.obj c l')) else none
    | _ => none)) fun r' => ret (.nx r') := rfl
end
/-- a def's answer -/
def flM (m : M Fl) : M D := fun st => flD (m st)
def flMI (m : M Fl) : M D := fun st => flI (m st)
theorem flM_rt (v : D) : flM (ret (.rt v)) = ret v := rfl
theorem flM_nx (r : En) : flM (ret (.nx r)) = ret .non := rfl
theorem ft_def {PT : Nat → Option DB} {k i : Nat} {d : DB} {ds : List D} (h : PT i = some d) (hi : iniC i = none) (hl : ds.length = d.np) : FTab PT (k + 1) i ds = flM (dBlk d.body (FTab PT k) (entE d ds)) := by
  funext st
  simp only [FTab, h, runX, hi, runB, if_pos hl]
  rfl
theorem ft_ini {PT : Nat → Option DB} {k i c : Nat} {d : DB} {ds : List D} (h : PT i = some d) (hi : iniC i = some c) (hl : ds.length + 1 = d.np) : FTab PT (k + 1) i ds = flMI (dBlk d.body (FTab PT k) (entI d c ds)) := by
  funext st
  simp only [FTab, h, runX, hi, runI, if_pos hl]
  rfl
/-! ## comprehensions -/
theorem comp_map {set : D → En → Option En} {test : En → M Bool} {elt : En → M D} {r : En} (f : D → D) : ∀ (l acc : List D), (∀ d ∈ l, ∃ r', set d r = some r' ∧ test r' = ret true ∧ elt r' = ret (f d)) → acc.length + l.length ≤ sizeLine →
    compGo set test elt r l acc = ret (acc ++ l.map f)
  | [], acc, _, _ => by simp [compGo]
  | d :: l, acc, h, hl => by
    obtain ⟨r', h1, h2, h3⟩ := h d (List.mem_cons_self ..)
    simp only [List.length_cons] at hl
    have hlt : acc.length < sizeLine := by omega
    simp only [compGo, h1, bnd_some, h2, bnd_ret, if_true, h3, if_pos hlt]
    rw [comp_map f l (acc ++ [f d]) (fun x hx => h x (List.mem_cons_of_mem _ hx)) (by simp; omega)]
    simp
theorem comp_filter {set : D → En → Option En} {test : En → M Bool} {elt : En → M D} {r : En} (p : D → Bool) (f : D → D) : ∀ (l acc : List D), (∀ d ∈ l, ∃ r', set d r = some r' ∧ test r' = ret (p d) ∧ elt r' = ret (f d)) → acc.length + l.length ≤ sizeLine →
    compGo set test elt r l acc = ret (acc ++ (l.filter p).map f)
  | [], acc, _, _ => by simp [compGo]
  | d :: l, acc, h, hl => by
    obtain ⟨r', h1, h2, h3⟩ := h d (List.mem_cons_self ..)
    simp only [List.length_cons] at hl
    have hlt : acc.length < sizeLine := by omega
    have ih := fun acc hl => comp_filter p f l acc (fun x hx => h x (List.mem_cons_of_mem _ hx)) hl
    cases hp : p d with
    | true =>
      simp only [compGo, h1, bnd_some, h2, bnd_ret, hp, if_true, h3, if_pos hlt]
      rw [ih _ (by simp; omega)]
      simp [hp]
    | false =>
      simp only [compGo, h1, bnd_some, h2, bnd_ret, hp]
      rw [if_neg (by simp), ih _ (by omega)]
      simp [hp]
@[simp] theorem z_m_p : type_of% @m_p := @m_p
@[simp] theorem z_m_e : type_of% @m_e := @m_e
@[simp] theorem z_m_pOwn : type_of% @m_pOwn := @m_pOwn
@[simp] theorem z_m_cVar : type_of% @m_cVar := @m_cVar
@[simp] theorem z_m_cInt : type_of% @m_cInt := @m_cInt
@[simp] theorem z_m_cBl : type_of% @m_cBl := @m_cBl
@[simp] theorem z_m_cNon : type_of% @m_cNon := @m_cNon
@[simp] theorem z_m_cStr : type_of% @m_cStr := @m_cStr
@[simp] theorem z_m_cCon : type_of% @m_cCon := @m_cCon
@[simp] theorem z_m_cBin : type_of% @m_cBin := @m_cBin
@[simp] theorem z_m_cCmp : type_of% @m_cCmp := @m_cCmp
@[simp] theorem z_m_cTup : type_of% @m_cTup := @m_cTup
@[simp] theorem z_m_fLst : type_of% @m_fLst := @m_fLst
@[simp] theorem z_m_cIx : type_of% @m_cIx := @m_cIx
@[simp] theorem z_m_cCall : type_of% @m_cCall := @m_cCall
@[simp] theorem z_m_fMk : type_of% @m_fMk := @m_fMk
@[simp] theorem z_m_cIsi : type_of% @m_cIsi := @m_cIsi
@[simp] theorem z_m_cNot : type_of% @m_cNot := @m_cNot
@[simp] theorem z_m_cAnd1 : type_of% @m_cAnd1 := @m_cAnd1
@[simp] theorem z_m_cAnd : type_of% @m_cAnd := @m_cAnd
@[simp] theorem z_m_cOr1 : type_of% @m_cOr1 := @m_cOr1
@[simp] theorem z_m_cOr : type_of% @m_cOr := @m_cOr
@[simp] theorem z_m_cChain : type_of% @m_cChain := @m_cChain
@[simp] theorem z_m_cBi : type_of% @m_cBi := @m_cBi
@[simp] theorem z_m_fBi : type_of% @m_fBi := @m_fBi
@[simp] theorem z_m_cIf : type_of% @m_cIf := @m_cIf
@[simp] theorem z_m_cAttr : type_of% @m_cAttr := @m_cAttr
@[simp] theorem z_m_cSl : type_of% @m_cSl := @m_cSl
@[simp] theorem z_m_noPart : type_of% @m_noPart := @m_noPart
@[simp] theorem z_m_part : type_of% @m_part := @m_part
@[simp] theorem z_m_fRevL : type_of% @m_fRevL := @m_fRevL
@[simp] theorem z_m_fRep : type_of% @m_fRep := @m_fRep
@[simp] theorem z_m_fSpl : type_of% @m_fSpl := @m_fSpl
@[simp] theorem z_m_cJoin : type_of% @m_cJoin := @m_cJoin
@[simp] theorem z_m_cCallK : type_of% @m_cCallK := @m_cCallK
@[simp] theorem z_m_fComp : type_of% @m_fComp := @m_fComp
@[simp] theorem z_m_s : type_of% @m_s := @m_s
@[simp] theorem z_m_tVal : type_of% @m_tVal := @m_tVal
@[simp] theorem z_m_tCmp : type_of% @m_tCmp := @m_tCmp
@[simp] theorem z_m_tNot : type_of% @m_tNot := @m_tNot
@[simp] theorem z_m_tAnd1 : type_of% @m_tAnd1 := @m_tAnd1
@[simp] theorem z_m_tAnd : type_of% @m_tAnd := @m_tAnd
@[simp] theorem z_m_tOr1 : type_of% @m_tOr1 := @m_tOr1
@[simp] theorem z_m_tOr : type_of% @m_tOr := @m_tOr
@[simp] theorem z_m_tEqO : type_of% @m_tEqO := @m_tEqO
@[simp] theorem z_m_iSeq : type_of% @m_iSeq := @m_iSeq
@[simp] theorem z_m_iRng1 : type_of% @m_iRng1 := @m_iRng1
@[simp] theorem z_m_iRng2 : type_of% @m_iRng2 := @m_iRng2
@[simp] theorem z_m_iEnum2 : type_of% @m_iEnum2 := @m_iEnum2
@[simp] theorem z_m_blk0 : type_of% @m_blk0 := @m_blk0
@[simp] theorem z_m_blk : type_of% @m_blk := @m_blk
@[simp] theorem z_m_sSet : type_of% @m_sSet := @m_sSet
@[simp] theorem z_m_sOwn : type_of% @m_sOwn := @m_sOwn
@[simp] theorem z_m_sRet : type_of% @m_sRet := @m_sRet
@[simp] theorem z_m_sExp : type_of% @m_sExp := @m_sExp
@[simp] theorem z_m_sIf : type_of% @m_sIf := @m_sIf
@[simp] theorem z_m_sFor : type_of% @m_sFor := @m_sFor
@[simp] theorem z_m_sTgt : type_of% @m_sTgt := @m_sTgt
@[simp] theorem z_m_sLc : type_of% @m_sLc := @m_sLc
@[simp] theorem z_m_sPar : type_of% @m_sPar := @m_sPar
@[simp] theorem z_m_sPar2 : type_of% @m_sPar2 := @m_sPar2
@[simp] theorem z_m_x : type_of% @m_x := @m_x
@[simp] theorem z_m_xF : type_of% @m_xF := @m_xF
@[simp] theorem z_m_sAsg : type_of% @m_sAsg := @m_sAsg
@[simp] theorem z_m_sFrz : type_of% @m_sFrz := @m_sFrz
@[simp] theorem z_m_sSelf : type_of% @m_sSelf := @m_sSelf
@[simp] theorem z_bnd_ret : type_of% @bnd_ret := @bnd_ret
@[simp] theorem z_bnd_some : type_of% @bnd_some := @bnd_some
@[simp] theorem z_opt_some : type_of% @opt_some := @opt_some
@[simp] theorem z_bndE_def : type_of% @bndE_def := @bndE_def
@[simp] theorem z_noX_ret : type_of% @noX_ret := @noX_ret
@[simp] theorem z_denP_keep : type_of% @denP_keep := @denP_keep
@[simp] theorem z_dns_nil : type_of% @dns_nil := @dns_nil
@[simp] theorem z_dns_cons_p : type_of% @dns_cons' := @dns_cons'
@[simp] theorem z_dnsP_nil : type_of% @dnsP_nil := @dnsP_nil
@[simp] theorem z_dnsP_cons : type_of% @dnsP_cons := @dnsP_cons
@[simp] theorem z_flM_rt : type_of% @flM_rt := @flM_rt
@[simp] theorem z_flM_nx : type_of% @flM_nx := @flM_nx
end Rf

set_option Elab.async false
set_option linter.all false
set_option maxRecDepth 100000
set_option maxHeartbeats 1000000
set_option warning.simp.otherHead false
namespace Rf
open PySem L2
abbrev T (k : Nat) : FT := FTab (PTof tab) k
theorem flMI_nx (o : D) (r : En) : flMI (ret (.nx (.own o :: r))) = ret o := rfl
theorem m_len (a : En → M (List D)) (r : En) : denP fLenW a r = bnd (a r) fun x st => optW (fLenW st x) := rfl
theorem len_str (st : Sto) (s : List Nat) : fLenW st [.str s] = some (.int s.length, st) := rfl
theorem len_tup (st : Sto) (s : List D) : fLenW st [.tup s] = some (.int s.length, st) := rfl
theorem len_lst (st : Sto) (s : List D) : fLenW st [.lst s] = some (.int s.length, st) := rfl
theorem len_frl (st : Sto) (s : List D) : fLenW st [.frl s] = some (.int s.length, st) := rfl
theorem optW_ret (d : D) : (fun st => optW (some (d, st))) = ret d := rfl
theorem okE_int (i : Int) : okE (.int i) = true := rfl
theorem okE_str (s : List Nat) : okE (.str s) = true := rfl
theorem okE_non : okE .non = true := rfl
theorem okE_bl (b : Bool) : okE (.bl b) = true := rfl
theorem deq_int (a b : Int) : deq (.int a) (.int b) = (a == b) := by simp [deq]
theorem deq_str (a b : List Nat) : deq (.str a) (.str b) = (a == b) := by simp [deq]
theorem ix_tup (st : Sto) (l : List D) (y : D) : fIxW st (.tup l) y = fIx (.tup l) y := rfl
theorem ix_lst' (st : Sto) (l : List D) (y : D) : fIxW st (.lst l) y = fIx (.lst l) y := rfl
theorem ix_frl (st : Sto) (l : List D) (y : D) : fIxW st (.frl l) y = fIx (.frl l) y := rfl
theorem ix_str (st : Sto) (l : List Nat) (y : D) : fIxW st (.str l) y = fIx (.str l) y := rfl
theorem bi_all : bAll.f = keepSt fAll := rfl
theorem bi_len : bLen.f = fLenW := rfl
theorem bi_tuple : bTuple.f = keepSt fTuple := rfl
theorem bi_int : bInt.f = keepSt fInt := rfl
theorem bi_str : bStr.f = keepSt fStr := rfl
theorem bi_min : bMin.f = keepSt fMin := rfl
theorem bi_max : bMax.f = keepSt fMax := rfl
theorem bi_abs : bAbs.f = keepSt fAbs := rfl
theorem bi_divmod : bDivmod.f = keepSt fDivmod := rfl
theorem bi_list : bList.f = keepSt fList := rfl
theorem bi_sorted : bSorted.f = keepSt fSorted := rfl
theorem p_le : pLe.f = fLe := rfl
theorem p_lt : pLt.f = fLt := rfl
theorem p_gt : pGt.f = fGt := rfl
theorem p_ge : pGe.f = fGe := rfl
theorem p_eq : pEq.f = fEq := rfl
theorem p_ne : pNe.f = fNe := rfl
theorem p_in : pIn.f = fIn := rfl
theorem p_is : pIs.f = fIs := rfl
theorem o_add : oAdd.f = fAdd := rfl
theorem o_sub : oSub.f = fSub := rfl
theorem o_mul : oMul.f = fMul := rfl
theorem o_div : oDiv.f = fDiv := rfl
theorem o_mod : oMod.f = fMod := rfl
theorem o_pow : oPow.f = fPow := rfl
theorem eq_ii (a b : Int) : fEq (.int a) (.int b) = some (.bl (a == b)) := by simp [fEq, okE_int, deq_int]
theorem ne_ii (a b : Int) : fNe (.int a) (.int b) = some (.bl (!(a == b))) := by simp [fNe, okE_int, deq_int]
theorem eq_ss (a b : List Nat) : fEq (.str a) (.str b) = some (.bl (a == b)) := by simp [fEq, okE_str, deq_str]
theorem ne_ss (a b : List Nat) : fNe (.str a) (.str b) = some (.bl (!(a == b))) := by simp [fNe, okE_str, deq_str]
theorem ty_non (st : Sto) : tyOf st .non = some (.inl 0) := rfl
theorem ty_bl (st : Sto) (b : Bool) : tyOf st (.bl b) = some (.inl 1) := rfl
theorem ty_int (st : Sto) (i : Int) : tyOf st (.int i) = some (.inl 2) := rfl
theorem ty_str (st : Sto) (s : List Nat) : tyOf st (.str s) = some (.inl 3) := rfl
theorem ty_tup (st : Sto) (l : List D) : tyOf st (.tup l) = some (.inl 4) := rfl
theorem ty_lst (st : Sto) (l : List D) : tyOf st (.lst l) = some (.inl 5) := rfl
@[simp] theorem z_ty_non : type_of% @ty_non := @ty_non
@[simp] theorem z_ty_bl : type_of% @ty_bl := @ty_bl
@[simp] theorem z_ty_int : type_of% @ty_int := @ty_int
@[simp] theorem z_ty_str : type_of% @ty_str := @ty_str
@[simp] theorem z_ty_tup : type_of% @ty_tup := @ty_tup
@[simp] theorem z_ty_lst : type_of% @ty_lst := @ty_lst
theorem it_tup (l : List D) : items (.tup l) = some l := rfl
theorem it_lst (l : List D) : items (.lst l) = some l := rfl
theorem it_str (s : List Nat) : items (.str s) = some (signs s) := rfl
@[simp] theorem z_it_tup : type_of% @it_tup := @it_tup
@[simp] theorem z_it_lst : type_of% @it_lst := @it_lst
@[simp] theorem z_it_str : type_of% @it_str := @it_str
@[simp] theorem z_m_len : type_of% @m_len := @m_len
@[simp] theorem z_len_str : type_of% @len_str := @len_str
@[simp] theorem z_len_tup : type_of% @len_tup := @len_tup
@[simp] theorem z_len_lst : type_of% @len_lst := @len_lst
@[simp] theorem z_len_frl : type_of% @len_frl := @len_frl
@[simp] theorem z_optW_ret : type_of% @optW_ret := @optW_ret
@[simp] theorem z_okE_int : type_of% @okE_int := @okE_int
@[simp] theorem z_okE_str : type_of% @okE_str := @okE_str
@[simp] theorem z_okE_non : type_of% @okE_non := @okE_non
@[simp] theorem z_okE_bl : type_of% @okE_bl := @okE_bl
@[simp] theorem z_ix_tup : type_of% @ix_tup := @ix_tup
@[simp] theorem z_ix_lst_p : type_of% @ix_lst' := @ix_lst'
@[simp] theorem z_ix_frl : type_of% @ix_frl := @ix_frl
@[simp] theorem z_ix_str : type_of% @ix_str := @ix_str
@[simp] theorem z_bi_all : type_of% @bi_all := @bi_all
@[simp] theorem z_bi_len : type_of% @bi_len := @bi_len
@[simp] theorem z_bi_tuple : type_of% @bi_tuple := @bi_tuple
@[simp] theorem z_bi_int : type_of% @bi_int := @bi_int
@[simp] theorem z_bi_str : type_of% @bi_str := @bi_str
@[simp] theorem z_bi_min : type_of% @bi_min := @bi_min
@[simp] theorem z_bi_max : type_of% @bi_max := @bi_max
@[simp] theorem z_bi_abs : type_of% @bi_abs := @bi_abs
@[simp] theorem z_bi_divmod : type_of% @bi_divmod := @bi_divmod
@[simp] theorem z_bi_list : type_of% @bi_list := @bi_list
@[simp] theorem z_bi_sorted : type_of% @bi_sorted := @bi_sorted
@[simp] theorem z_p_le : type_of% @p_le := @p_le
@[simp] theorem z_p_lt : type_of% @p_lt := @p_lt
@[simp] theorem z_p_gt : type_of% @p_gt := @p_gt
@[simp] theorem z_p_ge : type_of% @p_ge := @p_ge
@[simp] theorem z_p_eq : type_of% @p_eq := @p_eq
@[simp] theorem z_p_ne : type_of% @p_ne := @p_ne
@[simp] theorem z_p_in : type_of% @p_in := @p_in
@[simp] theorem z_p_is : type_of% @p_is := @p_is
@[simp] theorem z_o_add : type_of% @o_add := @o_add
@[simp] theorem z_o_sub : type_of% @o_sub := @o_sub
@[simp] theorem z_o_mul : type_of% @o_mul := @o_mul
@[simp] theorem z_o_div : type_of% @o_div := @o_div
@[simp] theorem z_o_mod : type_of% @o_mod := @o_mod
@[simp] theorem z_o_pow : type_of% @o_pow := @o_pow
@[simp] theorem z_eq_ii : type_of% @eq_ii := @eq_ii
@[simp] theorem z_ne_ii : type_of% @ne_ii := @ne_ii
@[simp] theorem z_eq_ss : type_of% @eq_ss := @eq_ss
@[simp] theorem z_ne_ss : type_of% @ne_ss := @ne_ss
@[simp] theorem u_entE : type_of% @entE.eq_def := @entE.eq_def
@[simp] theorem u_getV : type_of% @getV.eq_def := @getV.eq_def
@[simp] theorem u_getO : type_of% @getO.eq_def := @getO.eq_def
@[simp] theorem u_isTy : type_of% @isTy.eq_def := @isTy.eq_def
@[simp] theorem u_fNot : type_of% @fNot.eq_def := @fNot.eq_def
@[simp] theorem u_fIn : type_of% @fIn.eq_def := @fIn.eq_def
@[simp] theorem u_fNotIn : type_of% @fNotIn.eq_def := @fNotIn.eq_def
@[simp] theorem u_toB : type_of% @toB.eq_def := @toB.eq_def
@[simp] theorem u_toI : type_of% @toI.eq_def := @toI.eq_def
@[simp] theorem u_fIx : type_of% @fIx.eq_def := @fIx.eq_def
@[simp] theorem u_fLe : type_of% @fLe.eq_def := @fLe.eq_def
@[simp] theorem u_fLt : type_of% @fLt.eq_def := @fLt.eq_def
@[simp] theorem u_fGt : type_of% @fGt.eq_def := @fGt.eq_def
@[simp] theorem u_fGe : type_of% @fGe.eq_def := @fGe.eq_def
@[simp] theorem u_fIs : type_of% @fIs.eq_def := @fIs.eq_def
@[simp] theorem u_isNon : type_of% @isNon.eq_def := @isNon.eq_def
@[simp] theorem u_fAdd : type_of% @fAdd.eq_def := @fAdd.eq_def
@[simp] theorem u_fSub : type_of% @fSub.eq_def := @fSub.eq_def
@[simp] theorem u_fMod : type_of% @fMod.eq_def := @fMod.eq_def
@[simp] theorem u_fDiv : type_of% @fDiv.eq_def := @fDiv.eq_def
@[simp] theorem u_fTuple : type_of% @fTuple.eq_def := @fTuple.eq_def
@[simp] theorem u_mkTup : type_of% @mkTup.eq_def := @mkTup.eq_def
@[simp] theorem u_mkLst : type_of% @mkLst.eq_def := @mkLst.eq_def
@[simp] theorem u_isStr : type_of% @isStr.eq_def := @isStr.eq_def
@[simp] theorem u_wipeE : type_of% @wipeE.eq_def := @wipeE.eq_def
/-- the bodies' answers, one after another -/
theorem f_is_whole (k : Nat) (n : Int) : T (k + 1) 0 [.int n] = ret (.bl true) := by
  rw [T, ft_def (d := d_is_whole) rfl rfl rfl]
  simp -implicitDefEqProofs [d_is_whole, b_is_whole]
theorem f_is_between (k : Nat) (n a b : Int) (h1 : a ≤ n) (h2 : n ≤ b) : T (k + 2) 1 [.int n, .int a, .int b] = ret (.bl true) := by
  rw [T, ft_def (d := d_is_between) rfl rfl rfl]
  have h := f_is_whole k n
  simp -implicitDefEqProofs [d_is_between, b_is_between, h, h1, h2]
theorem f_is_tuple_of (k : Nat) (l : List D) (n : Int) (h : n = l.length) : T (k + 1) 50 [.tup l, .int n] = ret (.bl true) := by
  rw [T, ft_def (d := d_is_tuple_of) rfl rfl rfl]
  simp -implicitDefEqProofs [d_is_tuple_of, b_is_tuple_of, h]
def cFree : List Nat := [102, 114, 101, 101]
def cLight : List Nat := [108, 105, 103, 104, 116]
def blk5 : List Nat := [97, 98, 99, 100, 101]
theorem co0 : coD 0 = .str blk5 := rfl
theorem co1 : coD 1 = .int 1 := rfl
theorem co2 : coD 2 = .int 5 := rfl
theorem co3 : coD 3 = .int 2 := rfl
theorem co4 : coD 4 = .int 4 := rfl
theorem co5 : coD 5 = .str cFree := rfl
theorem co7 : coD 7 = .tup [.str cFree, .str cLight] := rfl
theorem co16 : coD 16 = .str [48, 49, 50, 51, 52, 53, 54, 55, 56, 57] := rfl
theorem co17 : coD 17 = .str (List.range' 97 26) := rfl
theorem co18 : coD 18 = .str [45] := rfl
theorem co19 : coD 19 = .str [116, 97, 98, 108, 101] := rfl
theorem co20 : coD 20 = .str [112, 105, 108, 101] := rfl
theorem co21 : coD 21 = .int 4 := rfl
theorem co22 : coD 22 = .int 2 := rfl
@[simp] theorem z_co0 : type_of% @co0 := @co0
@[simp] theorem z_co1 : type_of% @co1 := @co1
@[simp] theorem z_co2 : type_of% @co2 := @co2
@[simp] theorem z_co3 : type_of% @co3 := @co3
@[simp] theorem z_co4 : type_of% @co4 := @co4
@[simp] theorem z_co5 : type_of% @co5 := @co5
@[simp] theorem z_co7 : type_of% @co7 := @co7
@[simp] theorem z_co16 : type_of% @co16 := @co16
@[simp] theorem z_co17 : type_of% @co17 := @co17
@[simp] theorem z_co18 : type_of% @co18 := @co18
@[simp] theorem z_co19 : type_of% @co19 := @co19
@[simp] theorem z_co20 : type_of% @co20 := @co20
@[simp] theorem z_co21 : type_of% @co21 := @co21
@[simp] theorem z_co22 : type_of% @co22 := @co22
theorem f_is_rule (k : Nat) (ru : List Nat) (h : ru = cFree ∨ ru = cLight) : T (k + 1) 2 [.str ru, .tup [.str cFree, .str cLight]] = ret (.bl true) := by
  rw [T, ft_def (d := d_is_one_of) rfl rfl rfl]
  rcases h with rfl | rfl <;> simp -implicitDefEqProofs [d_is_one_of, b_is_one_of, fHas, flatD, hasD, deq_str]
theorem f_check_number (k : Nat) (n a b : Int) (h1 : a ≤ n) (h2 : n ≤ b) : T (k + 3) 26 [.int n, .int a, .int b] = ret .non := by
  rw [T, ft_def (d := d_check_number) rfl rfl rfl]
  have h := f_is_between k n a b h1 h2
  simp -implicitDefEqProofs [d_check_number, b_check_number, h]
theorem f_check_height (k : Nat) (h m n : Int) (h1 : 1 ≤ h) (h2 : h ≤ m) (h3 : m ≤ h * n) (h4 : m ≤ 5) : T (k + 4) 27 [.int h, .int m, .int n] = ret .non := by
  rw [T, ft_def (d := d_check_height) rfl rfl rfl]
  have e := f_check_number k h 1 m h1 h2
  have e2 : small64 h = true := by simp [small64]; omega
  simp -implicitDefEqProofs [d_check_height, b_check_height, e, fMul, e2, Int.not_lt.mpr h3]
def pD (m n h : Int) (ru : List Nat) : D := .tup [.int m, .int n, .int h, .str ru]
def tabD (m n h : Int) (ru : List Nat) : D := .obj 4 [.int m, .int n, .int h, .str ru, pD m n h ru]
structure OkP (m n h : Int) (ru : List Nat) : Prop where
  m1 : 1 ≤ m
  m2 : m ≤ 5
  n1 : 2 ≤ n
  n2 : n ≤ 4
  h1 : 1 ≤ h
  h2 : h ≤ m
  hn : m ≤ h * n
  ru : ru = cFree ∨ ru = cLight
theorem fx1 : fldIx 4 1 = 0 := by decide +kernel
theorem fx2 : fldIx 4 2 = 1 := by decide +kernel
theorem fx3 : fldIx 4 3 = 2 := by decide +kernel
theorem fx4 : fldIx 4 4 = 3 := by decide +kernel
theorem fx5 : fldIx 4 5 = 4 := by decide +kernel
theorem cl4 : (clF 4).length = 5 := by decide +kernel
theorem f_init (k : Nat) {m n h : Int} {ru : List Nat} (o : OkP m n h ru) : T (k + 5) 28 [.int m, .int n, .int h, .str ru] = ret (tabD m n h ru) := by
  rw [T, ft_ini (c := 4) (d := d_Table___init__) rfl rfl rfl]
  have e1 := f_check_number (k + 1) m 1 5 o.m1 o.m2
  have e2 := f_check_number (k + 1) n 2 4 o.n1 o.n2
  have e3 := f_check_height k h m n o.h1 o.h2 o.hn o.m2
  have e4 := f_is_rule (k + 3) ru o.ru
  simp -implicitDefEqProofs [d_Table___init__, b_Table___init__, entI, e1, e2, e3, e4, fx1, fx2, fx3, fx4, fx5, cl4, setF, okLen, flMI_nx, tabD, pD, sizeLine_eq]
@[simp] theorem z_sizeLine_eq : sizeLine = 16777216 := sizeLine_eq
@[simp] theorem u_okLen : type_of% @okLen.eq_def := @okLen.eq_def
/-! ## standings -/
def sD (s : List (List Nat)) : D := .tup (s.map .str)
def fall (p : List Nat) : Prop := p.Pairwise (· > ·)
def blks (m : Int) : List Nat := blk5.take m.toNat
structure OkS (m n h : Int) (ru : List Nat) (s : List (List Nat)) : Prop where
  len : (s.length : Int) = n
  perm : s.flatten.Perm (blks m)
  high : ∀ p ∈ s, (p.length : Int) ≤ h
  ru : ru = cFree ∨ ∀ p ∈ s, fall p
theorem getBs_map {α : Type} (f : α → Bool) : ∀ l : List α, getBs (l.map fun x => .bl (f x)) = some (l.map f)
  | [] => rfl
  | x :: l => by simp [getBs, getBs_map f l]
theorem getBs_rp : ∀ n : Nat, getBs (List.replicate n (.bl true)) = some (List.replicate n true)
  | 0 => rfl
  | n + 1 => by simp [List.replicate_succ, getBs, getBs_rp n]
theorem all_rep (n : Nat) : fAll [.lst (List.replicate n (.bl true))] = some (.bl true) := by
  simp only [fAll, getBs_rp, Option.map_some]
  congr 2
  induction n with
  | zero => rfl
  | succ n ih => simpa [List.replicate_succ] using ih
theorem all_true {α : Type} (l : List α) : fAll [.lst (l.map fun _ => .bl true)] = some (.bl true) := by
  have := getBs_map (fun _ : α => true) l
  simp only [fAll, this, Option.map_some]
  congr 1
  simp
theorem f_blocks (k : Nat) (m : Int) (h1 : 1 ≤ m) (h2 : m ≤ 5) : T (k + 1) 3 [.int m] = ret (.str (blks m)) := by
  rw [T, ft_def (d := d_blocks_of) rfl rfl rfl]
  have : m = 1 ∨ m = 2 ∨ m = 3 ∨ m = 4 ∨ m = 5 := by omega
  rcases this with rfl | rfl | rfl | rfl | rfl <;> rfl
theorem comp_true {set : D → En → Option En} {elt : En → M D} {r : En} {l : List D} (h : ∀ d ∈ l, ∃ r', set d r = some r' ∧ elt r' = ret (.bl true)) (hl : l.length ≤ sizeLine) :
    compGo set (fun _ => ret true) elt r l [] = ret (List.replicate l.length (.bl true)) := by
  rw [comp_map (fun _ => .bl true) l [] (fun d hd => by obtain ⟨r', q1, q2⟩ := h d hd; exact ⟨r', q1, rfl, q2⟩) (by simpa using hl)]
  simp [List.map_const']
theorem no_den (F : FT) : BC.no.den F = fun _ => ret true := rfl
theorem f_are_piles (k : Nat) (s : List (List Nat)) (n : Int) (h : (s.length : Int) = n) (hn : n ≤ 4) : T (k + 2) 55 [sD s, .int n] = ret (.bl true) := by
  rw [T, ft_def (d := d_are_piles) rfl rfl rfl]
  have e1 := f_is_tuple_of k (s.map .str) n (by simpa using h.symm)
  simp -implicitDefEqProofs [d_are_piles, b_are_piles, sD, e1, no_den]
  rw [comp_true]
  · simp [all_rep]
  · intro d hd
    obtain ⟨p, hp, rfl⟩ := List.mem_map.mp hd
    exact ⟨_, rfl, by simp⟩
  · simp; omega
theorem signs_mem {s : List Nat} {d : D} (h : d ∈ signs s) : ∃ c ∈ s, d = .str [c] := by
  obtain ⟨c, hc, rfl⟩ := List.mem_map.mp h
  exact ⟨c, hc, rfl⟩
theorem f_once (k : Nat) (x y : List Nat) (hl : x.length = y.length) (hc : ∀ c ∈ y, c ∈ x) (hz : y.length ≤ sizeLine) : T (k + 1) 54 [.str x, .str y] = ret (.bl true) := by
  rw [T, ft_def (d := d_has_each_once) rfl rfl rfl]
  simp -implicitDefEqProofs [d_has_each_once, b_has_each_once, no_den, hl]
  rw [comp_true]
  · simp [all_rep]
  · intro d hd
    obtain ⟨c, hp, rfl⟩ := signs_mem hd
    exact ⟨_, rfl, by simp [fHas, hc c hp]⟩
  · simpa [signs] using hz
theorem at_nat {α : Type} {l : List α} {i : Nat} (h : i < l.length) : atI l (i : Int) = some l[i] := by
  unfold atI ixN
  rw [if_pos (by omega), if_pos (by omega)]
  simp [h]
theorem inR_small {i : Int} (h0 : -1000 ≤ i) (h1 : i ≤ 1000) : inR i = true := by
  have e : (2 : Int) ^ 62 = 4611686018427387904 := by decide
  unfold inR
  rw [e, decide_eq_true (by omega), decide_eq_true (by omega)]
  rfl
theorem rng2 {i j : Int} (hi : inR i = true) (hj : inR j = true) : fRng2 [.int i, .int j] = some (intsD i (j - i).toNat) := by
  unfold fRng2
  exact if_pos (by rw [hi, hj]; rfl)
theorem rng1 {j : Int} (hj : inR j = true) : fRng1 [.int j] = some (intsD 0 j.toNat) := by
  unfold fRng1
  exact if_pos hj
theorem f_is_falling (k : Nat) (p : List Nat) (h : fall p) (hz : p.length ≤ 5) : T (k + 1) 4 [.str p] = ret (.bl true) := by
  rw [T, ft_def (d := d_is_falling) rfl rfl rfl]
  have h2 : inR p.length = true := inR_small (by omega) (by omega)
  have h3 : inR 1 = true := inR_small (by omega) (by omega)
  simp -implicitDefEqProofs [d_is_falling, b_is_falling, no_den, rng2 h3 h2]
  rw [comp_true]
  · simp [all_rep]
  · intro d hd
    unfold intsD at hd
    obtain ⟨i, hi, rfl⟩ := List.mem_map.mp hd
    rw [List.mem_range] at hi
    have hi1 : i + 1 < p.length := by omega
    refine ⟨_, rfl, ?_⟩
    have a1 : atI p (1 + (i : Int)) = some p[i + 1] := by
      have := at_nat (l := p) (i := i + 1) hi1
      rw [show ((i + 1 : Nat) : Int) = 1 + (i : Int) by omega] at this
      exact this
    have a2 : atI p (1 + (i : Int) - 1) = some p[i] := by
      rw [show (1 + (i : Int) - 1) = (i : Int) by omega]
      exact at_nat (by omega)
    have hlt : p[i + 1] < p[i] := (List.pairwise_iff_getElem.mp h) i (i + 1) (by omega) hi1 (by omega)
    have hlt2 : [p[i + 1]] < [p[i]] := List.cons_lt_cons_iff.mpr (.inl hlt)
    simp [a1, a2, hlt2]
  · unfold intsD; simp; omega
def mem4 (m n h : Int) (ru : List Nat) : List D := [.int m, .int n, .int h, .str ru, pD m n h ru]
theorem at_many (m n h : Int) (ru : List Nat) : dAttr 1 (tabD m n h ru) = ret (.int m) := by funext st; simp [dAttr, tabD, fx1]
theorem at_piles (m n h : Int) (ru : List Nat) : dAttr 2 (tabD m n h ru) = ret (.int n) := by funext st; simp [dAttr, tabD, fx2]
theorem at_height (m n h : Int) (ru : List Nat) : dAttr 3 (tabD m n h ru) = ret (.int h) := by funext st; simp [dAttr, tabD, fx3]
theorem at_rule (m n h : Int) (ru : List Nat) : dAttr 4 (tabD m n h ru) = ret (.str ru) := by funext st; simp [dAttr, tabD, fx4]
theorem at_parts (m n h : Int) (ru : List Nat) : dAttr 5 (tabD m n h ru) = ret (pD m n h ru) := by funext st; simp [dAttr, tabD, fx5]
@[simp] theorem z_at_many : type_of% @at_many := @at_many
@[simp] theorem z_at_piles : type_of% @at_piles := @at_piles
@[simp] theorem z_at_height : type_of% @at_height := @at_height
@[simp] theorem z_at_rule : type_of% @at_rule := @at_rule
@[simp] theorem z_at_parts : type_of% @at_parts := @at_parts
theorem f_fits (k : Nat) {m n h : Int} {ru p : List Nat} (h1 : (p.length : Int) ≤ h) (h2 : ru = cFree ∨ fall p) (hz : p.length ≤ 5) : T (k + 2) 5 [tabD m n h ru, .str p] = ret (.bl true) := by
  rw [T, ft_def (d := d_fits_rule) rfl rfl rfl]
  by_cases q : ru = cFree
  · simp -implicitDefEqProofs [d_fits_rule, b_fits_rule, h1, q]
  · have e := f_is_falling k p (h2.resolve_left q) hz
    have q' : (ru == cFree) = false := beq_eq_false_iff_ne.mpr q
    simp -implicitDefEqProofs [q', d_fits_rule, b_fits_rule, h1, q, e]
theorem getSs_str : ∀ s : List (List Nat), getSs (s.map .str) = some s
  | [] => rfl
  | x :: s => by simp [getSs, getSs_str s]
theorem join_nil : ∀ s : List (List Nat), TL.joinL [] s = s.flatten
  | [] => rfl
  | [p] => by simp [TL.joinL]
  | p :: q :: r => by
    show p ++ ([] ++ TL.joinL [] (q :: r)) = _
    rw [join_nil (q :: r)]; simp
theorem blks_len (m : Int) (h1 : 1 ≤ m) (h2 : m ≤ 5) : (blks m).length = m.toNat := by
  unfold blks blk5
  rw [List.length_take]
  simp; omega
theorem OkS.small {m n h : Int} {ru : List Nat} {s : List (List Nat)} (o : OkP m n h ru) (q : OkS m n h ru s) : s.flatten.length = m.toNat ∧ ∀ p ∈ s, p.length ≤ 5 := by
  have e := q.perm.length_eq
  rw [blks_len m o.m1 o.m2] at e
  refine ⟨e, fun p hp => ?_⟩
  have := q.high p hp
  have := o.h2
  have := o.m2
  omega
theorem f_is_standing (k : Nat) {m n h : Int} {ru : List Nat} {s : List (List Nat)} (o : OkP m n h ru) (q : OkS m n h ru s) : T (k + 3) 56 [tabD m n h ru, sD s] = ret (.bl true) := by
  rw [T, ft_def (d := d_is_standing) rfl rfl rfl]
  obtain ⟨c1, c2⟩ := q.small o
  have e1 := f_are_piles k s n q.len o.n2
  have e2 := f_blocks (k + 1) m o.m1 o.m2
  have e3 := f_once (k + 1) s.flatten (blks m) q.perm.length_eq (fun c hc => q.perm.mem_iff.mpr hc) (by rw [blks_len m o.m1 o.m2, sizeLine_eq]; have := o.m2; omega)
  have ej : joinB [] s = true := by
    unfold joinB
    have : (s.map (·.length)).sum = m.toNat := by rw [← c1, List.length_flatten]
    simp [this]; have := o.m2; omega
  have e4 : itemsJ (sD s) = some (s.map .str) := rfl
  have e5 : items (sD s) = some (s.map .str) := rfl
  simp -implicitDefEqProofs [d_is_standing, b_is_standing, no_den, e1, e2, e3, fJoin, e4, e5, getSs_str, ej, join_nil]
  rw [comp_true]
  · simp [all_rep]
  · intro d hd
    obtain ⟨p, hp, rfl⟩ := List.mem_map.mp hd
    have e6 := f_fits k (m := m) (n := n) (q.high p hp) (q.ru.imp id fun z => z p hp) (c2 p hp)
    exact ⟨_, rfl, by simp [e6]⟩
  · have := q.len; have := o.n2; simp; omega
end Rf

set_option Elab.async false
set_option linter.all false
set_option maxRecDepth 100000
set_option maxHeartbeats 1000000
set_option warning.simp.otherHead false
namespace Rf
open PySem L2

theorem f_check_standing (k : Nat) {m n h : Int} {ru : List Nat} {s : List (List Nat)} (o : OkP m n h ru) (q : OkS m n h ru s) : T (k + 4) 67 [tabD m n h ru, sD s] = ret .non := by
  rw [T, ft_def (d := d_check_standing) rfl rfl rfl]
  have e := f_is_standing k o q
  simp -implicitDefEqProofs [d_check_standing, b_check_standing, e]
theorem ty_tab (st : Sto) (m n h : Int) (ru : List Nat) : tyOf st (tabD m n h ru) = some (.inr 4) := rfl
theorem f_check_table (k : Nat) (m n h : Int) (ru : List Nat) : T (k + 1) 30 [tabD m n h ru] = ret .non := by
  rw [T, ft_def (d := d_check_table) rfl rfl rfl]
  simp -implicitDefEqProofs [d_check_table, b_check_table, ty_tab]
theorem f_check_both (k : Nat) {m n h : Int} {ru : List Nat} {s : List (List Nat)} (o : OkP m n h ru) (q : OkS m n h ru s) : T (k + 5) 68 [tabD m n h ru, sD s] = ret .non := by
  rw [T, ft_def (d := d_check_both) rfl rfl rfl]
  have e1 := f_check_table (k + 3) m n h ru
  have e2 := f_check_standing k o q
  simp -implicitDefEqProofs [d_check_both, b_check_both, e1, e2]
theorem ini4 : iniF 4 = 28 := by decide +kernel
theorem at4 (a b c d : D) : atI [a, b, c, d] 0 = some a ∧ atI [a, b, c, d] 1 = some b ∧ atI [a, b, c, d] 2 = some c ∧ atI [a, b, c, d] 3 = some d := ⟨rfl, rfl, rfl, rfl⟩
theorem f_made (k : Nat) {m n h : Int} {ru : List Nat} (o : OkP m n h ru) : T (k + 6) 38 [pD m n h ru] = ret (tabD m n h ru) := by
  rw [T, ft_def (d := d__law_made) rfl rfl rfl]
  have e := f_init k o
  obtain ⟨a0, a1, a2, a3⟩ := at4 (.int m) (.int n) (.int h) (.str ru)
  simp -implicitDefEqProofs [d__law_made, b__law_made, pD, a0, a1, a2, a3, ini4, e]
def dig (i : Int) : List Nat := [48 + i.toNat]
theorem num_dig {i : Int} (h1 : 1 ≤ i) (h2 : i ≤ 5) : fStr [.int i] = some (.str (dig i)) := by
  have e : ∀ n : Nat, n < 6 → 1 ≤ n → TL.numL n = [48 + n] := by decide +kernel
  obtain ⟨n, rfl⟩ : ∃ n : Nat, i = n := ⟨i.toNat, by omega⟩
  show (if (decide (0 ≤ (n : Int)) && decide ((n : Int) < 1000000)) = true then some (D.str (TL.numL (n : Int).toNat)) else none) = _
  rw [if_pos (by simp; omega), Int.toNat_natCast, e n (by omega) (by omega)]
  rfl
def wTable : List Nat := [116, 97, 98, 108, 101]
def wPile : List Nat := [112, 105, 108, 101]
def head (m h : Int) (ru : List Nat) : List Nat := wTable ++ (32 :: (dig m ++ (32 :: (dig h ++ (32 :: ru)))))
def wordOf (p : List Nat) : List Nat := if p = [] then [45] else p
def rowOf (p : List Nat) : List Nat := wPile ++ (32 :: wordOf p)
def rowsD (m h : Int) (ru : List Nat) (s : List (List Nat)) : D := .tup (.str (head m h ru) :: s.map fun p => .str (rowOf p))
theorem ru_len {ru : List Nat} (h : ru = cFree ∨ ru = cLight) : ru.length ≤ 5 := by rcases h with rfl | rfl <;> decide
def rowD : D → D
  | .str p => .str (rowOf p)
  | d => d
theorem rows_map (s : List (List Nat)) : (s.map D.str).map rowD = s.map fun p => .str (rowOf p) := by rw [List.map_map]; rfl
theorem f_text (k : Nat) {m n h : Int} {ru : List Nat} {s : List (List Nat)} (o : OkP m n h ru) (q : OkS m n h ru s) : T (k + 1) 150 [pD m n h ru, sD s] = ret (rowsD m h ru s) := by
  rw [T, ft_def (d := d__law_text) rfl rfl rfl]
  obtain ⟨a0, a1, a2, a3⟩ := at4 (.int m) (.int n) (.int h) (.str ru)
  have r := ru_len o.ru
  obtain ⟨c1, c2⟩ := q.small o
  have n1 := num_dig o.m1 o.m2
  have n2 := num_dig (i := h) o.h1 (Int.le_trans o.h2 o.m2)
  have l1 : ∀ i, (dig i).length = 1 := fun _ => rfl
  have e5 : items (sD s) = some (s.map .str) := rfl
  have ql := q.len
  have qn := o.n2
  have g1 : 10 + ru.length ≤ 16777216 := by omega
  simp -implicitDefEqProofs [d__law_text, b__law_text, pD, a0, a1, a2, a3, no_den, n1, n2, l1, e5, g1]
  rw [comp_map rowD]
  · simp [rows_map, rowsD, head, wTable]
    rw [if_pos (by omega)]
    rfl
  · intro d hd
    obtain ⟨p, hp, rfl⟩ := List.mem_map.mp hd
    have := c2 p hp
    refine ⟨_, rfl, rfl, ?_⟩
    by_cases e : p = []
    · subst e
      simp -implicitDefEqProofs [rowD, rowOf, wordOf, wPile]
    · have e' : (p == []) = false := beq_eq_false_iff_ne.mpr e
      simp -implicitDefEqProofs [rowD, rowOf, wordOf, wPile, e, e']
      rw [if_pos (by omega)]
      rfl
  · simp; omega
theorem f_rows (k : Nat) {m n h : Int} {ru : List Nat} {s : List (List Nat)} (o : OkP m n h ru) (q : OkS m n h ru s) : T (k + 6) 148 [tabD m n h ru, sD s] = ret (rowsD m h ru s) := by
  rw [T, ft_def (d := d_table_rows) rfl rfl rfl]
  have e1 := f_check_both k o q
  have r := ru_len o.ru
  obtain ⟨c1, c2⟩ := q.small o
  have n1 := num_dig o.m1 o.m2
  have n2 := num_dig (i := h) o.h1 (Int.le_trans o.h2 o.m2)
  have l1 : ∀ i, (dig i).length = 1 := fun _ => rfl
  have e5 : items (sD s) = some (s.map .str) := rfl
  have ql := q.len
  have qn := o.n2
  have ej : joinB [32] [wTable, dig m, dig h, ru] = true := by
    unfold joinB
    simp [l1, wTable]; omega
  have ef : fJoin (.str [32]) (.lst [.str wTable, .str (dig m), .str (dig h), .str ru]) = some (.str (head m h ru)) := by
    have := getSs_str [wTable, dig m, dig h, ru]
    simp only [List.map_cons, List.map_nil] at this
    simp only [fJoin, itemsJ, Option.bind_some, this, ej, if_true]
    rfl
  have ew : [116, 97, 98, 108, 101] = wTable := rfl
  simp -implicitDefEqProofs [d_table_rows, b_table_rows, no_den, e1, n1, n2, e5, ew, ef]
  rw [comp_map rowD]
  · simp [rows_map, rowsD]
    rw [if_pos (by omega)]
    rfl
  · intro d hd
    obtain ⟨p, hp, rfl⟩ := List.mem_map.mp hd
    have := c2 p hp
    refine ⟨_, rfl, rfl, ?_⟩
    by_cases e : p = []
    · subst e
      simp -implicitDefEqProofs [rowD, rowOf, wordOf, wPile]
    · have e' : (p == []) = false := beq_eq_false_iff_ne.mpr e
      simp -implicitDefEqProofs [rowD, rowOf, wordOf, wPile, e, e']
      rw [if_pos (by omega)]
      rfl
  · simp; omega
end Rf

set_option Elab.async false
set_option linter.all false
set_option maxRecDepth 100000
set_option maxHeartbeats 1000000
set_option warning.simp.otherHead false
namespace Rf
open PySem L2

theorem f_signs (k : Nat) (w sg : List Nat) (hw : w ≠ []) (hc : ∀ c ∈ w, c ∈ sg) (hz : w.length ≤ 16777216) : T (k + 1) 141 [.str w, .str sg] = ret (.bl true) := by
  rw [T, ft_def (d := d_are_signs) rfl rfl rfl]
  have e' : (w == []) = false := beq_eq_false_iff_ne.mpr hw
  simp -implicitDefEqProofs [d_are_signs, b_are_signs, no_den, hw, e']
  rw [comp_true]
  · simp [all_rep]
  · intro d hd
    obtain ⟨c, hp, rfl⟩ := signs_mem hd
    exact ⟨_, rfl, by simp [fHas, hc c hp]⟩
  · simpa [signs] using hz
def figs : List Nat := [48, 49, 50, 51, 52, 53, 54, 55, 56, 57]
def lets : List Nat := List.range' 97 26
theorem at0 {α : Type} (a : α) (l : List α) : atI (a :: l) 0 = some a := by
  have := at_nat (l := a :: l) (i := 0) (by simp)
  simpa using this
theorem f_figures (k : Nat) {i : Int} (h1 : 1 ≤ i) (h2 : i ≤ 5) : T (k + 2) 142 [.str (dig i)] = ret (.bl true) := by
  rw [T, ft_def (d := d_are_figures) rfl rfl rfl]
  have hm : i = 1 ∨ i = 2 ∨ i = 3 ∨ i = 4 ∨ i = 5 := by omega
  have e := f_signs k (dig i) figs (by simp [dig]) (by rcases hm with rfl | rfl | rfl | rfl | rfl <;> decide) (by simp [dig])
  have e1 : atI (dig i) 0 = some (48 + i.toNat) := at0 _ _
  have e2 : (dig i == [48]) = false := by rcases hm with rfl | rfl | rfl | rfl | rfl <;> decide
  have e3 : ((48 + i.toNat) == 48) = false := by rcases hm with rfl | rfl | rfl | rfl | rfl <;> decide
  have ef : [48, 49, 50, 51, 52, 53, 54, 55, 56, 57] = figs := rfl
  have e4 : ¬ i ≤ 0 := by omega
  simp -implicitDefEqProofs [d_are_figures, b_are_figures, ef, e, e1, e2, e3, e4]
def words1 (m h : Int) (ru : List Nat) : List D := [.str wTable, .str (dig m), .str (dig h), .str ru]
theorem f_first (k : Nat) {m n h : Int} {ru : List Nat} (o : OkP m n h ru) : T (k + 3) 143 [.lst (words1 m h ru)] = ret (.bl true) := by
  rw [T, ft_def (d := d_is_first_line) rfl rfl rfl]
  obtain ⟨a0, a1, a2, a3⟩ := at4 (.str wTable) (.str (dig m)) (.str (dig h)) (.str ru)
  have e1 := f_figures k o.m1 o.m2
  have e2 := f_figures k (i := h) o.h1 (Int.le_trans o.h2 o.m2)
  have e3 := f_signs (k + 1) ru lets (by rcases o.ru with rfl | rfl <;> decide) (by rcases o.ru with rfl | rfl <;> decide) (by have := ru_len o.ru; omega)
  have ew : [116, 97, 98, 108, 101] = wTable := rfl
  have el : List.range' 97 26 = lets := rfl
  simp -implicitDefEqProofs [d_is_first_line, b_is_first_line, words1, a0, a1, a2, a3, ew, co17, el, e1, e2, e3]
def lowB (p : List Nat) : Prop := ∀ c ∈ p, 97 ≤ c ∧ c ≤ 101
theorem low_lets {p : List Nat} (h : lowB p) : ∀ c ∈ p, c ∈ lets := fun c hc => by
  have := h c hc
  unfold lets
  rw [List.mem_range']
  exact ⟨c - 97, by omega, by omega⟩
theorem f_pile_line (k : Nat) {p : List Nat} (hp : lowB p) (hz : p.length ≤ 5) : T (k + 2) 144 [.lst [.str wPile, .str (wordOf p)]] = ret (.bl true) := by
  rw [T, ft_def (d := d_is_pile_line) rfl rfl rfl]
  have a0 : atI [D.str wPile, D.str (wordOf p)] 0 = some (.str wPile) := rfl
  have a1 : atI [D.str wPile, D.str (wordOf p)] 1 = some (.str (wordOf p)) := rfl
  have ew : [112, 105, 108, 101] = wPile := rfl
  by_cases e : p = []
  · have : wordOf p = [45] := by simp [wordOf, e]
    rw [this] at a0 a1 ⊢
    simp -implicitDefEqProofs [d_is_pile_line, b_is_pile_line, a0, a1, ew]
  · have e2 : wordOf p = p := by simp [wordOf, e]
    rw [e2] at a0 a1 ⊢
    have e3 := f_signs k p lets e (low_lets hp) (by omega)
    have e4 : (p == [45]) = false := beq_eq_false_iff_ne.mpr fun z => by
      have := hp 45 (by rw [z]; simp)
      omega
    have el : List.range' 97 26 = lets := rfl
    simp -implicitDefEqProofs [d_is_pile_line, b_is_pile_line, a0, a1, ew, e4, co17, el, e3]
theorem split_of {parts : List (List Nat)} (h : parts ≠ []) (hf : ∀ p ∈ parts, 32 ∉ p) (hl : (TL.joinL [32] parts).length + 2 ≤ 16777216) (hn : parts.length ≤ 16777216) : fSplit (.str (TL.joinL [32] parts)) (.str [32]) = some (.lst (parts.map .str)) := by
  have e := TL.spl_join (s := 32) (S := []) h hf
  unfold fSplit
  simp only [e]
  rw [if_pos]
  simp [hl, hn]
theorem split_head {m n h : Int} {ru : List Nat} (o : OkP m n h ru) : fSplit (.str (head m h ru)) (.str [32]) = some (.lst (words1 m h ru)) := by
  have hr : 32 ∉ ru := by rcases o.ru with rfl | rfl <;> decide
  have hd : ∀ i : Int, 1 ≤ i → 32 ∉ dig i := fun i hi z => by
    have := List.mem_singleton.mp z
    omega
  refine split_of (parts := [wTable, dig m, dig h, ru]) (by simp) (fun p hp => ?_) ?_ (by simp)
  · rcases List.mem_cons.mp hp with rfl | hp
    · decide
    rcases List.mem_cons.mp hp with rfl | hp
    · exact hd m o.m1
    rcases List.mem_cons.mp hp with rfl | hp
    · exact hd h o.h1
    · rw [List.mem_singleton.mp hp]; exact hr
  · have := ru_len o.ru
    simp [TL.joinL, wTable, dig]; omega
theorem split_row {p : List Nat} (hp : lowB p) (hz : p.length ≤ 5) : fSplit (.str (rowOf p)) (.str [32]) = some (.lst [.str wPile, .str (wordOf p)]) := by
  have hw : 32 ∉ wordOf p := by
    unfold wordOf
    split
    · decide
    · intro z
      have := hp 32 z
      omega
  have hl : (wordOf p).length ≤ 5 := by
    unfold wordOf
    split
    · decide
    · exact hz
  refine split_of (parts := [wPile, wordOf p]) (by simp) (fun q hq => ?_) ?_ (by simp)
  · rcases List.mem_cons.mp hq with rfl | hq
    · decide
    · rw [List.mem_singleton.mp hq]; exact hw
  · simp [TL.joinL, wPile]; omega
theorem f_line0 (k : Nat) {m n h : Int} {ru : List Nat} (o : OkP m n h ru) : T (k + 4) 145 [.int 0, .str (head m h ru)] = ret (.bl true) := by
  rw [T, ft_def (d := d_is_line) rfl rfl rfl]
  have e1 := split_head o
  have e2 := f_first k o
  simp -implicitDefEqProofs [d_is_line, b_is_line, e1, e2]
theorem f_line1 (k : Nat) {i : Int} {p : List Nat} (hi : i ≠ 0) (hp : lowB p) (hz : p.length ≤ 5) : T (k + 3) 145 [.int i, .str (rowOf p)] = ret (.bl true) := by
  rw [T, ft_def (d := d_is_line) rfl rfl rfl]
  have e1 := split_row hp hz
  have e2 := f_pile_line k hp hz
  have e3 : (i == 0) = false := beq_eq_false_iff_ne.mpr hi
  simp -implicitDefEqProofs [d_is_line, b_is_line, e1, e2, e3]
theorem OkS.low {m n h : Int} {ru : List Nat} {s : List (List Nat)} (q : OkS m n h ru s) : ∀ p ∈ s, lowB p := fun p hp c hc => by
  have h1 : c ∈ s.flatten := List.mem_flatten.mpr ⟨p, hp, hc⟩
  have h2 := q.perm.mem_iff.mp h1
  have h3 : c ∈ blk5 := List.mem_of_mem_take h2
  simp [blk5] at h3
  omega
/-- a walk whose body lets on -/
theorem for_next {set : D → En → Option En} {body : MS} (J : En → Prop) : ∀ (l : List D) (r : En), J r → (∀ d ∈ l, ∀ r, J r → ∃ r' r'', set d r = some r' ∧ body r' = ret (.nx r'') ∧ J r'') → ∃ r', J r' ∧ forGo set body l r = ret (.nx r')
  | [], r, hJ, _ => ⟨r, hJ, rfl⟩
  | d :: l, r, hJ, h => by
    obtain ⟨r', r'', h1, h2, h3⟩ := h d (List.mem_cons_self ..) r hJ
    obtain ⟨r3, h4, h5⟩ := for_next J l r'' h3 fun x hx => h x (List.mem_cons_of_mem _ hx)
    refine ⟨r3, h4, ?_⟩
    simp only [forGo, h1, bnd_some, h2, bnd_ret]
    exact h5
end Rf

set_option Elab.async false
set_option linter.all false
set_option maxRecDepth 100000
set_option maxHeartbeats 1000000
set_option warning.simp.otherHead false
namespace Rf
open PySem L2

theorem datas_str : ∀ l : List (List Nat), isDatas (l.map .str) = true ∧ deps (l.map .str) = 0
  | [] => by simp [isDatas, deps]
  | x :: l => by
    obtain ⟨h1, h2⟩ := datas_str l
    simp [isDatas, deps, isData, dep, h1, h2]
theorem okE_strs (l : List (List Nat)) : okE (.tup (l.map .str)) = true := by
  obtain ⟨h1, h2⟩ := datas_str l
  simp [okE, isData, dep, h1, h2]
def rowsL (m h : Int) (ru : List Nat) (s : List (List Nat)) : List (List Nat) := head m h ru :: s.map rowOf
theorem rows_eq (m h : Int) (ru : List Nat) (s : List (List Nat)) : rowsD m h ru s = .tup ((rowsL m h ru s).map .str) := by
  simp [rowsD, rowsL]
theorem nums_mem {l : List D} {d : D} {n : Nat} (h : d ∈ numsD n l) : ∃ i x, l[i]? = some x ∧ d = .tup [.int ((n + i : Nat) : Int), x] := by
  obtain ⟨i, hi⟩ := List.getElem?_of_mem h
  rw [numsD_at] at hi
  simp only [Option.map_eq_some_iff] at hi
  obtain ⟨x, h1, h2⟩ := hi
  exact ⟨i, x, h1, h2.symm⟩
theorem f_wrong (k : Nat) {m n h : Int} {ru : List Nat} {s : List (List Nat)} (o : OkP m n h ru) (q : OkS m n h ru s) : T (k + 5) 146 [rowsD m h ru s] = ret (.lst []) := by
  rw [T, ft_def (d := d_wrong_line) rfl rfl rfl]
  obtain ⟨c1, c2⟩ := q.small o
  have e0 : fEq (rowsD m h ru s) (.tup []) = some (.bl false) := by
    have h1 := okE_strs (rowsL m h ru s)
    have h2 : okE (.tup []) = true := by decide
    rw [rows_eq]
    unfold fEq
    rw [h1, h2]
    simp [rowsL, deq, deqs]
  have et : ∀ st, tyOf st (rowsD m h ru s) = some (.inl 4) := fun _ => rfl
  have en : fEnum [rowsD m h ru s] = some (numsD 0 ((rowsL m h ru s).map .str)) := by rw [rows_eq]; rfl
  obtain ⟨r', ⟨a, b, rfl⟩, hf⟩ := for_next (set := (gTp [gNm 1, gNm 2]).set) (body := dBlk [sIf (tNot (tVal (cCall 145 [cVar 1, cVar 2]))) [sRet (fLst [cVar 1]).e] []] (T (k + 4))) (fun r => ∃ a b, r = [.val (rowsD m h ru s), a, b]) (numsD 0 ((rowsL m h ru s).map .str)) [.val (rowsD m h ru s), .none, .none] ⟨_, _, rfl⟩ fun d hd r hr => by
    obtain ⟨a, b, rfl⟩ := hr
    obtain ⟨i, x, hx, rfl⟩ := nums_mem hd
    rw [Nat.zero_add]
    have el : T (k + 4) 145 [.int (i : Int), x] = ret (.bl true) := by
      cases i with
      | zero =>
        simp [rowsL] at hx
        subst hx
        exact f_line0 k o
      | succ i =>
        simp only [rowsL, List.map_cons, List.getElem?_cons_succ, List.map_map, List.getElem?_map, Option.map_eq_some_iff] at hx
        obtain ⟨p, hp, rfl⟩ := hx
        have hm := List.mem_of_getElem? hp
        exact f_line1 (k + 1) (by omega) (q.low p hm) (c2 p hm)
    refine ⟨[.val (rowsD m h ru s), .val (.int (i : Int)), .val x], [.val (rowsD m h ru s), .val (.int (i : Int)), .val x], rfl, ?_, _, _, rfl⟩
    simp -implicitDefEqProofs [el]
  simp -implicitDefEqProofs [d_wrong_line, b_wrong_line, e0, et, en]
  rw [show FTab (PTof tab) (k + 4) = T (k + 4) from rfl, hf]
  rfl
def wordD : D → D
  | .str p => .str (if p = [45] then [] else p)
  | d => d
def row2 : D → D
  | .str r => .str (r.drop 5)
  | d => d
theorem f_piles_in (k : Nat) {m n h : Int} {ru : List Nat} {s : List (List Nat)} (o : OkP m n h ru) (q : OkS m n h ru s) : T (k + 1) 147 [rowsD m h ru s] = ret (sD s) := by
  rw [T, ft_def (d := d_piles_in) rfl rfl rfl]
  obtain ⟨c1, c2⟩ := q.small o
  have ql := q.len
  have qn := o.n2
  have es : fSl (rowsD m h ru s) (some 1) none = some (.tup (s.map fun p => .str (rowOf p))) := by
    unfold rowsD fSl cut
    simp [HT.sIx]
    exact List.take_of_length_le (by simp)
  have co : coD 18 = .str [45] := rfl
  simp -implicitDefEqProofs [d_piles_in, b_piles_in, no_den, es]
  have m1 : (s.map fun p => D.str (rowOf p)).map row2 = s.map fun p => D.str (wordOf p) := by
    rw [List.map_map]
    exact List.map_congr_left fun p _ => rfl
  have m2 : (s.map fun p => D.str (wordOf p)).map wordD = s.map D.str := by
    rw [List.map_map]
    refine List.map_congr_left fun p hp => ?_
    show D.str (if wordOf p = [45] then [] else wordOf p) = _
    by_cases e : p = []
    · simp [wordOf, e]
    · have e2 : wordOf p = p := by simp [wordOf, e]
      rw [e2, if_neg fun z => by
        have := q.low p hp 45 (by rw [z]; simp)
        omega]
  rw [comp_map row2]
  · simp -implicitDefEqProofs [mkS, m1]
    rw [comp_map wordD]
    · simp -implicitDefEqProofs [m2, sD]
    · intro d hd
      obtain ⟨p, hp, rfl⟩ := List.mem_map.mp hd
      refine ⟨_, rfl, rfl, ?_⟩
      by_cases e : wordOf p = [45]
      · simp -implicitDefEqProofs [wordD, e]
      · have e' : (wordOf p == [45]) = false := beq_eq_false_iff_ne.mpr e
        simp -implicitDefEqProofs [wordD, e, e']
    · simp; omega
  · intro d hd
    obtain ⟨p, hp, rfl⟩ := List.mem_map.mp hd
    refine ⟨_, rfl, rfl, ?_⟩
    have e1 := split_row (q.low p hp) (c2 p hp)
    have a1 : atI [D.str wPile, D.str (wordOf p)] 1 = some (.str (wordOf p)) := rfl
    simp -implicitDefEqProofs [e1, a1]
    rfl
  · simp; omega
end Rf

set_option Elab.async false
set_option linter.all false
set_option maxRecDepth 100000
set_option maxHeartbeats 1000000
set_option warning.simp.otherHead false
namespace Rf
open PySem L2

theorem int_dig {i : Int} (h1 : 1 ≤ i) (h2 : i ≤ 5) : fInt [.str (dig i)] = some (.int i) := by
  have hm : i = 1 ∨ i = 2 ∨ i = 3 ∨ i = 4 ∨ i = 5 := by omega
  have e : (PySem.intText? ⟨(dig i).toArray⟩) = some i := by rcases hm with rfl | rfl | rfl | rfl | rfl <;> decide +kernel
  unfold fInt
  simp only [e, Option.map_some]
  rw [if_pos]
  show 1 ≤ 640
  decide
theorem ne_nil : fNe (.lst []) (.lst []) = some (.bl false) := by
  simp [fNe, okE, isData, isDatas, dep, deps, deq, deqs]
theorem f_read (k : Nat) {m n h : Int} {ru : List Nat} {s : List (List Nat)} (o : OkP m n h ru) (q : OkS m n h ru s) : T (k + 6) 149 [rowsD m h ru s] = ret (.tup [tabD m n h ru, sD s]) := by
  rw [T, ft_def (d := d_read_table) rfl rfl rfl]
  have e1 := f_wrong k o q
  have e2 := split_head o
  have e3 := f_piles_in (k + 4) o q
  have e4 := f_init k o
  have e5 := f_check_standing (k + 1) o q
  obtain ⟨a0, a1, a2, a3⟩ := at4 (.str wTable) (.str (dig m)) (.str (dig h)) (.str ru)
  have r0 : fIx (rowsD m h ru s) (.int 0) = some (.str (head m h ru)) := at0 _ _
  have rw0 : ∀ st, fIxW st (rowsD m h ru s) (.int 0) = some (.str (head m h ru)) := fun _ => r0
  have i1 := int_dig o.m1 o.m2
  have i2 := int_dig (i := h) o.h1 (Int.le_trans o.h2 o.m2)
  have l1 : ∀ st, fLenW st [sD s] = some (.int n, st) := fun st => by
    show some (D.int ((s.map D.str).length : Nat), st) = _
    rw [List.length_map, q.len]
  simp -implicitDefEqProofs [d_read_table, b_read_table, e1, e2, e3, rw0, words1, a0, a1, a2, a3, i1, i2, l1, ini4, e4, e5, ne_nil]
/-! ## the well -/
theorem bnd_ap {α β : Type} (m : M α) (f : α → M β) (st : Sto) : bnd m f st = match m st with
  | .ok a st' => f a st'
  | .exc x st' => .exc x st'
  | .bad => .bad := rfl
theorem ret_ap {α : Type} (a : α) (st : Sto) : ret a st = .ok a st := rfl
theorem flM_ap (m : M Fl) (st : Sto) : flM m st = flD (m st) := rfl
theorem m_gTpX (gs : List BGX) (F : FT) (d : D) (r : En) : (gTpX gs).set F d r = match d with
    | .tup l => if l.length = gs.length then setXs F gs l r else fun _ => .bad
    | _ => fun _ => .bad := rfl
theorem m_gIx (a b : BE) (F : FT) (d : D) (r : En) : (gIx a b).set F d r = bnd (a.den F r) fun x => bnd (b.den F r) fun y => bnd (setL d x y) fun _ => ret r := rfl
theorem m_gx (g : BG) (F : FT) (d : D) (r : En) : g.x.set F d r = opt (g.set d r) := rfl
theorem m_setXs0 (F : FT) (r : En) : setXs F [] [] r = ret r := rfl
theorem m_setXs (F : FT) (g : BGX) (gs : List BGX) (d : D) (ds : List D) (r : En) : setXs F (g :: gs) (d :: ds) r = bnd (g.set F d r) fun r' => setXs F gs ds r' := rfl
theorem m_gNm (i : Nat) (d : D) (r : En) : (gNm i).set d r = if i < r.length then some (r.set i (.val d)) else none := rfl
def wellL (a b c : Int) : List D := [.int a, .int b, .int c]
/-- what a draw leaves: a figure below many, the cell another well -/
theorem f_draw (k w : Nat) (st : Sto) (a b c many : Int) (h1 : 0 < many) (h2 : many < 1073741824) (hw : st[w]? = some (.lst (wellL a b c))) :
    ∃ f a' b' c', 0 ≤ f ∧ f < many ∧ T (k + 1) 34 [.loc w, .int many] st = .ok (.int f) (st.set w (.lst (wellL a' b' c'))) := by
  rw [T, ft_def (d := d__law_draw) rfl rfl rfl]
  have x0 : fIxW st (.loc w) (.int 0) = some (.int a) := by simp only [fIxW, hw]; rfl
  by_cases ha : 0 < a
  · refine ⟨a % many, a / many, b, c, Int.emod_nonneg _ (by omega), Int.emod_lt_of_pos _ h1, ?_⟩
    have s0 : setL (.int (a / many)) (.loc w) (.int 0) st = .ok () (st.set w (.lst (wellL (a / many) b c))) := by
      simp only [setL, hw]; rfl
    simp -implicitDefEqProofs [d__law_draw, b__law_draw, flM_ap, bnd_ap, ret_ap, x0, ha, fDivmod, h1, h2, m_gTpX, m_gIx, m_gx, m_setXs, m_setXs0, m_gNm, s0, flD]
  · have hlt : w < st.length := (List.getElem?_eq_some_iff.mp hw).1
    generalize e1 : st.set w (.lst (wellL a b (c + 1))) = st1
    have hw1 : st1[w]? = some (.lst (wellL a b (c + 1))) := by rw [← e1, List.getElem?_set_self hlt]
    have x2 : fIxW st (.loc w) (.int 2) = some (.int c) := by simp only [fIxW, hw]; rfl
    have y1 : fIxW st1 (.loc w) (.int 1) = some (.int b) := by simp only [fIxW, hw1]; rfl
    have y2 : fIxW st1 (.loc w) (.int 2) = some (.int (c + 1)) := by simp only [fIxW, hw1]; rfl
    have s2 : setL (.int (c + 1)) (.loc w) (.int 2) st = .ok () st1 := by
      simp only [setL, hw]
      rw [← e1]; rfl
    generalize eb : (b * (b % 8837 + 41011) + 9787 * (c + 1) + 167) % 2147481199 = b'
    generalize e3 : st1.set w (.lst (wellL a b' (c + 1))) = st2
    have hlt1 : w < st1.length := (List.getElem?_eq_some_iff.mp hw1).1
    have hw2 : st2[w]? = some (.lst (wellL a b' (c + 1))) := by rw [← e3, List.getElem?_set_self hlt1]
    have s1 : setL (.int b') (.loc w) (.int 1) st1 = .ok () st2 := by
      simp only [setL, hw1]
      rw [← e3]; rfl
    have z1 : fIxW st2 (.loc w) (.int 1) = some (.int b') := by simp only [fIxW, hw2]; rfl
    have m1 : ∀ x : Int, fMul (.int x) (.int (b % 8837 + 41011)) = some (.int (x * (b % 8837 + 41011))) := fun x => by
      have : small64 (b % 8837 + 41011) = true := by simp [small64]; omega
      simp [fMul, this]
    have m2 : ∀ x : Int, fMul (.int 9787) (.int x) = some (.int (9787 * x)) := fun x => by
      have : small64 9787 = true := by decide
      simp [fMul, this]
    have i1 : ∀ x : Int, fInt [.int x] = some (.int x) := fun _ => rfl
    refine ⟨b' / 487 % many, a, b', c + 1, Int.emod_nonneg _ (by omega), Int.emod_lt_of_pos _ h1, ?_⟩
    have es : st.set w (.lst (wellL a b' (c + 1))) = st2 := by rw [← e3, ← e1, List.set_set]
    rw [es]
    simp -implicitDefEqProofs [d__law_draw, b__law_draw, flM_ap, bnd_ap, ret_ap, x0, ha, h1, m_gIx, flD, x2, s2, y1, y2, m1, m2, i1, eb, s1, z1]
theorem at_mem {α : Type} {l : List α} {f : Int} (h1 : 0 ≤ f) (h2 : f < l.length) : ∃ x ∈ l, atI l f = some x := by
  obtain ⟨i, rfl⟩ : ∃ i : Nat, f = i := ⟨f.toNat, by omega⟩
  have hi : i < l.length := by omega
  exact ⟨l[i], List.getElem_mem hi, at_nat hi⟩
/-- the cell is a well -/
def WellAt (w : Nat) (st : Sto) : Prop := ∃ a b c, st[w]? = some (.lst (wellL a b c))
theorem WellAt.set {w : Nat} {st : Sto} (h : WellAt w st) (a b c : Int) : WellAt w (st.set w (.lst (wellL a b c))) := by
  obtain ⟨_, _, _, h⟩ := h
  exact ⟨a, b, c, List.getElem?_set_self (List.getElem?_eq_some_iff.mp h).1⟩
theorem f_draw' (k : Nat) {w : Nat} {st : Sto} {many : Int} (h1 : 0 < many) (h2 : many < 1073741824) (hw : WellAt w st) :
    ∃ f st', 0 ≤ f ∧ f < many ∧ WellAt w st' ∧ st'.length = st.length ∧ T (k + 1) 34 [.loc w, .int many] st = .ok (.int f) st' := by
  obtain ⟨a, b, c, hw'⟩ := id hw
  obtain ⟨f, a', b', c', q1, q2, q3⟩ := f_draw k w st a b c many h1 h2 hw'
  exact ⟨f, _, q1, q2, hw.set a' b' c', by simp, q3⟩
theorem f_of_tup (k : Nat) {w : Nat} {st : Sto} {l : List D} (hl : l ≠ []) (hz : l.length < 1073741824) (hw : WellAt w st) :
    ∃ x ∈ l, ∃ st', WellAt w st' ∧ st'.length = st.length ∧ T (k + 2) 35 [.loc w, .tup l] st = .ok x st' := by
  rw [T, ft_def (d := d__law_of) rfl rfl rfl]
  have hp : 0 < l.length := List.length_pos_iff.mpr hl
  obtain ⟨f, st', q1, q2, q3, q4, q5⟩ := f_draw' k (w := w) (st := st) (many := l.length) (by omega) (by omega) hw
  obtain ⟨x, hx, ha⟩ := at_mem (l := l) q1 (by omega)
  refine ⟨x, hx, st', q3, q4, ?_⟩
  simp -implicitDefEqProofs [d__law_of, b__law_of, flM_ap, bnd_ap, ret_ap, q5, ha, flD]
theorem f_of_lst (k : Nat) {w : Nat} {st : Sto} {l : List D} (hl : l ≠ []) (hz : l.length < 1073741824) (hw : WellAt w st) :
    ∃ x ∈ l, ∃ st', WellAt w st' ∧ st'.length = st.length ∧ T (k + 2) 35 [.loc w, .lst l] st = .ok x st' := by
  rw [T, ft_def (d := d__law_of) rfl rfl rfl]
  have hp : 0 < l.length := List.length_pos_iff.mpr hl
  obtain ⟨f, st', q1, q2, q3, q4, q5⟩ := f_draw' k (w := w) (st := st) (many := l.length) (by omega) (by omega) hw
  obtain ⟨x, hx, ha⟩ := at_mem (l := l) q1 (by omega)
  refine ⟨x, hx, st', q3, q4, ?_⟩
  simp -implicitDefEqProofs [d__law_of, b__law_of, flM_ap, bnd_ap, ret_ap, q5, ha, flD]
theorem x_o (b : BE) : b.x.o = false := rfl
theorem xF_o (b : BF) : b.x.o = true := rfl
theorem mkS_v (d : D) : mkS false d = .val d := rfl
theorem mkS_o (d : D) : mkS true d = .own d := rfl
theorem f_table (k : Nat) {w : Nat} {st : Sto} {most tp : Int} (h1 : 1 ≤ most) (h2 : most ≤ 5) (h3 : 2 ≤ tp) (h4 : tp ≤ 4) (hw : WellAt w st) :
    ∃ m n h ru st', OkP m n h ru ∧ m ≤ most ∧ n ≤ tp ∧ WellAt w st' ∧ st'.length = st.length ∧ T (k + 3) 37 [.loc w, .int most, .int tp] st = .ok (pD m n h ru) st' := by
  rw [T, ft_def (d := d__law_table) rfl rfl rfl]
  obtain ⟨f1, st1, a1, a2, a3, a4, a5⟩ := f_draw' (k + 1) (w := w) (st := st) (many := most) (by omega) (by omega) hw
  obtain ⟨f2, st2, b1, b2, b3, b4, b5⟩ := f_draw' (k + 1) (w := w) (st := st1) (many := tp - 1) (by omega) (by omega) a3
  generalize em : 1 + f1 = m
  generalize en : 2 + f2 = n
  have hm : 1 ≤ m ∧ m ≤ most := by omega
  have hn : 2 ≤ n ∧ n ≤ tp := by omega
  generalize el : (m + n - 1) / n = l
  have hl : 1 ≤ l ∧ l ≤ m ∧ m ≤ l * n := by
    have hmm : m = 1 ∨ m = 2 ∨ m = 3 ∨ m = 4 ∨ m = 5 := by omega
    have hnn : n = 2 ∨ n = 3 ∨ n = 4 := by omega
    rcases hmm with rfl | rfl | rfl | rfl | rfl <;> rcases hnn with rfl | rfl | rfl <;> (subst el; decide)
  obtain ⟨f3, st3, c1, c2, c3, c4, c5⟩ := f_draw' (k + 1) (w := w) (st := st2) (many := m - l + 1) (by omega) (by omega) b3
  obtain ⟨x, hx, st4, d1, d2, d3⟩ := f_of_tup k (w := w) (st := st3) (l := [.str cFree, .str cFree, .str cLight]) (by simp) (by simp) c3
  have hru : ∃ ru, x = .str ru ∧ (ru = cFree ∨ ru = cLight) := by
    simp at hx
    rcases hx with rfl | rfl
    · exact ⟨_, rfl, .inl rfl⟩
    · exact ⟨_, rfl, .inr rfl⟩
  obtain ⟨ru, rfl, hr⟩ := hru
  have hh : l * n ≤ (l + f3) * n := Int.mul_le_mul_of_nonneg_right (by omega) (by omega)
  refine ⟨m, n, l + f3, ru, st4, ⟨hm.1, by omega, hn.1, by omega, by omega, by omega, by omega, hr⟩, hm.2, hn.2, d1, by omega, ?_⟩
  have i1 : ∀ x : Int, fInt [.int x] = some (.int x) := fun _ => rfl
  have g1 : 0 < n := by omega
  have g2 : n < 1073741824 := by omega
  have ew : [102, 114, 101, 101] = cFree := rfl
  have ew2 : [108, 105, 103, 104, 116] = cLight := rfl
  simp -implicitDefEqProofs [d__law_table, b__law_table, flM_ap, bnd_ap, ret_ap, a5, b5, em, en, el, x_o, mkS_v, i1, g1, g2, ew, ew2, c5, d3, flD, pD]
end Rf

set_option Elab.async false
set_option linter.all false
set_option maxRecDepth 100000
set_option maxHeartbeats 1000000
set_option warning.simp.otherHead false
namespace Rf
open PySem L2

/-- texts and numbers, and tuples and lists of these, n deep -/
def SameN : Nat → D → Prop
  | _, .int _ => True
  | _, .str _ => True
  | n + 1, .tup l => l.length ≤ 1000 ∧ ∀ d ∈ l, SameN n d
  | n + 1, .lst l => l.length ≤ 1000 ∧ ∀ d ∈ l, SameN n d
  | _, _ => False
theorem f_same_int (k : Nat) (i : Int) : T (k + 1) 36 [.int i, .int i] = ret (.bl true) := by
  rw [T, ft_def (d := d__law_same) rfl rfl rfl]
  simp -implicitDefEqProofs [d__law_same, b__law_same]
theorem f_same_str (k : Nat) (s : List Nat) : T (k + 1) 36 [.str s, .str s] = ret (.bl true) := by
  rw [T, ft_def (d := d__law_same) rfl rfl rfl]
  simp -implicitDefEqProofs [d__law_same, b__law_same]
theorem f_same_seq (k : Nat) (l : List D) (h : ∀ d ∈ l, T (k + 1) 36 [d, d] = ret (.bl true)) (hl : l.length ≤ 1000) : T (k + 2) 36 [.tup l, .tup l] = ret (.bl true) ∧ T (k + 2) 36 [.lst l, .lst l] = ret (.bl true) := by
  have hR : inR l.length = true := inR_small (by omega) (by omega)
  have elt : ∀ (d : D) (i : Nat) (hi : i < l.length), T (k + 1) 36 [l[i], l[i]] = ret (.bl true) := fun d i hi => h _ (List.getElem_mem hi)
  constructor
  · rw [T, ft_def (d := d__law_same) rfl rfl rfl]
    simp -implicitDefEqProofs [d__law_same, b__law_same, no_den, rng1 hR]
    rw [comp_true]
    · simp [all_rep]
    · intro d hd
      unfold intsD at hd
      obtain ⟨i, hi, rfl⟩ := List.mem_map.mp hd
      rw [List.mem_range] at hi
      have hi' : i < l.length := by omega
      have a1 : atI l (0 + (i : Int)) = some l[i] := by rw [Int.zero_add]; exact at_nat hi'
      refine ⟨_, rfl, ?_⟩
      simp only [Int.zero_add] at a1
      simp -implicitDefEqProofs [a1, elt .non i hi']
    · unfold intsD; simp; omega
  · rw [T, ft_def (d := d__law_same) rfl rfl rfl]
    simp -implicitDefEqProofs [d__law_same, b__law_same, no_den, rng1 hR]
    rw [comp_true]
    · simp [all_rep]
    · intro d hd
      unfold intsD at hd
      obtain ⟨i, hi, rfl⟩ := List.mem_map.mp hd
      rw [List.mem_range] at hi
      have hi' : i < l.length := by omega
      have a1 : atI l (0 + (i : Int)) = some l[i] := by rw [Int.zero_add]; exact at_nat hi'
      refine ⟨_, rfl, ?_⟩
      simp only [Int.zero_add] at a1
      simp -implicitDefEqProofs [a1, elt .non i hi']
    · unfold intsD; simp; omega
theorem f_same : ∀ (n : Nat) (d : D), SameN n d → ∀ k, T (k + n + 1) 36 [d, d] = ret (.bl true)
  | n, .int i, _, k => f_same_int (k + n) i
  | n, .str s, _, k => f_same_str (k + n) s
  | n + 1, .tup l, h, k => (f_same_seq (k + n) l (fun d hd => f_same n d (h.2 d hd) k) h.1).1
  | n + 1, .lst l, h, k => (f_same_seq (k + n) l (fun d hd => f_same n d (h.2 d hd) k) h.1).2
  | 0, .tup _, h, _ => h.elim
  | 0, .lst _, h, _ => h.elim
  | _, .non, h, _ => by simp [SameN] at h
  | _, .bl _, h, _ => by simp [SameN] at h
  | _, .frl _, h, _ => by simp [SameN] at h
  | _, .dct _ _, h, _ => by simp [SameN] at h
  | _, .obj _ _, h, _ => by simp [SameN] at h
  | _, .loc _, h, _ => by simp [SameN] at h
  | _, .fn _, h, _ => by simp [SameN] at h
  | _, .cls _, h, _ => by simp [SameN] at h
  | _, .clo _ _, h, _ => by simp [SameN] at h
end Rf

set_option Elab.async false
set_option linter.all false
set_option maxRecDepth 100000
set_option maxHeartbeats 1000000
set_option warning.simp.otherHead false
namespace Rf
open PySem L2

/-- a pile is low while few blocks are laid -/
theorem low_pile : ∀ {ps : List (List Nat)} {h : Nat}, ps.flatten.length < h * ps.length → ∃ i, ∃ hi : i < ps.length, ps[i].length < h
  | [], h, q => by simp at q
  | p :: ps, h, q => by
    by_cases hp : p.length < h
    · exact ⟨0, by simp, hp⟩
    · have : ps.flatten.length < h * ps.length := by
        simp [Nat.mul_add] at q
        have e : ps.flatten.length = (ps.map List.length).sum := List.length_flatten
        omega
      obtain ⟨i, hi, z⟩ := low_pile this
      exact ⟨i + 1, by simp; omega, by simpa using z⟩
/-- what stands in the frame of _law_standing -/
structure StJ (w : Nat) (m n h : Int) (ru : List Nat) (left : List Nat) (ps : List (List Nat)) : Prop where
  len : (ps.length : Int) = n
  perm : (ps.flatten ++ left).Perm (blks m)
  high : ∀ p ∈ ps, (p.length : Int) ≤ h
def stE (w : Nat) (m n h : Int) (ru : List Nat) (left : List Nat) (ps : List (List Nat)) (a b c : Slt) : En :=
  [.val (.loc w), .val (pD m n h ru), a, .own (.lst (signs left)), .own (.lst (ps.map .str)), b, c, .none, .none]
theorem flat_set : ∀ (ps : List (List Nat)) (i : Nat) (hi : i < ps.length) (x : Nat), (ps.set i (ps[i] ++ [x])).flatten.Perm (x :: ps.flatten)
  | p :: ps, 0, _, x => by
    simp
  | p :: ps, i + 1, hi, x => by
    simp
    have ih := flat_set ps i (by simpa using hi) x
    exact (ih.append_left p).trans (List.perm_middle)
theorem erase_map {α β : Type} (f : α → β) : ∀ (l : List α) (i : Nat), (l.map f).eraseIdx i = (l.eraseIdx i).map f
  | [], _ => rfl
  | _ :: _, 0 => rfl
  | x :: l, i + 1 => by simp [erase_map f l i]
theorem pop_at {l : List Nat} {f : Int} (h1 : 0 ≤ f) (h2 : f < l.length) (hz : l.length ≤ 1000) : ∃ i, ∃ hi : i < l.length, popI (signs l) (.int f) = some (.str [l[i]], signs (l.eraseIdx i)) := by
  obtain ⟨i, rfl⟩ : ∃ i : Nat, f = i := ⟨f.toNat, by omega⟩
  have hi : i < l.length := by omega
  refine ⟨i, hi, ?_⟩
  have e1 : seqIndex? (i : Int) (signs l).length = some i := by
    rw [seqIndex_of h1 (by simp [signs]; omega)]; rfl
  have e2 : (signs l)[i]? = some (.str [l[i]]) := by simp [signs, hi]
  have hp : ((2 : Int) ^ 63) = 9223372036854775808 := by decide
  unfold popI
  simp only
  rw [if_pos (by rw [hp, decide_eq_true (by omega), decide_eq_true (by omega)]; rfl), e1]
  simp only [Option.bind_some, e2, Option.map_some]
  rw [show (signs l).eraseIdx i = signs (l.eraseIdx i) from erase_map _ l i]
theorem erase_perm {α : Type} : ∀ (l : List α) (i : Nat) (hi : i < l.length), (l[i] :: l.eraseIdx i).Perm l
  | x :: l, 0, _ => by simp
  | x :: l, i + 1, hi => by
    simp only [List.getElem_cons_succ, List.eraseIdx_cons_succ]
    exact (List.Perm.swap x _ _).trans ((erase_perm l i (by simpa using hi)).cons x)
theorem m_sPop (j i : Nat) (b : BE) (F : FT) (r : En) : (sPop j i b).den F r = bnd (opt (ownL r i)) fun l => bnd (b.den F r) fun d => bnd (opt (popI l d)) fun p => ret (.nx ((r.set i (.own (.lst p.2))).set j (.val p.1))) := rfl
theorem m_gOwn (i : Nat) (b : BE) (F : FT) (d : D) (r : En) : (gOwn i b).set F d r = bnd (opt (ownL r i)) fun l => bnd (b.den F r) fun y => bnd (opt (match y with
    | .int k => (ixN l.length k).map fun j => l.set j d
    | _ => none)) fun l' => ret (r.set i (.own (.lst l'))) := rfl
theorem one_den (b : BT) (F : FT) : (BC.one b).den F = b.den F := rfl
def roomP (h : Int) (ps : List (List Nat)) : D → Bool
  | .int i => decide (((ps.getD i.toNat []).length : Int) < h)
  | _ => false
/-- the slots of piles that have room -/
def rooms (n : Nat) (h : Int) (ps : List (List Nat)) : List D := (intsD 0 n).filter (roomP h ps)
theorem f_turn (k w : Nat) {m n h : Int} {ru : List Nat} (o : OkP m n h ru) {left : List Nat} {ps : List (List Nat)} (J : StJ w m n h ru left ps) (hl : left ≠ []) {st : Sto} (hw : WellAt w st) (lap b c : Slt) :
    ∃ left' ps' b' c' st', StJ w m n h ru left' ps' ∧ left'.length + 1 = left.length ∧ WellAt w st' ∧ st'.length = st.length ∧
      dBlk [(sPop 5 3 (cCall 34 [(cVar 0), (cBi bLen [(pOwn 3)])])), (sSet 6 (cCall 35 [(cVar 0), (fComp (iRng1 (cIx (cVar 1).p (cInt 1))) [8] (gNm 8) (.one (tCmp pLt (cBi bLen [(cIx (pOwn 4) (cVar 8)).p]) (cIx (cVar 1).p (cInt 2)))) (cVar 8)).e])), (sAsg (gOwn 4 (cVar 6)) (cBin oAdd (cIx (pOwn 4) (cVar 6)) (cVar 5)))] (T (k + 2)) (stE w m n h ru left ps lap b c) st = .ok (.nx (stE w m n h ru left' ps' lap b' c')) st' := by
  have hlen : (ps.flatten ++ left).length = m.toNat := by rw [J.perm.length_eq, blks_len m o.m1 o.m2]
  have hm := o.m2
  have hpos : 0 < left.length := List.length_pos_iff.mpr hl
  rw [List.length_append] at hlen
  obtain ⟨f, st1, q1, q2, q3, q4, q5⟩ := f_draw' (k + 1) (w := w) (st := st) (many := left.length) (by omega) (by omega) hw
  obtain ⟨i, hi, hp⟩ := pop_at q1 q2 (by omega)
  have hn : (ps.length : Int) = n := J.len
  obtain ⟨j0, hj0, hj1⟩ := low_pile (ps := ps) (h := h.toNat) (by
    have h1 := o.hn
    have h2 := o.h1
    have e : ((h.toNat * ps.length : Nat) : Int) = h * n := by rw [Int.natCast_mul, hn]; congr 1; omega
    omega)
  have hR : inR n = true := inR_small (by have := o.n1; omega) (by have := o.n2; omega)
  have hne : rooms n.toNat h ps ≠ [] := by
    have : D.int (j0 : Int) ∈ rooms n.toNat h ps := by
      unfold rooms
      rw [List.mem_filter]
      refine ⟨List.mem_map.mpr ⟨j0, List.mem_range.mpr (by omega), by simp⟩, ?_⟩
      simp [roomP, hj0]
      omega
    exact List.ne_nil_of_mem this
  have hrl : (rooms n.toNat h ps).length ≤ n.toNat := by
    unfold rooms
    exact Nat.le_trans (List.length_filter_le _ _) (by simp [intsD])
  obtain ⟨x, hx, st2, r1, r2, r3⟩ := f_of_lst k (w := w) (st := st1) (l := rooms n.toNat h ps) hne (by have := o.n2; omega) q3
  obtain ⟨j, hj, hjh, rfl⟩ : ∃ j, ∃ hj : j < ps.length, (ps[j].length : Int) < h ∧ x = .int j := by
    unfold rooms at hx
    rw [List.mem_filter] at hx
    obtain ⟨x1, x2⟩ := hx
    obtain ⟨j, hj, rfl⟩ := List.mem_map.mp x1
    rw [List.mem_range] at hj
    have hj' : j < ps.length := by omega
    refine ⟨j, hj', ?_, by simp⟩
    simpa [roomP, hj'] using x2
  refine ⟨left.eraseIdx i, ps.set j (ps[j] ++ [left[i]]), .val (.str [left[i]]), .val (.int j), st2, ⟨by simpa using hn, ?_, ?_⟩, ?_, r1, by omega, ?_⟩
  · have p1 := flat_set ps j hj left[i]
    have p2 : (left[i] :: left.eraseIdx i).Perm left := erase_perm left i hi
    refine List.Perm.trans ?_ J.perm
    refine (p1.append_right _).trans ?_
    simp only [List.cons_append]
    exact (List.perm_middle.symm).trans (p2.append_left _)
  · intro p hp
    rcases List.mem_or_eq_of_mem_set hp with z | z
    · exact J.high p z
    · rw [z]; simp; omega
  · rw [List.length_eraseIdx_of_lt hi]; omega
  · have a1 : atI [D.int m, D.int n, D.int h, D.str ru] 1 = some (.int n) := rfl
    have a2 : atI [D.int m, D.int n, D.int h, D.str ru] 2 = some (.int h) := rfl
    have sl : (signs left).length = left.length := by simp [signs]
    have cf : ∀ (r : En), r = [.val (.loc w), .val (pD m n h ru), lap, .own (.lst (signs (left.eraseIdx i))), .own (.lst (ps.map .str)), .val (.str [left[i]]), c, .none, .none] →
        compGo (gNm 8).set ((tCmp pLt (cBi bLen [(cIx (pOwn 4) (cVar 8)).p]) (cIx (cVar 1).p (cInt 2))).den (T (k + 2))) ((cVar 8).den (T (k + 2))) r (intsD 0 n.toNat) [] = ret (rooms n.toNat h ps) := fun r hr => by
      subst hr
      rw [comp_filter (roomP h ps) id]
      · simp [rooms]
      · intro d hd
        obtain ⟨t, ht, rfl⟩ := List.mem_map.mp hd
        rw [List.mem_range] at ht
        have ht' : t < (ps.map D.str).length := by rw [List.length_map]; omega
        have e3 : atI (ps.map D.str) (t : Int) = some (ps.map D.str)[t] := at_nat ht'
        refine ⟨_, rfl, ?_, ?_⟩
        · simp -implicitDefEqProofs [pD, a2, e3, roomP]
          have ht2 : t < ps.length := by omega
          rw [List.getElem?_eq_getElem ht2]
          rfl
        · simp -implicitDefEqProofs
      · simp [intsD]; have := o.n2; omega
    have xj : atI (ps.map D.str) (j : Int) = some (.str ps[j]) := by
      have := at_nat (l := ps.map D.str) (i := j) (by simpa using hj)
      simpa using this
    have ij : ixN (ps.map D.str).length (j : Int) = some j := by
      unfold ixN
      rw [if_pos (by omega), if_pos (by rw [List.length_map]; omega)]
      rfl
    have ij2 : ixN ps.length (j : Int) = some j := by rw [← ij, List.length_map]
    have hR' : inR n = true := hR
    have big : ps[j].length + 1 ≤ 16777216 := by have := o.h2; omega
    have cf' := cf _ rfl
    simp only [pD] at cf'
    simp -implicitDefEqProofs [m_sPop, ownL, stE, bnd_ap, ret_ap, sl, q5, hp, one_den, pD, a1, rng1 hR', cf', r3, m_gOwn, ij2, xj, big]
end Rf

set_option Elab.async false
set_option linter.all false
set_option maxRecDepth 100000
set_option maxHeartbeats 1000000
set_option warning.simp.otherHead false
namespace Rf
open PySem L2

abbrev turnB : List BS := [(sPop 5 3 (cCall 34 [(cVar 0), (cBi bLen [(pOwn 3)])])), (sSet 6 (cCall 35 [(cVar 0), (fComp (iRng1 (cIx (cVar 1).p (cInt 1))) [8] (gNm 8) (.one (tCmp pLt (cBi bLen [(cIx (pOwn 4) (cVar 8)).p]) (cIx (cVar 1).p (cInt 2)))) (cVar 8)).e])), (sAsg (gOwn 4 (cVar 6)) (cBin oAdd (cIx (pOwn 4) (cVar 6)) (cVar 5)))]
theorem f_turns (k w : Nat) {m n h : Int} {ru : List Nat} (o : OkP m n h ru) : ∀ (l : List D) {left : List Nat} {ps : List (List Nat)}, StJ w m n h ru left ps → left.length = l.length → ∀ {st : Sto}, WellAt w st → ∀ (a b c : Slt),
    ∃ ps' a' b' c' st', StJ w m n h ru [] ps' ∧ WellAt w st' ∧ st'.length = st.length ∧
      forGo (gNm 2).set (dBlk turnB (T (k + 2))) l (stE w m n h ru left ps a b c) st = .ok (.nx (stE w m n h ru [] ps' a' b' c')) st'
  | [], left, ps, J, hl, st, hw, a, b, c => by
    have : left = [] := List.length_eq_zero_iff.mp hl
    subst this
    exact ⟨ps, a, b, c, st, J, hw, rfl, rfl⟩
  | d :: l, left, ps, J, hl, st, hw, a, b, c => by
    have hne : left ≠ [] := by rintro rfl; simp at hl
    obtain ⟨left', ps', b', c', st', J', hl', hw', hs', hr⟩ := f_turn k w o J hne hw (.val d) b c
    obtain ⟨ps2, a2, b2, c2, st2, J2, hw2, hs2, hr2⟩ := f_turns k w o l J' (by simp at hl; omega) hw' (.val d) b' c'
    refine ⟨ps2, a2, b2, c2, st2, J2, hw2, hs2.trans hs', ?_⟩
    have es : (gNm 2).set d (stE w m n h ru left ps a b c) = some (stE w m n h ru left ps (.val d) b c) := rfl
    simp only [forGo, es, bnd_some]
    rw [bnd_ap, hr]
    exact hr2
/-- how a pile is told -/
def told (ru : List Nat) (p : List Nat) : List Nat := if ru = cLight then (sortN p).reverse else p
theorem told_perm (ru p : List Nat) : (told ru p).Perm p := by
  unfold told
  split
  · exact (List.reverse_perm _).trans (List.mergeSort_perm p _)
  · exact .refl p
theorem flat_perm {f : List Nat → List Nat} (h : ∀ p, (f p).Perm p) : ∀ s : List (List Nat), (s.map f).flatten.Perm s.flatten
  | [] => .refl _
  | p :: s => by simpa using (h p).append (flat_perm h s)
theorem blk_nodup (m : Int) : (blks m).Nodup := by
  have : blk5.Nodup := by decide
  exact this.sublist (List.take_sublist _ _)
theorem told_fall {p : List Nat} (h : p.Nodup) : fall (told cLight p) := by
  have h1 := sortN_pw p
  have h2 : (sortN p).Nodup := ((List.mergeSort_perm p _).nodup_iff).mpr h
  unfold told fall
  rw [if_pos rfl, List.pairwise_reverse]
  have := h1.and h2
  exact this.imp fun {a b} ⟨x, y⟩ => Nat.lt_of_le_of_ne x y
theorem st_ok {w : Nat} {m n h : Int} {ru : List Nat} {ps : List (List Nat)} (o : OkP m n h ru) (J : StJ w m n h ru [] ps) : OkS m n h ru (ps.map (told ru)) := by
  have hp : ps.flatten.Perm (blks m) := by simpa using J.perm
  refine ⟨by simpa using J.len, (flat_perm (told_perm ru) ps).trans hp, fun q hq => ?_, ?_⟩
  · obtain ⟨p, h1, rfl⟩ := List.mem_map.mp hq
    rw [(told_perm ru p).length_eq]
    exact J.high p h1
  · rcases o.ru with h1 | h1
    · exact .inl h1
    · refine .inr fun q hq => ?_
      obtain ⟨p, h2, rfl⟩ := List.mem_map.mp hq
      rw [h1]
      have nd : ps.flatten.Nodup := hp.nodup_iff.mpr (blk_nodup m)
      exact told_fall (nd.sublist (List.sublist_flatten_of_mem h2))
def toldD (ru : List Nat) : D → D
  | .str p => .str (told ru p)
  | d => d
theorem f_standing (k : Nat) {w : Nat} {m n h : Int} {ru : List Nat} (o : OkP m n h ru) {st : Sto} (hw : WellAt w st) :
    ∃ s st', OkS m n h ru s ∧ WellAt w st' ∧ st'.length = st.length ∧ T (k + 3) 91 [.loc w, pD m n h ru] st = .ok (sD s) st' := by
  rw [T, ft_def (d := d__law_standing) rfl rfl rfl]
  have hm := o.m1
  have hm2 := o.m2
  have hn := o.n1
  have hn2 := o.n2
  have J0 : StJ w m n h ru (blks m) (List.replicate n.toNat []) := ⟨by simp; omega, by simp, fun p hp => by rw [List.eq_of_mem_replicate hp]; have := o.h1; simp; omega⟩
  obtain ⟨ps, a, b, c, st', J, hw', hs', hr⟩ := f_turns k w o (intsD 0 m.toNat) J0 (by rw [blks_len m hm hm2]; simp [intsD]) hw .none .none .none
  refine ⟨ps.map (told ru), st', st_ok o J, hw', hs', ?_⟩
  obtain ⟨a0, a1, a2, a3⟩ := at4 (.int m) (.int n) (.int h) (.str ru)
  have hR : inR m = true := inR_small (by omega) (by omega)
  have es : fSl (.str [97, 98, 99, 100, 101]) none (some m) = some (.str (blks m)) := by
    have : m = 1 ∨ m = 2 ∨ m = 3 ∨ m = 4 ∨ m = 5 := by omega
    rcases this with rfl | rfl | rfl | rfl | rfl <;> rfl
  have ep : fRepD (.lst [.str []]) (.int n) = some (.lst ((List.replicate n.toNat []).map D.str)) := by
    have : n = 2 ∨ n = 3 ∨ n = 4 := by omega
    rcases this with rfl | rfl | rfl <;> rfl
  simp only [stE, pD] at hr
  simp -implicitDefEqProofs [d__law_standing, b__law_standing, flM_ap, bnd_ap, ret_ap, pD, a0, a1, a3, es, ep, rng1 hR, fList, x_o, xF_o, mkS_o, mkS_v]
  simp only [List.map_replicate] at hr
  rw [show FTab (PTof tab) (k + 2) = T (k + 2) from rfl, hr]
  have pl : ∀ p ∈ ps, p.length ≤ 5 := fun p hp => by have := J.high p hp; have := o.h2; omega
  have lp : (ps.length : Int) = n := J.len
  have mp : (ps.map D.str).map (toldD ru) = (ps.map (told ru)).map D.str := by
    rw [List.map_map, List.map_map]; rfl
  simp -implicitDefEqProofs [frzE, no_den]
  rw [comp_map (toldD ru)]
  · simp -implicitDefEqProofs [mp, sD, flD, ret_ap]
  · intro d hd
    obtain ⟨p, hp, rfl⟩ := List.mem_map.mp hd
    have := pl p hp
    refine ⟨_, rfl, rfl, ?_⟩
    have g1 : fSorted [.str p] = some (.lst (signs (sortN p))) := by unfold fSorted; simp only; rw [if_pos (by omega)]
    have ew : [108, 105, 103, 104, 116] = cLight := rfl
    by_cases hru : ru = cLight
    · have g2 : fJoin (.str []) (.lst (signs (sortN p)).reverse) = some (.str (told ru p)) := by
        have e1 : (signs (sortN p)).reverse = ((sortN p).reverse.map fun c => [c]).map D.str := by
          unfold signs
          rw [← List.map_reverse, List.map_map]; rfl
        have ls : (sortN p).length = p.length := List.length_mergeSort p
        have e2 : joinB [] ((sortN p).reverse.map fun c => [c]) = true := by
          unfold joinB
          rw [List.map_map]
          have e3 : ∀ l : List Nat, (l.map fun _ => 1).sum = l.length := fun l => by
            induction l with
            | nil => rfl
            | cons x l ih => simp [ih]; omega
          simp [Function.comp_def, ls, e3]
          omega
        simp only [fJoin, itemsJ, Option.bind_some, e1, getSs_str, e2, if_true, join_nil]
        congr 2
        unfold told
        rw [if_pos hru]
        generalize (sortN p).reverse = l
        induction l with
        | nil => rfl
        | cons x l ih => simp [ih]
      subst hru
      simp -implicitDefEqProofs [a3, ew, g1, fRev, g2, toldD]
    · have hru' : (ru == cLight) = false := beq_eq_false_iff_ne.mpr hru
      simp -implicitDefEqProofs [a3, ew, hru', toldD, told, hru]
  · simp; omega
end Rf

set_option Elab.async false
set_option linter.all false
set_option maxRecDepth 100000
set_option maxHeartbeats 1000000
set_option warning.simp.otherHead false
namespace Rf
open PySem L2

theorem deqs_str : ∀ a b : List (List Nat), deqs (a.map .str) (b.map .str) = (a == b)
  | [], [] => by simp [deqs]
  | [], _ :: _ => by simp [deqs]
  | _ :: _, [] => by simp [deqs]
  | x :: a, y :: b => by
    have ih := deqs_str a b
    simp only [List.map_cons, deqs, deq, ih]
    rfl
theorem eq_strs (a b : List (List Nat)) : fEq (.tup (a.map .str)) (.tup (b.map .str)) = some (.bl (a == b)) := by
  unfold fEq
  rw [okE_strs, okE_strs]
  simp [deq, deqs_str]
theorem eq_pD (m n h m' n' h' : Int) (ru ru' : List Nat) : fEq (pD m n h ru) (pD m' n' h' ru') = some (.bl (m == m' && (n == n' && (h == h' && ru == ru')))) := by
  have ok : ∀ (m n h : Int) (ru : List Nat), okE (pD m n h ru) = true := fun m n h ru => by simp [okE, pD, isData, isDatas, dep, deps]
  unfold fEq
  rw [ok, ok]
  simp [pD, deq, deqs]
theorem ok_pair (m n h : Int) (ru : List Nat) (s : List (List Nat)) : okE (.tup [pD m n h ru, sD s]) = true := by
  obtain ⟨h1, h2⟩ := datas_str s
  simp [okE, pD, sD, isData, isDatas, dep, deps, h1, h2]
theorem eq_pair (m n h m' n' h' : Int) (ru ru' : List Nat) (s s' : List (List Nat)) : fEq (.tup [pD m n h ru, sD s]) (.tup [pD m' n' h' ru', sD s']) = some (.bl ((m == m' && (n == n' && (h == h' && ru == ru'))) && s == s')) := by
  unfold fEq
  rw [ok_pair, ok_pair]
  simp [pD, sD, deq, deqs, deqs_str]
theorem f_eq (k : Nat) (m n h : Int) (ru : List Nat) : T (k + 1) 29 [tabD m n h ru, tabD m n h ru] = ret (.bl true) := by
  rw [T, ft_def (d := d_Table___eq__) rfl rfl rfl]
  simp -implicitDefEqProofs [d_Table___eq__, b_Table___eq__, ty_tab, eq_pD]
/-- texts alike: tables and standings alike -/
theorem rows_inj {m n h m' n' h' : Int} {ru ru' : List Nat} {s s' : List (List Nat)} (o : OkP m n h ru) (q : OkS m n h ru s) (o' : OkP m' n' h' ru') (q' : OkS m' n' h' ru' s') (e : rowsL m h ru s = rowsL m' h' ru' s') :
    m = m' ∧ n = n' ∧ h = h' ∧ ru = ru' ∧ s = s' := by
  have e1 := f_read 0 o q
  have e2 := f_read 0 o' q'
  rw [rows_eq, e, ← rows_eq, e2] at e1
  have e3 : (.tup [tabD m' n' h' ru', sD s'] : D) = .tup [tabD m n h ru, sD s] := by
    have := congrFun e1 []
    simp only [ret_ap] at this
    injection this
  injection e3 with e4
  injection e4 with e5 e6
  injection e6 with e7 _
  unfold tabD at e5
  injection e5 with _ e8
  injection e8 with a1 e9
  injection e9 with a2 e10
  injection e10 with a3 e11
  injection e11 with a4 _
  injection a1 with a1
  injection a2 with a2
  injection a3 with a3
  injection a4 with a4
  unfold sD at e7
  injection e7 with e12
  have inj : ∀ {a b : List (List Nat)}, a.map D.str = b.map D.str → a = b := by
    intro a
    induction a with
    | nil => intro b z; cases b with
      | nil => rfl
      | cons _ _ => simp at z
    | cons x a ih => intro b z; cases b with
      | nil => simp at z
      | cons y b =>
        simp at z
        rw [z.1, ih (by simpa using z.2)]
  exact ⟨a1.symm, a2.symm, a3.symm, a4.symm, (inj e12).symm⟩
theorem rows_iff {m n h m' n' h' : Int} {ru ru' : List Nat} {s s' : List (List Nat)} (o : OkP m n h ru) (q : OkS m n h ru s) (o' : OkP m' n' h' ru') (q' : OkS m' n' h' ru' s') :
    (rowsL m h ru s == rowsL m' h' ru' s') = ((m == m' && (n == n' && (h == h' && ru == ru'))) && s == s') := by
  by_cases e : rowsL m h ru s = rowsL m' h' ru' s'
  · obtain ⟨rfl, rfl, rfl, rfl, rfl⟩ := rows_inj o q o' q' e
    simp
  · rw [beq_eq_false_iff_ne.mpr e]
    refine Eq.symm (Bool.eq_false_iff.mpr fun z => e ?_)
    simp at z
    obtain ⟨⟨rfl, rfl, rfl, rfl⟩, rfl⟩ := z
    rfl
end Rf

set_option Elab.async false
set_option linter.all false
set_option maxRecDepth 100000
set_option maxHeartbeats 1000000
set_option warning.simp.otherHead false
namespace Rf
open PySem L2

theorem sameL {l : List D} {n : Nat} (h : l.length ≤ 1000) (k : ∀ d ∈ l, SameN n d) : SameN (n + 1) (.lst l) := ⟨h, k⟩
theorem same_p (m n h : Int) (ru : List Nat) : SameN 1 (pD m n h ru) := ⟨by simp, fun d hd => by simp at hd; rcases hd with rfl | rfl | rfl | rfl <;> trivial⟩
theorem same_strs (s : List (List Nat)) (h : s.length ≤ 1000) : SameN 1 (.tup (s.map .str)) := ⟨by simpa using h, fun d hd => by obtain ⟨p, _, rfl⟩ := List.mem_map.mp hd; trivial⟩
theorem same_one {d : D} (h : SameN 1 d) : SameN 2 d := by
  cases d with
  | int => trivial
  | str => trivial
  | tup l => exact ⟨h.1, fun d hd => by
      have := h.2 d hd
      cases d <;> first | trivial | exact absurd this (by simp [SameN])⟩
  | lst l => exact ⟨h.1, fun d hd => by
      have := h.2 d hd
      cases d <;> first | trivial | exact absurd this (by simp [SameN])⟩
  | _ => simp [SameN] at h
theorem rowsL_len {m n h : Int} {ru : List Nat} {s : List (List Nat)} (o : OkP m n h ru) (q : OkS m n h ru s) : (rowsL m h ru s).length ≤ 1000 := by
  have := q.len; have := o.n2
  unfold rowsL
  simp; omega
theorem same_rows {m n h : Int} {ru : List Nat} {s : List (List Nat)} (o : OkP m n h ru) (q : OkS m n h ru s) : SameN 1 (rowsD m h ru s) := by
  rw [rows_eq]
  exact same_strs _ (rowsL_len o q)
theorem same_s {m n h : Int} {ru : List Nat} {s : List (List Nat)} (o : OkP m n h ru) (q : OkS m n h ru s) : SameN 1 (sD s) := same_strs _ (by have := q.len; have := o.n2; omega)
/-- told[0] != made -/
theorem eqO_tab (k : Nat) (m n h : Int) (ru : List Nat) : noX (fEqO (T (k + 1)) true (tabD m n h ru) (tabD m n h ru)) = ret (.bl false) := by
  have e := f_eq k m n h ru
  have e1 : ∀ st, eqI st (tabD m n h ru) = some 29 := fun _ => rfl
  funext st
  unfold noX fEqO
  rw [e1 st, ty_tab]
  simp only [e]
  rfl
/-- the inner loops' bodies of _law_right -/
def toldB : List BS := [(sIf (tOr [(tNot (tVal (cIsi (.inl 4) (cVar 4)))), (tCmp pNe (cBi bLen [(cVar 4).p]) (cInt 2)), (tNot (tVal (cCall 36 [(fLst [(cAttr 5 (cIx (cVar 4).p (cInt 0))), (cIx (cVar 4).p (cInt 1))]).e, (fLst [(cVar 2), (cVar 7)]).e]))), (tEqO true (cIx (cVar 4).p (cInt 0)) (cVar 6))]) [(sRet (cBl false))] [])]
theorem toldB_ok (k : Nat) {m n h : Int} {ru : List Nat} {s : List (List Nat)} (o : OkP m n h ru) (q : OkS m n h ru s) (a0 a1 a3 a5 a8 a9 a10 : Slt) :
    dBlk toldB (T (k + 4)) [a0, a1, .val (pD m n h ru), a3, .val (.tup [tabD m n h ru, sD s]), a5, .val (tabD m n h ru), .val (sD s), a8, a9, a10] =
      ret (.nx [a0, a1, .val (pD m n h ru), a3, .val (.tup [tabD m n h ru, sD s]), a5, .val (tabD m n h ru), .val (sD s), a8, a9, a10]) := by
  have e1 : atI [tabD m n h ru, sD s] 0 = some (tabD m n h ru) := rfl
  have e2 : atI [tabD m n h ru, sD s] 1 = some (sD s) := rfl
  have e3 := f_same 2 (.lst [pD m n h ru, sD s]) (sameL (by simp) fun d hd => by simp at hd; rcases hd with rfl | rfl; exact same_p m n h ru; exact same_s o q) (k + 1)
  have e4 := eqO_tab (k + 3) m n h ru
  simp -implicitDefEqProofs [toldB, e1, e2, e3, e4]
end Rf

set_option Elab.async false
set_option linter.all false
set_option maxRecDepth 100000
set_option maxHeartbeats 1000000
set_option warning.simp.otherHead false
namespace Rf
open PySem L2

theorem ne_bb (a b : Bool) : fNe (.bl a) (.bl b) = some (.bl (!(a == b))) := by
  cases a <;> cases b <;> rfl
theorem same_pair {m n h : Int} {ru : List Nat} {s : List (List Nat)} (o : OkP m n h ru) (q : OkS m n h ru s) : SameN 2 (.lst [rowsD m h ru s, rowsD m h ru s]) :=
  sameL (by simp) fun d hd => by simp at hd; subst hd; exact same_rows o q
def farB : List BS := [(sSet 10 (cCall 148 [(cCall 38 [(cVar 8)]), (cVar 9)])), (sIf (tOr [(tCmp pNe (cCmp pEq (cVar 10) (cVar 3)) (cCmp pEq (cTup [(cVar 8), (cVar 9)]) (cTup [(cVar 2), (cVar 7)]))), (tNot (tVal (cCall 36 [(cVar 10), (cCall 150 [(cVar 8), (cVar 9)])])))]) [(sRet (cBl false))] [])]
theorem farB_ok (k : Nat) {m n h m' n' h' : Int} {ru ru' : List Nat} {s s' : List (List Nat)} (o : OkP m n h ru) (q : OkS m n h ru s) (o' : OkP m' n' h' ru') (q' : OkS m' n' h' ru' s') (a0 a1 a4 a5 a6 a10 : Slt) :
    dBlk farB (T (k + 6)) [a0, a1, .val (pD m n h ru), .val (rowsD m h ru s), a4, a5, a6, .val (sD s), .val (pD m' n' h' ru'), .val (sD s'), a10] =
      ret (.nx [a0, a1, .val (pD m n h ru), .val (rowsD m h ru s), a4, a5, a6, .val (sD s), .val (pD m' n' h' ru'), .val (sD s'), .val (rowsD m' h' ru' s')]) := by
  have e1 := f_made k o'
  have e2 := f_rows k o' q'
  have e3 := f_text (k + 5) o' q'
  have e4 := f_same 1 _ (same_rows o' q') (k + 4)
  have e5 : fEq (rowsD m' h' ru' s') (rowsD m h ru s) = some (.bl (rowsL m' h' ru' s' == rowsL m h ru s)) := by
    rw [rows_eq, rows_eq, eq_strs]
  have e6 := eq_pair m' n' h' m n h ru' ru s' s
  have e7 := rows_iff o' q' o q
  rw [e7] at e5
  simp -implicitDefEqProofs [farB, e1, e2, e3, e4, e5, e6, ne_bb]
abbrev rightB : List BS := [(sSet 2 (cCall 37 [(cVar 0), (cInt 5), (cInt 4)])), (sPar 6 7 (cCall 38 [(cVar 2)]).x (cCall 91 [(cVar 0), (cVar 2)]).x), (sSet 3 (cCall 150 [(cVar 2), (cVar 7)])), (sIf (tNot (tVal (cCall 36 [(fLst [(cCall 148 [(cVar 6), (cVar 7)]), (cCallK 148 [] ["standing", "table"] [(cVar 7), (cVar 6)] [1, 0])]).e, (fLst [(cVar 3), (cVar 3)]).e]))) [(sRet (cBl false))] []), (sFor (iSeq (fLst [(cCall 149 [(cVar 3)]), (cCallK 149 [] ["rows"] [(cVar 3)] [0]), (cCall 149 [(cCall 148 [(cVar 6), (cVar 7)])])]).e) (gNm 4) toldB), (sSet 5 (cCall 37 [(cVar 0), (cInt 5), (cInt 4)])), (sFor (iSeq (fLst [(cTup [(cVar 2), (cCall 91 [(cVar 0), (cVar 2)])]), (cTup [(cVar 5), (cCall 91 [(cVar 0), (cVar 5)])])]).e) (gTp [(gNm 8), (gNm 9)]) farB)]
theorem rightB_ok (k : Nat) {w : Nat} {st : Sto} (hw : WellAt w st) (a1 a2 a3 a4 a5 a6 a7 a8 a9 a10 : Slt) : ∃ st' b2 b3 b4 b5 b6 b7 b8 b9 b10, WellAt w st' ∧ st'.length = st.length ∧
    dBlk rightB (T (k + 6)) [.val (.loc w), a1, a2, a3, a4, a5, a6, a7, a8, a9, a10] st = .ok (.nx [.val (.loc w), a1, b2, b3, b4, b5, b6, b7, b8, b9, b10]) st' := by
  obtain ⟨m, n, h, ru, st1, o, _, _, hw1, hs1, e1⟩ := f_table (k + 3) (w := w) (st := st) (most := 5) (tp := 4) (by omega) (by omega) (by omega) (by omega) hw
  obtain ⟨s, st2, q, hw2, hs2, e2⟩ := f_standing (k + 3) o hw1
  obtain ⟨m', n', h', ru', st3, o', _, _, hw3, hs3, e3⟩ := f_table (k + 3) (w := w) (st := st2) (most := 5) (tp := 4) (by omega) (by omega) (by omega) (by omega) hw2
  obtain ⟨s4, st4, q4, hw4, hs4, e4⟩ := f_standing (k + 3) o hw3
  obtain ⟨s5, st5, q5, hw5, hs5, e5⟩ := f_standing (k + 3) o' hw4
  have d1 := f_made k o
  have d2 := f_text (k + 5) o q
  have d3 := f_rows k o q
  have d4 := f_same 2 _ (same_pair o q) (k + 3)
  have d5 := f_read k o q
  have c1 : ∀ a0 a1 a3 a5 a8 a9 a10, dBlk toldB (T (k + 6)) _ = _ := fun a0 a1 a3 a5 a8 a9 a10 => toldB_ok (k + 2) o q a0 a1 a3 a5 a8 a9 a10
  have c2 := fun a0 a1 a4 a5 a6 a10 => farB_ok k o q o q4 a0 a1 a4 a5 a6 a10
  have c3 := fun a0 a1 a4 a5 a6 a10 => farB_ok k o q o' q5 a0 a1 a4 a5 a6 a10
  refine ⟨st5, .val (pD m n h ru), .val (rowsD m h ru s), .val (.tup [tabD m n h ru, sD s]), .val (pD m' n' h' ru'), .val (tabD m n h ru), .val (sD s), .val (pD m' n' h' ru'), .val (sD s5), .val (rowsD m' h' ru' s5), hw5, by omega, ?_⟩
  have p1 : ∀ x y : D, arr D.non [1, 0] [x, y] = [y, x] := fun _ _ => rfl
  have p2 : ∀ x : D, arr D.non [0] [x] = [x] := fun _ => rfl
  have t4 : ∀ x : D, ∀ a0 a1 a2 a3 a4 a5 a6 a7 a8 a9 a10 : Slt, (gNm 4).set x [a0, a1, a2, a3, a4, a5, a6, a7, a8, a9, a10] = some [a0, a1, a2, a3, .val x, a5, a6, a7, a8, a9, a10] := fun _ _ _ _ _ _ _ _ _ _ _ _ => rfl
  have t5 : ∀ x y : D, ∀ a0 a1 a2 a3 a4 a5 a6 a7 a8 a9 a10 : Slt, (gTp [(gNm 8), (gNm 9)]).set (.tup [x, y]) [a0, a1, a2, a3, a4, a5, a6, a7, a8, a9, a10] = some [a0, a1, a2, a3, a4, a5, a6, a7, .val x, .val y, a10] := fun _ _ _ _ _ _ _ _ _ _ _ _ _ => rfl
  simp -implicitDefEqProofs [bnd_ap, ret_ap, x_o, mkS_v, e1, d1, e2, d2, d3, d4, d5, e3, e4, e5, p1, p2, forGo, t4, t5, c1, c2, c3]
theorem for_keep (body : MS) (x : Nat) (P : Sto → En → Prop) (set : D → En → Option En) (h : ∀ d st r, P st r → ∃ r' r'' st'', set d r = some r' ∧ body r' st = .ok (.nx r'') st'' ∧ P st'' r'') : ∀ (l : List D) st r, P st r → ∃ r' st', forGo set body l r st = .ok (.nx r') st' ∧ P st' r'
  | [], st, r, hp => ⟨r, st, rfl, hp⟩
  | d :: l, st, r, hp => by
    obtain ⟨r', r'', st'', e1, e2, e3⟩ := h d st r hp
    obtain ⟨r3, st3, f1, f2⟩ := for_keep body x P set h l st'' r'' e3
    refine ⟨r3, st3, ?_, f2⟩
    simp only [forGo, e1, bnd_some]
    rw [bnd_ap, e2]
    exact f1
def RightP (w n : Nat) (st : Sto) (r : En) : Prop := WellAt w st ∧ st.length = n ∧ ∃ a1 a2 a3 a4 a5 a6 a7 a8 a9 a10, r = [.val (.loc w), a1, a2, a3, a4, a5, a6, a7, a8, a9, a10]
theorem f_right (k : Nat) {w : Nat} {st : Sto} (hw : WellAt w st) : ∃ st', WellAt w st' ∧ st'.length = st.length ∧ T (k + 7) 48 [.loc w] st = .ok (.bl true) st' := by
  rw [T, ft_def (d := d__law_right) rfl rfl rfl]
  obtain ⟨r', st', e, hw', hs', a1, a2, a3, a4, a5, a6, a7, a8, a9, a10, hr⟩ := for_keep (dBlk rightB (T (k + 6))) 0 (RightP w st.length) (gNm 1).set (fun d st r hp => by
    obtain ⟨hw, hs, a1, a2, a3, a4, a5, a6, a7, a8, a9, a10, rfl⟩ := hp
    obtain ⟨st', b2, b3, b4, b5, b6, b7, b8, b9, b10, h1, h2, h3⟩ := rightB_ok k hw (.val d) a2 a3 a4 a5 a6 a7 a8 a9 a10
    exact ⟨_, _, st', rfl, h3, h1, by omega, _, _, _, _, _, _, _, _, _, _, rfl⟩) (intsD 0 4) st [.val (.loc w), .none, .none, .none, .none, .none, .none, .none, .none, .none, .none] ⟨hw, rfl, _, _, _, _, _, _, _, _, _, _, rfl⟩
  refine ⟨st', hw', hs', ?_⟩
  have hR : inR 4 = true := inR_small (by omega) (by omega)
  show flM (dBlk [sFor (iRng1 (cInt 4)) (gNm 1) rightB, sRet (cBl true)] (T (k + 6)) [.val (.loc w), .none, .none, .none, .none, .none, .none, .none, .none, .none, .none]) st = _
  rw [flM_ap, m_blk, m_sFor]
  simp only [m_iRng1, dns_cons', dns_nil, m_cInt, bnd_ret, rng1 hR, bnd_some]
  rw [bnd_ap, show (4 : Int).toNat = 4 from rfl, e]
  rfl
end Rf

set_option Elab.async false
set_option linter.all false
set_option maxRecDepth 100000
set_option maxHeartbeats 1000000
set_option warning.simp.otherHead false
namespace Rf
open PySem L2

theorem noX_ap {α : Type} (m : M α) (st : Sto) : noX m st = match m st with
  | .exc _ _ => .bad
  | o => o := rfl
/-- a comprehension whose elements draw -/
theorem comp_draw {set : D → En → Option En} {elt : En → M D} {r : En} {w : Nat} (h : ∀ d st, WellAt w st → ∃ r' st', set d r = some r' ∧ elt r' st = .ok (.bl true) st' ∧ WellAt w st' ∧ st'.length = st.length) : ∀ (l acc : List D) st, WellAt w st → acc.length + l.length ≤ sizeLine →
    ∃ st', WellAt w st' ∧ st'.length = st.length ∧ compGo set (fun _ => ret true) elt r l acc st = .ok (acc ++ List.replicate l.length (.bl true)) st'
  | [], acc, st, hw, _ => ⟨st, hw, rfl, by simp [compGo, ret_ap]⟩
  | d :: l, acc, st, hw, hl => by
    obtain ⟨r', st1, e1, e2, e3, e4⟩ := h d st hw
    simp only [List.length_cons] at hl
    have hlt : acc.length < sizeLine := by omega
    obtain ⟨st2, f1, f2, f3⟩ := comp_draw h l (acc ++ [.bl true]) st1 e3 (by simp at hl ⊢; omega)
    refine ⟨st2, f1, by omega, ?_⟩
    simp only [compGo, e1, bnd_some, bnd_ret, if_true]
    rw [bnd_ap, e2]
    simp only [if_pos hlt, bnd_some]
    rw [f3]
    simp [List.replicate_succ]
theorem mul_sm (x y : Int) (h : small64 y = true) : fMul (.int x) (.int y) = some (.int (x * y)) := by simp [fMul, h]
theorem mul_sm' (x y : Int) (h : small64 x = true) : fMul (.int x) (.int y) = some (.int (x * y)) := by simp [fMul, h]
/-- the stirring loop -/
theorem stir_loop (F : FT) (o : Slt) (script lap own : Slt) : ∀ (l : List Int) (n : Int), ∃ n' c', forGo (gNm 4).set (dBlk [(sSet 3 (cBin oMod (cBi bInt [(cBin oAdd (cBin oAdd (cBin oMul (cVar 3) (cInt 16807)) (cBin oMod (cBi bInt [(cVar 4).p]) (cInt 2147481359))) (cInt 211)).p]) (cInt 2147482093)))] F) (l.map .int) [script, lap, own, .val (.int n), o] = ret (.nx [script, lap, own, .val (.int n'), c'])
  | [], n => ⟨n, o, rfl⟩
  | x :: l, n => by
    obtain ⟨n', c', ih⟩ := stir_loop F (.val (.int x)) script lap own l ((n * 16807 + x % 2147481359 + 211) % 2147482093)
    refine ⟨n', c', ?_⟩
    have es : (gNm 4).set (.int x) [script, lap, own, .val (.int n), o] = some [script, lap, own, .val (.int n), .val (.int x)] := rfl
    have m1 : fMul (.int n) (.int 16807) = some (.int (n * 16807)) := mul_sm _ _ (by decide)
    have i1 : ∀ x : Int, fInt [.int x] = some (.int x) := fun _ => rfl
    simp only [List.map_cons, forGo, es, bnd_some]
    simp -implicitDefEqProofs [m1, i1] at ih ⊢
    exact ih
theorem cut12 (ns : List Int) : fSl (.frl (ns.map .int)) none (some 12) = some (.lst ((ns.take 12).map .int)) := by
  have e1 : HT.sIx (ns.map D.int).length 0 none = 0 := HT.sIx_none _ _
  have e2 : HT.sIx (ns.map D.int).length (ns.map D.int).length (some 12) = min 12 (ns.map D.int).length := HT.sIx_nat _ _ 12
  simp only [fSl, cut, e1, e2, List.drop_zero, Nat.sub_zero]
  congr 2
  rw [List.map_take]
  exact List.take_eq_take_min.symm
theorem f_well (k : Nat) (ns : List Int) (hn : ns.length ≤ 63) (i : Nat) (hi : i < 3) (st : Sto) : ∃ a b c, T (k + 1) 33 [.frl (ns.map .int), .int i] st = .ok (.loc st.length) (st ++ [.lst (wellL a b c)]) := by
  rw [T, ft_def (d := d__law_well) rfl rfl rfl]
  obtain ⟨own, ho⟩ : ∃ own : Int, (if ((i : Int) < ((ns.map D.int).length : Int)) then (bnd (bnd (fun st => opt (fIx (.frl (ns.map .int)) (.int i)) st) fun x => ret [x]) fun x => opt (fInt x)) else ret (.int 0)) = ret (.int own) := by
    by_cases h : ((i : Int) < ((ns.map D.int).length : Int))
    · have h' : i < ns.length := by simpa using h
      refine ⟨ns[i], ?_⟩
      rw [if_pos h]
      have : fIx (.frl (ns.map .int)) (.int i) = some (.int ns[i]) := by
        show atI (ns.map D.int) (i : Int) = _
        have := at_nat (l := ns.map D.int) (i := i) (by simpa using h')
        simpa using this
      simp only [this, opt_some]
      rfl
    · exact ⟨0, by rw [if_neg h]⟩
  have i1 : ∀ x : Int, fInt [.int x] = some (.int x) := fun _ => rfl
  have m1 : fMul (.int 433) (.int i) = some (.int (433 * i)) := mul_sm' _ _ (by decide)
  have s1 := cut12 ns
  obtain ⟨n', c', lp⟩ := stir_loop (T k) .none (.val (.frl (ns.map .int))) (.val (.int i)) (.val (.int own)) (ns.take 12 ++ [own]) (773098 + 433 * i)
  have p1 : ∀ j : Int, 0 ≤ j → j ≤ 1000000 → fPow (.int 10) (.int j) = some (.int (10 ^ j.toNat)) := fun j h1 h2 => by
    simp [fPow, h1, h2]
  have p15 := p1 15 (by omega) (by omega)
  have p60 := p1 60 (by omega) (by omega)
  have ab : fAbs [.int own] = some (.int (if own < 0 then -own else own)) := rfl
  simp only [List.length_map] at ho
  have sz : min 12 ns.length ≤ 16777215 := by omega
  have to : ∀ a b c : Int, toSo (.lst (wellL a b c)) = some (.lst (wellL a b c)) := fun _ _ _ => rfl
  have to2 : ∀ (a b c : Int) (st : Sto), dSto (.lst [.int a, .int b, .int c]) st = .ok (.loc st.length) (st ++ [.lst (wellL a b c)]) := fun _ _ _ _ => rfl
  simp -implicitDefEqProofs at lp ho
  have P60 : (0 : Int) < 10 ^ 60 := by decide
  by_cases q1 : own < 0
  · refine ⟨(-own) % 10 ^ 60, n', 0, ?_⟩
    simp -implicitDefEqProofs [d__law_well, b__law_well, i1, m1, s1, p15, p60, ab, flM_ap, ho, lp, q1, sz, P60, bnd_ap, ret_ap, to2, flD]
  · by_cases q2 : (1000000000000000 : Int) ≤ own
    · refine ⟨own % 10 ^ 60, n', 0, ?_⟩
      simp -implicitDefEqProofs [d__law_well, b__law_well, i1, m1, s1, p15, p60, ab, flM_ap, ho, lp, q1, q2, sz, P60, bnd_ap, ret_ap, to2, flD]
    · refine ⟨0, n', 0, ?_⟩
      simp -implicitDefEqProofs [d__law_well, b__law_well, i1, m1, s1, p15, p60, ab, flM_ap, ho, lp, q1, q2, sz, P60, bnd_ap, ret_ap, to2, flD]
theorem WellAt.new (st : Sto) (a b c : Int) : WellAt st.length (st ++ [.lst (wellL a b c)]) := ⟨a, b, c, by simp⟩
/-- the law's loop, right being what is asked of one well -/
theorem law_loop (k m : Nat) (ns : List Int) (hn : ns.length ≤ 63) (rounds : Int) (hr : 0 ≤ rounds) (hr2 : rounds ≤ 1000)
    (right : ∀ {w : Nat} {st : Sto}, WellAt w st → ∃ st', WellAt w st' ∧ st'.length = st.length ∧ T (k + 1) 48 [.loc w] st = .ok (.bl true) st') :
    ∀ (l : List D), (∀ d ∈ l, ∃ i : Nat, i < 3 ∧ d = .int i) → ∀ (st : Sto) (a b : Slt), ∃ st' a' b',
      forGo (gNm 1).set (dBlk [(sSet 2 (cCall 33 [(cVar 0), (cVar 1)])), (sIf (tNot (tVal (cBi bAll [(fComp (iRng1 (cInt rounds)) [3] (gNm 3) .no (cCall 48 [(cVar 2)])).e.p]))) [(sRet (cBl false))] [])] (T (k + 1))) l [.val (.frl (ns.map .int)), a, b, .none] st = .ok (.nx [.val (.frl (ns.map .int)), a', b', .none]) st'
  | [], _, st, a, b => ⟨st, a, b, rfl⟩
  | d :: l, h, st, a, b => by
    obtain ⟨i, hi, rfl⟩ := h d (List.mem_cons_self ..)
    obtain ⟨x, y, z, hw⟩ := f_well k ns hn i hi st
    have w1 := WellAt.new st x y z
    obtain ⟨st2, w2, s2, e2⟩ := comp_draw (set := (gNm 3).set) (elt := (cCall 48 [(cVar 2)]).den (T (k + 1))) (r := [.val (.frl (ns.map .int)), .val (.int i), .val (.loc st.length), .none]) (w := st.length) (fun d st' hw' => by
      obtain ⟨st3, g1, g2, g3⟩ := right hw'
      refine ⟨_, st3, rfl, ?_, g1, g2⟩
      simp -implicitDefEqProofs [g3, bnd_ap, ret_ap]) (intsD 0 rounds.toNat) [] _ w1 (by simp [intsD]; omega)
    obtain ⟨st3, a3, b3, ih⟩ := law_loop k m ns hn rounds hr hr2 right l (fun d hd => h d (List.mem_cons_of_mem _ hd)) st2 (.val (.int i)) (.val (.loc st.length))
    refine ⟨st3, a3, b3, ?_⟩
    have es : (gNm 1).set (.int i) [.val (.frl (ns.map .int)), a, b, .none] = some [.val (.frl (ns.map .int)), .val (.int i), b, .none] := rfl
    have hR : inR rounds = true := inR_small (by omega) (by omega)
    have al := all_rep (intsD 0 rounds.toNat).length
    simp only [forGo, es, bnd_some]
    simp -implicitDefEqProofs at e2 ih al
    simp -implicitDefEqProofs [bnd_ap, ret_ap, hw, rng1 hR, no_den, noX_ap, e2, al]
    exact ih
end Rf

set_option Elab.async false
set_option linter.all false
set_option maxRecDepth 100000
set_option maxHeartbeats 1000000
set_option warning.simp.otherHead false
namespace Rf
open PySem L2

theorem lap_rng (n : Nat) (hn : n ≤ 63) : fRng1 [.int (if (if (3 : Int) < n then 3 else (n : Int)) > 1 then (if (3 : Int) < n then 3 else (n : Int)) else 1)] = some (intsD 0 (max 1 (min n 3))) := by
  have : n = 0 ∨ n = 1 ∨ n = 2 ∨ 3 ≤ n := by omega
  rcases this with rfl | rfl | rfl | h
  · rfl
  · rfl
  · rfl
  · have e : (if (if (3 : Int) < n then 3 else (n : Int)) > 1 then (if (3 : Int) < n then 3 else (n : Int)) else 1) = 3 := by
      split <;> split <;> omega
    rw [e, show max 1 (min n 3) = 3 by omega]
    rfl
theorem plain85 : ∀ ns : List Int, ns.length ≤ 63 → ∃ st', T (11 + 1) 49 [.frl (ns.map .int)] [] = .ok (.bl true) st' := by
  intro ns hn
  rw [T, ft_def (d := d_law) rfl rfl rfl]
  obtain ⟨st', a', b', e⟩ := law_loop 10 0 ns hn 6 (by omega) (by omega) (fun hw => f_right 4 hw) (intsD 0 (max 1 (min ns.length 3))) (fun d hd => by
    obtain ⟨i, hi, rfl⟩ := List.mem_map.mp hd
    rw [List.mem_range] at hi
    exact ⟨i, by omega, by simp⟩) [] .none .none
  refine ⟨st', ?_⟩
  have lr := lap_rng ns.length hn
  have l1 : ∀ st, fLenW st [.frl (ns.map .int)] = some (.int ns.length, st) := fun st => by simp
  show flM (dBlk [sFor (iRng1 (cBi bMax [(cInt 1).p, (cBi bMin [(cBi bLen [(cVar 0).p]).p, (cInt 3).p]).p])) (gNm 1) _, sRet (cBl true)] (T 11) [.val (.frl (ns.map .int)), .none, .none, .none]) [] = _
  rw [flM_ap, m_blk, m_sFor]
  have f1 : ∀ i j : Int, fMin [.int i, .int j] = some (.int (if j < i then j else i)) := fun _ _ => rfl
  have f2 : ∀ i j : Int, fMax [.int i, .int j] = some (.int (if j > i then j else i)) := fun _ _ => rfl
  have ei : (iRng1 (cBi bMax [(cInt 1).p, (cBi bMin [(cBi bLen [(cVar 0).p]).p, (cInt 3).p]).p])).den (T 11) [.val (.frl (ns.map .int)), .none, .none, .none] = ret (intsD 0 (max 1 (min ns.length 3))) := by
    simp -implicitDefEqProofs [f1, f2]
    exact congrArg opt lr
  rw [ei, bnd_ret, bnd_ap, e]
  rfl
end Rf

set_option Elab.async false
set_option linter.all false
set_option maxRecDepth 100000
set_option maxHeartbeats 0
namespace Rf
open PySem PySem.W PySem.Calls PyProof.Rows
abbrev RR : OpenRow := OpenLaw.row PySem.Challenge.rw_piletables_k85_whole_texts_of_tables
def lx : Nat := 62
def loose0 : List PySem.Str := ["PileError", "InvalidNumber", "InvalidWord", "InvalidStanding", "NotATable", "InvalidText", "is_whole", "is_between", "is_one_of", "is_tuple_of", "BLOCKS", "LEAST_MANY", "MOST_MANY", "LEAST_PILES", "MOST_PILES", "FREE", "LIGHT", "RULES", "blocks_of", "is_falling"]
def loose1 : List PySem.Str := ["has_each_once", "are_piles", "fits_rule", "is_standing", "check_number", "check_height", "Table", "check_table", "check_standing", "check_both", "FIGURES", "LETTERS", "EMPTY", "TABLE", "PILE", "TABLE_WORDS", "PILE_WORDS", "are_signs", "are_figures", "is_first_line"]
def loose2 : List PySem.Str := ["is_pile_line", "is_line", "wrong_line", "piles_in", "table_rows", "read_table", "_law_well", "_law_draw", "_law_of", "_law_same", "_law_table", "_law_made", "_law_standing", "_law_text", "_law_right"]
def loose : List PySem.Str := loose0 ++ loose1 ++ loose2
theorem chk : chkTab info tab = true := by decide +kernel
theorem run (w : World) : HandSHeadRun.RunEq RR (view RR.prog [62]) (hookR 4 info tab) (obR 4 info tab) 4000 loose w := by
  intro os
  kernel_rfl
def eL : TE1 := ⟨49, d_law, ⟨(top 62), "law", "law"⟩⟩
end Rf
open PySem PySem.W PySem.Calls PyProof.Rows Rf
theorem PySem.Challenge.cw_piletables_k85_whole_texts_of_tables_holds : PySem.Challenge.rw_piletables_k85_whole_texts_of_tables.Holds := by
  w_on; o_law
  refine HandSHeadRun.head_any (r := OpenLaw.row PySem.Challenge.rw_piletables_k85_whole_texts_of_tables) (q := view (OpenLaw.row PySem.Challenge.rw_piletables_k85_whole_texts_of_tables).prog [62]) (H := hookR 4 info tab) (ob := obR 4 info tab) (M := 4000) (loose := Rf.loose) (d := HandSHeadRun.topDef (OpenLaw.row PySem.Challenge.rw_piletables_k85_whole_texts_of_tables).prog 62) (kwd := []) (obR_eq 4 info tab)
    (by kernel_rfl) (fun s => by kernel_rfl) Rf.run (by kernel_rfl) (by kernel_rfl) (by kernel_rfl) (by rfl) (by first | assumption | decide +kernel) (by decide +kernel) ⟨rfl, rfl, rfl, rfl, rfl, by decide +kernel⟩ ?hw ?hc
  case hw => w_witness2
  case hc => exact law_walk (e := eL) (k := 11) rfl (by kernel_rfl) chk (List.mem_of_getElem? (show tab[35]? = some eL from rfl)) (by decide +kernel) rfl rfl (by kernel_rfl) ⟨rfl, by decide, by decide⟩ rfl plain85
