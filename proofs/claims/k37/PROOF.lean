import PyProof.Rows.All
import Wide.All
import OpenK.AllK
import Wide.FinOn
import HandS.ForMost
import HandS.Evl
import HandS.Defaults
import PySem.Challenge.RW_ledalong_k37_whole_settling_and_delays
import KE.KStateDown
import Lean
import HandS.Ends
import HandS.Head0
import HandS.Head1
import HandS.Head2
import HandS.HeadEnd
import HandS.HeadHook1
import HandS.HeadHook2
import HandS.TupAny
import HandS.TupMul
import HandS.Deep
import HandS.IsInst
import HandS.Conv
import HandS.Walk
import HandS.Zip
import HandS.Small
import KE.KDictKeyed
import HandS.TupSets
import KE.SortData
import KE.KDictCopyH
import HandS.Strs
import PyProof.Rows.FactsT3
import HandS.WordsDict
import HandS.Steps
import KE.KDictZip
import HandS.Text
import PyProof.StrLawsIn
import HandS.Star
import HandS.New
import KE.KDictDisplayH
import PyProof.ReprRoads
import PyProof.ReprLen
import PyProof.ReprText
set_option Elab.async false
set_option linter.all false
set_option maxRecDepth 100000
/-! T0: the text by places (printed by gen_T0.py). -/
namespace K37
open PySem L2
def topAt (i : Nat) : Stmt := PySem.Challenge.pw_ledalong_k37_whole_settling_and_delays.main.body.getD i (.Pass ⟨0, 0, 0, 0⟩)
abbrev FnP (K : PySem.W.Frag) (x : Str) (st : Stmt) (ds : List V) (f : Addr) (fd : FuncData) : Prop := FunD K x x (defArgs st) (defBody st) (defScope st) ds [] f fd
abbrev st_as_ascending : Stmt := topAt 1
abbrev st_standings_in : Stmt := topAt 2
abbrev st_chained : Stmt := topAt 3
abbrev st_map_by : Stmt := topAt 4
abbrev st_image_of : Stmt := topAt 5
abbrev st_letter_map : Stmt := topAt 7
abbrev st_chain_by : Stmt := topAt 8
abbrev st_next_family : Stmt := topAt 9
abbrev st_families_by : Stmt := topAt 10
abbrev st_is_integer : Stmt := topAt 12
abbrev st_is_number : Stmt := topAt 13
abbrev st_is_index : Stmt := topAt 14
abbrev st_is_full_tuple : Stmt := topAt 15
abbrev st_is_tuple_of : Stmt := topAt 16
abbrev st_are_indexes : Stmt := topAt 17
abbrev st_is_rule : Stmt := topAt 18
abbrev st_is_word : Stmt := topAt 19
abbrev st_is_step : Stmt := topAt 20
abbrev st_is_machine : Stmt := topAt 21
abbrev st_want : Stmt := topAt 27
abbrev st_want_fit : Stmt := topAt 28
abbrev st_growth_by : Stmt := topAt 30
abbrev st_want_growing : Stmt := topAt 31
abbrev st_pairs_by : Stmt := topAt 32
abbrev st_joined_rows : Stmt := topAt 33
abbrev st_long_blocks : Stmt := topAt 34
abbrev st_words_by : Stmt := topAt 35
abbrev st_text_by : Stmt := topAt 36
abbrev st_is_word_by : Stmt := topAt 37
abbrev st_followers_by : Stmt := topAt 38
abbrev st_memory_by : Stmt := topAt 40
abbrev st_is_settled : Stmt := topAt 41
abbrev st_settling_walk : Stmt := topAt 42
abbrev st_delay_by : Stmt := topAt 43
abbrev st_sets_by : Stmt := topAt 44
abbrev st_want_world : Stmt := topAt 46
abbrev st_settling_word : Stmt := topAt 48
abbrev st_delay_of : Stmt := topAt 49
abbrev st_sets_behind : Stmt := topAt 50
abbrev st_is_word_in_world : Stmt := topAt 52
abbrev st_want_word_behind : Stmt := topAt 53
abbrev st_settles : Stmt := topAt 54
abbrev st_behind : Stmt := topAt 55
abbrev st_law_feed : Stmt := topAt 57
abbrev st_law_pick : Stmt := topAt 58
abbrev st_law_led : Stmt := topAt 59
abbrev st_law_grown : Stmt := topAt 60
abbrev st_law_words : Stmt := topAt 61
abbrev st_law_short : Stmt := topAt 62
abbrev st_law_all : Stmt := topAt 63
abbrev st_law_joined : Stmt := topAt 64
abbrev st_law_map : Stmt := topAt 65
abbrev st_law_rank : Stmt := topAt 66
abbrev st_law_levels : Stmt := topAt 67
abbrev st_law_least : Stmt := topAt 68
abbrev st_law_delay : Stmt := topAt 69
abbrev st_law_rule : Stmt := topAt 70
abbrev st_law_machine : Stmt := topAt 71
abbrev st_law_world : Stmt := topAt 72
abbrev st_law_due : Stmt := topAt 73
abbrev st_law_are_longer_right : Stmt := topAt 74
abbrev st_law : Stmt := topAt 75
end K37
set_option Elab.async false
set_option linter.all false
set_option maxRecDepth 100000
set_option maxHeartbeats 0
/-! Z2: the head: where each def stands, the run of the top. -/
namespace K37

open PySem PySem.Spec PyProof.Rows L2
def d_chained : He.DefD := ⟨("chained", none), "chained", "chained", defArgs st_chained, defBody st_chained, defScope st_chained, [], []⟩
def d_standings_in : He.DefD := ⟨("standings_in", none), "standings_in", "standings_in", defArgs st_standings_in, defBody st_standings_in, defScope st_standings_in, [], []⟩
def d_letter_map : He.DefD := ⟨("letter_map", none), "letter_map", "letter_map", defArgs st_letter_map, defBody st_letter_map, defScope st_letter_map, [], []⟩
def d_map_by : He.DefD := ⟨("map_by", none), "map_by", "map_by", defArgs st_map_by, defBody st_map_by, defScope st_map_by, [], []⟩
def d_chain_by : He.DefD := ⟨("chain_by", none), "chain_by", "chain_by", defArgs st_chain_by, defBody st_chain_by, defScope st_chain_by, [], []⟩
def d_next_family : He.DefD := ⟨("next_family", none), "next_family", "next_family", defArgs st_next_family, defBody st_next_family, defScope st_next_family, [], []⟩
def d_is_integer : He.DefD := ⟨("is_integer", none), "is_integer", "is_integer", defArgs st_is_integer, defBody st_is_integer, defScope st_is_integer, [], []⟩
def d_is_number : He.DefD := ⟨("is_number", none), "is_number", "is_number", defArgs st_is_number, defBody st_is_number, defScope st_is_number, [], []⟩
def d_is_index : He.DefD := ⟨("is_index", none), "is_index", "is_index", defArgs st_is_index, defBody st_is_index, defScope st_is_index, [], []⟩
def d_is_full_tuple : He.DefD := ⟨("is_full_tuple", none), "is_full_tuple", "is_full_tuple", defArgs st_is_full_tuple, defBody st_is_full_tuple, defScope st_is_full_tuple, [], []⟩
def d_is_tuple_of : He.DefD := ⟨("is_tuple_of", none), "is_tuple_of", "is_tuple_of", defArgs st_is_tuple_of, defBody st_is_tuple_of, defScope st_is_tuple_of, [], []⟩
def d_are_indexes : He.DefD := ⟨("are_indexes", none), "are_indexes", "are_indexes", defArgs st_are_indexes, defBody st_are_indexes, defScope st_are_indexes, [], []⟩
def d_is_rule : He.DefD := ⟨("is_rule", none), "is_rule", "is_rule", defArgs st_is_rule, defBody st_is_rule, defScope st_is_rule, [], []⟩
def d_is_word : He.DefD := ⟨("is_word", none), "is_word", "is_word", defArgs st_is_word, defBody st_is_word, defScope st_is_word, [], []⟩
def d_is_step : He.DefD := ⟨("is_step", none), "is_step", "is_step", defArgs st_is_step, defBody st_is_step, defScope st_is_step, [], []⟩
def d_is_machine : He.DefD := ⟨("is_machine", none), "is_machine", "is_machine", defArgs st_is_machine, defBody st_is_machine, defScope st_is_machine, [], []⟩
def d_want : He.DefD := ⟨("want", none), "want", "want", defArgs st_want, defBody st_want, defScope st_want, [.int (-1)], []⟩
def d_families_by : He.DefD := ⟨("families_by", none), "families_by", "families_by", defArgs st_families_by, defBody st_families_by, defScope st_families_by, [], []⟩
def d_as_ascending : He.DefD := ⟨("as_ascending", none), "as_ascending", "as_ascending", defArgs st_as_ascending, defBody st_as_ascending, defScope st_as_ascending, [], []⟩
def d_image_of : He.DefD := ⟨("image_of", none), "image_of", "image_of", defArgs st_image_of, defBody st_image_of, defScope st_image_of, [], []⟩
def d_memory_by : He.DefD := ⟨("memory_by", none), "memory_by", "memory_by", defArgs st_memory_by, defBody st_memory_by, defScope st_memory_by, [], []⟩
def d_is_settled : He.DefD := ⟨("is_settled", none), "is_settled", "is_settled", defArgs st_is_settled, defBody st_is_settled, defScope st_is_settled, [], []⟩
def d_growth_by : He.DefD := ⟨("growth_by", none), "growth_by", "growth_by", defArgs st_growth_by, defBody st_growth_by, defScope st_growth_by, [], []⟩
def d_want_growing : He.DefD := ⟨("want_growing", none), "want_growing", "want_growing", defArgs st_want_growing, defBody st_want_growing, defScope st_want_growing, [.str "rule"], []⟩
def d_want_fit : He.DefD := ⟨("want_fit", none), "want_fit", "want_fit", defArgs st_want_fit, defBody st_want_fit, defScope st_want_fit, [.str "machine"], []⟩
def d_want_world : He.DefD := ⟨("want_world", none), "want_world", "want_world", defArgs st_want_world, defBody st_want_world, defScope st_want_world, [], []⟩
def d_pairs_by : He.DefD := ⟨("pairs_by", none), "pairs_by", "pairs_by", defArgs st_pairs_by, defBody st_pairs_by, defScope st_pairs_by, [], []⟩
def d_joined_rows : He.DefD := ⟨("joined_rows", none), "joined_rows", "joined_rows", defArgs st_joined_rows, defBody st_joined_rows, defScope st_joined_rows, [], []⟩
def d_long_blocks : He.DefD := ⟨("long_blocks", none), "long_blocks", "long_blocks", defArgs st_long_blocks, defBody st_long_blocks, defScope st_long_blocks, [], []⟩
def d_words_by : He.DefD := ⟨("words_by", none), "words_by", "words_by", defArgs st_words_by, defBody st_words_by, defScope st_words_by, [], []⟩
def d_text_by : He.DefD := ⟨("text_by", none), "text_by", "text_by", defArgs st_text_by, defBody st_text_by, defScope st_text_by, [], []⟩
def d_is_word_by : He.DefD := ⟨("is_word_by", none), "is_word_by", "is_word_by", defArgs st_is_word_by, defBody st_is_word_by, defScope st_is_word_by, [], []⟩
def d_followers_by : He.DefD := ⟨("followers_by", none), "followers_by", "followers_by", defArgs st_followers_by, defBody st_followers_by, defScope st_followers_by, [], []⟩
def d_settling_walk : He.DefD := ⟨("settling_walk", none), "settling_walk", "settling_walk", defArgs st_settling_walk, defBody st_settling_walk, defScope st_settling_walk, [], []⟩
def d_delay_by : He.DefD := ⟨("delay_by", none), "delay_by", "delay_by", defArgs st_delay_by, defBody st_delay_by, defScope st_delay_by, [], []⟩
def d_sets_by : He.DefD := ⟨("sets_by", none), "sets_by", "sets_by", defArgs st_sets_by, defBody st_sets_by, defScope st_sets_by, [], []⟩
def d_settling_word : He.DefD := ⟨("settling_word", none), "settling_word", "settling_word", defArgs st_settling_word, defBody st_settling_word, defScope st_settling_word, [], []⟩
def d_delay_of : He.DefD := ⟨("delay_of", none), "delay_of", "delay_of", defArgs st_delay_of, defBody st_delay_of, defScope st_delay_of, [], []⟩
def d_sets_behind : He.DefD := ⟨("sets_behind", none), "sets_behind", "sets_behind", defArgs st_sets_behind, defBody st_sets_behind, defScope st_sets_behind, [], []⟩
def d_is_word_in_world : He.DefD := ⟨("is_word_in_world", none), "is_word_in_world", "is_word_in_world", defArgs st_is_word_in_world, defBody st_is_word_in_world, defScope st_is_word_in_world, [], []⟩
def d_want_word_behind : He.DefD := ⟨("want_word_behind", none), "want_word_behind", "want_word_behind", defArgs st_want_word_behind, defBody st_want_word_behind, defScope st_want_word_behind, [], []⟩
def d_settles : He.DefD := ⟨("settles", none), "settles", "settles", defArgs st_settles, defBody st_settles, defScope st_settles, [], []⟩
def d_behind : He.DefD := ⟨("behind", none), "behind", "behind", defArgs st_behind, defBody st_behind, defScope st_behind, [], []⟩
def d_law_led : He.DefD := ⟨("_law_led", none), "_law_led", "_law_led", defArgs st_law_led, defBody st_law_led, defScope st_law_led, [], []⟩
def d_law_joined : He.DefD := ⟨("_law_joined", none), "_law_joined", "_law_joined", defArgs st_law_joined, defBody st_law_joined, defScope st_law_joined, [], []⟩
def d_law_map : He.DefD := ⟨("_law_map", none), "_law_map", "_law_map", defArgs st_law_map, defBody st_law_map, defScope st_law_map, [], []⟩
def d_law_rank : He.DefD := ⟨("_law_rank", none), "_law_rank", "_law_rank", defArgs st_law_rank, defBody st_law_rank, defScope st_law_rank, [], []⟩
def d_law_short : He.DefD := ⟨("_law_short", none), "_law_short", "_law_short", defArgs st_law_short, defBody st_law_short, defScope st_law_short, [], []⟩
def d_law_all : He.DefD := ⟨("_law_all", none), "_law_all", "_law_all", defArgs st_law_all, defBody st_law_all, defScope st_law_all, [], []⟩
def d_law_delay : He.DefD := ⟨("_law_delay", none), "_law_delay", "_law_delay", defArgs st_law_delay, defBody st_law_delay, defScope st_law_delay, [], []⟩
def d_law_least : He.DefD := ⟨("_law_least", none), "_law_least", "_law_least", defArgs st_law_least, defBody st_law_least, defScope st_law_least, [], []⟩
def d_law_words : He.DefD := ⟨("_law_words", none), "_law_words", "_law_words", defArgs st_law_words, defBody st_law_words, defScope st_law_words, [], []⟩
def d_law_levels : He.DefD := ⟨("_law_levels", none), "_law_levels", "_law_levels", defArgs st_law_levels, defBody st_law_levels, defScope st_law_levels, [], []⟩
def d_law_grown : He.DefD := ⟨("_law_grown", none), "_law_grown", "_law_grown", defArgs st_law_grown, defBody st_law_grown, defScope st_law_grown, [], []⟩
def d_law_due : He.DefD := ⟨("_law_due", none), "_law_due", "_law_due", defArgs st_law_due, defBody st_law_due, defScope st_law_due, [], []⟩
def d_law_are_longer_right : He.DefD := ⟨("_law_are_longer_right", none), "_law_are_longer_right", "_law_are_longer_right", defArgs st_law_are_longer_right, defBody st_law_are_longer_right, defScope st_law_are_longer_right, [], []⟩
def d_law_pick : He.DefD := ⟨("_law_pick", none), "_law_pick", "_law_pick", defArgs st_law_pick, defBody st_law_pick, defScope st_law_pick, [], []⟩
def d_law_feed : He.DefD := ⟨("_law_feed", none), "_law_feed", "_law_feed", defArgs st_law_feed, defBody st_law_feed, defScope st_law_feed, [], []⟩
def d_law_rule : He.DefD := ⟨("_law_rule", none), "_law_rule", "_law_rule", defArgs st_law_rule, defBody st_law_rule, defScope st_law_rule, [], []⟩
def d_law_machine : He.DefD := ⟨("_law_machine", none), "_law_machine", "_law_machine", defArgs st_law_machine, defBody st_law_machine, defScope st_law_machine, [], []⟩
def d_law_world : He.DefD := ⟨("_law_world", none), "_law_world", "_law_world", defArgs st_law_world, defBody st_law_world, defScope st_law_world, [], []⟩
def d_law : He.DefD := ⟨("law", none), "law", "law", defArgs st_law, defBody st_law, defScope st_law, [], []⟩
def fnA0 : List He.DefD := [d_chained, d_standings_in, d_letter_map, d_map_by, d_chain_by, d_next_family, d_is_integer, d_is_number, d_is_index, d_is_full_tuple, d_is_tuple_of, d_are_indexes, d_is_rule, d_is_word, d_is_step, d_is_machine, d_want, d_families_by, d_as_ascending, d_image_of, d_memory_by, d_is_settled, d_growth_by, d_want_growing, d_want_fit, d_want_world, d_pairs_by, d_joined_rows, d_long_blocks, d_words_by]
def fnA1 : List He.DefD := [d_text_by, d_is_word_by, d_followers_by, d_settling_walk, d_delay_by, d_sets_by, d_settling_word, d_delay_of, d_sets_behind, d_is_word_in_world, d_want_word_behind, d_settles, d_behind, d_law_led, d_law_joined, d_law_map, d_law_rank, d_law_short, d_law_all, d_law_delay, d_law_least, d_law_words, d_law_levels, d_law_grown, d_law_due, d_law_are_longer_right, d_law_pick, d_law_feed, d_law_rule, d_law_machine]
def fnA2 : List He.DefD := [d_law_world, d_law]
def fnAll : List He.DefD := fnA0 ++ fnA1 ++ fnA2
def glA0 : List Str := ["chained", "standings_in", "letter_map", "map_by", "chain_by", "next_family", "is_integer", "is_number", "is_index", "is_full_tuple", "is_tuple_of", "are_indexes", "is_rule", "is_word", "is_step", "is_machine", "want", "families_by", "as_ascending", "image_of", "memory_by", "is_settled", "growth_by", "want_growing", "want_fit", "want_world", "pairs_by", "joined_rows", "long_blocks", "words_by"]
def glA1 : List Str := ["text_by", "is_word_by", "followers_by", "settling_walk", "delay_by", "sets_by", "settling_word", "delay_of", "sets_behind", "is_word_in_world", "want_word_behind", "settles", "behind", "_law_led", "_law_joined", "_law_map", "_law_rank", "_law_short", "_law_all", "_law_delay", "_law_least", "_law_words", "_law_levels", "_law_grown", "_law_due", "_law_are_longer_right", "_law_pick", "_law_feed", "_law_rule", "_law_machine"]
def glA2 : List Str := ["_law_world", "law"]
def glAll : List Str := glA0 ++ glA1 ++ glA2
def biAll : List Str := ["len", "tuple", "range", "sorted", "set", "list", "min", "max", "all", "any", "zip", "isinstance", "dict", "str", "int", "repr", "bool"]
def faAll : List He.Fa := glAll.map He.Fa.glo ++ biAll.map He.Fa.free
def loA0 : List Str := ["as_ascending", "standings_in", "chained", "map_by", "image_of", "letter_map", "chain_by", "next_family", "families_by", "is_integer", "is_number", "is_index", "is_full_tuple", "is_tuple_of", "are_indexes", "is_rule", "is_word", "is_step", "is_machine", "LedError", "WorldError", "NotUsable", "want", "want_fit", "growth_by", "want_growing", "pairs_by", "joined_rows", "long_blocks", "words_by"]
def loA1 : List Str := ["text_by", "is_word_by", "followers_by", "memory_by", "is_settled", "settling_walk", "delay_by", "sets_by", "want_world", "settling_word", "delay_of", "sets_behind", "is_word_in_world", "want_word_behind", "settles", "behind", "_law_feed", "_law_pick", "_law_led", "_law_grown", "_law_words", "_law_short", "_law_all", "_law_joined", "_law_map", "_law_rank", "_law_levels", "_law_least", "_law_delay", "_law_rule"]
def loA2 : List Str := ["_law_machine", "_law_world", "_law_due", "_law_are_longer_right"]
def loAll : List Str := loA0 ++ loA1 ++ loA2
abbrev theRow : PySem.W.OpenRow := PySem.W.OpenLaw.row PySem.Challenge.rw_ledalong_k37_whole_settling_and_delays
abbrev theHook : PySem.W.Hook := He.hookD 4 faAll fnAll
def seenAt (s : PySem.W.SharedT) : He.AlD := He.obsDG 4 faAll fnAll (HandSHeadRun.getT s)
theorem seenAt_eq (s : PySem.W.SharedT) : seenAt s = theHook.obs s.abs := He.obsDG_eq (HandSHeadRun.getT_eq s)
theorem theRun (w : World) : HandSHeadRun.RunEq theRow (PySem.W.view theRow.prog [75]) theHook seenAt 2700 loAll w := by
  intro os
  kernel_rfl
end K37
set_option Elab.async false
set_option linter.all false
set_option maxRecDepth 100000
set_option maxHeartbeats 1000000
/-! E1: data that never changes (numbers, tuples of data), what an expression yields, calls by what they yield. -/
namespace K37
open PySem L2 Evl

/-! ### data -/
inductive Dv where
  | n (i : Int)
  | t (l : List Dv)
mutual
def Is (H : Hp) : Dv → V → Prop
  | .n i, v => v = .int i
  | .t ds, v => ∃ a vs, v = .ref a ∧ H a = some (.tup vs) ∧ IsAll H ds vs
def IsAll (H : Hp) : List Dv → List V → Prop
  | [], vs => vs = []
  | d :: ds, vs => ∃ v r, vs = v :: r ∧ Is H d v ∧ IsAll H ds r
end
/-- what is never written: a tuple, a locked thing -/
def Imm (o : HO) : Prop := (∃ vs, o = .tup vs) ∨ ∃ ob u, o = .frz ob u
/-- what is never written stays -/
def Tx (H H' : Hp) : Prop := ∀ a o, Imm o → H a = some o → H' a = some o
theorem Tx.refl (H : Hp) : Tx H H := fun _ _ _ h => h
theorem Tx.trans {H H1 H2 : Hp} (a : Tx H H1) (b : Tx H1 H2) : Tx H H2 := fun x o i h => b x o i (a x o i h)
theorem Tx.tup {H H' : Hp} (e : Tx H H') {a : Addr} {vs : List V} (h : H a = some (.tup vs)) : H' a = some (.tup vs) := e a _ (.inl ⟨vs, rfl⟩) h
theorem Tx.frz {H H' : Hp} (e : Tx H H') {a : Addr} {ob : Obj} {u : HO} (h : H a = some (.frz ob u)) : H' a = some (.frz ob u) := e a _ (.inr ⟨ob, u, rfl⟩) h
theorem Ex.tx {H H' : Hp} (e : Ex H H') : Tx H H' := fun a o _ h => e a o h
theorem Tx.upd {H : Hp} {a : Addr} {o : HO} (h : ∀ u, H a = some u → ¬ Imm u) : Tx H (upd H a o) := fun b u i e => by
  rw [upd_ne]
  · exact e
  · intro z
    rw [z] at e
    exact h u e i
theorem not_imm_lst {xs : List V} : ¬ Imm (.lst xs) := by
  rintro (⟨vs, h⟩ | ⟨ob, u, h⟩) <;> cases h
theorem not_imm_ext {φ : Heap → Prop} : ¬ Imm (.ext φ) := by
  rintro (⟨vs, h⟩ | ⟨ob, u, h⟩) <;> cases h
theorem Tx.updL {H : Hp} {a : Addr} {o : HO} {xs : List V} (h : H a = some (.lst xs)) : Tx H (L2.upd H a o) := Tx.upd fun u z => by rw [h] at z; cases z; exact not_imm_lst
mutual
theorem Is.mono {H H' : Hp} (e : Tx H H') : ∀ (d : Dv) (v : V), Is H d v → Is H' d v
  | .n i, v, h => by
    rw [Is] at h ⊢
    exact h
  | .t ds, v, h => by
    rw [Is] at h ⊢
    obtain ⟨a, vs, h1, h2, h3⟩ := h
    exact ⟨a, vs, h1, e.tup h2, IsAll.mono e ds vs h3⟩
theorem IsAll.mono {H H' : Hp} (e : Tx H H') : ∀ (ds : List Dv) (vs : List V), IsAll H ds vs → IsAll H' ds vs
  | [], vs, h => by
    rw [IsAll] at h ⊢
    exact h
  | d :: ds, vs, h => by
    rw [IsAll] at h ⊢
    obtain ⟨v, r, h1, h2, h3⟩ := h
    exact ⟨v, r, h1, Is.mono e d v h2, IsAll.mono e ds r h3⟩
end
section
variable {H : Hp}
theorem is_n {i : Int} : Is H (.n i) (.int i) := by rw [Is]
theorem is_n_iff {i : Int} {v : V} : Is H (.n i) v ↔ v = .int i := by rw [Is]
theorem is_t {ds : List Dv} {v : V} : Is H (.t ds) v ↔ ∃ a vs, v = .ref a ∧ H a = some (.tup vs) ∧ IsAll H ds vs := by rw [Is]
theorem all_nil {vs : List V} : IsAll H [] vs ↔ vs = [] := by rw [IsAll]
theorem all_cons {d : Dv} {ds : List Dv} {vs : List V} : IsAll H (d :: ds) vs ↔ ∃ v r, vs = v :: r ∧ Is H d v ∧ IsAll H ds r := by rw [IsAll]
theorem IsAll.length : ∀ {ds : List Dv} {vs : List V}, IsAll H ds vs → vs.length = ds.length
  | [], vs, h => by rw [all_nil.1 h]; rfl
  | d :: ds, vs, h => by
    obtain ⟨v, r, e, _, h3⟩ := all_cons.1 h
    rw [e, List.length_cons, List.length_cons, IsAll.length h3]
theorem IsAll.get : ∀ {ds : List Dv} {vs : List V} {i : Nat} {d : Dv}, IsAll H ds vs → ds[i]? = some d → ∃ v, vs[i]? = some v ∧ Is H d v
  | [], _, _, _, _, e => by simp at e
  | d :: ds, vs, 0, d', h, e => by
    obtain ⟨v, r, ev, h2, _⟩ := all_cons.1 h
    simp at e
    subst e
    exact ⟨v, by rw [ev]; rfl, h2⟩
  | d :: ds, vs, i + 1, d', h, e => by
    obtain ⟨v, r, ev, _, h3⟩ := all_cons.1 h
    obtain ⟨v', h4, h5⟩ := IsAll.get (i := i) h3 (by simpa using e)
    exact ⟨v', by rw [ev]; simpa using h4, h5⟩
theorem IsAll.got : ∀ {ds : List Dv} {vs : List V} {i : Nat} {v : V}, IsAll H ds vs → vs[i]? = some v → ∃ d, ds[i]? = some d ∧ Is H d v := fun {ds vs i v} h e => by
  have hl := h.length
  have hi : i < vs.length := (List.getElem?_eq_some_iff.1 e).1
  have hd : ds[i]? = some ds[i] := List.getElem?_eq_getElem (by omega)
  obtain ⟨v', h1, h2⟩ := h.get hd
  rw [e] at h1
  cases h1
  exact ⟨_, hd, h2⟩
theorem IsAll.append : ∀ {ds es : List Dv} {vs ws : List V}, IsAll H ds vs → IsAll H es ws → IsAll H (ds ++ es) (vs ++ ws)
  | [], es, vs, ws, h, k => by rw [all_nil.1 h]; exact k
  | d :: ds, es, vs, ws, h, k => by
    obtain ⟨v, r, e, h2, h3⟩ := all_cons.1 h
    rw [e]
    exact all_cons.2 ⟨v, r ++ ws, rfl, h2, IsAll.append h3 k⟩
theorem IsAll.drop : ∀ {ds : List Dv} {vs : List V} (n : Nat), IsAll H ds vs → IsAll H (ds.drop n) (vs.drop n)
  | ds, vs, 0, h => by simpa using h
  | [], vs, n + 1, h => by rw [all_nil.1 h]; exact all_nil.2 rfl
  | d :: ds, vs, n + 1, h => by
    obtain ⟨v, r, e, _, h3⟩ := all_cons.1 h
    rw [e]
    exact IsAll.drop n h3
theorem IsAll.take : ∀ {ds : List Dv} {vs : List V} (n : Nat), IsAll H ds vs → IsAll H (ds.take n) (vs.take n)
  | ds, vs, 0, h => all_nil.2 rfl
  | [], vs, n + 1, h => by rw [all_nil.1 h]; exact all_nil.2 rfl
  | d :: ds, vs, n + 1, h => by
    obtain ⟨v, r, e, h2, h3⟩ := all_cons.1 h
    rw [e]
    exact all_cons.2 ⟨v, r.take n, rfl, h2, IsAll.take n h3⟩
theorem IsAll.one {d : Dv} {v : V} (h : Is H d v) : IsAll H [d] [v] := all_cons.2 ⟨v, [], rfl, h, all_nil.2 rfl⟩
theorem IsAll.ints : ∀ {ns : List Int} {vs : List V}, IsAll H (ns.map .n) vs → vs = ns.map V.int
  | [], vs, h => all_nil.1 h
  | i :: ns, vs, h => by
    obtain ⟨v, r, e, h2, h3⟩ := all_cons.1 h
    rw [e, is_n_iff.1 h2, IsAll.ints h3]
    rfl
theorem IsAll.of_ints : ∀ (ns : List Int), IsAll H (ns.map .n) (ns.map V.int)
  | [] => all_nil.2 rfl
  | i :: ns => all_cons.2 ⟨_, _, rfl, is_n, IsAll.of_ints ns⟩
end
/-! as the library's data -/
mutual
def Dv.py : Dv → PyData
  | .n i => .int i
  | .t ds => .tuple (Dv.pys ds)
def Dv.pys : List Dv → List PyData
  | [] => []
  | d :: ds => Dv.py d :: Dv.pys ds
end
mutual
theorem Is.dp {K : PySem.W.Frag} {H : Hp} : ∀ (d : Dv) (v : V), Is H d v → Dp K H v d.py
  | .n i, v, h => by
    rw [is_n_iff.1 h, Dv.py]
    exact .int i
  | .t ds, v, h => by
    obtain ⟨a, vs, h1, h2, h3⟩ := is_t.1 h
    rw [h1, Dv.py]
    exact .tup (st_of h2) (IsAll.dp ds vs h3)
theorem IsAll.dp {K : PySem.W.Frag} {H : Hp} : ∀ (ds : List Dv) (vs : List V), IsAll H ds vs → DpAll K H vs (Dv.pys ds)
  | [], vs, h => by
    rw [all_nil.1 h, Dv.pys]
    exact .nil
  | d :: ds, vs, h => by
    obtain ⟨v, r, e, h2, h3⟩ := all_cons.1 h
    rw [e, Dv.pys]
    exact .cons (Is.dp d v h2) (IsAll.dp ds r h3)
end
/-! the kinds of data here -/
def eN (n : Nat) : Dv := .n n
def eW (w : List Nat) : Dv := .t (w.map eN)
def eR (r : List (List Nat)) : Dv := .t (r.map eW)
def eP (p : Nat × Nat) : Dv := .t [eN p.1, eN p.2]
def eM (M : List (List (Nat × Nat))) : Dv := .t (M.map fun row => .t (row.map eP))

/-! ### what is known of a value, and stays known while nothing is changed -/
structure VP where
  p : V → Hp → Prop
  mono : ∀ {v H H'}, Ex H H' → p v H → p v H'
def vV (v : V) : VP := ⟨fun x _ => x = v, fun _ h => h⟩
def vD (d : Dv) : VP := ⟨fun x H => Is H d x, fun e h => Is.mono (Ex.tx e) _ _ h⟩
abbrev vB (b : Bool) : VP := vV (.bl b)
abbrev vI (i : Int) : VP := vV (.int i)
def AllP : List VP → List V → Hp → Prop
  | [], vs, _ => vs = []
  | P :: Ps, vs, H => ∃ v r, vs = v :: r ∧ P.p v H ∧ AllP Ps r H
theorem AllP.mono {H H' : Hp} (e : Ex H H') : ∀ {Ps : List VP} {vs : List V}, AllP Ps vs H → AllP Ps vs H'
  | [], _, h => h
  | P :: Ps, _, ⟨v, r, h1, h2, h3⟩ => ⟨v, r, h1, P.mono e h2, AllP.mono e h3⟩
theorem AllP.length {H : Hp} : ∀ {Ps : List VP} {vs : List V}, AllP Ps vs H → vs.length = Ps.length
  | [], _, h => by rw [h]; rfl
  | P :: Ps, _, ⟨v, r, h1, h2, h3⟩ => by rw [h1, List.length_cons, List.length_cons, AllP.length h3]
theorem allP_isAll {H : Hp} : ∀ {ds : List Dv} {vs : List V}, AllP (ds.map vD) vs H ↔ IsAll H ds vs
  | [], vs => all_nil.symm
  | d :: ds, vs => by
    rw [all_cons]
    constructor
    · rintro ⟨v, r, h1, h2, h3⟩; exact ⟨v, r, h1, h2, allP_isAll.1 h3⟩
    · rintro ⟨v, r, h1, h2, h3⟩; exact ⟨v, r, h1, h2, allP_isAll.2 h3⟩
theorem allP_vals {H : Hp} {f : α → V} : ∀ {xs : List α} {vs : List V}, AllP (xs.map fun x => vV (f x)) vs H ↔ vs = xs.map f
  | [], vs => Iff.rfl
  | x :: xs, vs => by
    constructor
    · rintro ⟨v, r, h1, h2, h3⟩
      rw [h1, allP_vals.1 h3, show v = f x from h2]
      rfl
    · intro e
      exact ⟨f x, xs.map f, e, rfl, allP_vals.2 rfl⟩
/-- a list of such values; a tuple of such values -/
def vL (Ps : List VP) : VP := ⟨fun x H => ∃ a vs, x = .ref a ∧ H a = some (.lst vs) ∧ AllP Ps vs H, fun e ⟨a, vs, h1, h2, h3⟩ => ⟨a, vs, h1, e _ _ h2, AllP.mono e h3⟩⟩
def vT (Ps : List VP) : VP := ⟨fun x H => ∃ a vs, x = .ref a ∧ H a = some (.tup vs) ∧ AllP Ps vs H, fun e ⟨a, vs, h1, h2, h3⟩ => ⟨a, vs, h1, e _ _ h2, AllP.mono e h3⟩⟩
abbrev vDs (ds : List Dv) : VP := vL (ds.map vD)
theorem vT_vD {ds : List Dv} {v : V} {H : Hp} : (vT (ds.map vD)).p v H ↔ (vD (.t ds)).p v H := by
  constructor
  · rintro ⟨a, vs, h1, h2, h3⟩; exact is_t.2 ⟨a, vs, h1, h2, allP_isAll.1 h3⟩
  · intro h
    obtain ⟨a, vs, h1, h2, h3⟩ := is_t.1 h
    exact ⟨a, vs, h1, h2, allP_isAll.2 h3⟩

/-! ### what an expression, an argument list, a test yields -/
def E (te : TE) (σ : L2.St) (H : Hp) (P : VP) : Prop := ∀ H1, Ex H H1 → ∀ Q : VK, (∀ v H2, Ex H1 H2 → P.p v H2 → Q v H2) → te σ H1 Q
/-- a new list -/
def EN (te : TE) (σ : L2.St) (H : Hp) (Ps : List VP) : Prop := ∀ H1, Ex H H1 → ∀ Q : VK, (∀ p vs H2, H1 p = none → Ex H1 H2 → H2 p = some (.lst vs) → AllP Ps vs H2 → Q (.ref p) H2) → te σ H1 Q
def A (ta : TA) (σ : L2.St) (H : Hp) (Ps : List VP) : Prop := ∀ H1, Ex H H1 → ∀ Q : List V → Hp → Prop, (∀ vs H2, Ex H1 H2 → AllP Ps vs H2 → Q vs H2) → ta σ H1 Q
def R (r : List V → Hp → VK → Prop) (Ps : List VP) (P : VP) : Prop := ∀ vs H, AllP Ps vs H → ∀ Q : VK, (∀ v H2, Ex H H2 → P.p v H2 → Q v H2) → r vs H Q
def O (r : R2) (P1 P2 P : VP) : Prop := ∀ x y H, P1.p x H → P2.p y H → ∀ Q : VK, (∀ v H2, Ex H H2 → P.p v H2 → Q v H2) → r x y H Q
/-- a def's promise: from what is known of its arguments (and cond) to what is known of its result; nothing is changed -/
def spF {α : Type} (args : α → List VP) (cond : α → Prop) (res : α → VP) : Sp := fun vs H Q _ => ∃ x, AllP (args x) vs H ∧ cond x ∧ ∀ v H', Ex H H' → (res x).p v H' → Q v H'

section
variable {K : PySem.W.Frag} {σ : L2.St} {H H' : Hp} {ta tb te tx : TE} {t u : TT} {P P1 P2 : VP} {Ps : List VP} {r : R2}
theorem E.mono (e : Ex H H') (h : E te σ H P) : E te σ H' P := fun H1 a Q q => h H1 (e.trans a) Q q
theorem A.mono {ta : TA} (e : Ex H H') (h : A ta σ H Ps) : A ta σ H' Ps := fun H1 a Q q => h H1 (e.trans a) Q q
theorem E.weak {P' : VP} (h : E te σ H P) (w : ∀ v H1, Ex H H1 → P.p v H1 → P'.p v H1) : E te σ H P' := fun H1 e Q q => h H1 e Q fun v H2 e2 p => q v H2 e2 (w v H2 (e.trans e2) p)
theorem EN.e (h : EN te σ H Ps) : E te σ H (vL Ps) := fun H1 e Q q => h H1 e Q fun p vs H2 _ e2 h2 hp => q _ H2 e2 ⟨p, vs, rfl, h2, hp⟩
theorem e_var {i : Nat} {v : V} (h : σ[i]? = some (some v)) (hp : P.p v H) : E (tVar i) σ H P := fun H1 e Q q => ⟨v, h, q v H1 (Ex.refl H1) (P.mono e hp)⟩
theorem e_c {v : V} : E (tC v) σ H (vV v) := fun H1 _ Q q => q v H1 (Ex.refl H1) rfl
theorem e_cn {i : Int} : E (tC (.int i)) σ H (vD (.n i)) := fun H1 _ Q q => q _ H1 (Ex.refl H1) (is_n (H := H1))
theorem a_nil : A tNil σ H [] := fun H1 _ Q q => q [] H1 (Ex.refl H1) rfl
theorem a_cons {tr : TA} (h : E ta σ H P) (hr : A tr σ H Ps) : A (tCons ta tr) σ H (P :: Ps) := fun H1 e Q q =>
  h H1 e _ fun v H2 e2 p => hr H2 (e.trans e2) _ fun vs H3 e3 ps => q _ H3 (e2.trans e3) ⟨v, vs, rfl, P.mono e3 p, ps⟩
theorem e_op (ha : E ta σ H P1) (hb : E tb σ H P2) (hr : O r P1 P2 P) : E (tOp r ta tb) σ H P := fun H1 e Q q =>
  ha H1 e _ fun x H2 e2 p1 => hb H2 (e.trans e2) _ fun y H3 e3 p2 => hr x y H3 (P1.mono e3 p1) p2 Q fun v H4 e4 p => q v H4 ((e2.trans e3).trans e4) p
theorem e_cb {rr : List V → Hp → VK → Prop} {ta : TA} (h : A ta σ H Ps) (hr : R rr Ps P) : E (tCB rr ta) σ H P := fun H1 e Q q =>
  h H1 e _ fun vs H2 e2 ps => hr vs H2 ps Q fun v H3 e3 p => q v H3 (e2.trans e3) p
theorem e_call {α : Type} {args : α → List VP} {cond : α → Prop} {res : α → VP} {dvs : List V} {Ex' : XK} {ta : TA} (x : α) (Ps' : List VP) (h : A ta σ H Ps) (ex : args x = Ps ++ Ps') (hd : ∀ H, AllP Ps' dvs H) (hc : cond x) : E (tCall (spF args cond res) dvs Ex' ta) σ H (res x) := fun H1 e Q q =>
  h H1 e _ fun vs H2 e2 ps => ⟨x, by
    rw [ex]
    have : ∀ {Ps : List VP} {vs : List V}, AllP Ps vs H2 → AllP (Ps ++ Ps') (vs ++ dvs) H2 := by
      intro Ps
      induction Ps with
      | nil => intro vs h; rw [show vs = [] from h]; exact hd H2
      | cons P Ps ih =>
        rintro vs ⟨v, r, h1, h2, h3⟩
        exact ⟨v, r ++ dvs, by rw [h1]; rfl, h2, ih h3⟩
    exact this ps, hc, fun v H3 e3 p => q v H3 (e2.trans e3) p⟩
/-- no defaults -/
theorem e_call' {α : Type} {args : α → List VP} {cond : α → Prop} {res : α → VP} {Ex' : XK} {ta : TA} (x : α) (h : A ta σ H (args x)) (hc : cond x) : E (tCall (spF args cond res) [] Ex' ta) σ H (res x) :=
  e_call x [] h (by rw [List.append_nil]) (fun _ => rfl) hc
theorem e_tup {ta : TA} (h : A ta σ H Ps) (hl : Ps.length ≤ 100000) : E (tTup ta) σ H (vT Ps) := fun H1 e Q q =>
  h H1 e _ fun vs H2 e2 ps => ⟨sz_of (by rw [ps.length]; exact hl), fun p hp => q _ _ (e2.trans (Ex.new hp)) ⟨p, vs, rfl, upd_same, AllP.mono (Ex.new hp) ps⟩⟩
theorem e_tupD {ta : TA} {ds : List Dv} (h : A ta σ H (ds.map vD)) (hl : ds.length ≤ 100000) : E (tTup ta) σ H (vD (.t ds)) :=
  (e_tup h (by simpa using hl)).weak fun _ _ _ p => vT_vD.1 p
theorem en_lst {ta : TA} (h : A ta σ H Ps) (hl : Ps.length ≤ 100000) : EN (tLst ta) σ H Ps := fun H1 e Q q =>
  h H1 e _ fun vs H2 e2 ps => ⟨sz_of (by rw [ps.length]; exact hl), fun p hp => q p vs _ (fresh_back e2 hp) (e2.trans (Ex.new hp)) upd_same (AllP.mono (Ex.new hp) ps)⟩
/-! tests -/
theorem t_b {b : Bool} (h : E te σ H (vB b)) : EvT (tB te) σ H b := fun H1 e _ q => h H1 e _ fun v H2 e2 p => ⟨b, p, q H2 e2⟩
theorem t_test {b : Bool} (h : E te σ H (vB b)) : EvT (tTest te) σ H b := fun H1 e _ q => h H1 e _ fun v H2 e2 p => ⟨b, p, q H2 e2⟩
theorem e_andV {a b : Bool} (h1 : E ta σ H (vB a)) (h2 : a = true → E tb σ H (vB b)) : E (tAndV ta tb) σ H (vB (a && b)) := fun H1 e Q q => h1 H1 e _ fun v H2 e2 p => ⟨a, p, by
  cases a with
  | true =>
    show tb σ H2 Q
    exact h2 rfl H2 (e.trans e2) Q fun v H3 e3 p => q v H3 (e2.trans e3) p
  | false =>
    show Q (.bl false) H2
    exact q _ H2 e2 rfl⟩
theorem e_orV {a b : Bool} (h1 : E ta σ H (vB a)) (h2 : a = false → E tb σ H (vB b)) : E (tOrV ta tb) σ H (vB (a || b)) := fun H1 e Q q => h1 H1 e _ fun v H2 e2 p => ⟨a, p, by
  cases a with
  | true =>
    show Q (.bl true) H2
    exact q _ H2 e2 rfl
  | false =>
    show tb σ H2 Q
    exact h2 rfl H2 (e.trans e2) Q fun v H3 e3 p => q v H3 (e2.trans e3) p⟩
theorem e_notV {a : Bool} (h1 : E ta σ H (vB a)) : E (tNotV ta) σ H (vB (!a)) := fun H1 e Q q => h1 H1 e _ fun v H2 e2 p => ⟨a, p, q _ H2 e2 rfl⟩
theorem e_if {b : Bool} (h : EvT t σ H b) (h1 : b = true → E ta σ H P) (h2 : b = false → E tb σ H P) : E (tIf t ta tb) σ H P := fun H1 e Q q => h H1 e _ fun H2 e2 => by
  cases b with
  | true =>
    show ta σ H2 Q
    exact h1 rfl H2 (e.trans e2) Q fun v H3 e3 p => q v H3 (e2.trans e3) p
  | false =>
    show tb σ H2 Q
    exact h2 rfl H2 (e.trans e2) Q fun v H3 e3 p => q v H3 (e2.trans e3) p

/-! ### operators -/
theorem o_val {x y z : V} (h : ∀ H, ∀ Q : VK, Q z H → r x y H Q) : O r (vV x) (vV y) (vV z) := fun a b H ha hb Q q => by
  rw [show a = x from ha, show b = y from hb]
  exact h H Q (q z H (Ex.refl H) rfl)
theorem o_I0 {g : Int → Int → V} {i j : Int} : O (rI0 g) (vI i) (vI j) (vV (g i j)) := o_val fun _ _ q => ⟨i, j, rfl, rfl, q⟩
theorem o_I {C : Int → Int → Prop} {g : Int → Int → V} {i j : Int} (hc : C i j) : O (rI C g) (vI i) (vI j) (vV (g i j)) := o_val fun _ _ q => ⟨i, j, rfl, rfl, hc, q⟩
theorem o_eq {x y : V} (h : scal x y = true) : O rEq (vV x) (vV y) (vB (decide (x = y))) := o_val fun _ _ q => ⟨h, q⟩
theorem o_ne {x y : V} (h : scal x y = true) : O rNe (vV x) (vV y) (vB (!decide (x = y))) := o_val fun _ _ q => ⟨h, q⟩
theorem vD_n {i : Int} {v : V} {H : Hp} : (vD (.n i)).p v H ↔ (vI i).p v H := is_n_iff (H := H)
theorem e_n {i : Int} (h : E te σ H (vD (.n i))) : E te σ H (vI i) := h.weak fun _ _ _ p => vD_n.1 p
theorem e_i {i : Int} (h : E te σ H (vI i)) : E te σ H (vD (.n i)) := h.weak fun _ _ _ p => vD_n.2 p
/-- t[i] of a tuple of data; l[i] of a list -/
theorem o_ixT {ds : List Dv} {i : Int} {d : Dv} (h : atI ds i = some d) : O (rIxT K) (vD (.t ds)) (vI i) (vD d) := fun x y H hx hy Q q => by
  obtain ⟨a, vs, h1, h2, h3⟩ := is_t.1 hx
  have hl := h3.length
  unfold atI at h
  obtain ⟨j, hj, hd⟩ := Option.bind_eq_some_iff.1 h
  obtain ⟨v, hv, hi⟩ := h3.get hd
  refine ⟨a, vs, i, v, h1, hy, st_of h2, ?_, q v H (Ex.refl H) hi⟩
  unfold atI
  rw [hl, hj]
  exact hv
theorem allP_get {H : Hp} : ∀ {Ps : List VP} {vs : List V} {i : Nat} {P : VP}, AllP Ps vs H → Ps[i]? = some P → ∃ v, vs[i]? = some v ∧ P.p v H
  | [], _, _, _, _, e => by simp at e
  | P :: Ps, vs, 0, P', ⟨v, r, ev, h2, _⟩, e => by
    simp at e
    subst e
    exact ⟨v, by rw [ev]; rfl, h2⟩
  | P :: Ps, vs, i + 1, P', ⟨v, r, ev, _, h3⟩, e => by
    obtain ⟨v', h4, h5⟩ := allP_get (i := i) h3 (by simpa using e)
    exact ⟨v', by rw [ev]; simpa using h4, h5⟩
theorem o_ixL {i : Int} (h : atI Ps i = some P) : O (rIxL K) (vL Ps) (vI i) P := fun x y H hx hy Q q => by
  obtain ⟨a, vs, h1, h2, h3⟩ := hx
  have hl := h3.length
  unfold atI at h
  obtain ⟨j, hj, hd⟩ := Option.bind_eq_some_iff.1 h
  obtain ⟨v, hv, hi⟩ := allP_get h3 hd
  refine ⟨a, vs, i, v, h1, hy, sq_of h2, ?_, q v H (Ex.refl H) hi⟩
  unfold atI
  rw [hl, hj]
  exact hv
theorem o_ixTP {i : Int} (h : atI Ps i = some P) : O (rIxT K) (vT Ps) (vI i) P := fun x y H hx hy Q q => by
  obtain ⟨a, vs, h1, h2, h3⟩ := hx
  have hl := h3.length
  unfold atI at h
  obtain ⟨j, hj, hd⟩ := Option.bind_eq_some_iff.1 h
  obtain ⟨v, hv, hi⟩ := allP_get h3 hd
  refine ⟨a, vs, i, v, h1, hy, st_of h2, ?_, q v H (Ex.refl H) hi⟩
  unfold atI
  rw [hl, hj]
  exact hv
theorem o_catT {ds es : List Dv} (hl : ds.length + es.length ≤ 100000) : O (rCatA K) (vD (.t ds)) (vD (.t es)) (vD (.t (ds ++ es))) := fun x y H hx hy Q q => by
  obtain ⟨a, vs, h1, h2, h3⟩ := is_t.1 hx
  obtain ⟨b, ws, k1, k2, k3⟩ := is_t.1 hy
  have l1 := h3.length
  have l2 := k3.length
  refine ⟨a, b, vs, ws, h1, k1, st_of h2, st_of k2, sz_of (by omega), fun e => ?_, fun _ e => ?_, fun _ _ p hp => ?_⟩
  · have : ds = [] := List.length_eq_zero_iff.1 (by rw [← l1, e]; rfl)
    rw [this] at q
    exact q _ H (Ex.refl H) (by rw [← k1]; exact hy)
  · have : es = [] := List.length_eq_zero_iff.1 (by rw [← l2, e]; rfl)
    rw [this, List.append_nil] at q
    exact q _ H (Ex.refl H) (by rw [← h1]; exact hx)
  · exact q _ _ (Ex.new hp) (is_t.2 ⟨p, vs ++ ws, rfl, upd_same, IsAll.mono (Ex.tx (Ex.new hp)) _ _ (h3.append k3)⟩)
/-! ### built-ins -/
theorem r_lenT {ds : List Dv} : R (rLenS K) [vD (.t ds)] (vI ds.length) := fun vs H h Q q => by
  obtain ⟨v, r, e, h1, h2⟩ := h
  obtain ⟨a, ws, h3, h4, h5⟩ := is_t.1 h1
  rw [show r = [] from h2] at e
  refine ⟨a, ws, by rw [e, h3], .inr (st_of h4), q _ H (Ex.refl H) ?_⟩
  rw [h5.length]
  rfl
theorem r_lenL : R (rLenS K) [vL Ps] (vI Ps.length) := fun vs H h Q q => by
  obtain ⟨v, r, e, ⟨a, ws, h3, h4, h5⟩, h2⟩ := h
  rw [show r = [] from h2] at e
  refine ⟨a, ws, by rw [e, h3], .inl (sq_of h4), q _ H (Ex.refl H) ?_⟩
  rw [h5.length]
  rfl
def rTupOf (K : PySem.W.Frag) : List V → Hp → VK → Prop := fun xs H Q => ∃ p ys, xs = [.ref p] ∧ ((SqL K H p ys ∧ ∀ l, H l = none → Q (.ref l) (upd H l (.tup ys))) ∨ (SqT K H p ys ∧ Q (.ref p) H))
theorem r_tup {ds : List Dv} : R (rTupOf K) [vDs ds] (vD (.t ds)) := fun vs H h Q q => by
  obtain ⟨v, r, e, ⟨a, ws, h3, h4, h5⟩, h2⟩ := h
  rw [show r = [] from h2] at e
  exact ⟨a, ws, by rw [e, h3], .inl ⟨sq_of h4, fun l hl => q _ _ (Ex.new hl) (is_t.2 ⟨l, ws, rfl, upd_same, IsAll.mono (Ex.tx (Ex.new hl)) _ _ (allP_isAll.1 h5)⟩)⟩⟩
theorem r_tupP : R (rTupOf K) [vL Ps] (vT Ps) := fun vs H h Q q => by
  obtain ⟨v, r, e, ⟨a, ws, h3, h4, h5⟩, h2⟩ := h
  rw [show r = [] from h2] at e
  exact ⟨a, ws, by rw [e, h3], .inl ⟨sq_of h4, fun l hl => q _ _ (Ex.new hl) ⟨l, ws, rfl, upd_same, AllP.mono (Ex.new hl) h5⟩⟩⟩
end
end K37
set_option Elab.async false
set_option linter.all false
set_option maxRecDepth 100000
set_option maxHeartbeats 1000000
/-! E2: what is walked; comprehensions; loops; statements. -/
namespace K37
open PySem L2 Evl

/-- big enough lists here: far below the model's line -/
theorem szM {n : Nat} (h : n ≤ 10000000) : n ≤ sizeLine := Nat.le_trans h (by decide)
theorem szMl {n : Nat} (h : n < 10000000) : n < sizeLine := Nat.lt_of_lt_of_le h (by decide)

/-- an iterator comes whose items are known, in order, in each heap that extends the one it came in -/
def YP (Ps : List VP) : Nat → Hp → V → Hp → Prop := fun i Ha x Hb => Ex Ha Hb ∧ ∃ P, Ps[i]? = some P ∧ P.p x Hb
def Src (wi : TI) (σ : L2.St) (H : Hp) (Ps : List VP) : Prop := ∀ H1, Ex H H1 → ∀ Rr : It → Hp → Prop,
  (∀ J H2 (G : Hp → Prop), Ex H1 H2 → (∀ H', Ex H2 H' → G H') → Walk J Ps.length G (YP Ps) → Rr J H2) → wi σ H1 Rr
section
variable {K : PySem.W.Frag} {σ : L2.St} {H : Hp} {tl : TE} {Ps : List VP}
theorem allP_at {H : Hp} : ∀ {Ps : List VP} {vs : List V} {i : Nat} {v : V}, AllP Ps vs H → vs[i]? = some v → ∃ P, Ps[i]? = some P ∧ P.p v H := fun {Ps vs i v} h e => by
  have hl := h.length
  have hi : i < vs.length := (List.getElem?_eq_some_iff.1 e).1
  have hd : Ps[i]? = some Ps[i] := List.getElem?_eq_getElem (by omega)
  obtain ⟨v', h1, h2⟩ := allP_get h hd
  rw [e] at h1
  cases h1
  exact ⟨_, hd, h2⟩
theorem src_list (h : E tl σ H (vL Ps)) : Src (iList K tl) σ H Ps := fun H1 e Rr q => h H1 e _ fun v H2 e2 ⟨a, vs, h1, h2, h3⟩ => by
  refine ⟨a, h1, ⟨vs, sq_of h2⟩, ?_⟩
  have hl := h3.length
  refine q _ H2 (fun H' => SqL K H' a vs ∧ AllP Ps vs H') e2 (fun H' e' => ⟨sq_of (e' _ _ h2), AllP.mono e' h3⟩) ?_
  rw [← hl]
  refine (walk_list (K := K) (a := a) (xs := vs)).mono (fun _ g => g.1) fun i Ha x Hb hi g y => ?_
  obtain ⟨y1, y2⟩ := y
  rw [y1]
  exact ⟨Ex.refl _, allP_at g.2 y2⟩
theorem src_tup (h : E tl σ H (vT Ps)) : Src (iTup K tl) σ H Ps := fun H1 e Rr q => h H1 e _ fun v H2 e2 ⟨a, vs, h1, h2, h3⟩ => by
  refine ⟨a, h1, ⟨vs, st_of h2⟩, ?_⟩
  have hl := h3.length
  refine q _ H2 (fun H' => SqT K H' a vs ∧ AllP Ps vs H') e2 (fun H' e' => ⟨st_of (e' _ _ h2), AllP.mono e' h3⟩) ?_
  rw [← hl]
  refine (walk_tup (K := K) (a := a) (xs := vs)).mono (fun _ g => g.1) fun i Ha x Hb hi g y => ?_
  obtain ⟨y1, y2⟩ := y
  rw [y1]
  exact ⟨Ex.refl _, allP_at g.2 y2⟩
theorem e_dT {te : TE} {ds : List Dv} (h : E te σ H (vD (.t ds))) : E te σ H (vT (ds.map vD)) := h.weak fun _ _ _ p => vT_vD.2 p
theorem e_Td {te : TE} {ds : List Dv} (h : E te σ H (vT (ds.map vD))) : E te σ H (vD (.t ds)) := h.weak fun _ _ _ p => vT_vD.1 p
theorem src_tupD {ds : List Dv} (h : E tl σ H (vD (.t ds))) : Src (iTup K tl) σ H (ds.map vD) := src_tup (e_dT h)
abbrev rgP (n : Nat) : List VP := (List.range n).map fun i => vI (i : Nat)
theorem src_range {ta : TA} {n : Nat} (h : A ta σ H [vI n]) (hn : n ≤ 10000000) : Src (iRng1 ta) σ H (rgP n) := fun H1 e Rr q => h H1 e _ fun vs H2 e2 ⟨v, r, h1, h2, h3⟩ => by
  rw [show v = .int n from h2, show r = [] from h3] at h1
  refine ⟨(n : Int), h1, by omega, by omega, ?_⟩
  refine q _ H2 (fun _ => True) e2 (fun _ _ => trivial) ?_
  have hl : (rgP n).length = (n : Int).toNat := by unfold rgP; simp
  rw [hl]
  refine (walk_range (lo := 0) (n := (n : Int).toNat)).mono (fun _ g => trivial) fun i Ha x Hb hi g y => ?_
  obtain ⟨y1, y2⟩ := y
  rw [y1]
  refine ⟨Ex.refl _, vI (i : Nat), ?_, ?_⟩
  · unfold rgP
    rw [List.getElem?_map, List.getElem?_range (by omega)]
    rfl
  · show x = .int i
    rw [y2]
    show V.int (0 + (i : Int)) = V.int i
    rw [Int.zero_add]

/-! ### comprehensions -/
/-- known as long as the tuples stay -/
def St' (P : VP) : Prop := ∀ v H H', Tx H H' → P.p v H → P.p v H'
theorem st_v (v : V) : St' (vV v) := fun _ _ _ _ h => h
theorem st_d (d : Dv) : St' (vD d) := fun _ _ _ e h => Is.mono e _ _ h
theorem allP_tx {H H' : Hp} (e : Tx H H') : ∀ {Ps : List VP} {vs : List V}, (∀ P ∈ Ps, St' P) → AllP Ps vs H → AllP Ps vs H'
  | [], _, _, h => h
  | P :: Ps, _, hs, ⟨v, r, h1, h2, h3⟩ => ⟨v, r, h1, hs P List.mem_cons_self v H H' e h2, allP_tx e (fun P hP => hs P (List.mem_cons_of_mem _ hP)) h3⟩
theorem allP_snoc {H : Hp} {P : VP} {y : V} : ∀ {Ps : List VP} {vs : List V}, AllP Ps vs H → P.p y H → AllP (Ps ++ [P]) (vs ++ [y]) H
  | [], _, h, k => by
    rw [show _ = [] from h]
    exact ⟨y, [], rfl, k, rfl⟩
  | P :: Ps, _, ⟨v, r, h1, h2, h3⟩, k => ⟨v, r ++ [y], by rw [h1]; rfl, h2, allP_snoc h3 k⟩
/-- the state within a comprehension: the new list at D holds what was given -/
def Lc (H1 : Hp) (D : Addr) (Ps : List VP) (H' : Hp) : Prop := H1 D = none ∧ Ex H1 H' ∧ ∃ acc, H' D = some (.lst acc) ∧ AllP Ps acc H'
theorem lc_start {H1 : Hp} {D : Addr} (h : H1 D = none) : Lc H1 D [] (upd H1 D (.lst [])) := ⟨h, Ex.new h, [], upd_same, rfl⟩
theorem lc_give {H1 H3 : Hp} {D : Addr} {te : TE} {σ2 : L2.St} {Nx : Hp → Prop} (p : Lc H1 D Ps H3) (hs : ∀ P ∈ Ps, St' P) {F : VP} (hF : St' F) (hz : Ps.length < 10000000) (he : E te σ2 H3 F) (k : ∀ H', Lc H1 D (Ps ++ [F]) H' → Nx H') :
    te σ2 H3 fun y H4 => ∃ acc, H4 D = some (.lst acc) ∧ acc.length < sizeLine ∧ Nx (upd H4 D (.lst (acc ++ [y]))) := by
  obtain ⟨p1, p2, acc, p3, p4⟩ := p
  refine he H3 (Ex.refl _) _ fun y H4 e4 py => ⟨acc, e4 _ _ p3, szMl (by rw [p4.length]; exact hz), k _ ⟨p1, Ex.mut (p2.trans e4) p1, acc ++ [y], upd_same, ?_⟩⟩
  have tx : Tx H4 (upd H4 D (.lst (acc ++ [y]))) := Tx.updL (e4 _ _ p3)
  exact allP_snoc (allP_tx tx hs (AllP.mono e4 p4)) (hF _ _ _ tx py)
theorem take_filter_yes {α : Type} {xs : List α} {i : Nat} {x : α} {p : α → Bool} (h : xs[i]? = some x) (hp : p x = true) : (xs.take (i + 1)).filter p = (xs.take i).filter p ++ [x] := by
  rw [List.take_add_one, h]
  simp [hp]
theorem take_filter_no {α : Type} {xs : List α} {i : Nat} {x : α} {p : α → Bool} (h : xs[i]? = some x) (hp : p x = false) : (xs.take (i + 1)).filter p = (xs.take i).filter p := by
  rw [List.take_add_one, h]
  simp [hp]
/-- [te for .. in wi if t] -/
theorem en_lc {α : Type} {wi : TI} {g : TG} {t : TT} {te : TE} {vs : List Nat} (xs : List α) (P F : α → VP) (p : α → Bool) (h : Src wi σ H (xs.map P)) (hz : xs.length ≤ 10000000) (hF : ∀ x ∈ xs, St' (F x))
    (hg : ∀ x ∈ xs, ∀ v H1, Ex H H1 → (P x).p v H1 → ∀ Q : L2.St → Hp → Prop, (∀ σ2, wipe σ2 vs = wipe σ vs → EvT t σ2 H1 (p x) → (p x = true → E te σ2 H1 (F x)) → Q σ2 H1) → g v (wipe σ vs) H1 Q) :
    EN (tLc wi g t te vs) σ H ((xs.filter p).map F) := fun H0 e0 Q q => h H0 e0 _ fun J H1 G e1 hG w => fun D hD =>
  lc_it w (Pv := fun i H' => Lc H1 D (((xs.take i).filter p).map F) H') (by simpa using lc_start hD) (fun i H' _ pv => hG H' pv.2.1) (fun i x Ha Hb hi pv y => by
    obtain ⟨y1, P0, y2, y3⟩ := y
    rw [List.getElem?_map] at y2
    obtain ⟨x0, hx0, rfl⟩ := Option.map_eq_some_iff.1 y2
    have hm : x0 ∈ xs := List.mem_of_getElem? hx0
    have pv' : Lc H1 D (((xs.take i).filter p).map F) Hb := by
      obtain ⟨a1, a2, acc, a3, a4⟩ := pv
      exact ⟨a1, a2.trans y1, acc, y1 _ _ a3, AllP.mono y1 a4⟩
    have exb : Ex H Hb := (e0.trans e1).trans (pv.2.1.trans y1)
    refine hg x0 hm x Hb exb y3 _ fun σ2 hw ht he => ⟨hw, ht Hb (Ex.refl _) _ fun H3 e3 => ?_⟩
    have pv3 : Lc H1 D (((xs.take i).filter p).map F) H3 := by
      obtain ⟨a1, a2, acc, a3, a4⟩ := pv'
      exact ⟨a1, a2.trans e3, acc, e3 _ _ a3, AllP.mono e3 a4⟩
    cases hp : p x0 with
    | true =>
      rw [if_pos rfl]
      refine lc_give pv3 (fun P hP => ?_) (hF x0 hm) ?_ ((he hp).mono e3) fun H' l => ?_
      · obtain ⟨z, hz, rfl⟩ := List.mem_map.1 hP
        exact hF z (List.mem_of_mem_take (List.mem_filter.1 hz).1)
      · rw [List.length_map]
        have a1 := List.length_filter_le p (xs.take i)
        have a2 : (xs.take i).length = i := by
          rw [List.length_take]
          have := (List.getElem?_eq_some_iff.1 hx0).1
          omega
        rw [List.length_map] at hi
        omega
      · rw [take_filter_yes hx0 hp, List.map_append]
        exact l
    | false =>
      rw [if_neg Bool.false_ne_true, take_filter_no hx0 hp]
      exact pv3) fun H' pv => by
    obtain ⟨a1, a2, acc, a3, a4⟩ := pv
    rw [List.length_map, List.take_length] at a4
    exact q D acc H' (by
      have := a1
      exact fresh_back e1 a1) (e1.trans a2) a3 a4
/-- the target a name; no test -/
theorem en_lc1 {α : Type} {wi : TI} {te : TE} {vs : List Nat} {j : Nat} (xs : List α) (P F : α → VP) (h : Src wi σ H (xs.map P)) (hz : xs.length ≤ 10000000) (hF : ∀ x ∈ xs, St' (F x)) (hw : ∀ v, wipe ((wipe σ vs).set j (some v)) vs = wipe σ vs)
    (he : ∀ x ∈ xs, ∀ v H1, Ex H H1 → (P x).p v H1 → E te ((wipe σ vs).set j (some v)) H1 (F x)) : EN (tLc wi (gName j) tYes te vs) σ H (xs.map F) := by
  have := en_lc (g := gName j) (t := tYes) (te := te) (vs := vs) xs P F (fun _ => true) h hz hF fun x hx v H1 e p Q q => q _ (hw v) (fun H2 _ Q' q' => q' H2 (Ex.refl _)) fun _ => he x hx v H1 e p
  rw [List.filter_eq_self.2 fun _ _ => rfl] at this
  exact this
/-- the target a name; one test -/
theorem en_lcIf {α : Type} {wi : TI} {t : TT} {te : TE} {vs : List Nat} {j : Nat} (xs : List α) (P F : α → VP) (p : α → Bool) (h : Src wi σ H (xs.map P)) (hz : xs.length ≤ 10000000) (hF : ∀ x ∈ xs, St' (F x)) (hw : ∀ v, wipe ((wipe σ vs).set j (some v)) vs = wipe σ vs)
    (ht : ∀ x ∈ xs, ∀ v H1, Ex H H1 → (P x).p v H1 → EvT t ((wipe σ vs).set j (some v)) H1 (p x)) (he : ∀ x ∈ xs, ∀ v H1, Ex H H1 → (P x).p v H1 → p x = true → E te ((wipe σ vs).set j (some v)) H1 (F x)) : EN (tLc wi (gName j) t te vs) σ H ((xs.filter p).map F) :=
  en_lc (g := gName j) (t := t) (te := te) (vs := vs) xs P F p h hz hF fun x hx v H1 e pv Q q => q _ (hw v) (ht x hx v H1 e pv) (he x hx v H1 e pv)

/-! what stays walked while lists that were there before are changed -/
def ExB (D : Addr) (H H' : Hp) : Prop := ∀ a o, a ≠ D → H a = some o → H' a = some o
theorem ExB.refl (D : Addr) (H : Hp) : ExB D H H := fun _ _ _ h => h
theorem ExB.trans {D : Addr} {H H1 H2 : Hp} (a : ExB D H H1) (b : ExB D H1 H2) : ExB D H H2 := fun x o n h => b x o n (a x o n h)
theorem Ex.b {D : Addr} {H H' : Hp} (e : Ex H H') : ExB D H H' := fun a o _ h => e a o h
theorem ExB.upd {D : Addr} {H : Hp} {o : HO} : ExB D H (L2.upd H D o) := fun a u n h => by rw [upd_ne n]; exact h
/-- the objects that were made from H1 to H2 are kept -/
def NewK (H1 H2 H' : Hp) : Prop := ∀ a o, H1 a = none → H2 a = some o → H' a = some o
theorem ExB.newK {D : Addr} {H1 H2 H' : Hp} {u : HO} (hd : H1 D = some u) (e : ExB D H2 H') : NewK H1 H2 H' := fun a o h1 h2 => e a o (fun z => by rw [z, hd] at h1; cases h1) h2
def SrcT (wi : TI) (σ : L2.St) (H : Hp) (Ps : List VP) : Prop := ∀ H1, Ex H H1 → ∀ Rr : It → Hp → Prop,
  (∀ J H2 (G : Hp → Prop), Ex H1 H2 → (∀ H', NewK H1 H2 H' → Tx H2 H' → G H') → Walk J Ps.length G (YP Ps) → Rr J H2) → wi σ H1 Rr
/-- the same, and a turn makes nothing -/
def YP0 (Ps : List VP) : Nat → Hp → V → Hp → Prop := fun i Ha x Hb => Hb = Ha ∧ ∃ P, Ps[i]? = some P ∧ P.p x Ha
def Src0 (wi : TI) (σ : L2.St) (H : Hp) (Ps : List VP) : Prop := ∀ H1, Ex H H1 → ∀ Rr : It → Hp → Prop,
  (∀ J H2 (G : Hp → Prop), Ex H1 H2 → (∀ H', NewK H1 H2 H' → Tx H2 H' → G H') → Walk J Ps.length G (YP0 Ps) → Rr J H2) → wi σ H1 Rr
theorem Src0.t {wi : TI} (h : Src0 wi σ H Ps) : SrcT wi σ H Ps := fun H1 e Rr q => h H1 e Rr fun J H2 G e2 hG w => q J H2 G e2 hG (w.mono (fun _ g => g) fun i Ha x Hb _ _ y => by
  obtain ⟨y1, y2⟩ := y
  rw [y1]
  exact ⟨Ex.refl _, y2⟩)
theorem SrcT.src {wi : TI} (h : SrcT wi σ H Ps) : Src wi σ H Ps := fun H1 e Rr q => h H1 e Rr fun J H2 G e2 hG w => q J H2 G e2 (fun H' e' => hG H' (fun a o _ h => e' a o h) (Ex.tx e')) w
theorem src0_tup {ds : List Dv} (h : E tl σ H (vD (.t ds))) : Src0 (iTup K tl) σ H (ds.map vD) := fun H1 e Rr q => h H1 e _ fun v H2 e2 p => by
  obtain ⟨a, vs, h1, h2, h3⟩ := is_t.1 p
  refine ⟨a, h1, ⟨vs, st_of h2⟩, ?_⟩
  have hl := h3.length
  refine q _ H2 (fun H' => SqT K H' a vs ∧ AllP (ds.map vD) vs H') e2 (fun H' _ tx => ⟨st_of (tx.tup h2), allP_isAll.2 (IsAll.mono tx _ _ h3)⟩) ?_
  rw [List.length_map, ← hl]
  refine (walk_tup (K := K) (a := a) (xs := vs)).mono (fun _ g => g.1) fun i Ha x Hb hi g y => ?_
  obtain ⟨y1, y2⟩ := y
  exact ⟨y1, allP_at g.2 y2⟩
theorem src0_new (h : EN tl σ H Ps) (hs : ∀ P ∈ Ps, St' P) : Src0 (iList K tl) σ H Ps := fun H1 e Rr q => h H1 e _ fun a vs H2 h1 e2 h2 h3 => by
  refine ⟨a, rfl, ⟨vs, sq_of h2⟩, ?_⟩
  have hl := h3.length
  refine q _ H2 (fun H' => SqL K H' a vs ∧ AllP Ps vs H') e2 (fun H' nk tx => ⟨sq_of (nk _ _ h1 h2), allP_tx tx hs h3⟩) ?_
  rw [← hl]
  refine (walk_list (K := K) (a := a) (xs := vs)).mono (fun _ g => g.1) fun i Ha x Hb hi g y => ?_
  obtain ⟨y1, y2⟩ := y
  exact ⟨y1, allP_at g.2 y2⟩
theorem src0_range {ta : TA} {n : Nat} (h : A ta σ H [vI n]) (hn : n ≤ 10000000) : Src0 (iRng1 ta) σ H (rgP n) := fun H1 e Rr q => h H1 e _ fun vs H2 e2 ⟨v, r, h1, h2, h3⟩ => by
  rw [show v = .int n from h2, show r = [] from h3] at h1
  refine ⟨(n : Int), h1, by omega, by omega, ?_⟩
  refine q _ H2 (fun _ => True) e2 (fun _ _ _ => trivial) ?_
  have hl : (rgP n).length = (n : Int).toNat := by unfold rgP; simp
  rw [hl]
  refine (walk_range (lo := 0) (n := (n : Int).toNat)).mono (fun _ g => trivial) fun i Ha x Hb hi g y => ?_
  obtain ⟨y1, y2⟩ := y
  refine ⟨y1, vI (i : Nat), ?_, ?_⟩
  · unfold rgP
    rw [List.getElem?_map, List.getElem?_range (by omega)]
    rfl
  · show x = .int i
    rw [y2]
    show V.int (0 + (i : Int)) = V.int i
    rw [Int.zero_add]
theorem t_yes {f : Bool → Hp → Prop} {σ : L2.St} {H : Hp} (h : f true H) : tYes σ H f := h
/-- H2 extends H, and what is known of tuples and plain values at H1 is known at H2 -/
def ExC (H H1 H2 : Hp) : Prop := Ex H H2 ∧ ∀ (P : VP) (v : V), St' P → P.p v H1 → P.p v H2
/-- [te for .. in wi for .. in wi1] -/
theorem en_lc2 {α β : Type} {wi wi1 : TI} {g g1 : TG} {te : TE} {vs vs1 : List Nat} (xs : List α) (P : α → VP) (ys : α → List β) (P1 F : α → β → VP) (h : Src wi σ H (xs.map P)) (hz : (xs.flatMap ys).length ≤ 10000000) (hF : ∀ x ∈ xs, ∀ y ∈ ys x, St' (F x y))
    (hg : ∀ x ∈ xs, ∀ v H1, Ex H H1 → (P x).p v H1 → ∀ Q : L2.St → Hp → Prop, (∀ σ2, wipe σ2 vs = wipe σ vs → SrcT wi1 σ2 H1 ((ys x).map (P1 x)) →
      (∀ y ∈ ys x, ∀ u H2, ExC H H1 H2 → (P1 x y).p u H2 → ∀ Q1 : L2.St → Hp → Prop, (∀ σ3, wipe σ3 vs1 = wipe σ2 vs1 → E te σ3 H2 (F x y) → Q1 σ3 H2) → g1 u (wipe σ2 vs1) H2 Q1) → Q σ2 H1) → g v (wipe σ vs) H1 Q) :
    EN (tLc2 wi g tYes wi1 g1 tYes te vs vs1) σ H (xs.flatMap fun x => (ys x).map (F x)) := fun H0 e0 Q q => h H0 e0 _ fun J H1 G e1 hG w => fun D hD => by
  have up : ∀ {Ps : List VP} {Ha Hb : Hp}, Ex Ha Hb → Lc H1 D Ps Ha → Lc H1 D Ps Hb := fun e ⟨a1, a2, acc, a3, a4⟩ => ⟨a1, a2.trans e, acc, e _ _ a3, AllP.mono e a4⟩
  refine ⟨fun i m H' => m = xs.length - i ∧ i ≤ xs.length ∧ Lc H1 D ((xs.take i).flatMap fun x => (ys x).map (F x)) H', ⟨_, rfl, Nat.zero_le _, by simpa using lc_start hD⟩, ?_⟩
  rintro i m Ha ⟨rfl, hi, pv⟩
  have wl : (xs.map P).length = xs.length := List.length_map ..
  rw [wl] at w
  by_cases hlt : i < xs.length
  · refine .inr ⟨w.goes i Ha hlt (hG Ha pv.2.1), fun H' => Lc H1 D ((xs.take (i + 1)).flatMap fun x => (ys x).map (F x)) H', fun H' p' => ⟨xs.length - (i + 1), by omega, rfl, hlt, p'⟩, fun x Hb y => ?_⟩
    obtain ⟨y1, P0, y2, y3⟩ := w.yields i Ha x Hb hlt (hG Ha pv.2.1) y
    rw [List.getElem?_map] at y2
    obtain ⟨x0, hx0, rfl⟩ := Option.map_eq_some_iff.1 y2
    have hm : x0 ∈ xs := List.mem_of_getElem? hx0
    have pvb := up y1 pv
    have tk : (xs.take (i + 1)).flatMap (fun x => (ys x).map (F x)) = ((xs.take i).flatMap fun x => (ys x).map (F x)) ++ (ys x0).map (F x0) := by
      rw [List.take_add_one, hx0]
      simp
    have hsub : ∀ j, (((xs.take i).flatMap fun x => (ys x).map (F x)) ++ ((ys x0).take j).map (F x0)).length ≤ (xs.flatMap ys).length := by
      intro j
      have h1 : (((xs.take (i + 1)).flatMap ys) ++ ((xs.drop (i + 1)).flatMap ys)).length = (xs.flatMap ys).length := by rw [← List.flatMap_append, List.take_append_drop]
      have h2 : (xs.take (i + 1)).flatMap ys = (xs.take i).flatMap ys ++ ys x0 := by rw [List.take_add_one, hx0]; simp
      have h3 : ((xs.take i).flatMap fun x => (ys x).map (F x)).length = ((xs.take i).flatMap ys).length := by simp [List.length_flatMap]
      rw [h2] at h1
      simp only [List.length_append, List.length_map, List.length_take, h3] at h1 ⊢
      omega
    have hst : ∀ j, ∀ P ∈ ((xs.take i).flatMap fun x => (ys x).map (F x)) ++ ((ys x0).take j).map (F x0), St' P := by
      intro j P hP
      rcases List.mem_append.1 hP with h | h
      · obtain ⟨z, hz, h⟩ := List.mem_flatMap.1 h
        obtain ⟨u, hu, rfl⟩ := List.mem_map.1 h
        exact hF z (List.mem_of_mem_take hz) u hu
      · obtain ⟨u, hu, rfl⟩ := List.mem_map.1 h
        exact hF x0 hm u (List.mem_of_mem_take hu)
    refine hg x0 hm x Hb ((e0.trans e1).trans (pv.2.1.trans y1)) y3 _ fun σ2 hw hs1 hb => ⟨hw, ?_⟩
    refine t_yes ?_
    rw [if_pos rfl]
    refine hs1 Hb (Ex.refl _) _ fun J1 H4 G1 e4 hG1 w1 => ?_
    have pv4 := up e4 pvb
    have wl1 : ((ys x0).map (P1 x0)).length = (ys x0).length := List.length_map ..
    rw [wl1] at w1
    obtain ⟨bacc, hbD, _⟩ := pvb.2.2
    refine ⟨fun j k H' => k = (ys x0).length - j ∧ j ≤ (ys x0).length ∧ ExB D H4 H' ∧ Tx H4 H' ∧ Lc H1 D (((xs.take i).flatMap fun x => (ys x).map (F x)) ++ ((ys x0).take j).map (F x0)) H', ⟨_, rfl, Nat.zero_le _, ExB.refl _ _, Tx.refl _, by simpa using pv4⟩, ?_⟩
    rintro j k Hc ⟨rfl, hj, eb, tx, pc⟩
    have g1c : G1 Hc := hG1 Hc (eb.newK hbD) tx
    by_cases hjl : j < (ys x0).length
    · refine .inr ⟨w1.goes j Hc hjl g1c, fun H' => ExB D H4 H' ∧ Tx H4 H' ∧ Lc H1 D (((xs.take i).flatMap fun x => (ys x).map (F x)) ++ ((ys x0).take (j + 1)).map (F x0)) H', fun H' p' => ⟨(ys x0).length - (j + 1), by omega, rfl, hjl, p'⟩, fun u Hd yy => ?_⟩
      obtain ⟨z1, P2, z2, z3⟩ := w1.yields j Hc u Hd hjl g1c yy
      rw [List.getElem?_map] at z2
      obtain ⟨y0, hy0, rfl⟩ := Option.map_eq_some_iff.1 z2
      have hym : y0 ∈ ys x0 := List.mem_of_getElem? hy0
      refine hb y0 hym u Hd ⟨(e0.trans e1).trans (pc.2.1.trans z1), fun P v hS hp => hS v Hb Hd ((Ex.tx e4).trans (tx.trans (Ex.tx z1))) hp⟩ z3 _ fun σ3 hw3 he => ⟨hw3, ?_⟩
      refine t_yes ?_
      rw [if_pos rfl]
      have pd := up z1 pc
      obtain ⟨p1, p2, acc, p3, p4⟩ := pd
      refine he Hd (Ex.refl _) _ fun y5 H5 e5 py => ⟨acc, e5 _ _ p3, szMl ?_, ?_, ?_, p1, Ex.mut (p2.trans e5) p1, acc ++ [y5], upd_same, ?_⟩
      · rw [p4.length]
        have := hsub (j + 1)
        have h2 : (((ys x0).take (j + 1)).map (F x0)).length = (((ys x0).take j).map (F x0)).length + 1 := by
          simp only [List.length_map, List.length_take]
          omega
        simp only [List.length_append, h2] at this ⊢
        omega
      · exact (eb.trans (Ex.b (z1.trans e5))).trans ExB.upd
      · exact (tx.trans (Ex.tx (z1.trans e5))).trans (Tx.updL (e5 _ _ p3))
      · have t5 : Tx H5 (upd H5 D (.lst (acc ++ [y5]))) := Tx.updL (e5 _ _ p3)
        have tk2 : ((ys x0).take (j + 1)).map (F x0) = ((ys x0).take j).map (F x0) ++ [F x0 y0] := by
          rw [List.take_add_one, hy0]
          simp
        rw [tk2, ← List.append_assoc]
        exact allP_snoc (allP_tx t5 (hst j) (AllP.mono e5 p4)) (hF x0 hm y0 hym _ _ _ t5 py)
    · have e : j = (ys x0).length := by omega
      subst e
      refine .inl ⟨w1.stops Hc g1c, ?_⟩
      rw [List.take_length] at pc
      rw [tk]
      exact pc
  · have e : i = xs.length := by omega
    subst e
    refine .inl ⟨w.stops Ha (hG Ha pv.2.1), ?_⟩
    obtain ⟨a1, a2, acc, a3, a4⟩ := pv
    rw [List.take_length] at a4
    exact q D acc Ha (fresh_back e1 a1) (e1.trans a2) a3 a4
end
end K37
set_option Elab.async false
set_option linter.all false
set_option maxRecDepth 100000
set_option maxHeartbeats 1000000
/-! E3: statements, loops, defs. -/
namespace K37
open PySem L2 Evl

theorem NewK.trans {H H1 H2 H3 : Hp} (a : NewK H H1 H2) (b : NewK H H2 H3) : NewK H H1 H3 := fun x o h1 h2 => b x o h1 (a x o h1 h2)
theorem Ex.nk {H H1 H2 : Hp} (e : Ex H1 H2) : NewK H H1 H2 := fun a o _ h => e a o h
section
variable {σ : L2.St} {H : Hp} {te : TE} {t : TT} {P : VP} {Ps : List VP} {D : Ends} {tu tw : TS} {wi : TI} {g : TG}
theorem x_asg {i : Nat} (h : E te σ H P) (k : ∀ v H1, Ex H H1 → P.p v H1 → D.nx (σ.set i (some v)) H1) : tAsg te (gName i) D σ H := h H (Ex.refl H) _ k
theorem x_asgN {i : Nat} (h : EN te σ H Ps) (k : ∀ p vs H1, H p = none → Ex H H1 → H1 p = some (.lst vs) → AllP Ps vs H1 → D.nx (σ.set i (some (.ref p))) H1) : tAsg te (gName i) D σ H := h H (Ex.refl H) _ k
theorem x_ret (h : E te σ H P) (k : ∀ v H1, Ex H H1 → P.p v H1 → D.rt v H1) : tRet te D σ H := h H (Ex.refl H) _ k
theorem x_if {b : Bool} (h : EvT t σ H b) (h1 : b = true → ∀ H1, Ex H H1 → tu D σ H1) (h2 : b = false → ∀ H1, Ex H H1 → tw D σ H1) : tIfS t tu tw D σ H := s_if h h1 h2
theorem x_drop (h : E te σ H P) (k : ∀ v H1, Ex H H1 → P.p v H1 → D.nx σ H1) : tDrop te D σ H := h H (Ex.refl H) _ k
theorem split_at {α : Type} {xs : List α} {i : Nat} {x : α} (h : xs[i]? = some x) : xs = xs.take i ++ x :: xs.drop (i + 1) ∧ xs.take (i + 1) = xs.take i ++ [x] := by
  have hlt := (List.getElem?_eq_some_iff.1 h).1
  have h1 : xs.drop i = x :: xs.drop (i + 1) := by
    rw [List.drop_eq_getElem_cons hlt]
    rw [List.getElem?_eq_getElem hlt] at h
    cases h
    rfl
  refine ⟨by rw [← h1, List.take_append_drop], ?_⟩
  rw [List.take_add_one, h]
  rfl
/-- a for; what was made for its source is kept, and so are tuples -/
theorem x_for {α : Type} (xs : List α) (Pa : α → VP) (h : Src0 wi σ H (xs.map Pa)) (Pv : List α → L2.St → Hp → Prop) (h0 : ∀ H1, Ex H H1 → Pv [] σ H1)
    (hs : ∀ pre x post, xs = pre ++ x :: post → ∀ v σ' H', (Pa x).p v H' → Pv pre σ' H' → ∀ N : L2.St → Hp → Prop, (∀ σ3 H3, Tx H' H3 → NewK H H' H3 → Pv (pre ++ [x]) σ3 H3 → N σ3 H3) → g v σ' H' fun σ2 H2 => tu { D with nx := N, ct := N, bk := D.nx } σ2 H2)
    (hd : ∀ σ' H', Pv xs σ' H' → D.nx σ' H') : tFor wi g tu D σ H := h H (Ex.refl H) _ fun J H2 G e2 hG w => by
  refine ⟨fun i m σ' H' => m = xs.length - i ∧ i ≤ xs.length ∧ Tx H2 H' ∧ NewK H H2 H' ∧ Pv (xs.take i) σ' H', ⟨_, rfl, Nat.zero_le _, Tx.refl _, fun _ _ _ h => h, by rw [List.take_zero]; exact h0 _ e2⟩, ?_⟩
  rintro i m σ' Ha ⟨rfl, hi, tx, nk, pv⟩
  rw [List.length_map] at w
  have gA := hG Ha nk tx
  by_cases hlt : i < xs.length
  · refine .inr ⟨w.goes i Ha hlt gA, fun σ3 H3 => Tx H2 H3 ∧ NewK H H2 H3 ∧ Pv (xs.take (i + 1)) σ3 H3, fun σ3 H3 p => ⟨xs.length - (i + 1), by omega, rfl, hlt, p⟩, fun x Hb y => ?_⟩
    obtain ⟨y1, P0, y2, y3⟩ := w.yields i Ha x Hb hlt gA y
    rw [List.getElem?_map] at y2
    obtain ⟨x0, hx0, rfl⟩ := Option.map_eq_some_iff.1 y2
    obtain ⟨s1, s2⟩ := split_at hx0
    rw [y1]
    refine hs _ x0 _ s1 x σ' Ha y3 pv _ fun σ3 H3 t3 n3 p3 => ⟨tx.trans t3, nk.trans n3, ?_⟩
    rw [s2]
    exact p3
  · have e : i = xs.length := by omega
    subst e
    rw [List.take_length] at pv
    exact .inl ⟨w.stops Ha gA, hd _ _ pv⟩
/-- the usual: the target a name -/
theorem x_forN {α : Type} {j : Nat} (xs : List α) (Pa : α → VP) (h : Src0 wi σ H (xs.map Pa)) (Pv : List α → L2.St → Hp → Prop) (h0 : ∀ H1, Ex H H1 → Pv [] σ H1)
    (hs : ∀ pre x post, xs = pre ++ x :: post → ∀ v σ' H', (Pa x).p v H' → Pv pre σ' H' → ∀ N : L2.St → Hp → Prop, (∀ σ3 H3, Tx H' H3 → NewK H H' H3 → Pv (pre ++ [x]) σ3 H3 → N σ3 H3) → tu { D with nx := N, ct := N, bk := D.nx } (σ'.set j (some v)) H')
    (hd : ∀ σ' H', Pv xs σ' H' → D.nx σ' H') : tFor wi (gName j) tu D σ H := x_for xs Pa h Pv h0 hs hd
end

/-! ### defs -/
section
variable (P : Program) (w : World) (K : PySem.W.Frag) (mg : Str → Option Value) (base : Heap)
/-- a def that stands in the module under its name -/
def Df (x : Str) (st : Stmt) (ds : List V) : Prop := ∃ f fd, FnP K x st ds f fd ∧ mg x = some (.ref f)
/-- a def that may be called: its promise sp, its parameters ps, of which the last have the defaults dvs -/
def Cb (x : Str) (k : Nat) (ps : List Str) (dvs : List V) (sp : Sp) : Prop := ∃ f fd ds, FnOk P w K mg base CX0 k f fd ps sp ∧ mg x = some (.ref f) ∧ PySem.W.keepIn K (.ref f) = true ∧ Binds K fd ps ds ∧ Vals dvs ds
/-- the names that are still the built-ins -/
def Bi : Prop := ∀ x ∈ (["len", "tuple", "range", "sorted", "set", "list", "min", "max", "all", "any", "zip", "isinstance", "dict", "str", "int", "repr", "bool"] : List Str), mg x = none
end
section
variable {P : Program} {w : World} {K : PySem.W.Frag} {mg : Str → Option Value} {base : Heap}
theorem Bi.g (B : Bi mg) {x : Str} (h : x ∈ (["len", "tuple", "range", "sorted", "set", "list", "min", "max", "all", "any", "zip", "isinstance", "dict", "str", "int", "repr", "bool"] : List Str) := by decide) : mg x = none := B x h
/-- the rule for a def whose promise is spF; no defaults -/
theorem Df.ok {x : Str} {st : Stmt} {N ps : List Str} {k : Nat} {α : Type} {args : α → List VP} {cond : α → Prop} {res : α → VP} (F : Df K mg x st []) (S : FnScope N ps (defScope st)) (hl : ∀ a, (args a).length = ps.length)
    (hb : ∀ (kV doc pm : Value) (an : Option Addr) (cdv ct : Value) (us : List Value), us.length = ps.length → bindArgs (PySem.W.fnOf x x (defArgs st) (defBody st) (defScope st) .none kV doc pm an cdv ct) ⟨us, []⟩ = pure (ps.zip us))
    (hbody : ∀ (f : Addr) (cdv : Value) (A : Around) (outer : List Env) (s : Shared) (H : Hp) (Ex' : XK), Room k (A.deeper (PyProof.Rows.envOfC x (defScope st) s.heap.objs.size f cdv)) →
      ∃ t, PSs (cxOf CX0 P w K mg base N x (defScope st) f cdv A outer s H Ex').nox (defBody st) t ∧ ∀ a vs, AllP (args a) vs H → cond a → ∀ Q : VK, (∀ v H', Ex H H' → (res a).p v H' → Q v H') → t { nx := fun _ H' => Q .non H', rt := Q } (start N vs) H) : Cb P w K mg base x (k + 1) ps [] (spF args cond res) := by
  obtain ⟨f, fd, F, hm⟩ := F
  refine ⟨f, fd, [], FunD.ok F S (fun vs H Q E h => ?_) (fun cdv A outer s H vs Q E hr h => ?_), hm, F.kp, FunD.bindsN F hb, .nil⟩
  · obtain ⟨a, h1, _⟩ := h
    rw [h1.length, hl]
  · obtain ⟨t, h1, h2⟩ := hbody f cdv A outer s H E hr
    obtain ⟨a, h3, h4, h5⟩ := h
    exact ⟨t, PSs.nox h1, h2 a vs h3 h4 Q h5⟩
section
variable {X : Cx} {x : Str} {k : Nat} {ps : List Str} {dvs : List V} {sp : Sp} {p pos : Pos} {e : Expr} {es : List Expr} {t : TA}
theorem pe_cb (C : Cb X.prog X.w X.K X.mg X.base x k ps dvs sp) (hr : Room k X.A) (hg : Gl X x) (ha : PA X (e :: es) t) (hdb : (x == ("__debug__" : Str)) = false := by decide)
    (he : starEach (e :: es) X.env = (false, eval e X.env) :: starEach es X.env := by rfl) (hpl : (backTo pos (starEach es X.env)).any (·.1) = false := by rfl) : PE X (.Call (.Name x p) (e :: es) [] pos) (tCall sp dvs E0 t) := by
  obtain ⟨f, fd, ds, h1, h2, h3, h4, h5⟩ := C
  exact pe_call h1 hr hg h2 h3 h4 h5 pass0 ha hdb he hpl
end
end
end K37
set_option Elab.async false
set_option linter.all false
set_option maxRecDepth 100000
set_option maxHeartbeats 1000000
/-! E4: the layer's rules with the written part named (so that they stand within comprehensions). -/
namespace K37
open PySem L2 Evl
section
variable (K : PySem.W.Frag) {mg : Str → Option Value} {X : Cx} {a b e : Expr} {es : List Expr} {ta tb te tl : TE} {t : TA} {pos p : Pos} {tg : Expr}
theorem ixT (ha : PE X a ta) (hb : PE X b tb) (hK : X.K = K := by rfl) (hs : PlainIx b := by exact fun _ _ => rfl) : PE X (.Subscript a b pos) (tOp (rIxT K) ta tb) := by
  subst hK
  exact pe_ix ix_tup ha hb hs
theorem ixL (ha : PE X a ta) (hb : PE X b tb) (hK : X.K = K := by rfl) (hs : PlainIx b := by exact fun _ _ => rfl) : PE X (.Subscript a b pos) (tOp (rIxL K) ta tb) := by
  subst hK
  exact pe_ix ix_list ha hb hs
theorem itT (h : PE X e tl) (hK : X.K = K := by rfl) : PI X tg e (iTup K tl) := by
  subst hK
  exact pi_tup h
theorem itL (h : PE X e tl) (hK : X.K = K := by rfl) : PI X tg e (iList K tl) := by
  subst hK
  exact pi_list h
theorem bTup (B : Bi mg) (ha : PE X a ta) (hK : X.K = K := by rfl) (hM : X.mg = mg := by rfl) (hg : Gl X "tuple" := by rfl) (he : starEach [a] X.env = (false, eval a X.env) :: starEach [] X.env := by rfl) (hpl : (backTo pos (starEach [] X.env)).any (·.1) = false := by rfl) :
    PE X (.Call (.Name "tuple" p) [a] [] pos) (tCB (rTupOf K) (tCons ta tNil)) := by
  subst hK hM
  exact pe_callTy call_tuple_of hg B.g PyProof.Rows.boot_tuple (pa_cons ha pa_nil he) (he := he) (hpl := hpl)
theorem bLen (B : Bi mg) (ha : PE X a ta) (hK : X.K = K := by rfl) (hM : X.mg = mg := by rfl) (hg : Gl X "len" := by rfl) (he : starEach [a] X.env = (false, eval a X.env) :: starEach [] X.env := by rfl) (hpl : (backTo pos (starEach [] X.env)).any (·.1) = false := by rfl) :
    PE X (.Call (.Name "len" p) [a] [] pos) (tCB (rLenS K) (tCons ta tNil)) := by
  subst hK hM
  exact pe_callB call_len_seq hg B.g PySem.boot_len (pa_cons ha pa_nil he) (he := he) (hpl := hpl)
theorem itRg (B : Bi mg) (ha : PE X a ta) (hM : X.mg = mg := by rfl) (hg : Gl X "range" := by rfl) (he : starEach [a] X.env = (false, eval a X.env) :: starEach [] X.env := by rfl) : PI X tg (.Call (.Name "range" p) [a] [] pos) (iRng1 (tCons ta tNil)) := by
  subst hM
  exact pi_range1 hg B.g (pa_cons ha pa_nil he) he
/-- tuple(range(n)), list(range(n)) -/
theorem bTupRg {q : Pos} (B : Bi mg) (ha : PE X a ta) (hc : X.calm = true := by rfl) (hM : X.mg = mg := by rfl) (hg : Gl X "tuple" := by rfl) (hg2 : Gl X "range" := by rfl) (he : starEach [a] X.env = (false, eval a X.env) :: starEach [] X.env := by rfl) (na : starEach [.Call (.Name "range" q) [a] [] pos] X.env = (false, eval (.Call (.Name "range" q) [a] [] pos) X.env) :: starEach [] X.env := by rfl) :
    PE X (.Call (.Name "tuple" p) [.Call (.Name "range" q) [a] [] pos] [] pos') (tTupRg (tRg1 ta)) := by
  subst hM
  exact pe_tupRg hc hg B.g (prg_1 hg2 B.g ha he) na
theorem bListRg {q : Pos} (B : Bi mg) (ha : PE X a ta) (hc : X.calm = true := by rfl) (hM : X.mg = mg := by rfl) (hg : Gl X "list" := by rfl) (hg2 : Gl X "range" := by rfl) (he : starEach [a] X.env = (false, eval a X.env) :: starEach [] X.env := by rfl) (na : starEach [.Call (.Name "range" q) [a] [] pos] X.env = (false, eval (.Call (.Name "range" q) [a] [] pos) X.env) :: starEach [] X.env := by rfl) :
    PE X (.Call (.Name "list" p) [.Call (.Name "range" q) [a] [] pos] [] pos') (tLstRg (tRg1 ta)) := by
  subst hM
  exact pe_listRg hc hg B.g (prg_1 hg2 B.g ha he) na
end
section
variable {σ : L2.St} {H : Hp} {ta : TE}
theorem rgV_ints (n : Nat) : rgV 0 n = (List.range n).map fun (i : Nat) => V.int i := by
  unfold rgV
  rw [show ((n : Int) - 0).toNat = n by omega]
  refine List.map_congr_left fun i _ => ?_
  rw [Int.zero_add]
theorem isAll_range (H : Hp) (n : Nat) : IsAll H ((List.range n).map eN) (rgV 0 n) := by
  rw [rgV_ints]
  have := IsAll.of_ints (H := H) ((List.range n).map fun (i : Nat) => (i : Int))
  rw [List.map_map, List.map_map] at this
  exact this
theorem e_tupRg {n : Nat} (h : E ta σ H (vI n)) (hn : n ≤ 10000000) : E (tTupRg (tRg1 ta)) σ H (vD (eW (List.range n))) := fun H1 e Q q =>
  h H1 e _ fun v H2 e2 p => ⟨n, p, RgOk.of_le (Int.le_refl _) (by omega) (by omega) (by omega), fun l hl => q _ _ (e2.trans (Ex.new hl)) (is_t.2 ⟨l, _, rfl, upd_same, isAll_range _ n⟩)⟩
theorem en_lstRg {n : Nat} (h : E ta σ H (vI n)) (hn : n ≤ 10000000) : EN (tLstRg (tRg1 ta)) σ H ((List.range n).map fun i => vD (eN i)) := fun H1 e Q q =>
  h H1 e _ fun v H2 e2 p => ⟨n, p, RgOk.of_le (Int.le_refl _) (by omega) (by omega) (by omega), fun l hl => q _ _ _ (fresh_back e2 hl) (e2.trans (Ex.new hl)) upd_same (by
    have := allP_isAll.2 (isAll_range (upd H2 l (.lst (rgV 0 n))) n)
    rw [List.map_map] at this
    exact this)⟩
end
section
variable {α : Type} {K : PySem.W.Frag} {σ : L2.St} {H : Hp} {tl : TE}
theorem map_vD (xs : List α) (f : α → Dv) : (xs.map f).map vD = xs.map fun x => vD (f x) := by
  rw [List.map_map]
  rfl
theorem src0_tupE (xs : List α) (f : α → Dv) (h : E tl σ H (vD (.t (xs.map f)))) : Src0 (iTup K tl) σ H (xs.map fun x => vD (f x)) := by
  have := src0_tup (K := K) h
  rw [map_vD] at this
  exact this
theorem r_tupE (xs : List α) (f : α → Dv) : R (rTupOf K) [vL (xs.map fun x => vD (f x))] (vD (.t (xs.map f))) := by
  have := r_tup (K := K) (ds := xs.map f)
  unfold vDs at this
  rw [map_vD] at this
  exact this
theorem atI_d {ds : List Dv} {s : Nat} {d : Dv} (h : ds[s]? = some d) : atI ds (s : Int) = some d := atI_nat h
theorem getD_some {l : List α} {s : Nat} {d : α} (h : s < l.length) : l[s]? = some (l.getD s d) := by
  rw [List.getD_eq_getElem?_getD, List.getElem?_eq_getElem h]
  rfl
/-- an item of a tuple of encoded things -/
theorem atI_E {xs : List α} {f : α → Dv} {s : Nat} {d : α} (h : s < xs.length) : atI (xs.map f) (s : Int) = some (f (xs.getD s d)) := by
  refine atI_nat ?_
  rw [List.getElem?_map, getD_some (d := d) h]
  rfl
theorem atI_P {xs : List α} {f : α → VP} {s : Nat} {d : α} (h : s < xs.length) : atI (xs.map f) (s : Int) = some (f (xs.getD s d)) := by
  refine atI_nat ?_
  rw [List.getElem?_map, getD_some (d := d) h]
  rfl
end
end K37
/-! M1: orders, canonical (strictly ascending) lists, counting. Core Lean alone. -/
namespace K37

/-- a strict total order, as a Bool relation -/
structure SO {α : Type} (lt : α → α → Bool) : Prop where
  irr : ∀ a, lt a a = false
  tr : ∀ a b c, lt a b = true → lt b c = true → lt a c = true
  tri : ∀ a b, lt a b = false → lt b a = false → a = b

def Asc {α : Type} (lt : α → α → Bool) (l : List α) : Prop := l.Pairwise fun a b => lt a b = true

section
variable {α : Type} {lt : α → α → Bool}
theorem Asc.nodup (o : SO lt) {l : List α} (h : Asc lt l) : l.Nodup := by
  refine List.Pairwise.imp ?_ h
  intro a b hab e
  subst e
  rw [o.irr] at hab
  cases hab
/-- two ascending lists with the same members are one -/
theorem asc_ext (o : SO lt) : ∀ {l m : List α}, Asc lt l → Asc lt m → (∀ x, x ∈ l ↔ x ∈ m) → l = m
  | [], [], _, _, _ => rfl
  | [], b :: m, _, _, h => by
    have := (h b).2 List.mem_cons_self
    cases this
  | a :: l, [], _, _, h => by
    have := (h a).1 List.mem_cons_self
    cases this
  | a :: l, b :: m, hl, hm, h => by
    have hl' := List.pairwise_cons.1 hl
    have hm' := List.pairwise_cons.1 hm
    have e : a = b := by
      have h1 := (h a).1 List.mem_cons_self
      have h2 := (h b).2 List.mem_cons_self
      rcases List.mem_cons.1 h1 with e | h1
      · exact e
      · rcases List.mem_cons.1 h2 with e | h2
        · exact e.symm
        · have x1 := hm'.1 a h1
          have x2 := hl'.1 b h2
          have x3 := o.tr _ _ _ x1 x2
          rw [o.irr] at x3
          cases x3
    subst e
    have : l = m := asc_ext o hl'.2 hm'.2 fun x => by
      constructor
      · intro hx
        rcases List.mem_cons.1 ((h x).1 (List.mem_cons_of_mem _ hx)) with e | hx'
        · subst e
          have := hl'.1 x hx
          rw [o.irr] at this
          cases this
        · exact hx'
      · intro hx
        rcases List.mem_cons.1 ((h x).2 (List.mem_cons_of_mem _ hx)) with e | hx'
        · subst e
          have := hm'.1 x hx
          rw [o.irr] at this
          cases this
        · exact hx'
    rw [this]

/-- put into an ascending list -/
def ins (lt : α → α → Bool) (x : α) : List α → List α
  | [] => [x]
  | a :: l => if lt x a then x :: a :: l else if lt a x then a :: ins lt x l else a :: l
theorem mem_ins (o : SO lt) (x y : α) : ∀ l : List α, y ∈ ins lt x l ↔ y = x ∨ y ∈ l
  | [] => by simp [ins]
  | a :: l => by
    unfold ins
    split
    · simp
    · split
      · rw [List.mem_cons, mem_ins o x y l, List.mem_cons]
        constructor
        · rintro (h | h | h) <;> simp [h]
        · rintro (h | h | h) <;> simp [h]
      · rename_i h1 h2
        have e : x = a := o.tri _ _ (by simpa using h1) (by simpa using h2)
        subst e
        simp
theorem asc_ins (o : SO lt) (x : α) : ∀ l : List α, Asc lt l → Asc lt (ins lt x l)
  | [], _ => by simp [ins, Asc]
  | a :: l, h => by
    have h' := List.pairwise_cons.1 h
    unfold ins
    split
    · rename_i h1
      refine List.pairwise_cons.2 ⟨fun y hy => ?_, h⟩
      rcases List.mem_cons.1 hy with e | hy
      · subst e; exact h1
      · exact o.tr _ _ _ h1 (h'.1 y hy)
    · split
      · rename_i h1 h2
        refine List.pairwise_cons.2 ⟨fun y hy => ?_, asc_ins o x l h'.2⟩
        rcases (mem_ins o x y l).1 hy with e | hy
        · subst e; exact h2
        · exact h'.1 y hy
      · exact h
/-- the ascending list of the members -/
def canon (lt : α → α → Bool) (l : List α) : List α := l.foldr (ins lt) []
theorem mem_canon (o : SO lt) (y : α) : ∀ l : List α, y ∈ canon lt l ↔ y ∈ l
  | [] => by simp [canon]
  | a :: l => by
    show y ∈ ins lt a (canon lt l) ↔ _
    rw [mem_ins o, mem_canon o y l, List.mem_cons]
theorem asc_canon (o : SO lt) : ∀ l : List α, Asc lt (canon lt l)
  | [] => List.Pairwise.nil
  | a :: l => asc_ins o a _ (asc_canon o l)
theorem canon_eq (o : SO lt) {l m : List α} (h : Asc lt l) (hm : ∀ x, x ∈ l ↔ x ∈ m) : l = canon lt m :=
  asc_ext o h (asc_canon o m) fun x => (hm x).trans (mem_canon o x m).symm
theorem canon_self (o : SO lt) {l : List α} (h : Asc lt l) : canon lt l = l := (canon_eq o h fun _ => Iff.rfl).symm
theorem canon_congr (o : SO lt) {l m : List α} (h : ∀ x, x ∈ l ↔ x ∈ m) : canon lt l = canon lt m :=
  canon_eq o (asc_canon o l) fun x => (mem_canon o x l).trans (h x)
theorem canon_len_le (o : SO lt) (l : List α) : (canon lt l).length ≤ l.length :=
  List.Nodup.length_le_of_subset ((asc_canon o l).nodup o) fun x hx => (mem_canon o x l).1 hx
end

/-! ### the orders -/
def ltN (a b : Nat) : Bool := decide (a < b)
theorem soN : SO ltN where
  irr a := by simp [ltN]
  tr a b c h1 h2 := by simp [ltN] at *; omega
  tri a b h1 h2 := by simp [ltN] at *; omega
section
variable {α : Type} {lt : α → α → Bool}
def lx (lt : α → α → Bool) : List α → List α → Bool
  | [], [] => false
  | [], _ :: _ => true
  | _ :: _, [] => false
  | a :: as, b :: bs => if lt a b then true else if lt b a then false else lx lt as bs
theorem lx_irr (o : SO lt) : ∀ l : List α, lx lt l l = false
  | [] => rfl
  | a :: l => by
    unfold lx
    rw [o.irr a]
    simp [lx_irr o l]
theorem lx_tri (o : SO lt) : ∀ l m : List α, lx lt l m = false → lx lt m l = false → l = m
  | [], [], _, _ => rfl
  | [], _ :: _, h, _ => by simp [lx] at h
  | _ :: _, [], _, h => by simp [lx] at h
  | a :: l, b :: m, h1, h2 => by
    unfold lx at h1 h2
    cases hab : lt a b with
    | true => rw [hab] at h1; simp at h1
    | false =>
      cases hba : lt b a with
      | true => rw [hba] at h2; simp at h2
      | false =>
        have e := o.tri _ _ hab hba
        subst e
        rw [hab] at h1 h2
        simp at h1 h2
        rw [lx_tri o l m h1 h2]
theorem lx_tr (o : SO lt) : ∀ l m k : List α, lx lt l m = true → lx lt m k = true → lx lt l k = true
  | [], [], _, h, _ => by simp [lx] at h
  | [], _ :: _, [], _, h => by simp [lx] at h
  | [], _ :: _, _ :: _, _, _ => by simp [lx]
  | _ :: _, [], _, h, _ => by simp [lx] at h
  | _ :: _, _ :: _, [], _, h => by simp [lx] at h
  | a :: l, b :: m, c :: k, h1, h2 => by
    unfold lx at h1 h2 ⊢
    cases hab : lt a b with
    | true =>
      cases hbc : lt b c with
      | true => rw [o.tr _ _ _ hab hbc]; simp
      | false =>
        cases hcb : lt c b with
        | true => rw [hbc, hcb] at h2; simp at h2
        | false =>
          have e := o.tri _ _ hbc hcb
          subst e
          rw [hab]; simp
    | false =>
      cases hba : lt b a with
      | true => rw [hab, hba] at h1; simp at h1
      | false =>
        have e := o.tri _ _ hab hba
        subst e
        rw [hab] at h1
        simp at h1
        cases hac : lt a c with
        | true => simp
        | false =>
          cases hca : lt c a with
          | true => rw [hac, hca] at h2; simp at h2
          | false =>
            rw [hac, hca] at h2
            simp at h2
            simp [lx_tr o l m k h1 h2]
theorem soL (o : SO lt) : SO (lx lt) := ⟨lx_irr o, lx_tr o, lx_tri o⟩
end
/-- words: tuples of numbers -/
abbrev ltW : List Nat → List Nat → Bool := lx ltN
theorem soW : SO ltW := soL soN

/-! ### counting -/
section
variable {α : Type}
theorem sub_eq_of_len [DecidableEq α] {l m : List α} (hl : l.Nodup) (hs : l ⊆ m) (hlen : m.length ≤ l.length) : m ⊆ l := by
  intro x hx
  by_cases h : x ∈ l
  · exact h
  · have hs' : l ⊆ m.erase x := by
      intro y hy
      have hne : y ≠ x := fun e => h (e ▸ hy)
      exact (List.mem_erase_of_ne hne).2 (hs hy)
    have := List.Nodup.length_le_of_subset hl hs'
    have h2 := List.length_erase_of_mem hx
    have h3 : 0 < m.length := List.length_pos_of_mem hx
    omega
/-- all words of k letters below n -/
def allW (n : Nat) : Nat → List (List Nat)
  | 0 => [[]]
  | k + 1 => (List.range n).flatMap fun a => (allW n k).map (a :: ·)
theorem mem_allW (n : Nat) : ∀ (k : Nat) (w : List Nat), w ∈ allW n k ↔ w.length = k ∧ ∀ a ∈ w, a < n
  | 0, w => by
    simp [allW]
    intro h
    subst h
    simp
  | k + 1, w => by
    simp only [allW, List.mem_flatMap, List.mem_range, List.mem_map]
    constructor
    · rintro ⟨a, ha, v, hv, rfl⟩
      obtain ⟨h1, h2⟩ := (mem_allW n k v).1 hv
      refine ⟨by simp [h1], fun b hb => ?_⟩
      rcases List.mem_cons.1 hb with e | hb
      · subst e; exact ha
      · exact h2 b hb
    · rintro ⟨h1, h2⟩
      cases w with
      | nil => simp at h1
      | cons a v => exact ⟨a, h2 a List.mem_cons_self, v, (mem_allW n k v).2 ⟨by simpa using h1, fun b hb => h2 b (List.mem_cons_of_mem _ hb)⟩, rfl⟩
theorem len_flatMap_const {β : Type} (f : α → List β) (c : Nat) : ∀ l : List α, (∀ x ∈ l, (f x).length = c) → (l.flatMap f).length = l.length * c
  | [], _ => by simp
  | a :: l, h => by
    rw [List.flatMap_cons, List.length_append, len_flatMap_const f c l fun x hx => h x (List.mem_cons_of_mem _ hx), h a List.mem_cons_self, List.length_cons, Nat.succ_mul, Nat.add_comm]
theorem len_allW (n : Nat) : ∀ k, (allW n k).length = n ^ k
  | 0 => rfl
  | k + 1 => by
    show ((List.range n).flatMap fun a => (allW n k).map (a :: ·)).length = _
    rw [len_flatMap_const _ (n ^ k) _ (fun x _ => by rw [List.length_map, len_allW n k]), List.length_range, Nat.pow_succ, Nat.mul_comm]
theorem words_le {n k : Nat} {l : List (List Nat)} (hn : l.Nodup) (h : ∀ w ∈ l, w.length = k ∧ ∀ a ∈ w, a < n) : l.length ≤ n ^ k := by
  rw [← len_allW n k]
  exact List.Nodup.length_le_of_subset hn fun w hw => (mem_allW n k w).2 (h w hw)
end
end K37
/-! M2: rules, blocks, the words of a rule. Core Lean alone. -/
namespace K37

/-- what becomes of a word -/
def up (r : List (List Nat)) (w : List Nat) : List Nat := w.flatMap fun a => r.getD a []
def upk (r : List (List Nat)) : Nat → List Nat → List Nat
  | 0, w => w
  | k + 1, w => up r (upk r k w)
/-- block(a, k) -/
def blk (r : List (List Nat)) (k a : Nat) : List Nat := upk r k [a]

section
variable (r : List (List Nat))
theorem up_nil : up r [] = [] := rfl
theorem up_append (u v : List Nat) : up r (u ++ v) = up r u ++ up r v := List.flatMap_append
theorem upk_append (u v : List Nat) : ∀ k, upk r k (u ++ v) = upk r k u ++ upk r k v
  | 0 => rfl
  | k + 1 => by
    show up r (upk r k (u ++ v)) = up r (upk r k u) ++ up r (upk r k v)
    rw [upk_append u v k, up_append]
theorem upk_nil : ∀ k, upk r k [] = []
  | 0 => rfl
  | k + 1 => by
    show up r (upk r k []) = []
    rw [upk_nil k]
    rfl
theorem upk_flat (k : Nat) : ∀ w, upk r k w = w.flatMap (blk r k)
  | [] => upk_nil r k
  | a :: w => by
    rw [List.flatMap_cons, ← upk_flat k w]
    exact upk_append r [a] w k
theorem upk_add (j : Nat) (w : List Nat) : ∀ k, upk r (k + j) w = upk r k (upk r j w)
  | 0 => by rw [Nat.zero_add]; rfl
  | k + 1 => by
    rw [Nat.succ_add]
    show up r (upk r (k + j) w) = up r (upk r k (upk r j w))
    rw [upk_add j w k]
theorem up_one (a : Nat) : up r [a] = r.getD a [] := by simp [up]
theorem blk_zero (a : Nat) : blk r 0 a = [a] := rfl
theorem blk_add (k j a : Nat) : blk r (k + j) a = (blk r j a).flatMap (blk r k) := by
  rw [← upk_flat]
  exact upk_add r j [a] k
theorem blk_succ (k a : Nat) : blk r (k + 1) a = (r.getD a []).flatMap (blk r k) := by
  rw [blk_add]
  congr 1
  show up r [a] = _
  exact up_one r a
theorem blk_succ' (k a : Nat) : blk r (k + 1) a = up r (blk r k a) := rfl

/-- the words of the rule -/
def InL (w : List Nat) : Prop := ∃ k a, a < r.length ∧ w <:+: blk r k a

/-- a rule that grows: N is a level at which each letter stands in each block -/
structure GR (N : Nat) : Prop where
  pos : 0 < r.length
  ne : ∀ a, a < r.length → r.getD a [] ≠ []
  lt : ∀ a, a < r.length → ∀ b ∈ r.getD a [], b < r.length
  full : ∀ a, a < r.length → ∀ b, b < r.length → b ∈ blk r N a
  long : ∃ c, c < r.length ∧ 2 ≤ (r.getD c []).length
end

section
variable {r : List (List Nat)}
theorem InL.infix {u v : List Nat} (h : InL r v) (hu : u <:+: v) : InL r u := by
  obtain ⟨k, a, ha, hv⟩ := h
  exact ⟨k, a, ha, hu.trans hv⟩
theorem up_infix {u v : List Nat} (h : u <:+: v) : up r u <:+: up r v := by
  obtain ⟨s, t, e⟩ := h
  refine ⟨up r s, up r t, ?_⟩
  rw [← up_append, ← up_append, e]
theorem upk_infix {u v : List Nat} (h : u <:+: v) (k : Nat) : upk r k u <:+: upk r k v := by
  obtain ⟨s, t, e⟩ := h
  refine ⟨upk r k s, upk r k t, ?_⟩
  rw [← upk_append, ← upk_append, e]
theorem InL.upk {w : List Nat} (h : InL r w) (k : Nat) : InL r (upk r k w) := by
  obtain ⟨j, a, ha, hv⟩ := h
  refine ⟨k + j, a, ha, ?_⟩
  show K37.upk r k w <:+: K37.upk r (k + j) [a]
  rw [upk_add]
  exact upk_infix hv k
theorem InL.up {w : List Nat} (h : InL r w) : InL r (up r w) := h.upk 1
theorem InL.letters {N : Nat} (g : GR r N) {w : List Nat} (h : InL r w) : ∀ a ∈ w, a < r.length := by
  obtain ⟨k, a, ha, hv⟩ := h
  have key : ∀ k, ∀ b ∈ blk r k a, b < r.length := by
    intro k
    induction k with
    | zero =>
      intro b hb
      have : b = a := by simpa [blk_zero] using hb
      omega
    | succ k ih =>
      intro b hb
      rw [blk_succ'] at hb
      obtain ⟨c, hc, hb⟩ := List.mem_flatMap.1 hb
      exact g.lt c (ih c hc) b hb
  intro b hb
  exact key k b (hv.subset hb)
theorem inL_one {a : Nat} (ha : a < r.length) : InL r [a] := ⟨0, a, ha, List.infix_rfl⟩
theorem inL_blk {a : Nat} (ha : a < r.length) (k : Nat) : InL r (blk r k a) := ⟨k, a, ha, List.infix_rfl⟩
theorem inL_nil {N : Nat} (g : GR r N) : InL r [] := ⟨0, 0, g.pos, List.nil_infix⟩

variable {N : Nat}
theorem blk_ne (g : GR r N) : ∀ (k a : Nat), a < r.length → blk r k a ≠ []
  | 0, a, _ => by simp [blk_zero]
  | k + 1, a, ha => by
    rw [blk_succ]
    have h := g.ne a ha
    cases e : r.getD a [] with
    | nil => exact absurd e h
    | cons b t =>
      have hb : b < r.length := g.lt a ha b (by rw [e]; exact List.mem_cons_self)
      rw [List.flatMap_cons]
      intro z
      exact blk_ne g k b hb (List.append_eq_nil_iff.1 z).1
theorem blk_pos (g : GR r N) (k : Nat) {a : Nat} (ha : a < r.length) : 0 < (blk r k a).length := List.length_pos_iff.2 (blk_ne g k a ha)
theorem blk_lt (g : GR r N) (k : Nat) {a : Nat} (ha : a < r.length) : ∀ b ∈ blk r k a, b < r.length := (inL_blk ha k).letters g
/-- full at each level from N on -/
theorem full_from (g : GR r N) : ∀ (j a : Nat), a < r.length → ∀ b, b < r.length → b ∈ blk r (N + j) a
  | 0, a, ha, b, hb => g.full a ha b hb
  | j + 1, a, ha, b, hb => by
    show b ∈ blk r (N + j + 1) a
    rw [blk_succ]
    cases e : r.getD a [] with
    | nil => exact absurd e (g.ne a ha)
    | cons c t =>
      have hc : c < r.length := g.lt a ha c (by rw [e]; exact List.mem_cons_self)
      rw [List.flatMap_cons]
      exact List.mem_append_left _ (full_from g j c hc b hb)
theorem GR.more (g : GR r N) (j : Nat) : GR r (N + j) := ⟨g.pos, g.ne, g.lt, full_from g j, g.long⟩

theorem len_flat_ge (f : Nat → List Nat) (c : Nat) : ∀ l : List Nat, (∀ x ∈ l, c ≤ (f x).length) → l.length * c ≤ (l.flatMap f).length
  | [], _ => by simp
  | a :: l, h => by
    have := len_flat_ge f c l fun x hx => h x (List.mem_cons_of_mem _ hx)
    have h2 := h a List.mem_cons_self
    rw [List.flatMap_cons, List.length_append, List.length_cons, Nat.succ_mul]
    omega
/-- one more level, never shorter; longer where the long letter stands -/
theorem len_up_ge (g : GR r N) {w : List Nat} (hw : ∀ a ∈ w, a < r.length) : w.length ≤ (up r w).length := by
  have := len_flat_ge (fun a => r.getD a []) 1 w fun x hx => List.length_pos_iff.2 (g.ne x (hw x hx))
  simpa [up] using this
theorem len_up_gt (g : GR r N) : ∀ {w : List Nat}, (∀ a ∈ w, a < r.length) → (∀ b, b < r.length → b ∈ w) → w.length + 1 ≤ (up r w).length := by
  intro w hw hf
  obtain ⟨c, hc, hl⟩ := g.long
  obtain ⟨s, t, e⟩ := List.append_of_mem (hf c hc)
  have h1 : s.length ≤ (up r s).length := len_up_ge g fun a ha => hw a (by rw [e]; exact List.mem_append_left _ ha)
  have h2 : t.length ≤ (up r t).length := len_up_ge g fun a ha => hw a (by rw [e]; exact List.mem_append_right _ (List.mem_cons_of_mem _ ha))
  have e2 : w = s ++ ([c] ++ t) := by rw [e]; rfl
  rw [e2, up_append, up_append, up_one]
  simp only [List.length_append, List.length_cons, List.length_nil]
  omega
theorem len_mono (g : GR r N) {a : Nat} (ha : a < r.length) (k : Nat) : ∀ j, (blk r k a).length ≤ (blk r (k + j) a).length
  | 0 => Nat.le_refl _
  | j + 1 => Nat.le_trans (len_mono g ha k j) (by
    show _ ≤ (blk r (k + j + 1) a).length
    rw [blk_succ']
    exact len_up_ge g (blk_lt g _ ha))
/-- at level N + 1 a block has at least r.length + 1 letters -/
theorem len_first (g : GR r N) {a : Nat} (ha : a < r.length) : r.length + 1 ≤ (blk r (N + 1) a).length := by
  have h1 : r.length ≤ (blk r N a).length := by
    have := List.Nodup.length_le_of_subset (l₁ := List.range r.length) (l₂ := blk r N a) List.nodup_range fun x hx => g.full a ha x (List.mem_range.1 hx)
    simpa using this
  have := len_up_gt g (blk_lt g N ha) (g.full a ha)
  rw [blk_succ']
  omega
theorem len_pow (g : GR r N) : ∀ (i a : Nat), a < r.length → (r.length + 1) ^ i ≤ (blk r (i * (N + 1)) a).length
  | 0, a, ha => by rw [Nat.zero_mul]; exact Nat.le_refl _
  | i + 1, a, ha => by
    rw [Nat.succ_mul, blk_add]
    refine Nat.le_trans ?_ (len_flat_ge _ ((r.length + 1) ^ i) _ fun x hx => len_pow g i x (blk_lt g _ ha x hx))
    rw [Nat.pow_succ, Nat.mul_comm]
    exact Nat.mul_le_mul_right _ (len_first g ha)
/-- blocks grow beyond each bound -/
theorem len_unb (g : GR r N) (m : Nat) : ∃ K, ∀ k, K ≤ k → ∀ a, a < r.length → m ≤ (blk r k a).length := by
  refine ⟨m * (N + 1), fun k hk a ha => ?_⟩
  have h1 := len_pow g m a ha
  have h2 := len_mono g ha (m * (N + 1)) (k - m * (N + 1))
  have h3 : m * (N + 1) + (k - m * (N + 1)) = k := by omega
  rw [h3] at h2
  have h4 : m < 2 ^ m := Nat.lt_two_pow_self
  have h5 : 2 ^ m ≤ (r.length + 1) ^ m := Nat.pow_le_pow_left (by have := g.pos; omega) m
  omega

/-! ### what may come behind, ahead -/
theorem mem_next {l : List Nat} {a : Nat} (h : a ∈ l) (m : List Nat) (hm : m ≠ []) : ∃ b, [a, b] <:+: l ++ m := by
  obtain ⟨s, t, e⟩ := List.append_of_mem h
  cases hx : t ++ m with
  | nil => exact absurd (List.append_eq_nil_iff.1 hx).2 hm
  | cons b u =>
    refine ⟨b, s, u, ?_⟩
    rw [e]
    simp [hx]
theorem cut_last {l : List Nat} (h : l ≠ []) : ∃ i x, l = i ++ [x] := ⟨l.dropLast, l.getLast h, (List.dropLast_concat_getLast h).symm⟩
theorem mem_prev {l : List Nat} {a : Nat} (h : a ∈ l) (m : List Nat) (hm : m ≠ []) : ∃ b, [b, a] <:+: m ++ l := by
  obtain ⟨s, t, e⟩ := List.append_of_mem h
  have hne : m ++ s ≠ [] := fun z => hm (List.append_eq_nil_iff.1 z).1
  obtain ⟨i, x, hx⟩ := cut_last hne
  refine ⟨x, i, t, ?_⟩
  rw [e, ← List.append_assoc, hx]
  simp
theorem two_letters (g : GR r N) : ∃ x y l, blk r (N + 1) 0 = x :: y :: l ∧ x < r.length ∧ y < r.length := by
  have h := len_first g g.pos
  have hp := g.pos
  have hl := blk_lt g (N + 1) g.pos
  cases e : blk r (N + 1) 0 with
  | nil => rw [e] at h; simp at h
  | cons x l =>
    cases l with
    | nil => rw [e] at h; simp only [List.length_cons, List.length_nil] at h; omega
    | cons y l => exact ⟨x, y, l, rfl, hl x (by rw [e]; simp), hl y (by rw [e]; simp)⟩
theorem follower (g : GR r N) {a : Nat} (ha : a < r.length) : ∃ b, InL r [a, b] := by
  obtain ⟨x, y, l, e, hx, hy⟩ := two_letters g
  obtain ⟨b, hb⟩ := mem_next (g.full x hx a ha) (blk r N y) (blk_ne g N y hy)
  refine ⟨b, N + (N + 1), 0, g.pos, ?_⟩
  rw [blk_add, e, List.flatMap_cons, List.flatMap_cons, ← List.append_assoc]
  exact hb.trans (List.infix_append [] _ _)
theorem leader (g : GR r N) {a : Nat} (ha : a < r.length) : ∃ b, InL r [b, a] := by
  obtain ⟨x, y, l, e, hx, hy⟩ := two_letters g
  obtain ⟨b, hb⟩ := mem_prev (g.full y hy a ha) (blk r N x) (blk_ne g N x hx)
  refine ⟨b, N + (N + 1), 0, g.pos, ?_⟩
  rw [blk_add, e, List.flatMap_cons, List.flatMap_cons, ← List.append_assoc]
  exact hb.trans (List.infix_append [] _ _)
theorem InL.pair_right {a b : Nat} (g : GR r N) (h : InL r [a, b]) : b < r.length := h.letters g b (by simp)
theorem InL.pair_left {a b : Nat} (g : GR r N) (h : InL r [a, b]) : a < r.length := h.letters g a (by simp)
/-- each word goes on to the right and to the left -/
theorem InL.right (g : GR r N) {w : List Nat} (h : InL r w) : ∃ b, InL r (w ++ [b]) := by
  obtain ⟨k, a, ha, s, t, e⟩ := h
  obtain ⟨c, hc⟩ := follower g ha
  have h2 : InL r (blk r k a ++ blk r k c) := by
    have := hc.upk k
    rwa [show K37.upk r k [a, c] = blk r k a ++ blk r k c from upk_append r [a] [c] k] at this
  have hne : t ++ blk r k c ≠ [] := fun z => blk_ne g k c (hc.pair_right g) (List.append_eq_nil_iff.1 z).2
  cases hx : t ++ blk r k c with
  | nil => exact absurd hx hne
  | cons b u =>
    refine ⟨b, h2.infix ⟨s, u, ?_⟩⟩
    rw [← e, List.append_assoc (s ++ w), hx]
    simp
theorem InL.left (g : GR r N) {w : List Nat} (h : InL r w) : ∃ b, InL r (b :: w) := by
  obtain ⟨k, a, ha, s, t, e⟩ := h
  obtain ⟨c, hc⟩ := leader g ha
  have h2 : InL r (blk r k c ++ blk r k a) := by
    have := hc.upk k
    rwa [show K37.upk r k [c, a] = blk r k c ++ blk r k a from upk_append r [c] [a] k] at this
  have hne : blk r k c ++ s ≠ [] := fun z => blk_ne g k c (hc.pair_left g) (List.append_eq_nil_iff.1 z).1
  obtain ⟨i, x, hx⟩ := cut_last hne
  refine ⟨x, h2.infix ⟨i, t, ?_⟩⟩
  rw [← e, ← List.append_assoc, ← List.append_assoc, hx]
  simp
theorem InL.rightN (g : GR r N) {w : List Nat} (h : InL r w) : ∀ k, ∃ v, v.length = k ∧ InL r (w ++ v)
  | 0 => ⟨[], rfl, by simpa using h⟩
  | k + 1 => by
    obtain ⟨v, hv, h1⟩ := InL.rightN g h k
    obtain ⟨b, h2⟩ := h1.right g
    exact ⟨v ++ [b], by simp [hv], by rw [← List.append_assoc]; exact h2⟩
theorem InL.leftN (g : GR r N) {w : List Nat} (h : InL r w) : ∀ k, ∃ v, v.length = k ∧ InL r (v ++ w)
  | 0 => ⟨[], rfl, h⟩
  | k + 1 => by
    obtain ⟨v, hv, h1⟩ := InL.leftN g h k
    obtain ⟨b, h2⟩ := h1.left g
    exact ⟨b :: v, by simp [hv], h2⟩
/-- lifting: a word stands in a block of each great level -/
theorem InL.high (g : GR r N) {w : List Nat} (h : InL r w) (k : Nat) : ∃ j a, k ≤ j ∧ a < r.length ∧ w <:+: blk r j a := by
  obtain ⟨i, a, ha, hw⟩ := h
  refine ⟨i + (N + k), a, by omega, ha, hw.trans ?_⟩
  rw [blk_add]
  have hm := full_from g k a ha a ha
  obtain ⟨s, t, e⟩ := List.append_of_mem hm
  rw [e, List.flatMap_append, List.flatMap_cons]
  exact ⟨s.flatMap (blk r i), t.flatMap (blk r i), by simp⟩
end
end K37
/-! M3: the words of a rule, by pairs and by what becomes of them. Core Lean alone. -/
namespace K37

/-- the pairs of letters of a word, one behind the other -/
def adjW : List Nat → List (List Nat)
  | a :: b :: l => [a, b] :: adjW (b :: l)
  | _ => []
theorem mem_adjW : ∀ (w : List Nat) (p : List Nat), p ∈ adjW w ↔ ∃ a b, p = [a, b] ∧ [a, b] <:+: w
  | [], p => by
    simp only [adjW, List.not_mem_nil, false_iff]
    rintro ⟨a, b, _, h⟩
    simpa using h.length_le
  | [x], p => by
    simp only [adjW, List.not_mem_nil, false_iff]
    rintro ⟨a, b, _, h⟩
    simpa using h.length_le
  | x :: y :: l, p => by
    simp only [adjW, List.mem_cons]
    rw [mem_adjW (y :: l) p]
    constructor
    · rintro (rfl | ⟨a, b, rfl, h⟩)
      · exact ⟨x, y, rfl, [], l, rfl⟩
      · exact ⟨a, b, rfl, List.infix_cons_iff.2 (.inr h)⟩
    · rintro ⟨a, b, rfl, h⟩
      rcases List.infix_cons_iff.1 h with h | h
      · obtain ⟨t, e⟩ := h
        simp at e
        exact .inl (by rw [e.1, e.2.1])
      · exact .inr ⟨a, b, rfl, h⟩

theorem pair_append {a b : Nat} {v : List Nat} : ∀ {u : List Nat}, [a, b] <:+: u ++ v → [a, b] <:+: u ∨ [a, b] <:+: v ∨ (u.getLast? = some a ∧ v.head? = some b)
  | [], h => .inr (.inl h)
  | x :: u, h => by
    rcases List.infix_cons_iff.1 (show [a, b] <:+: x :: (u ++ v) from h) with h | h
    · obtain ⟨t, e⟩ := h
      simp at e
      obtain ⟨rfl, e⟩ := e
      cases u with
      | nil => exact .inr (.inr ⟨rfl, by simp at e; rw [← e]; rfl⟩)
      | cons y u =>
        simp at e
        obtain ⟨rfl, e⟩ := e
        exact .inl ⟨[], u, rfl⟩
    · rcases pair_append h with h | h | ⟨h1, h2⟩
      · exact .inl (List.infix_cons_iff.2 (.inr h))
      · exact .inr (.inl h)
      · refine .inr (.inr ⟨?_, h2⟩)
        cases u with
        | nil => simp at h1
        | cons y u => rw [List.getLast?_cons_cons]; exact h1
theorem pair_flat {a b : Nat} (f : Nat → List Nat) : ∀ (l : List Nat), (∀ c ∈ l, f c ≠ []) → [a, b] <:+: l.flatMap f →
    (∃ c ∈ l, [a, b] <:+: f c) ∨ ∃ c d, [c, d] <:+: l ∧ (f c).getLast? = some a ∧ (f d).head? = some b
  | [], _, h => by
    have := h.length_le
    simp at this
  | c :: l, hne, h => by
    rw [List.flatMap_cons] at h
    rcases pair_append h with h | h | ⟨h1, h2⟩
    · exact .inl ⟨c, List.mem_cons_self, h⟩
    · rcases pair_flat f l (fun x hx => hne x (List.mem_cons_of_mem _ hx)) h with ⟨d, hd, h⟩ | ⟨d, e, hd, h⟩
      · exact .inl ⟨d, List.mem_cons_of_mem _ hd, h⟩
      · exact .inr ⟨d, e, List.infix_cons_iff.2 (.inr hd), h⟩
    · cases l with
      | nil => simp at h2
      | cons d l =>
        refine .inr ⟨c, d, ⟨[], l, rfl⟩, h1, ?_⟩
        rw [List.flatMap_cons] at h2
        cases e : f d with
        | nil => exact absurd e (hne d (by simp))
        | cons x t => rw [e] at h2; simpa using h2

/-- the pair where the blocks of a pair meet -/
def nxt (r : List (List Nat)) (p : List Nat) : List Nat := [(r.getD (p.getD 0 0) []).getLast?.getD 0, (r.getD (p.getD 1 0) []).head?.getD 0]
inductive Cl (r : List (List Nat)) : List Nat → Prop
  | base {p} : p ∈ r.flatMap adjW → Cl r p
  | step {p} : Cl r p → Cl r (nxt r p)

section
variable {r : List (List Nat)} {N : Nat}
theorem getD_mem {a : Nat} (ha : a < r.length) : r.getD a [] ∈ r := by
  rw [List.getD_eq_getElem?_getD, List.getElem?_eq_getElem ha]
  exact List.getElem_mem ha
theorem mem_getD {b : List Nat} (hb : b ∈ r) : ∃ a, a < r.length ∧ r.getD a [] = b := by
  obtain ⟨a, ha, e⟩ := List.mem_iff_getElem.1 hb
  exact ⟨a, ha, by rw [List.getD_eq_getElem?_getD, List.getElem?_eq_getElem ha, Option.getD_some, e]⟩
theorem inL_block (g : GR r N) {a : Nat} (ha : a < r.length) : InL r (r.getD a []) := by
  have := inL_blk (r := r) ha 1
  rwa [show blk r 1 a = r.getD a [] from up_one r a] at this
theorem cl_two {p : List Nat} (h : Cl r p) : ∃ a b, p = [a, b] := by
  cases h with
  | base h =>
    obtain ⟨w, _, h⟩ := List.mem_flatMap.1 h
    obtain ⟨a, b, e, _⟩ := (mem_adjW w p).1 h
    exact ⟨a, b, e⟩
  | step h => exact ⟨_, _, rfl⟩
theorem last_head_infix {u v : List Nat} {a b : Nat} (h1 : u.getLast? = some a) (h2 : v.head? = some b) : [a, b] <:+: u ++ v := by
  have hu : u ≠ [] := fun z => by rw [z] at h1; simp at h1
  obtain ⟨i, x, e⟩ := cut_last hu
  rw [e, List.getLast?_concat] at h1
  cases v with
  | nil => simp at h2
  | cons y v =>
    simp at h1 h2
    subst h1 h2
    exact ⟨i, v, by rw [e]; simp⟩
theorem cl_inL (g : GR r N) {p : List Nat} (h : Cl r p) : InL r p := by
  induction h with
  | base h =>
    obtain ⟨w, hw, h⟩ := List.mem_flatMap.1 h
    obtain ⟨a, b, e, h⟩ := (mem_adjW w _).1 h
    obtain ⟨c, hc, ec⟩ := mem_getD hw
    have := inL_block g hc
    rw [ec] at this
    rw [e]
    exact this.infix h
  | step h ih =>
    obtain ⟨a, b, e⟩ := cl_two h
    subst e
    have ha := ih.pair_left g
    have hb := ih.pair_right g
    have h2 := ih.up
    rw [show up r [a, b] = r.getD a [] ++ r.getD b [] by simp [up]] at h2
    refine h2.infix (last_head_infix ?_ ?_)
    · cases e : (r.getD a []).getLast? with
      | none => exact absurd (List.getLast?_eq_none_iff.1 e) (g.ne a ha)
      | some x =>
        have e2 : (r.getD ([a, b].getD 0 0) []).getLast? = some x := e
        rw [e2]
        rfl
    · cases e : (r.getD b []).head? with
      | none => exact absurd (List.head?_eq_none_iff.1 e) (g.ne b hb)
      | some x =>
        have e2 : (r.getD ([a, b].getD 1 0) []).head? = some x := e
        rw [e2]
        rfl
theorem inL_cl (g : GR r N) {a b : Nat} (h : InL r [a, b]) : Cl r [a, b] := by
  obtain ⟨k, x, hx, h⟩ := h
  induction k generalizing a b with
  | zero =>
    have := h.length_le
    simp [blk_zero] at this
  | succ k ih =>
    rw [blk_succ'] at h
    have hl := blk_lt g k hx
    rcases pair_flat (fun a => r.getD a []) _ (fun c hc => g.ne c (hl c hc)) h with ⟨c, hc, h⟩ | ⟨c, d, hcd, h1, h2⟩
    · exact .base (List.mem_flatMap.2 ⟨_, getD_mem (hl c hc), (mem_adjW _ _).2 ⟨a, b, rfl, h⟩⟩)
    · have := Cl.step (ih hcd)
      have e : nxt r [c, d] = [a, b] := by simp [nxt] at h1 h2 ⊢; simp [h1, h2]
      rwa [e] at this
theorem cl_iff (g : GR r N) (p : List Nat) : Cl r p ↔ InL r p ∧ p.length = 2 := by
  constructor
  · intro h
    obtain ⟨a, b, e⟩ := cl_two h
    exact ⟨cl_inL g h, by rw [e]; rfl⟩
  · rintro ⟨h, hl⟩
    match p, hl with
    | [a, b], _ => exact inL_cl g h

/-! ### where a word begins -/
theorem infix_append_cases {w v : List Nat} : ∀ {u : List Nat}, w <:+: u ++ v → (∃ off, off < u.length ∧ w <+: u.drop off ++ v) ∨ w <:+: v
  | [], h => .inr h
  | x :: u, h => by
    rcases List.infix_cons_iff.1 (show w <:+: x :: (u ++ v) from h) with h | h
    · exact .inl ⟨0, by simp, h⟩
    · rcases infix_append_cases h with ⟨off, h1, h2⟩ | h
      · exact .inl ⟨off + 1, by simpa using h1, by simpa using h2⟩
      · exact .inr h
theorem infix_flat {w : List Nat} (hw : w ≠ []) (f : Nat → List Nat) : ∀ (l : List Nat), w <:+: l.flatMap f →
    ∃ s c t off, l = s ++ c :: t ∧ off < (f c).length ∧ w <+: (f c).drop off ++ t.flatMap f
  | [], h => by
    simp at h
    exact absurd h hw
  | c :: l, h => by
    rw [List.flatMap_cons] at h
    rcases infix_append_cases h with ⟨off, h1, h2⟩ | h
    · exact ⟨[], c, l, off, rfl, h1, h2⟩
    · obtain ⟨s, d, t, off, e, h1, h2⟩ := infix_flat hw f l h
      exact ⟨c :: s, d, t, off, by rw [e]; rfl, h1, h2⟩
theorem pre_short {w x y : List Nat} (h : w <+: x ++ y) (hl : w.length ≤ x.length) : w <+: x := List.prefix_of_prefix_length_le h (List.prefix_append x y) hl

/-- a word stands in two blocks whose letters are a legal pair, beginning in the first one -/
theorem inL_window (g : GR r N) {w : List Nat} (hw : w ≠ []) (h : InL r w) {k : Nat} (hk : ∀ a, a < r.length → w.length ≤ (blk r k a).length + 1) :
    ∃ a b off, InL r [a, b] ∧ off < (blk r k a).length ∧ w = ((blk r k a ++ blk r k b).drop off).take w.length := by
  obtain ⟨j, x, hj, hx, hin⟩ := h.high g k
  obtain ⟨i, rfl⟩ : ∃ i, j = k + i := ⟨j - k, by omega⟩
  rw [blk_add] at hin
  obtain ⟨s, c, t, off, e, ho, hp⟩ := infix_flat hw _ _ hin
  have hc : c < r.length := blk_lt g i hx c (by rw [e]; simp)
  have fin : ∀ d, InL r [c, d] → w <+: (blk r k c).drop off ++ blk r k d → ∃ a b off, InL r [a, b] ∧ off < (blk r k a).length ∧ w = ((blk r k a ++ blk r k b).drop off).take w.length := by
    intro d hd hp
    refine ⟨c, d, off, hd, ho, ?_⟩
    rw [List.drop_append_of_le_length (Nat.le_of_lt ho)]
    exact List.prefix_iff_eq_take.1 hp
  cases t with
  | nil =>
    obtain ⟨d, hd⟩ := follower g hc
    refine fin d hd ?_
    rw [List.flatMap_nil, List.append_nil] at hp
    exact hp.trans (List.prefix_append _ _)
  | cons d t =>
    have hd : InL r [c, d] := (inL_blk hx i).infix ⟨s, t, by rw [e]; simp⟩
    refine fin d hd ?_
    rw [List.flatMap_cons, ← List.append_assoc] at hp
    refine pre_short hp ?_
    have := hk d (hd.pair_right g)
    rw [List.length_append, List.length_drop]
    omega
theorem window_inL {a b off m k : Nat} (h : InL r [a, b]) : InL r (((blk r k a ++ blk r k b).drop off).take m) := by
  have h2 := h.upk k
  rw [show upk r k [a, b] = blk r k a ++ blk r k b from upk_append r [a] [b] k] at h2
  exact h2.infix ((List.take_prefix _ _).isInfix.trans (List.drop_suffix _ _).isInfix)
theorem inL_pairs_iff (g : GR r N) {w : List Nat} (hw : w ≠ []) {k : Nat} (hk : ∀ a, a < r.length → w.length ≤ (blk r k a).length + 1) :
    InL r w ↔ ∃ a b, InL r [a, b] ∧ w <:+: blk r k a ++ blk r k b := by
  constructor
  · intro h
    obtain ⟨a, b, off, h1, h2, h3⟩ := inL_window g hw h hk
    refine ⟨a, b, h1, ?_⟩
    rw [h3]
    exact (List.take_prefix _ _).isInfix.trans (List.drop_suffix _ _).isInfix
  · rintro ⟨a, b, h1, h2⟩
    have h3 := h1.upk k
    rw [show upk r k [a, b] = blk r k a ++ blk r k b from upk_append r [a] [b] k] at h3
    exact h3.infix h2

/-- the ascending list of all words with so many letters -/
def WS (r : List (List Nat)) (k : Nat) (l : List (List Nat)) : Prop := Asc ltW l ∧ ∀ w, w ∈ l ↔ InL r w ∧ w.length = k
theorem WS.uniq {k : Nat} {l m : List (List Nat)} (h : WS r k l) (h' : WS r k m) : l = m := asc_ext soW h.1 h'.1 fun x => (h.2 x).trans (h'.2 x).symm
theorem WS.of_canon {k : Nat} {l : List (List Nat)} (h : ∀ w, w ∈ l ↔ InL r w ∧ w.length = k) : WS r k (canon ltW l) := ⟨asc_canon soW l, fun w => (mem_canon soW w l).trans (h w)⟩
theorem WS.ne (g : GR r N) {k : Nat} {l : List (List Nat)} (h : WS r k l) : l ≠ [] := by
  obtain ⟨v, hv, h1⟩ := (inL_nil g).rightN g k
  intro z
  have := (h.2 v).2 ⟨h1, hv⟩
  rw [z] at this
  cases this
theorem WS.zero (g : GR r N) : WS r 0 [[]] := by
  refine ⟨List.pairwise_singleton _ _, fun w => ?_⟩
  rw [List.mem_singleton]
  constructor
  · rintro rfl; exact ⟨inL_nil g, rfl⟩
  · rintro ⟨_, h⟩; exact List.length_eq_zero_iff.1 h
theorem WS.short (g : GR r N) {k m : Nat} {l : List (List Nat)} (h : WS r m l) (hk : k ≤ m) : WS r k (canon ltW (l.map fun w => w.take k)) := by
  refine WS.of_canon fun w => ?_
  rw [List.mem_map]
  constructor
  · rintro ⟨v, hv, rfl⟩
    obtain ⟨h1, h2⟩ := (h.2 v).1 hv
    exact ⟨h1.infix (List.take_prefix _ _).isInfix, by rw [List.length_take]; omega⟩
  · rintro ⟨h1, h2⟩
    obtain ⟨v, hv, h3⟩ := h1.rightN g (m - k)
    exact ⟨w ++ v, (h.2 _).2 ⟨h3, by rw [List.length_append]; omega⟩, by rw [← h2]; simp⟩
theorem WS.len_le (g : GR r N) {k : Nat} {l : List (List Nat)} (h : WS r k l) : l.length ≤ r.length ^ k :=
  words_le (h.1.nodup soW) fun w hw => ⟨((h.2 w).1 hw).2, ((h.2 w).1 hw).1.letters g⟩

/-! ### the law's way: pieces of what becomes of words -/
def facs (m : Nat) (v : List Nat) : List (List Nat) := (List.range (v.length + 1 - m)).map fun k => (v.drop k).take m
theorem mem_facs {m : Nat} {v w : List Nat} : w ∈ facs m v ↔ w.length = m ∧ w <:+: v := by
  unfold facs
  rw [List.mem_map]
  constructor
  · rintro ⟨k, hk, rfl⟩
    rw [List.mem_range] at hk
    exact ⟨by rw [List.length_take, List.length_drop]; omega, (List.take_prefix _ _).isInfix.trans (List.drop_suffix _ _).isInfix⟩
  · rintro ⟨h1, s, t, e⟩
    refine ⟨s.length, ?_, ?_⟩
    · rw [List.mem_range, ← e]
      simp only [List.length_append]
      omega
    · rw [← e, List.append_assoc, List.drop_left, ← h1, List.take_left]
inductive CW (r : List (List Nat)) (u : List Nat) : List Nat → Prop
  | base : CW r u u
  | step {x w} : CW r u x → w ∈ facs u.length (up r x) → CW r u w
theorem up_cons (a : Nat) (w : List Nat) : up r (a :: w) = r.getD a [] ++ up r w := List.flatMap_cons
theorem fac_back (g : GR r N) {v w : List Nat} {m : Nat} (hv : ∀ a ∈ v, a < r.length) (hm : m ≤ v.length) (hw : w ≠ []) (hl : w.length = m) (h : w <:+: up r v) :
    ∃ x, x <:+: v ∧ x.length = m ∧ w <:+: up r x := by
  obtain ⟨s, c, t, off, e, ho, hp⟩ := infix_flat hw _ _ h
  have hsuf : w <:+: up r (c :: t) := by
    rw [up_cons]
    refine List.IsInfix.trans (l₂ := (r.getD c []).drop off ++ up r t) (List.IsPrefix.isInfix hp) ?_
    exact ⟨(r.getD c []).take off, [], by rw [List.append_nil, ← List.append_assoc, List.take_append_drop]⟩
  by_cases hc : m ≤ (c :: t).length
  · have hpos : 0 < m := by rw [← hl]; exact List.length_pos_iff.2 hw
    refine ⟨c :: t.take (m - 1), ⟨s, t.drop (m - 1), ?_⟩, ?_, ?_⟩
    · rw [e, List.append_assoc, List.cons_append, List.take_append_drop]
    · simp at hc ⊢; omega
    · have h1 : w <+: (r.getD c []).drop off ++ up r (t.take (m - 1)) := by
        have e2 : up r t = up r (t.take (m - 1)) ++ up r (t.drop (m - 1)) := by rw [← up_append, List.take_append_drop]
        have hp' : w <+: (r.getD c []).drop off ++ up r t := hp
        rw [e2, ← List.append_assoc] at hp'
        refine pre_short hp' ?_
        have := len_up_ge (r := r) g (w := t.take (m - 1)) fun a ha => hv a (by rw [e]; exact List.mem_append_right _ (List.mem_cons_of_mem _ (List.mem_of_mem_take ha)))
        have h3 : (t.take (m - 1)).length = m - 1 := by rw [List.length_take]; simp at hc; omega
        rw [List.length_append, List.length_drop]
        omega
      rw [up_cons]
      refine List.IsInfix.trans (l₂ := (r.getD c []).drop off ++ up r (t.take (m - 1))) h1.isInfix ?_
      exact ⟨(r.getD c []).take off, [], by rw [List.append_nil, ← List.append_assoc, List.take_append_drop]⟩
  · refine ⟨v.drop (v.length - m), (List.drop_suffix _ _).isInfix, by rw [List.length_drop]; omega, hsuf.trans (up_infix ?_)⟩
    have h1 : c :: t <:+ v := ⟨s, e.symm⟩
    have h2 : v.drop (v.length - m) <:+ v := List.drop_suffix _ _
    exact (List.suffix_of_suffix_length_le h1 h2 (by rw [List.length_drop]; omega)).isInfix
theorem cw_inL (g : GR r N) {u w : List Nat} (hu : InL r u) (h : CW r u w) : InL r w ∧ w.length = u.length := by
  induction h with
  | base => exact ⟨hu, rfl⟩
  | step h hw ih =>
    obtain ⟨h1, h2⟩ := mem_facs.1 hw
    exact ⟨ih.1.up.infix h2, h1⟩
theorem len_upk_ge (g : GR r N) {w : List Nat} (hw : InL r w) : ∀ k, w.length ≤ (upk r k w).length
  | 0 => Nat.le_refl _
  | k + 1 => Nat.le_trans (len_upk_ge g hw k) (len_up_ge g ((hw.upk k).letters g))
theorem cw_iff (g : GR r N) {u : List Nat} (hne : u ≠ []) (hu : InL r u) (w : List Nat) : CW r u w ↔ InL r w ∧ w.length = u.length := by
  refine ⟨cw_inL g hu, ?_⟩
  rintro ⟨h, hl⟩
  have key : ∀ (k : Nat) (w : List Nat), w.length = u.length → w <:+: upk r k u → CW r u w := by
    intro k
    induction k with
    | zero =>
      intro w hl h
      have : w = u := h.eq_of_length hl
      rw [this]
      exact .base
    | succ k ih =>
      intro w hl h
      have hwne : w ≠ [] := fun z => hne (List.length_eq_zero_iff.1 (by rw [← hl, z]; rfl))
      obtain ⟨x, h1, h2, h3⟩ := fac_back g ((hu.upk k).letters g) (len_upk_ge g hu k) hwne hl h
      exact .step (ih x h2 h1) (mem_facs.2 ⟨hl, h3⟩)
  obtain ⟨i, a, ha, h⟩ := h
  cases u with
  | nil => exact absurd rfl hne
  | cons c u =>
    have hc : c < r.length := hu.letters g c (by simp)
    refine key (i + N) w hl (h.trans ?_)
    rw [upk_add]
    have h1 : [a] <:+: upk r N (c :: u) := by
      have hm := g.full c hc a ha
      obtain ⟨s, t, e⟩ := List.append_of_mem hm
      have e2 : upk r N (c :: u) = blk r N c ++ upk r N u := upk_append r [c] u N
      exact ⟨s, t ++ upk r N u, by rw [e2, e]; simp⟩
    exact upk_infix h1 i
end
end K37
/-! M4: maps of words, ranks, families, memory, delay, the walk that settles. Core Lean alone. -/
namespace K37
abbrev Mach := List (List (Nat × Nat))
/-- the standing to which a letter leads -/
def nx (M : Mach) (s a : Nat) : Nat := ((M.getD s []).getD a (0, 0)).1
def act (M : Mach) (w : List Nat) (s : Nat) : Nat := w.foldl (nx M) s
/-- the map of a word, letter by letter -/
def mp (M : Mach) (w : List Nat) : List Nat := w.foldl (fun f a => f.map fun s => nx M s a) (List.range M.length)
def img (M : Mach) (w : List Nat) : List Nat := canon ltN (mp M w)
def rk (M : Mach) (w : List Nat) : Nat := (img M w).length
/-- a machine that fits n letters -/
structure GM (n : Nat) (M : Mach) : Prop where
  pos : 0 < M.length
  row : ∀ s, s < M.length → (M.getD s []).length = n
  lt : ∀ s, s < M.length → ∀ a, a < n → nx M s a < M.length

section
variable {M : Mach} {n : Nat}
theorem foldl_map (w : List Nat) : ∀ f : List Nat, w.foldl (fun f a => f.map fun s => nx M s a) f = f.map (act M w) := by
  induction w with
  | nil =>
    intro f
    show f = f.map fun s => s
    simp
  | cons a w ih =>
    intro f
    show w.foldl _ (f.map fun s => nx M s a) = _
    rw [ih, List.map_map]
    rfl
theorem mp_eq (w : List Nat) : mp M w = (List.range M.length).map (act M w) := foldl_map w _
theorem mp_append (u v : List Nat) : mp M (u ++ v) = (mp M u).map (act M v) := by
  unfold mp
  rw [List.foldl_append, foldl_map v]
theorem act_append (u v : List Nat) (s : Nat) : act M (u ++ v) s = act M v (act M u s) := List.foldl_append
theorem act_lt (g : GM n M) : ∀ {w : List Nat}, (∀ a ∈ w, a < n) → ∀ s, s < M.length → act M w s < M.length
  | [], _, s, hs => hs
  | a :: w, hw, s, hs => act_lt g (w := w) (fun b hb => hw b (List.mem_cons_of_mem _ hb)) _ (g.lt s hs a (hw a List.mem_cons_self))
theorem mp_lt (g : GM n M) {w : List Nat} (hw : ∀ a ∈ w, a < n) : ∀ s ∈ mp M w, s < M.length := by
  intro s hs
  rw [mp_eq] at hs
  obtain ⟨t, ht, rfl⟩ := List.mem_map.1 hs
  exact act_lt g hw t (List.mem_range.1 ht)
theorem mp_len (w : List Nat) : (mp M w).length = M.length := by rw [mp_eq]; simp
theorem mem_img (w : List Nat) (s : Nat) : s ∈ img M w ↔ s ∈ mp M w := mem_canon soN s _
theorem img_asc (w : List Nat) : Asc ltN (img M w) := asc_canon soN _
theorem img_append_mem (u v : List Nat) (s : Nat) : s ∈ img M (u ++ v) ↔ ∃ t ∈ img M u, act M v t = s := by
  rw [mem_img, mp_append, List.mem_map]
  constructor
  · rintro ⟨t, ht, e⟩; exact ⟨t, (mem_img u t).2 ht, e⟩
  · rintro ⟨t, ht, e⟩; exact ⟨t, (mem_img u t).1 ht, e⟩
theorem rk_append_left (u v : List Nat) : rk M (u ++ v) ≤ rk M u := by
  have h : (img M (u ++ v)).length ≤ ((img M u).map (act M v)).length :=
    List.Nodup.length_le_of_subset ((img_asc _).nodup soN) fun s hs => by
      obtain ⟨t, ht, e⟩ := (img_append_mem u v s).1 hs
      exact List.mem_map.2 ⟨t, ht, e⟩
  rw [List.length_map] at h
  exact h
theorem img_append_sub (g : GM n M) {u : List Nat} (hu : ∀ a ∈ u, a < n) (v : List Nat) : img M (u ++ v) ⊆ img M v := by
  intro s hs
  obtain ⟨t, ht, e⟩ := (img_append_mem u v s).1 hs
  have hlt := mp_lt g hu t ((mem_img u t).1 ht)
  rw [mem_img, mp_eq]
  exact List.mem_map.2 ⟨t, List.mem_range.2 hlt, e⟩
theorem rk_append_right (g : GM n M) {u : List Nat} (hu : ∀ a ∈ u, a < n) (v : List Nat) : rk M (u ++ v) ≤ rk M v :=
  List.Nodup.length_le_of_subset ((img_asc _).nodup soN) (img_append_sub g hu v)
theorem img_of_rk (g : GM n M) {u : List Nat} (hu : ∀ a ∈ u, a < n) {v : List Nat} (h : rk M v ≤ rk M (u ++ v)) : img M (u ++ v) = img M v :=
  asc_ext soN (img_asc _) (img_asc _) fun x =>
    ⟨fun hx => img_append_sub g hu v hx, fun hx => sub_eq_of_len ((img_asc _).nodup soN) (img_append_sub g hu v) h hx⟩
theorem rk_infix (g : GM n M) {v w : List Nat} (hv : ∀ a ∈ v, a < n) (h : w <:+: v) : rk M v ≤ rk M w := by
  obtain ⟨s, t, e⟩ := h
  rw [← e]
  refine Nat.le_trans (rk_append_left (s ++ w) t) (rk_append_right g (fun a ha => hv a ?_) w)
  rw [← e]
  simp [ha]
theorem asc_range (q : Nat) : Asc ltN (List.range q) := by
  unfold Asc
  have := List.pairwise_lt_range (n := q)
  exact this.imp fun h => decide_eq_true h
theorem img_nil : img M [] = List.range M.length := canon_self soN (asc_range _)
theorem rk_nil : rk M [] = M.length := by unfold rk; rw [img_nil]; simp
theorem rk_le (w : List Nat) : rk M w ≤ M.length := by
  have := canon_len_le soN (mp M w)
  rw [mp_len] at this
  exact this
theorem rk_pos (g : GM n M) (w : List Nat) : 0 < rk M w := by
  have h : mp M w ≠ [] := by
    intro z
    have := mp_len (M := M) w
    rw [z] at this
    have := g.pos
    simp at *
    omega
  cases e : mp M w with
  | nil => exact absurd e h
  | cons s t => exact List.length_pos_of_mem ((mem_img w s).2 (by rw [e]; exact List.mem_cons_self))

/-! ### families -/
def chained (f g : List Nat) : List Nat := f.map fun s => g.getD s 0
theorem mp_chained (g : GM n M) {u : List Nat} (hu : ∀ a ∈ u, a < n) (v : List Nat) : mp M (u ++ v) = chained (mp M u) (mp M v) := by
  rw [mp_append]
  unfold chained
  refine List.map_congr_left fun s hs => ?_
  have := mp_lt g hu s hs
  rw [mp_eq, List.getD_eq_getElem?_getD, List.getElem?_map, List.getElem?_range this]
  rfl
def chainB (F : List (List Nat)) : List Nat → List Nat
  | [] => []
  | a :: t => t.foldl (fun f c => chained f (F.getD c [])) (F.getD a [])
def nextF (r F : List (List Nat)) : List (List Nat) := r.map (chainB F)
def fam (r : List (List Nat)) (M : Mach) (k : Nat) : List (List Nat) := (List.range r.length).map fun a => mp M (blk r k a)
variable {r : List (List Nat)} {N : Nat}
theorem fam_get (k : Nat) {a : Nat} (ha : a < r.length) : (fam r M k).getD a [] = mp M (blk r k a) := by
  unfold fam
  rw [List.getD_eq_getElem?_getD, List.getElem?_map, List.getElem?_range ha]
  rfl
theorem fam_len (k : Nat) : (fam r M k).length = r.length := by simp [fam]
theorem flat_lt (gr : GR r N) (k : Nat) {w : List Nat} (hw : ∀ a ∈ w, a < r.length) : ∀ a ∈ w.flatMap (blk r k), a < r.length := by
  intro a ha
  obtain ⟨c, hc, h⟩ := List.mem_flatMap.1 ha
  exact blk_lt gr k (hw c hc) a h
theorem chain_fold (gr : GR r N) (gm : GM r.length M) (k : Nat) : ∀ (t : List Nat), (∀ a ∈ t, a < r.length) → ∀ u : List Nat, (∀ a ∈ u, a < r.length) →
    t.foldl (fun f c => chained f ((fam r M k).getD c [])) (mp M u) = mp M (u ++ t.flatMap (blk r k))
  | [], _, u, _ => by simp
  | c :: t, ht, u, hu => by
    have hc := ht c List.mem_cons_self
    show t.foldl _ (chained (mp M u) ((fam r M k).getD c [])) = _
    rw [fam_get k hc, ← mp_chained gm hu, chain_fold gr gm k t (fun a ha => ht a (List.mem_cons_of_mem _ ha)) (u ++ blk r k c) (fun a ha => ?_), List.flatMap_cons, List.append_assoc]
    rcases List.mem_append.1 ha with h | h
    · exact hu a h
    · exact blk_lt gr k hc a h
theorem chainB_fam (gr : GR r N) (gm : GM r.length M) (k : Nat) {b : List Nat} (hne : b ≠ []) (hb : ∀ a ∈ b, a < r.length) : chainB (fam r M k) b = mp M (b.flatMap (blk r k)) := by
  cases b with
  | nil => exact absurd rfl hne
  | cons a t =>
    have ha := hb a List.mem_cons_self
    show t.foldl _ ((fam r M k).getD a []) = _
    rw [fam_get k ha, chain_fold gr gm k t (fun c hc => hb c (List.mem_cons_of_mem _ hc)) _ (blk_lt gr k ha), List.flatMap_cons]
theorem map_range_getD (l : List (List Nat)) (f : List Nat → List Nat) : l.map f = (List.range l.length).map fun a => f (l.getD a []) := by
  refine List.ext_getElem? fun i => ?_
  rw [List.getElem?_map, List.getElem?_map]
  by_cases h : i < l.length
  · rw [List.getElem?_range h, List.getElem?_eq_getElem h]
    simp [List.getD_eq_getElem?_getD, List.getElem?_eq_getElem h]
  · have h' := Nat.le_of_not_lt h
    rw [List.getElem?_eq_none h', List.getElem?_eq_none (by simpa using h')]
    rfl
theorem fam_succ (gr : GR r N) (gm : GM r.length M) (k : Nat) : fam r M (k + 1) = nextF r (fam r M k) := by
  unfold nextF
  rw [map_range_getD]
  unfold fam
  refine List.map_congr_left fun a ha => ?_
  have ha := List.mem_range.1 ha
  rw [blk_succ]
  exact (chainB_fam gr gm k (gr.ne a ha) (gr.lt a ha)).symm
/-- the family of each level is one of the first m, if level m is one of them -/
theorem fam_round (gr : GR r N) (gm : GM r.length M) {m s : Nat} (hs : s < m) (h : fam r M m = fam r M s) : ∀ k, ∃ j, j < m ∧ fam r M k = fam r M j
  | 0 => ⟨0, by omega, rfl⟩
  | k + 1 => by
    obtain ⟨j, hj, e⟩ := fam_round gr gm hs h k
    rw [fam_succ gr gm, e, ← fam_succ gr gm]
    by_cases hm : j + 1 < m
    · exact ⟨j + 1, hm, rfl⟩
    · have : j + 1 = m := by omega
      rw [this, h]
      exact ⟨s, hs, rfl⟩
/-- memory: the least rank of a word -/
structure Mem (r : List (List Nat)) (M : Mach) (mem : Nat) : Prop where
  le : ∀ w, InL r w → mem ≤ rk M w
  at_ : ∃ w, InL r w ∧ rk M w = mem
theorem rk_fam {k j : Nat} (h : fam r M k = fam r M j) {a : Nat} (ha : a < r.length) : rk M (blk r k a) = rk M (blk r j a) := by
  have e : mp M (blk r k a) = mp M (blk r j a) := by rw [← fam_get k ha, h, fam_get j ha]
  unfold rk img
  rw [e]
theorem mem_of_fams (gr : GR r N) (gm : GM r.length M) {m s mem : Nat} (hs : s < m) (h : fam r M m = fam r M s) (hle : ∀ k, k < m → ∀ a, a < r.length → mem ≤ rk M (blk r k a))
    (hat : ∃ k a, k < m ∧ a < r.length ∧ rk M (blk r k a) = mem) : Mem r M mem := by
  constructor
  · rintro w ⟨k, a, ha, hw⟩
    obtain ⟨j, hj, e⟩ := fam_round gr gm hs h k
    have h1 := rk_infix gm (blk_lt gr k ha) hw
    rw [rk_fam e ha] at h1
    exact Nat.le_trans (hle j hj a ha) h1
  · obtain ⟨k, a, _, ha, e⟩ := hat
    exact ⟨_, inL_blk ha k, e⟩
theorem Mem.uniq {mem mem' : Nat} (h : Mem r M mem) (h' : Mem r M mem') : mem = mem' := by
  obtain ⟨w, hw, e⟩ := h.at_
  obtain ⟨w', hw', e'⟩ := h'.at_
  have := h.le w' hw'
  have := h'.le w hw
  omega
theorem Mem.pos {mem : Nat} (h : Mem r M mem) (gm : GM n M) : 0 < mem := by
  obtain ⟨w, _, e⟩ := h.at_
  have := rk_pos gm w
  omega
theorem Mem.le_len {mem : Nat} (h : Mem r M mem) : mem ≤ M.length := by
  obtain ⟨w, _, e⟩ := h.at_
  have := rk_le (M := M) w
  omega

/-! ### all words of a length, as a list -/
noncomputable def inLb (r : List (List Nat)) (w : List Nat) : Bool := @decide (InL r w) (Classical.propDecidable _)
theorem inLb_iff (w : List Nat) : inLb r w = true ↔ InL r w := by
  unfold inLb
  exact @decide_eq_true_iff _ (Classical.propDecidable _)
noncomputable def ws (r : List (List Nat)) (k : Nat) : List (List Nat) := canon ltW ((allW r.length k).filter (inLb r))
theorem ws_ok (gr : GR r N) (k : Nat) : WS r k (ws r k) := by
  refine WS.of_canon fun w => ?_
  rw [List.mem_filter, mem_allW, inLb_iff]
  constructor
  · rintro ⟨⟨h1, _⟩, h2⟩; exact ⟨h2, h1⟩
  · rintro ⟨h1, h2⟩; exact ⟨⟨h2, h1.letters gr⟩, h1⟩
theorem mem_ws (gr : GR r N) {k : Nat} {w : List Nat} : w ∈ ws r k ↔ InL r w ∧ w.length = k := (ws_ok gr k).2 w
theorem ws_short (gr : GR r N) {k m : Nat} (h : k ≤ m) : canon ltW ((ws r m).map fun w => w.take k) = ws r k := ((ws_ok gr m).short gr h).uniq (ws_ok gr k)
theorem ws_zero (gr : GR r N) : ws r 0 = [[]] := (ws_ok gr 0).uniq (WS.zero gr)

/-! ### settling -/
/-- d: the least length of which all words settle -/
structure Dl (r : List (List Nat)) (M : Mach) (mem d : Nat) : Prop where
  all : ∀ w, InL r w → w.length = d → rk M w = mem
  ex : ∀ d', d' < d → ∃ w, InL r w ∧ w.length = d' ∧ rk M w ≠ mem
theorem Dl.uniq {mem d d' : Nat} (h : Dl r M mem d) (h' : Dl r M mem d') : d = d' := by
  rcases Nat.lt_trichotomy d d' with z | z | z
  · obtain ⟨w, h1, h2, h3⟩ := h'.ex d z
    exact absurd (h.all w h1 h2) h3
  · exact z
  · obtain ⟨w, h1, h2, h3⟩ := h.ex d' z
    exact absurd (h'.all w h1 h2) h3
theorem settled_more {mem : Nat} (hm : Mem r M mem) {u v : List Nat} (h : InL r (u ++ v)) (hu : rk M u = mem) : rk M (u ++ v) = mem := by
  have h1 := rk_append_left (M := M) u v
  have h2 := hm.le _ h
  omega
theorem settled_left (gr : GR r N) (gm : GM r.length M) {mem : Nat} (hm : Mem r M mem) {u v : List Nat} (h : InL r (u ++ v)) (hv : rk M v = mem) : rk M (u ++ v) = mem ∧ img M (u ++ v) = img M v := by
  have hu : ∀ a ∈ u, a < r.length := fun a ha => h.letters gr a (List.mem_append_left _ ha)
  have h1 := rk_append_right gm hu v
  have h2 := hm.le _ h
  have h3 : rk M (u ++ v) = mem := by omega
  exact ⟨h3, img_of_rk gm hu (by omega)⟩
theorem Dl.zero {mem d : Nat} (gr : GR r N) (h : Dl r M mem d) : d = 0 ↔ mem = M.length := by
  constructor
  · intro z
    subst z
    have := h.all [] (inL_nil gr) rfl
    rw [rk_nil] at this
    exact this.symm
  · intro z
    rcases Nat.eq_zero_or_pos d with e | e
    · exact e
    · obtain ⟨w, h1, h2, h3⟩ := h.ex 0 e
      have : w = [] := List.length_eq_zero_iff.1 h2
      subst this
      rw [rk_nil] at h3
      exact absurd z.symm h3
def uns (M : Mach) (mem : Nat) (l : List (List Nat)) : List (List Nat) := l.filter fun w => !(rk M w == mem)
def stl (M : Mach) (mem : Nat) (l : List (List Nat)) : List (List Nat) := l.filter fun w => rk M w == mem
noncomputable def folw (r : List (List Nat)) (w : List Nat) : List Nat := (List.range r.length).filter fun a => inLb r (w ++ [a])
noncomputable def extw (r : List (List Nat)) (left : List (List Nat)) : List (List Nat) := left.flatMap fun w => (folw r w).map fun a => w ++ [a]
theorem mem_folw (gr : GR r N) {w : List Nat} {a : Nat} : a ∈ folw r w ↔ InL r (w ++ [a]) := by
  unfold folw
  rw [List.mem_filter, inLb_iff, List.mem_range]
  exact ⟨fun h => h.2, fun h => ⟨h.letters gr a (by simp), h⟩⟩
theorem mem_extw (gr : GR r N) {left : List (List Nat)} {v : List Nat} : v ∈ extw r left ↔ ∃ w ∈ left, ∃ a, v = w ++ [a] ∧ InL r v := by
  unfold extw
  rw [List.mem_flatMap]
  constructor
  · rintro ⟨w, hw, h⟩
    obtain ⟨a, ha, e⟩ := List.mem_map.1 h
    exact ⟨w, hw, a, e.symm, by rw [← e]; exact (mem_folw gr).1 ha⟩
  · rintro ⟨w, hw, a, e, h⟩
    exact ⟨w, hw, List.mem_map.2 ⟨a, (mem_folw gr).2 (by rw [← e]; exact h), e.symm⟩⟩
theorem lx_snoc : ∀ (w : List Nat) (a b : Nat), ltW (w ++ [a]) (w ++ [b]) = ltN a b
  | [], a, b => by
    show lx ltN [a] [b] = _
    unfold lx
    cases h : ltN a b with
    | true => simp
    | false =>
      cases h2 : ltN b a with
      | true => simp
      | false => simp [lx]
  | c :: w, a, b => by
    show lx ltN (c :: (w ++ [a])) (c :: (w ++ [b])) = _
    unfold lx
    rw [soN.irr c]
    simp [lx_snoc w a b]
theorem lx_app_lt : ∀ {u v : List Nat}, u.length = v.length → ltW u v = true → ∀ x y : List Nat, ltW (u ++ x) (v ++ y) = true
  | [], [], _, h, _, _ => by simp [ltW, lx] at h
  | [], _ :: _, hl, _, _, _ => by simp at hl
  | _ :: _, [], hl, _, _, _ => by simp at hl
  | a :: u, b :: v, hl, h, x, y => by
    have h' : lx ltN (a :: u) (b :: v) = true := h
    show lx ltN (a :: (u ++ x)) (b :: (v ++ y)) = true
    unfold lx at h' ⊢
    cases hab : ltN a b with
    | true => simp
    | false =>
      cases hba : ltN b a with
      | true => rw [hab, hba] at h'; simp at h'
      | false =>
        rw [hab, hba] at h'
        simp at h'
        simp
        exact lx_app_lt (by simpa using hl) h' x y
theorem asc_extw {left : List (List Nat)} {k : Nat} (hl : Asc ltW left) (hk : ∀ w ∈ left, w.length = k) : Asc ltW (extw r left) := by
  unfold extw
  induction left with
  | nil => exact List.Pairwise.nil
  | cons w left ih =>
    have hl' := List.pairwise_cons.1 hl
    rw [List.flatMap_cons]
    refine List.pairwise_append.2 ⟨?_, ih hl'.2 fun v hv => hk v (List.mem_cons_of_mem _ hv), ?_⟩
    · refine List.pairwise_map.2 ?_
      have h : Asc ltN (folw r w) := List.Pairwise.filter _ (asc_range _)
      exact h.imp fun {a b} hab => by rw [lx_snoc]; exact hab
    · intro x hx y hy
      obtain ⟨a, _, e⟩ := List.mem_map.1 hx
      obtain ⟨v, hv, h⟩ := List.mem_flatMap.1 hy
      obtain ⟨b, _, e'⟩ := List.mem_map.1 h
      rw [← e, ← e']
      exact lx_app_lt ((hk w List.mem_cons_self).trans (hk v (List.mem_cons_of_mem _ hv)).symm) (hl'.1 v hv) _ _
theorem asc_uns {mem : Nat} {l : List (List Nat)} (h : Asc ltW l) : Asc ltW (uns M mem l) := List.Pairwise.filter _ h
theorem mem_uns {mem : Nat} {l : List (List Nat)} {w : List Nat} : w ∈ uns M mem l ↔ w ∈ l ∧ rk M w ≠ mem := by
  unfold uns
  rw [List.mem_filter]
  simp
theorem mem_stl {mem : Nat} {l : List (List Nat)} {w : List Nat} : w ∈ stl M mem l ↔ w ∈ l ∧ rk M w = mem := by
  unfold stl
  rw [List.mem_filter]
  simp
/-- one turn: the words that are left -/
theorem left_step (gr : GR r N) {mem : Nat} (hm : Mem r M mem) (k : Nat) : uns M mem (extw r (uns M mem (ws r k))) = uns M mem (ws r (k + 1)) := by
  have h0 := ws_ok gr k
  have hk : ∀ w ∈ uns M mem (ws r k), w.length = k := fun w hw => ((h0.2 w).1 (mem_uns.1 hw).1).2
  refine asc_ext soW (asc_uns (asc_extw (asc_uns h0.1) hk)) (asc_uns (ws_ok gr (k + 1)).1) fun v => ?_
  rw [mem_uns, mem_uns, mem_extw gr, mem_ws gr]
  constructor
  · rintro ⟨⟨w, hw, a, e, h⟩, hv⟩
    exact ⟨⟨h, by rw [e, List.length_append, hk w hw]; rfl⟩, hv⟩
  · rintro ⟨⟨h, hl⟩, hv⟩
    have hne : v ≠ [] := fun z => by rw [z] at hl; simp at hl
    obtain ⟨w, a, e⟩ := cut_last hne
    refine ⟨⟨w, mem_uns.2 ⟨(mem_ws gr).2 ⟨h.infix (by rw [e]; exact ⟨[], [a], rfl⟩), ?_⟩, fun z => hv ?_⟩, a, e, h⟩, hv⟩
    · rw [e] at hl; simp at hl; exact hl
    · rw [e] at h ⊢
      exact settled_more hm h z
/-- the first turn that settles words: all words of that length stand there -/
theorem words_all (gr : GR r N) {mem k : Nat} (h : uns M mem (ws r k) = ws r k) : extw r (uns M mem (ws r k)) = ws r (k + 1) := by
  rw [h]
  have h0 := ws_ok gr k
  refine asc_ext soW (asc_extw h0.1 fun w hw => ((h0.2 w).1 hw).2) (ws_ok gr (k + 1)).1 fun v => ?_
  rw [mem_extw gr, mem_ws gr]
  constructor
  · rintro ⟨w, hw, a, e, h⟩
    exact ⟨h, by rw [e, List.length_append, ((h0.2 w).1 hw).2]; rfl⟩
  · rintro ⟨h, hl⟩
    have hne : v ≠ [] := fun z => by rw [z] at hl; simp at hl
    obtain ⟨w, a, e⟩ := cut_last hne
    refine ⟨w, (mem_ws gr).2 ⟨h.infix (by rw [e]; exact ⟨[], [a], rfl⟩), ?_⟩, a, e, h⟩
    rw [e] at hl; simp at hl; exact hl
/-- the least word that settles -/
structure Fw (r : List (List Nat)) (M : Mach) (mem : Nat) (w : List Nat) : Prop where
  inl : InL r w
  set : rk M w = mem
  none : ∀ v, InL r v → rk M v = mem → w.length ≤ v.length
  least : ∀ v, InL r v → rk M v = mem → v.length = w.length → v = w ∨ ltW w v = true
theorem Fw.uniq {mem : Nat} {w v : List Nat} (h : Fw r M mem w) (h' : Fw r M mem v) : w = v := by
  have h1 := h.none v h'.inl h'.set
  have h2 := h'.none w h.inl h.set
  have e : v.length = w.length := by omega
  rcases h.least v h'.inl h'.set e with z | z
  · exact z.symm
  · rcases h'.least w h.inl h.set e.symm with z' | z'
    · exact z'
    · have := soW.tr _ _ _ z z'
      rw [soW.irr] at this
      cases this
theorem fw_nil (gr : GR r N) {mem : Nat} (h : mem = M.length) : Fw r M mem [] :=
  ⟨inL_nil gr, by rw [rk_nil, h], fun _ _ _ => Nat.zero_le _, fun v _ _ e => .inl (List.length_eq_zero_iff.1 e)⟩
/-- the head of the words of length k that settle, none shorter settling -/
theorem fw_head (gr : GR r N) {mem k : Nat} {w : List Nat} {t : List (List Nat)} (hs : ∀ j, j < k → stl M mem (ws r j) = []) (h : stl M mem (ws r k) = w :: t) : Fw r M mem w := by
  have hw : w ∈ stl M mem (ws r k) := by rw [h]; exact List.mem_cons_self
  obtain ⟨h1, h2⟩ := mem_stl.1 hw
  obtain ⟨h3, h4⟩ := (mem_ws gr).1 h1
  refine ⟨h3, h2, fun v hv hr => ?_, fun v hv hr hl => ?_⟩
  · rcases Nat.lt_or_ge v.length k with z | z
    · have := mem_stl.2 ⟨(mem_ws gr).2 ⟨hv, rfl⟩, hr⟩
      rw [hs v.length z] at this
      cases this
    · omega
  · have hv2 : v ∈ stl M mem (ws r k) := mem_stl.2 ⟨(mem_ws gr).2 ⟨hv, by omega⟩, hr⟩
    have ha : Asc ltW (stl M mem (ws r k)) := List.Pairwise.filter _ (ws_ok gr k).1
    rw [h] at hv2 ha
    rcases List.mem_cons.1 hv2 with e | e
    · exact .inl e
    · exact .inr ((List.pairwise_cons.1 ha).1 v e)
theorem uns_of_stl_nil {mem : Nat} {l : List (List Nat)} (h : stl M mem l = []) : uns M mem l = l := by
  unfold uns stl at *
  rw [List.filter_eq_self]
  intro w hw
  have := List.filter_eq_nil_iff.1 h w hw
  simpa using this
theorem uns_nil_iff (gr : GR r N) {mem k : Nat} : uns M mem (ws r k) = [] ↔ ∀ w, InL r w → w.length = k → rk M w = mem := by
  constructor
  · intro h w hw hl
    by_cases z : rk M w = mem
    · exact z
    · have := mem_uns.2 ⟨(mem_ws gr).2 ⟨hw, hl⟩, z⟩
      rw [h] at this
      cases this
  · intro h
    refine List.filter_eq_nil_iff.2 fun w hw => ?_
    obtain ⟨h1, h2⟩ := (mem_ws gr).1 hw
    simp [h w h1 h2]

/-! ### what the law asks besides -/
noncomputable def setsOf (r : List (List Nat)) (M : Mach) (d : Nat) : List (List Nat) := canon ltW ((ws r d).map (img M))
theorem mem_setsOf (gr : GR r N) {d : Nat} {s : List Nat} : s ∈ setsOf r M d ↔ ∃ w, InL r w ∧ w.length = d ∧ img M w = s := by
  unfold setsOf
  rw [mem_canon soW, List.mem_map]
  constructor
  · rintro ⟨w, hw, e⟩
    obtain ⟨h1, h2⟩ := (mem_ws gr).1 hw
    exact ⟨w, h1, h2, e⟩
  · rintro ⟨w, h1, h2, e⟩
    exact ⟨w, (mem_ws gr).2 ⟨h1, h2⟩, e⟩
theorem longer_right (gr : GR r N) (gm : GM r.length M) {mem d : Nat} (hm : Mem r M mem) (hd : Dl r M mem d) {w : List Nat} (hw : InL r w) (hr : rk M w = mem) : img M w ∈ setsOf r M d := by
  rw [mem_setsOf gr]
  rcases Nat.le_total d w.length with z | z
  · have e : w.take (w.length - d) ++ w.drop (w.length - d) = w := List.take_append_drop _ _
    have hv : InL r (w.drop (w.length - d)) := hw.infix (List.drop_suffix _ _).isInfix
    have hl : (w.drop (w.length - d)).length = d := by rw [List.length_drop]; omega
    have := (settled_left gr gm hm (by rw [e]; exact hw) (hd.all _ hv hl)).2
    rw [e] at this
    exact ⟨_, hv, hl, this.symm⟩
  · obtain ⟨u, hu, h⟩ := hw.leftN gr (d - w.length)
    exact ⟨_, h, by rw [List.length_append]; omega, (settled_left gr gm hm h hr).2⟩
theorem sets_len (gr : GR r N) {mem d : Nat} (hd : Dl r M mem d) {s : List Nat} (h : s ∈ setsOf r M d) : s.length = mem := by
  obtain ⟨w, h1, h2, e⟩ := (mem_setsOf gr).1 h
  rw [← e]
  exact hd.all w h1 h2
theorem fw_le (gr : GR r N) {mem d : Nat} (hd : Dl r M mem d) {w : List Nat} (h : Fw r M mem w) : w.length ≤ d := by
  obtain ⟨v, hv, h1⟩ := (inL_nil gr).rightN gr d
  have := h.none v h1 (hd.all v h1 hv)
  omega
end
end K37
/-! M5: rules that grow within n * n levels, families that come round, the machine of last letters. Core Lean alone. -/
namespace K37

/-! ### pigeons -/
theorem two_alike {α : Type} (L : List α) (T : Nat → α) (m : Nat) (hL : L.length < m) (h : ∀ k, k < m → T k ∈ L) : ∃ i j, i < j ∧ j < m ∧ T i = T j := by
  by_cases hn : ∃ i j, i < j ∧ j < m ∧ T i = T j
  · exact hn
  · exfalso
    have hd : ((List.range m).map T).Nodup := by
      refine List.pairwise_map.2 ?_
      have := List.pairwise_lt_range (n := m)
      refine List.Pairwise.imp_of_mem ?_ this
      intro a b ha hb hab e
      exact hn ⟨a, b, hab, List.mem_range.1 hb, e⟩
    have := List.Nodup.length_le_of_subset hd (l₂ := L) fun x hx => by
      obtain ⟨k, hk, e⟩ := List.mem_map.1 hx
      rw [← e]
      exact h k (List.mem_range.1 hk)
    simp at this
    omega
def allB : Nat → List (List Bool)
  | 0 => [[]]
  | k + 1 => (allB k).map (true :: ·) ++ (allB k).map (false :: ·)
theorem mem_allB : ∀ (k : Nat) (l : List Bool), l.length = k → l ∈ allB k
  | 0, l, h => by
    rw [List.length_eq_zero_iff.1 h]
    simp [allB]
  | k + 1, [], h => by simp at h
  | k + 1, b :: l, h => by
    have := mem_allB k l (by simpa using h)
    unfold allB
    cases b <;> simp [this]

section
variable {r : List (List Nat)}
/-- which letters have b in their blocks of level k -/
def hasB (r : List (List Nat)) (b k : Nat) : List Bool := (List.range r.length).map fun a => decide (b ∈ blk r k a)
def stepB (r : List (List Nat)) (t : List Bool) : List Bool := (List.range r.length).map fun a => (r.getD a []).any fun c => t.getD c false
theorem hasB_get {b k a : Nat} (ha : a < r.length) : (hasB r b k).getD a false = decide (b ∈ blk r k a) := by
  unfold hasB
  rw [List.getD_eq_getElem?_getD, List.getElem?_map, List.getElem?_range ha]
  rfl
theorem hasB_succ (hlt : ∀ a, a < r.length → ∀ b ∈ r.getD a [], b < r.length) (b k : Nat) : hasB r b (k + 1) = stepB r (hasB r b k) := by
  unfold stepB
  conv => lhs; unfold hasB
  refine List.map_congr_left fun a ha => ?_
  have ha := List.mem_range.1 ha
  rw [blk_succ]
  rw [Bool.eq_iff_iff, decide_eq_true_iff, List.mem_flatMap, List.any_eq_true]
  constructor
  · rintro ⟨c, hc, h⟩
    exact ⟨c, hc, by rw [hasB_get (hlt a ha c hc)]; exact decide_eq_true h⟩
  · rintro ⟨c, hc, h⟩
    rw [hasB_get (hlt a ha c hc)] at h
    exact ⟨c, hc, of_decide_eq_true h⟩
theorem hasB_add (hlt : ∀ a, a < r.length → ∀ b ∈ r.getD a [], b < r.length) (b : Nat) {i j : Nat} (h : hasB r b i = hasB r b j) : ∀ t, hasB r b (i + t) = hasB r b (j + t)
  | 0 => h
  | t + 1 => by
    rw [← Nat.add_assoc, ← Nat.add_assoc, hasB_succ hlt, hasB_succ hlt, hasB_add hlt b h t]
def FullAt (r : List (List Nat)) (k : Nat) : Prop := ∀ a, a < r.length → ∀ b, b < r.length → b ∈ blk r k a
theorem hasB_full {b k : Nat} : hasB r b k = List.replicate r.length true ↔ ∀ a, a < r.length → b ∈ blk r k a := by
  constructor
  · intro h a ha
    have := hasB_get (r := r) (b := b) (k := k) ha
    rw [h] at this
    rw [List.getD_eq_getElem?_getD, List.getElem?_replicate, if_pos ha] at this
    exact of_decide_eq_true this.symm
  · intro h
    refine List.eq_replicate_iff.2 ⟨by simp [hasB], fun x hx => ?_⟩
    obtain ⟨a, ha, e⟩ := List.mem_map.1 hx
    rw [← e]
    exact decide_eq_true (h a (List.mem_range.1 ha))
theorem full_up (hne : ∀ a, a < r.length → r.getD a [] ≠ []) (hlt : ∀ a, a < r.length → ∀ b ∈ r.getD a [], b < r.length) {k : Nat} (h : FullAt r k) : FullAt r (k + 1) := by
  intro a ha b hb
  rw [blk_succ]
  cases e : r.getD a [] with
  | nil => exact absurd e (hne a ha)
  | cons c t =>
    rw [List.flatMap_cons]
    exact List.mem_append_left _ (h c (hlt a ha c (by rw [e]; simp)) b hb)
theorem full_ups (hne : ∀ a, a < r.length → r.getD a [] ≠ []) (hlt : ∀ a, a < r.length → ∀ b ∈ r.getD a [], b < r.length) {k : Nat} (h : FullAt r k) : ∀ j, FullAt r (k + j)
  | 0 => h
  | j + 1 => full_up hne hlt (full_ups hne hlt h j)
theorem allB_len : ∀ k, (allB k).length = 2 ^ k
  | 0 => rfl
  | k + 1 => by
    show ((allB k).map (true :: ·) ++ (allB k).map (false :: ·)).length = _
    rw [List.length_append, List.length_map, List.length_map, allB_len k, Nat.pow_succ]
    omega
/-- full at one more level than n * n: full at n * n -/
theorem full_back (hne : ∀ a, a < r.length → r.getD a [] ≠ []) (hlt : ∀ a, a < r.length → ∀ b ∈ r.getD a [], b < r.length) (hn : 0 < r.length) (h4 : r.length ≤ 4) (h : FullAt r (r.length * r.length + 1)) : FullAt r (r.length * r.length) := by
  intro a ha b hb
  have hfix : ∀ k, hasB r b k = List.replicate r.length true → hasB r b (k + 1) = List.replicate r.length true := by
    intro k hk
    rw [hasB_full] at hk ⊢
    intro a ha
    rw [blk_succ]
    cases e : r.getD a [] with
    | nil => exact absurd e (hne a ha)
    | cons c t =>
      rw [List.flatMap_cons]
      exact List.mem_append_left _ (hk c (hlt a ha c (by rw [e]; simp)))
  have hfixs : ∀ k j, hasB r b k = List.replicate r.length true → hasB r b (k + j) = List.replicate r.length true := by
    intro k j hk
    induction j with
    | zero => exact hk
    | succ j ih => exact hfix _ ih
  have hlast : hasB r b (r.length * r.length + 1) = List.replicate r.length true := hasB_full.2 fun a ha => h a ha b hb
  by_cases hc : hasB r b (r.length * r.length) = List.replicate r.length true
  · exact hasB_full.1 hc a ha
  · exfalso
    have hno : ∀ k, k < r.length * r.length + 1 → hasB r b k ≠ List.replicate r.length true := by
      intro k hk e
      have := hfixs k (r.length * r.length - k) e
      rw [show k + (r.length * r.length - k) = r.length * r.length by omega] at this
      exact hc this
    have hmem : List.replicate r.length true ∈ allB r.length := mem_allB _ _ (by simp)
    obtain ⟨i, j, hij, hj, e⟩ := two_alike ((allB r.length).erase (List.replicate r.length true)) (hasB r b) (r.length * r.length + 1) (by
      rw [List.length_erase_of_mem hmem, allB_len]
      have : r.length = 1 ∨ r.length = 2 ∨ r.length = 3 ∨ r.length = 4 := by omega
      rcases this with e | e | e | e <;> rw [e] <;> decide) fun k hk => (List.mem_erase_of_ne (hno k hk)).2 (mem_allB _ _ (by simp [hasB]))
    have := hasB_add hlt b e (r.length * r.length + 1 - j)
    rw [show j + (r.length * r.length + 1 - j) = r.length * r.length + 1 by omega, hlast] at this
    exact hno _ (by omega) this
/-- a rule as the law makes it -/
structure Good (r : List (List Nat)) : Prop where
  gr : GR r (r.length * r.length)
  four : r.length ≤ 4
  blk4 : ∀ a, a < r.length → (r.getD a []).length ≤ 4
theorem good_of (hne : ∀ a, a < r.length → r.getD a [] ≠ []) (hlt : ∀ a, a < r.length → ∀ b ∈ r.getD a [], b < r.length) (hn : 0 < r.length) (h4 : r.length ≤ 4) (hb : ∀ a, a < r.length → (r.getD a []).length ≤ 4)
    (hlong : ∃ c, c < r.length ∧ 2 ≤ (r.getD c []).length) {k : Nat} (hk : k ≤ r.length * r.length + 1) (h : FullAt r k) : Good r := by
  have h1 : FullAt r (r.length * r.length) := by
    refine full_back hne hlt hn h4 ?_
    have := full_ups hne hlt h (r.length * r.length + 1 - k)
    rwa [show k + (r.length * r.length + 1 - k) = r.length * r.length + 1 by omega] at this
  exact ⟨⟨hn, hne, hlt, h1, hlong⟩, h4, hb⟩
theorem mem_blk_trans {i j a c b : Nat} (h1 : c ∈ blk r i a) (h2 : b ∈ blk r j c) : b ∈ blk r (i + j) a := by
  rw [Nat.add_comm, blk_add]
  exact List.mem_flatMap.2 ⟨c, h1, h2⟩
/-- with a ring of letters and a letter 0 that has itself -/
theorem good_ring (hne : ∀ a, a < r.length → r.getD a [] ≠ []) (hlt : ∀ a, a < r.length → ∀ b ∈ r.getD a [], b < r.length) (hn : 0 < r.length) (h4 : r.length ≤ 4) (hb : ∀ a, a < r.length → (r.getD a []).length ≤ 4)
    (hlong : ∃ c, c < r.length ∧ 2 ≤ (r.getD c []).length) (ring : ∀ a, a < r.length → (a + 1) % r.length ∈ r.getD a []) (own : 0 ∈ r.getD 0 []) : Good r := by
  have one : ∀ a b, b ∈ r.getD a [] → b ∈ blk r 1 a := fun a b h => by
    show b ∈ up r [a]
    rw [up_one]
    exact h
  have walk : ∀ j a, a < r.length → (a + j) % r.length ∈ blk r j a := by
    intro j
    induction j with
    | zero => intro a ha; rw [Nat.add_zero, Nat.mod_eq_of_lt ha]; exact List.mem_singleton.2 rfl
    | succ j ih =>
      intro a ha
      have h1 := ih a ha
      have h2 := ring _ (Nat.mod_lt (a + j) hn)
      rw [Nat.mod_add_mod] at h2
      exact mem_blk_trans h1 (one _ _ h2)
  have stay : ∀ j, 0 ∈ blk r j 0 := by
    intro j
    induction j with
    | zero => exact List.mem_singleton.2 rfl
    | succ j ih => exact mem_blk_trans ih (one _ _ own)
  refine good_of hne hlt hn h4 hb hlong (k := r.length * r.length) (by omega) fun a ha b hb => ?_
  have w1 := walk (r.length - a) a ha
  rw [show a + (r.length - a) = r.length by omega, Nat.mod_self] at w1
  have w2 := walk b 0 hn
  rw [Nat.zero_add, Nat.mod_eq_of_lt hb] at w2
  have hsq : r.length - a + b ≤ r.length * r.length := by
    have h1 : r.length - a + b ≤ 2 * r.length - 1 := by omega
    have : r.length = 1 ∨ r.length = 2 ∨ r.length = 3 ∨ r.length = 4 := by omega
    have h2 : 2 * r.length - 1 ≤ r.length * r.length := by rcases this with e | e | e | e <;> rw [e] <;> decide
    omega
  have w3 := mem_blk_trans (mem_blk_trans w1 (stay (r.length * r.length - (r.length - a + b)))) w2
  rwa [show r.length - a + (r.length * r.length - (r.length - a + b)) + b = r.length * r.length by omega] at w3
/-- sixty turns give nine letters -/
theorem Good.long (g : Good r) {k : Nat} (hk : 60 ≤ k) : 9 ≤ (blk r k 0).length := by
  have hn := g.gr.pos
  have h4 := g.four
  have step : ∀ i, 9 ≤ (r.length + 1) ^ i → i * (r.length * r.length + 1) ≤ 60 → 9 ≤ (blk r k 0).length := by
    intro i h1 h2
    have h3 := len_pow g.gr i 0 hn
    have h5 := len_mono g.gr hn (i * (r.length * r.length + 1)) (k - i * (r.length * r.length + 1))
    rw [show i * (r.length * r.length + 1) + (k - i * (r.length * r.length + 1)) = k by omega] at h5
    omega
  have : r.length = 1 ∨ r.length = 2 ∨ r.length = 3 ∨ r.length = 4 := by omega
  rcases this with e | e | e | e
  · exact step 4 (by rw [e]; decide) (by rw [e]; decide)
  · exact step 2 (by rw [e]; decide) (by rw [e]; decide)
  · exact step 2 (by rw [e]; decide) (by rw [e]; decide)
  · exact step 2 (by rw [e]; decide) (by rw [e]; decide)
end

/-! ### families come round -/
/-- all lists of n maps on q standings -/
def allF (q : Nat) : Nat → List (List (List Nat))
  | 0 => [[]]
  | n + 1 => (allW q q).flatMap fun f => (allF q n).map (f :: ·)
theorem mem_allF (q : Nat) : ∀ (n : Nat) (F : List (List Nat)), F.length = n → (∀ f ∈ F, f ∈ allW q q) → F ∈ allF q n
  | 0, F, h, _ => by
    rw [List.length_eq_zero_iff.1 h]
    simp [allF]
  | n + 1, [], h, _ => by simp at h
  | n + 1, f :: F, h, hf => by
    unfold allF
    refine List.mem_flatMap.2 ⟨f, hf f List.mem_cons_self, List.mem_map.2 ⟨F, mem_allF q n F (by simpa using h) fun x hx => hf x (List.mem_cons_of_mem _ hx), rfl⟩⟩
theorem len_allF (q : Nat) : ∀ n, (allF q n).length = (q ^ q) ^ n
  | 0 => rfl
  | n + 1 => by
    show ((allW q q).flatMap fun f => (allF q n).map (f :: ·)).length = _
    rw [len_flatMap_const _ ((q ^ q) ^ n) _ (fun x _ => by rw [List.length_map, len_allF q n]), len_allW, Nat.pow_succ, Nat.mul_comm]
section
variable {r : List (List Nat)} {M : Mach} {N : Nat}
theorem fam_mem (gr : GR r N) (gm : GM r.length M) (k : Nat) : fam r M k ∈ allF M.length r.length := by
  refine mem_allF _ _ _ (fam_len k) fun f hf => ?_
  obtain ⟨a, ha, e⟩ := List.mem_map.1 hf
  rw [← e, mem_allW]
  exact ⟨mp_len _, mp_lt gm (blk_lt gr k (List.mem_range.1 ha))⟩
/-- some family comes again within so many levels -/
theorem fam_again (gr : GR r N) (gm : GM r.length M) : ∃ i j, i < j ∧ j ≤ (M.length ^ M.length) ^ r.length ∧ fam r M i = fam r M j := by
  obtain ⟨i, j, h1, h2, h3⟩ := two_alike (allF M.length r.length) (fam r M) ((M.length ^ M.length) ^ r.length + 1) (by rw [len_allF]; omega) fun k _ => fam_mem gr gm k
  exact ⟨i, j, h1, by omega, h3⟩
theorem fam_bound (h3 : M.length ≤ 3) (h4 : r.length ≤ 4) : (M.length ^ M.length) ^ r.length ≤ 531441 := by
  have h1 : M.length ^ M.length ≤ 27 := by
    have : M.length = 0 ∨ M.length = 1 ∨ M.length = 2 ∨ M.length = 3 := by omega
    rcases this with e | e | e | e <;> rw [e] <;> decide
  calc (M.length ^ M.length) ^ r.length ≤ 27 ^ r.length := Nat.pow_le_pow_left h1 _
    _ ≤ 27 ^ 4 := Nat.pow_le_pow_right (by decide) h4
    _ = 531441 := by decide

/-! ### the machine that goes to the last letter -/
def lastM (q n : Nat) : Mach := List.replicate q ((List.range n).map fun a => (a % q, a))
theorem lastM_nx {q n s a : Nat} (hs : s < q) (ha : a < n) : nx (lastM q n) s a = a % q := by
  have h1 : (lastM q n).getD s [] = (List.range n).map fun a => (a % q, a) := by
    unfold lastM
    rw [List.getD_eq_getElem?_getD, List.getElem?_replicate, if_pos hs]
    rfl
  unfold nx
  rw [h1, List.getD_eq_getElem?_getD, List.getElem?_map, List.getElem?_range ha]
  rfl
theorem lastM_gm {q n : Nat} (hq : 0 < q) : GM n (lastM q n) where
  pos := by simpa [lastM] using hq
  row s hs := by
    have hs : s < q := by simpa [lastM] using hs
    unfold lastM
    rw [List.getD_eq_getElem?_getD, List.getElem?_replicate, if_pos hs]
    simp
  lt s hs a ha := by
    have hs : s < q := by simpa [lastM] using hs
    rw [lastM_nx hs ha]
    simpa [lastM] using Nat.mod_lt a hq
theorem lastM_rk {q n a : Nat} (hq : 0 < q) (ha : a < n) : rk (lastM q n) [a] = 1 := by
  have h : ∀ s, s ∈ img (lastM q n) [a] ↔ s ∈ [a % q] := by
    intro s
    rw [mem_img, mp_eq, List.mem_map, List.mem_singleton]
    constructor
    · rintro ⟨t, ht, e⟩
      have ht : t < q := by simpa [lastM] using ht
      rw [← e]
      exact lastM_nx ht ha
    · intro e
      refine ⟨0, by simpa [lastM] using hq, ?_⟩
      rw [e]
      exact lastM_nx hq ha
  have e : img (lastM q n) [a] = [a % q] := asc_ext soN (img_asc _) (List.pairwise_singleton _ _) h
  unfold rk
  rw [e]
  rfl
theorem lastM_mem {q : Nat} (gr : GR r N) (hq : 0 < q) : Mem r (lastM q r.length) 1 :=
  ⟨fun w _ => rk_pos (lastM_gm (n := r.length) hq) w, ⟨[0], inL_one gr.pos, lastM_rk hq gr.pos⟩⟩
theorem lastM_settle {q : Nat} (gr : GR r N) (hq : 0 < q) : ∀ w, InL r w → w.length = 1 → rk (lastM q r.length) w = 1 := by
  intro w hw hl
  match w, hl with
  | [a], _ => exact lastM_rk hq (hw.letters gr a (by simp))
end
end K37
set_option Elab.async false
set_option linter.all false
set_option maxRecDepth 100000
set_option maxHeartbeats 1000000
/-! W1: maps. -/
namespace K37
open PySem L2 Evl
section
variable {P : Program} {w : World} {K : PySem.W.Frag} {mg : Str → Option Value} {base : Heap}
/-! chained -/
def spChained : Sp := spF (fun (x : List Nat × List Nat) => [vD (eW x.1), vD (eW x.2)]) (fun x => x.1.length ≤ 1000 ∧ ∀ s ∈ x.1, s < x.2.length) (fun x => vD (eW (chained x.1 x.2)))
abbrev nChained : List Str := ["first", "second", "late"]
theorem scChained : FnScope nChained ["first", "second"] (defScope st_chained) := ⟨rfl, rfl, rfl, by decide +kernel, rfl, by decide +kernel, by decide +kernel⟩
theorem ok_chained (F : Df K mg "chained" st_chained []) (B : Bi mg) : Cb P w K mg base "chained" 1 ["first", "second"] [] spChained := by
  refine F.ok scChained (fun _ => rfl) (fun _ _ _ _ _ _ us hl => match us, hl with | [_, _], _ => rfl) fun f cdv A outer s H Ex' hr => ?_
  refine ⟨_, pss_one (ps_ret (bTup K B
    (pe_lc (own := [("late", 2)]) (g := gName 2) (tt := tYes) rfl scChained.nd (itT K (pv 0)) (blkOk_by (N := nChained) (sc := defScope st_chained) (by decide +kernel))
      (fun _ _ _ _ _ => pg_name (i := 2) scChained.nd rfl (Or.inl rfl)) (fun _ _ _ _ _ => pts_nil) (fun _ _ _ _ _ => ixT K (pv 1) (pv 2))))), ?_⟩
  rintro ⟨a, b⟩ vs ⟨v1, r1, rfl, h1, v2, r2, rfl, h2, e⟩ ⟨hc, hlt⟩ Q k
  dsimp only at *
  rw [show r2 = [] from e]
  refine x_ret (e_cb (a_cons (EN.e (en_lc1 (vs := [2]) a _ (fun s => vD (eN (b.getD s 0))) (src0_tupE a eN (e_var rfl h1)).t.src (by omega) (fun _ _ => st_d _) (fun v => rfl) ?_)) a_nil) (r_tupE a fun s => eN (b.getD s 0))) (by
    unfold chained eW at k
    rw [List.map_map] at k
    exact k)
  intro x hx v H1 e1 p
  exact e_op (e_var rfl ((vD _).mono e1 h2)) (e_n (e_var rfl p)) (o_ixT (atI_E (hlt x hx)))
/-! standings_in -/
def spStandings : Sp := spF (fun (M : Mach) => [vD (eM M)]) (fun M => M.length ≤ 1000) (fun M => vD (eW (List.range M.length)))
abbrev nStandings : List Str := ["machine"]
theorem scStandings : FnScope nStandings ["machine"] (defScope st_standings_in) := ⟨rfl, rfl, rfl, by decide +kernel, rfl, by decide +kernel, by decide +kernel⟩
theorem ok_standings_in (F : Df K mg "standings_in" st_standings_in []) (B : Bi mg) : Cb P w K mg base "standings_in" 1 ["machine"] [] spStandings := by
  refine F.ok scStandings (fun _ => rfl) (fun _ _ _ _ _ _ us hl => match us, hl with | [_], _ => rfl) fun f cdv A outer s H Ex' hr => ?_
  refine ⟨_, pss_one (ps_ret (bTupRg B (bLen K B (pv 0)))), ?_⟩
  rintro M vs ⟨v1, r1, rfl, h1, e⟩ hc Q k
  rw [show r1 = [] from e]
  refine x_ret (e_tupRg ((e_cb (a_cons (e_var rfl h1) a_nil) r_lenT).weak fun v H1 _ p => ?_) (by omega)) k
  rw [List.length_map] at p
  exact p
/-! letter_map -/
theorem mp_one (M : Mach) (a : Nat) : mp M [a] = M.map fun row => (row.getD a (0, 0)).1 := by
  rw [mp_eq]
  refine List.ext_getElem? fun i => ?_
  rw [List.getElem?_map, List.getElem?_map]
  by_cases h : i < M.length
  · rw [List.getElem?_range h, List.getElem?_eq_getElem h]
    have e : M.getD i [] = M[i] := by
      rw [List.getD_eq_getElem?_getD, List.getElem?_eq_getElem h]
      rfl
    show some ((M.getD i []).getD a (0, 0)).1 = some (M[i].getD a (0, 0)).1
    rw [e]
  · have h' := Nat.le_of_not_lt h
    rw [List.getElem?_eq_none h', List.getElem?_eq_none (by simpa using h')]
    rfl
theorem atI_pair0 (p : Nat × Nat) : atI [eN p.1, eN p.2] ((0 : Nat) : Int) = some (eN p.1) := atI_nat rfl
theorem atI_pair1 (p : Nat × Nat) : atI [eN p.1, eN p.2] ((1 : Nat) : Int) = some (eN p.2) := atI_nat rfl
def spLetterMap : Sp := spF (fun (x : Mach × Nat) => [vD (eM x.1), vD (eN x.2)]) (fun x => x.1.length ≤ 1000 ∧ ∀ row ∈ x.1, x.2 < row.length) (fun x => vD (eW (mp x.1 [x.2])))
abbrev nLetterMap : List Str := ["machine", "letter", "standing"]
theorem scLetterMap : FnScope nLetterMap ["machine", "letter"] (defScope st_letter_map) := ⟨rfl, rfl, rfl, by decide +kernel, rfl, by decide +kernel, by decide +kernel⟩
theorem ok_letter_map (F : Df K mg "letter_map" st_letter_map []) (B : Bi mg) : Cb P w K mg base "letter_map" 1 ["machine", "letter"] [] spLetterMap := by
  refine F.ok scLetterMap (fun _ => rfl) (fun _ _ _ _ _ _ us hl => match us, hl with | [_, _], _ => rfl) fun f cdv A outer s H Ex' hr => ?_
  refine ⟨_, pss_one (ps_ret (bTup K B
    (pe_lc (own := [("standing", 2)]) (g := gName 2) (tt := tYes) rfl scLetterMap.nd (itT K (pv 0)) (blkOk_by (N := nLetterMap) (sc := defScope st_letter_map) (by decide +kernel))
      (fun _ _ _ _ _ => pg_name (i := 2) scLetterMap.nd rfl (Or.inl rfl)) (fun _ _ _ _ _ => pts_nil) (fun _ _ _ _ _ => ixT K (ixT K (pv 2) (pv 1)) pe_int)))), ?_⟩
  rintro ⟨M, a⟩ vs ⟨v1, r1, rfl, h1, v2, r2, rfl, h2, e⟩ ⟨hc, hlt⟩ Q k
  dsimp only at *
  rw [show r2 = [] from e]
  refine x_ret (e_cb (a_cons (EN.e (en_lc1 (vs := [2]) M _ (fun row => vD (eN (row.getD a (0, 0)).1)) (src0_tupE M _ (e_var rfl h1)).t.src (by omega) (fun _ _ => st_d _) (fun v => rfl) ?_)) a_nil) (r_tupE M fun row => eN (row.getD a (0, 0)).1)) (by
    rw [mp_one] at k
    unfold eW at k
    rw [List.map_map] at k
    exact k)
  intro x hx v H1 e1 p
  exact e_op (e_op (e_var rfl p) (e_n (e_var rfl ((vD _).mono e1 h2))) (o_ixT (atI_E (hlt x hx)))) e_c (o_ixT (atI_pair0 _))
/-! map_by -/
def spMapBy : Sp := spF (fun (x : Mach × List Nat) => [vD (eM x.1), vD (eW x.2)]) (fun x => x.1.length ≤ 1000 ∧ x.2.length ≤ 1000000 ∧ ∃ n, GM n x.1 ∧ ∀ a ∈ x.2, a < n) (fun x => vD (eW (mp x.1 x.2)))
abbrev nMapBy : List Str := ["machine", "word", "found", "letter", "late"]
theorem scMapBy : FnScope nMapBy ["machine", "word"] (defScope st_map_by) := ⟨rfl, rfl, rfl, by decide +kernel, rfl, by decide +kernel, by decide +kernel⟩
theorem ok_map_by (F : Df K mg "map_by" st_map_by []) (B : Bi mg) (c1 : Cb P w K mg base "standings_in" 1 ["machine"] [] spStandings) : Cb P w K mg base "map_by" 2 ["machine", "word"] [] spMapBy := by
  refine F.ok scMapBy (fun _ => rfl) (fun _ _ _ _ _ _ us hl => match us, hl with | [_, _], _ => rfl) fun f cdv A outer s H Ex' hr => ?_
  refine ⟨_, pss_cons (ps_set (i := 2) scMapBy.nd rfl (Or.inl rfl) (pe_cb c1 hr rfl (pa_cons (pv 0) pa_nil)))
    (pss_cons (ps_for PassesOwn.never rfl (itT K (pv 1)) (pg_name (i := 3) scMapBy.nd rfl (Or.inr rfl))
      (pss_one (ps_set (i := 2) scMapBy.nd rfl (Or.inl rfl) (bTup K B
        (pe_lc (own := [("late", 4)]) (g := gName 4) (tt := tYes) rfl scMapBy.nd (itT K (pv 2)) (blkOk_by (N := nMapBy) (sc := defScope st_map_by) (by decide +kernel))
          (fun _ _ _ _ _ => pg_name (i := 4) scMapBy.nd rfl (Or.inl rfl)) (fun _ _ _ _ _ => pts_nil) (fun _ _ _ _ _ => ixT K (ixT K (ixT K (pv 0) (pv 4)) (pv 3)) pe_int))))))
    (pss_one (ps_ret (pv 2)))), ?_⟩
  rintro ⟨M, u⟩ vs ⟨v1, r1, rfl, h1, v2, r2, rfl, h2, e⟩ ⟨hc, hu, n, gm, hlt⟩ Q k
  dsimp only at *
  rw [show r2 = [] from e]
  refine x_asg (e_call' M (a_cons (e_var rfl h1) a_nil) hc) fun fv H1 e1 p1 => ?_
  refine x_forN (j := 3) u _ (src0_tupE u eN (e_var rfl ((vD _).mono e1 h2))) (fun pre σ' H' => ∃ fv l, σ' = [some v1, some v2, some fv, l, none] ∧ Ex H H' ∧ Is H' (eW (mp M pre)) fv)
    (fun H2 e2 => ⟨fv, none, rfl, e1.trans e2, Is.mono (Ex.tx e2) _ _ p1⟩) ?_ ?_
  · rintro pre a post hsp v σ' H' pa ⟨gv, l, rfl, e2, pg⟩ N hN
    have ha : a < n := hlt a (by rw [hsp]; simp)
    have hpre : ∀ b ∈ pre, b < n := fun b hb => hlt b (by rw [hsp]; simp [hb])
    refine x_asg (e_cb (a_cons (EN.e (en_lc1 (vs := [4]) (mp M pre) _ (fun s => vD (eN (nx M s a))) (src0_tupE (mp M pre) eN (e_var rfl pg)).t.src (by rw [mp_len]; omega) (fun _ _ => st_d _) (fun v => rfl) ?_)) a_nil) (r_tupE (mp M pre) fun s => eN (nx M s a))) fun gv' H3 e3 p3 => ?_
    · intro x hx y H3 e3 py
      have hx' := mp_lt gm hpre x hx
      refine e_op (e_op (e_op (e_var rfl ((vD _).mono (e2.trans e3) h1)) (e_n (e_var rfl py)) (o_ixT (atI_E (d := []) hx'))) (e_n (e_var rfl ((vD _).mono e3 pa))) (o_ixT (atI_E (d := (0, 0)) ?_))) e_c (o_ixT (atI_pair0 _))
      rw [gm.row x hx']
      exact ha
    · refine hN _ _ (Ex.tx e3) (Ex.nk e3) ⟨gv', some v, rfl, e2.trans e3, ?_⟩
      have hm : mp M (pre ++ [a]) = (mp M pre).map fun s => nx M s a := by
        unfold mp
        rw [List.foldl_append]
        rfl
      rw [hm]
      unfold eW
      rw [List.map_map]
      exact p3
  · rintro σ' H' ⟨gv, l, rfl, e2, pg⟩
    exact x_ret (e_var rfl (show (vD (eW (mp M u))).p gv H' from pg)) fun v H3 e3 p3 => k v H3 (e2.trans e3) p3
end
end K37
set_option Elab.async false
set_option linter.all false
set_option maxRecDepth 100000
set_option maxHeartbeats 1000000
/-! E5: == and in, slices, min, max, all, any, order of numbers, truth, lists that change. -/
namespace K37
open PySem L2 Evl

/-! ### data, compared -/
mutual
theorem lay_py : ∀ d : Dv, d.py.canLay0 = true
  | .n i => by rw [Dv.py, PyData.canLay0]
  | .t ds => by rw [Dv.py, PyData.canLay0]; exact lay_pys ds
theorem lay_pys : ∀ ds : List Dv, PyData.canLayAll0 (Dv.pys ds) = true
  | [] => by rw [Dv.pys, PyData.canLayAll0]
  | d :: ds => by rw [Dv.pys, PyData.canLayAll0, lay_py d, lay_pys ds]; rfl
end
mutual
theorem eqv_py : ∀ d e : Dv, PyData.eqv d.py e.py = true ↔ d = e
  | .n i, .n j => by
    rw [Dv.py, Dv.py, PyData.eqv, beq_iff_eq]
    constructor
    · intro h; rw [h]
    · intro h; injection h
  | .n i, .t es => by
    rw [Dv.py, Dv.py, PyData.eqv]
    constructor
    · intro h; cases h
    · intro h; cases h
  | .t ds, .n j => by
    rw [Dv.py, Dv.py, PyData.eqv]
    constructor
    · intro h; cases h
    · intro h; cases h
  | .t ds, .t es => by
    rw [Dv.py, Dv.py, PyData.eqv, eqv_pys ds es]
    constructor
    · intro h; rw [h]
    · intro h; injection h
theorem eqv_pys : ∀ ds es : List Dv, PyData.eqvAll (Dv.pys ds) (Dv.pys es) = true ↔ ds = es
  | [], [] => by rw [Dv.pys, PyData.eqvAll]; simp
  | [], e :: es => by rw [Dv.pys, Dv.pys, PyData.eqvAll]; simp
  | d :: ds, [] => by rw [Dv.pys, Dv.pys, PyData.eqvAll]; simp
  | d :: ds, e :: es => by
    rw [Dv.pys, Dv.pys, PyData.eqvAll, Bool.and_eq_true, eqv_py d e, eqv_pys ds es]
    simp
end
theorem pys_map : ∀ ds : List Dv, Dv.pys ds = ds.map Dv.py
  | [] => by rw [Dv.pys]; rfl
  | d :: ds => by rw [Dv.pys, pys_map ds]; rfl
mutual
def Dv.dep : Dv → Nat
  | .n _ => 0
  | .t ds => Dv.deps ds + 1
def Dv.deps : List Dv → Nat
  | [] => 0
  | d :: ds => max (Dv.dep d) (Dv.deps ds)
end
mutual
theorem dep_py : ∀ d : Dv, d.py.depth = d.dep
  | .n i => by rw [Dv.py, PyData.depth, Dv.dep]
  | .t ds => by rw [Dv.py, PyData.depth, Dv.dep, dep_pys ds]
theorem dep_pys : ∀ ds : List Dv, PyData.depthAll (Dv.pys ds) = Dv.deps ds
  | [] => by rw [Dv.pys, PyData.depthAll, Dv.deps]
  | d :: ds => by rw [Dv.pys, PyData.depthAll, Dv.deps, dep_py d, dep_pys ds]
end
theorem deps_map {α : Type} {f : α → Dv} {n : Nat} (h : ∀ x, (f x).dep ≤ n) : ∀ xs : List α, Dv.deps (xs.map f) ≤ n
  | [] => by rw [List.map_nil, Dv.deps]; omega
  | x :: xs => by rw [List.map_cons, Dv.deps]; exact Nat.max_le.2 ⟨h x, deps_map h xs⟩
theorem dep_eN (n : Nat) : (eN n).dep ≤ 0 := by rw [eN, Dv.dep]; omega
theorem dep_eW (w : List Nat) : (eW w).dep ≤ 1 := by rw [eW, Dv.dep]; exact Nat.succ_le_succ (deps_map dep_eN w)
theorem dep_eR (r : List (List Nat)) : (eR r).dep ≤ 2 := by rw [eR, Dv.dep]; exact Nat.succ_le_succ (deps_map dep_eW r)
theorem shaped_t {d : Dv} (h : d.dep ≤ 60) : SeqAt.shaped d.py = true := by
  show (d.py.canLay0 && decide (d.py.depth ≤ 64)) = true
  rw [lay_py, dep_py]
  simp
  omega
theorem shaped_l {ds : List Dv} (h : Dv.deps ds ≤ 60) : SeqAt.shaped (.list (Dv.pys ds)) = true := by
  show ((PyData.list (Dv.pys ds)).canLay0 && decide ((PyData.list (Dv.pys ds)).depth ≤ 64)) = true
  rw [PyData.canLay0, lay_pys, PyData.depth, dep_pys]
  simp
  omega
theorem eN_inj {a b : Nat} : eN a = eN b ↔ a = b := by
  unfold eN
  constructor
  · intro h; injection h with h; omega
  · intro h; rw [h]
theorem map_inj {α β : Type} {f : α → β} (h : ∀ a b, f a = f b → a = b) : ∀ {xs ys : List α}, xs.map f = ys.map f → xs = ys
  | [], [], _ => rfl
  | [], _ :: _, e => by simp at e
  | _ :: _, [], e => by simp at e
  | x :: xs, y :: ys, e => by
    rw [List.map_cons, List.map_cons] at e
    injection e with e1 e2
    rw [h _ _ e1, map_inj h e2]
theorem eW_inj {u v : List Nat} : eW u = eW v ↔ u = v := by
  unfold eW
  constructor
  · intro h
    injection h with h
    exact map_inj (fun a b e => eN_inj.1 e) h
  · intro h; rw [h]
theorem eR_inj {u v : List (List Nat)} : eR u = eR v ↔ u = v := by
  unfold eR
  constructor
  · intro h
    injection h with h
    exact map_inj (fun a b e => eW_inj.1 e) h
  · intro h; rw [h]
section
variable {K : PySem.W.Frag} {σ : L2.St} {H H' : Hp} {ta tb te tx : TE} {t u : TT} {P P1 P2 : VP} {Ps : List VP} {r : R2}
theorem vL_dp {ds : List Dv} {v : V} (h : (vDs ds).p v H) : Dp K H v (.list (Dv.pys ds)) := by
  obtain ⟨a, vs, h1, h2, h3⟩ := h
  rw [h1]
  exact .lst (sq_of h2) (IsAll.dp ds vs (allP_isAll.1 h3))
theorem bool_of_iff {b c : Bool} {p : Prop} (h1 : b = true ↔ p) (h2 : c = true ↔ p) : b = c := Bool.eq_iff_iff.2 (h1.trans h2.symm)
/-- d == e of data -/
theorem o_eqD {d e : Dv} {b : Bool} (hd : d.dep ≤ 60) (he : e.dep ≤ 60) (hb : b = true ↔ d = e) : O (rEqD K) (vD d) (vD e) (vB b) := fun x y H hx hy Q q =>
  ⟨d.py, e.py, Is.dp _ _ hx, Is.dp _ _ hy, shaped_t hd, shaped_t he, by rw [← bool_of_iff hb (eqv_py d e)]; exact q _ H (Ex.refl H) rfl⟩
theorem o_neD {d e : Dv} {b : Bool} (hd : d.dep ≤ 60) (he : e.dep ≤ 60) (hb : b = true ↔ d = e) : O (rNeD K) (vD d) (vD e) (vB (!b)) := fun x y H hx hy Q q =>
  ⟨d.py, e.py, Is.dp _ _ hx, Is.dp _ _ hy, shaped_t hd, shaped_t he, by rw [← bool_of_iff hb (eqv_py d e)]; exact q _ H (Ex.refl H) rfl⟩
/-- the same of lists of data -/
theorem o_eqL {ds es : List Dv} {b : Bool} (hd : Dv.deps ds ≤ 60) (he : Dv.deps es ≤ 60) (hb : b = true ↔ ds = es) : O (rEqD K) (vDs ds) (vDs es) (vB b) := fun x y H hx hy Q q =>
  ⟨_, _, vL_dp hx, vL_dp hy, shaped_l hd, shaped_l he, by rw [PyData.eqv, ← bool_of_iff hb (eqv_pys ds es)]; exact q _ H (Ex.refl H) rfl⟩
theorem o_neL {ds es : List Dv} {b : Bool} (hd : Dv.deps ds ≤ 60) (he : Dv.deps es ≤ 60) (hb : b = true ↔ ds = es) : O (rNeD K) (vDs ds) (vDs es) (vB (!b)) := fun x y H hx hy Q q =>
  ⟨_, _, vL_dp hx, vL_dp hy, shaped_l hd, shaped_l he, by rw [PyData.eqv, ← bool_of_iff hb (eqv_pys ds es)]; exact q _ H (Ex.refl H) rfl⟩
theorem any_pys {ds : List Dv} {d : Dv} : ((Dv.pys ds).any fun z => PyData.eqv z d.py) = true ↔ d ∈ ds := by
  rw [pys_map, List.any_map, List.any_eq_true]
  constructor
  · rintro ⟨e, he, h⟩
    rw [← (eqv_py e d).1 h]
    exact he
  · intro h
    exact ⟨d, h, (eqv_py d d).2 rfl⟩
/-- d in l, d not in l -/
theorem o_inL {ds : List Dv} {d : Dv} {b : Bool} (hd : d.dep ≤ 60) (hs : Dv.deps ds ≤ 60) (hb : b = true ↔ d ∈ ds) : O (rInD K) (vD d) (vDs ds) (vB b) := fun x y H hx hy Q q =>
  ⟨_, _, Is.dp _ _ hx, vL_dp hy, shaped_t hd, shaped_l hs, by rw [← bool_of_iff hb any_pys]; exact q _ H (Ex.refl H) rfl⟩
theorem o_notInL {ds : List Dv} {d : Dv} {b : Bool} (hd : d.dep ≤ 60) (hs : Dv.deps ds ≤ 60) (hb : b = true ↔ d ∈ ds) : O (rNotInD K) (vD d) (vDs ds) (vB (!b)) := fun x y H hx hy Q q =>
  ⟨_, _, Is.dp _ _ hx, vL_dp hy, shaped_t hd, shaped_l hs, by rw [← bool_of_iff hb any_pys]; exact q _ H (Ex.refl H) rfl⟩
/-- d in t, d not in t, t a tuple -/
def rInU (K : PySem.W.Frag) (neg : Bool) : R2 := fun x y H Q => ∃ (d : Dv) (ds : List Dv) (b : Bool), Is H d x ∧ Is H (.t ds) y ∧ d.dep ≤ 60 ∧ (b = true ↔ d ∈ ds) ∧ Q (.bl (if neg then !b else b)) H
theorem op_inU {X : Cx} (hu : X.A.units + 65 < cLine) : OpR X (compareOp .In) (rInU X.K false) := by
  intro pins s σ H x y v u Q I rx ry h
  obtain ⟨d, ds, b, hd, hds, h60, hb, q⟩ := h
  obtain ⟨as, r1⟩ := Dp.reads I _ x v (Is.dp _ _ hd) rx
  obtain ⟨bs, r2⟩ := Dp.reads I _ y u (Is.dp _ _ hds) ry
  rw [Dv.py] at r2
  refine SeqAt.in_tuple_reads r2 r1 (lay_pys ds) (lay_py d) (PyProof.Rows.room_in_shaped (shaped_t h60) hu) ⟨.bl _, H, I, rfl, ?_⟩
  rw [← bool_of_iff hb any_pys]
  exact q
theorem op_notInU {X : Cx} (hu : X.A.units + 65 < cLine) : OpR X (compareOp .NotIn) (rInU X.K true) := by
  intro pins s σ H x y v u Q I rx ry h
  obtain ⟨d, ds, b, hd, hds, h60, hb, q⟩ := h
  obtain ⟨as, r1⟩ := Dp.reads I _ x v (Is.dp _ _ hd) rx
  obtain ⟨bs, r2⟩ := Dp.reads I _ y u (Is.dp _ _ hds) ry
  rw [Dv.py] at r2
  refine SeqAt.notIn_tuple_reads r2 r1 (lay_pys ds) (lay_py d) (PyProof.Rows.room_in_shaped (shaped_t h60) hu) ⟨.bl _, H, I, rfl, ?_⟩
  rw [← bool_of_iff hb any_pys]
  exact q
theorem o_inU {ds : List Dv} {d : Dv} {b : Bool} (hd : d.dep ≤ 60) (hb : b = true ↔ d ∈ ds) : O (rInU K false) (vD d) (vD (.t ds)) (vB b) := fun x y H hx hy Q q =>
  ⟨d, ds, b, hx, hy, hd, hb, q _ H (Ex.refl H) rfl⟩
theorem o_notInU {ds : List Dv} {d : Dv} {b : Bool} (hd : d.dep ≤ 60) (hb : b = true ↔ d ∈ ds) : O (rInU K true) (vD d) (vD (.t ds)) (vB (!b)) := fun x y H hx hy Q q =>
  ⟨d, ds, b, hx, hy, hd, hb, q _ H (Ex.refl H) rfl⟩

/-! ### slices of tuples of data -/
theorem e_sl {to1 to2 : TO} {ds : List Dv} {lo hi : Option Int} (h : E te σ H (vD (.t ds))) (h1 : EvO to1 σ H lo) (h2 : EvO to2 σ H hi) :
    E (tSl (rSlA K) te to1 to2) σ H (vD (.t ((ds.drop (HT.sIx ds.length 0 lo)).take (HT.sIx ds.length ds.length hi - HT.sIx ds.length 0 lo)))) := fun H1 e Q q =>
  h H1 e _ fun v H2 e2 p => h1 H2 (e.trans e2) _ fun H3 e3 => h2 H3 ((e.trans e2).trans e3) _ fun H4 e4 => by
    obtain ⟨a, vs, a1, a2, a3⟩ := is_t.1 p
    have hl := a3.length
    have e24 : Ex H2 H4 := e3.trans e4
    refine ⟨a, vs, a1, st_of (e24 _ _ a2), fun hw => ?_, fun _ p' hp => ?_⟩
    · rw [hl] at hw
      rw [hw.1, hw.2, List.drop_zero, Nat.sub_zero, List.take_length] at q
      exact q _ H4 (e2.trans e24) ((vD (.t ds)).mono e24 (by rw [← a1]; exact p))
    · refine q _ _ ((e2.trans e24).trans (Ex.new hp)) (is_t.2 ⟨p', _, rfl, upd_same, ?_⟩)
      unfold cutV
      rw [hl]
      exact ((IsAll.mono (Ex.tx (e24.trans (Ex.new hp))) _ _ a3).drop _).take _
theorem eo_none : EvO tNoPart σ H none := fun H1 _ Q q => q H1 (Ex.refl H1)
theorem eo_some {i : Int} (h : E te σ H (vI i)) : EvO (tPart te) σ H (some i) := fun H1 e Q q => h H1 e _ fun v H2 e2 p => ⟨i, p, q H2 e2⟩
theorem e_sl_from {k : Nat} {ds : List Dv} (h : E te σ H (vD (.t ds))) (hk : E tb σ H (vI k)) : E (tSl (rSlA K) te (tPart tb) tNoPart) σ H (vD (.t (ds.drop k))) := (e_sl (K := K) h (eo_some hk) eo_none).weak fun v H1 _ p => by
  rw [HT.sIx_nat, HT.sIx_none] at p
  have e1 : (ds.drop (min k ds.length)).take (ds.length - min k ds.length) = ds.drop k := by
    by_cases hk : k ≤ ds.length
    · rw [Nat.min_eq_left hk]
      exact List.take_of_length_le (by rw [List.length_drop]; exact Nat.le_refl _)
    · rw [Nat.min_eq_right (by omega), List.drop_length, List.drop_eq_nil_of_le (by omega), List.take_nil]
  rw [e1] at p
  exact p
theorem e_sl_to {k : Nat} {ds : List Dv} (h : E te σ H (vD (.t ds))) (hk : E tb σ H (vI k)) : E (tSl (rSlA K) te tNoPart (tPart tb)) σ H (vD (.t (ds.take k))) := (e_sl (K := K) h eo_none (eo_some hk)).weak fun v H1 _ p => by
  rw [HT.sIx_nat, HT.sIx_none, List.drop_zero, Nat.sub_zero] at p
  have e1 : ds.take (min k ds.length) = ds.take k := by
    by_cases hk : k ≤ ds.length
    · rw [Nat.min_eq_left hk]
    · rw [Nat.min_eq_right (by omega), List.take_length, List.take_of_length_le (by omega)]
  rw [e1] at p
  exact p
theorem e_sl_ab {k m : Nat} {ds : List Dv} (h : E te σ H (vD (.t ds))) (hk : E ta σ H (vI k)) (hm : E tb σ H (vI m)) : E (tSl (rSlA K) te (tPart ta) (tPart tb)) σ H (vD (.t ((ds.drop k).take (m - k)))) := (e_sl (K := K) h (eo_some hk) (eo_some hm)).weak fun v H1 _ p => by
  rw [HT.sIx_nat, HT.sIx_nat] at p
  have e1 : (ds.drop (min k ds.length)).take (min m ds.length - min k ds.length) = (ds.drop k).take (m - k) := by
    by_cases hk : k ≤ ds.length
    · rw [Nat.min_eq_left hk]
      by_cases hm : m ≤ ds.length
      · rw [Nat.min_eq_left hm]
      · rw [Nat.min_eq_right (by omega), List.take_of_length_le (by rw [List.length_drop]; exact Nat.le_refl _), List.take_of_length_le (by rw [List.length_drop]; omega)]
    · have h1 : min k ds.length = ds.length := Nat.min_eq_right (by omega)
      rw [h1, List.drop_length, List.drop_eq_nil_of_le (show ds.length ≤ k by omega), List.take_nil, List.take_nil]
  rw [e1] at p
  exact p

/-! ### built-ins over lists of numbers, of truths -/
theorem vals_ints {ns : List Int} {vs : List V} (h : AllP (ns.map vI) vs H) : vs = ns.map V.int := allP_vals.1 h
theorem r_min {ns : List Int} (hne : ns ≠ []) {m : Int} (hm : m ∈ ns) (hl : ∀ y ∈ ns, m ≤ y) : R (rMin K) [vL (ns.map vI)] (vI m) := fun vs H h Q q => by
  obtain ⟨v, r, e, ⟨a, ws, h3, h4, h5⟩, h2⟩ := h
  rw [show r = [] from h2] at e
  refine ⟨a, ns, by rw [e, h3], ?_, List.length_pos_iff.2 hne, fun m' h1 h2 => ?_⟩
  · rw [← vals_ints h5]
    exact sq_of h4
  · have : m' = m := Int.le_antisymm (h2 m hm) (hl m' h1)
    rw [this]
    exact q _ H (Ex.refl H) rfl
theorem r_max {ns : List Int} (hne : ns ≠ []) {m : Int} (hm : m ∈ ns) (hl : ∀ y ∈ ns, y ≤ m) : R (rMax K) [vL (ns.map vI)] (vI m) := fun vs H h Q q => by
  obtain ⟨v, r, e, ⟨a, ws, h3, h4, h5⟩, h2⟩ := h
  rw [show r = [] from h2] at e
  refine ⟨a, ns, by rw [e, h3], ?_, List.length_pos_iff.2 hne, fun m' h1 h2 => ?_⟩
  · rw [← vals_ints h5]
    exact sq_of h4
  · have : m' = m := Int.le_antisymm (hl m' h1) (h2 m hm)
    rw [this]
    exact q _ H (Ex.refl H) rfl
theorem r_all {bs : List Bool} : R (rAll K) [vL (bs.map vB)] (vB (bs.all id)) := fun vs H h Q q => by
  obtain ⟨v, r, e, ⟨a, ws, h3, h4, h5⟩, h2⟩ := h
  rw [show r = [] from h2] at e
  have e5 : ws = bs.map V.bl := allP_vals.1 h5
  rw [e5] at h4
  exact ⟨a, bs, by rw [e, h3], sq_of h4, q _ H (Ex.refl H) rfl⟩
theorem r_any {bs : List Bool} : R (rAny K) [vL (bs.map vB)] (vB (bs.any id)) := fun vs H h Q q => by
  obtain ⟨v, r, e, ⟨a, ws, h3, h4, h5⟩, h2⟩ := h
  rw [show r = [] from h2] at e
  have e5 : ws = bs.map V.bl := allP_vals.1 h5
  rw [e5] at h4
  exact ⟨a, bs, by rw [e, h3], sq_of h4, q _ H (Ex.refl H) rfl⟩
/-- isinstance(x, int), (x, bool), (x, tuple) -/
theorem isi_n {i : Int} {n : String} {b : Bool} (h : PySem.W.kitOne K (.type "int") (.type n) = some b) : R (rIsi K) [vI i, vV (.ty n)] (vB b) := fun vs H hv Q q => by
  obtain ⟨v, r, e, h1, v2, r2, e2, h2, h3⟩ := hv
  rw [show r2 = [] from h3] at e2
  rw [e2] at e
  exact ⟨.int i, .ty n, .type "int", .type n, b, by rw [e, show v = .int i from h1, show v2 = .ty n from h2], .ty n, .base (.int i), h, q _ H (Ex.refl H) rfl⟩
theorem isi_t {ds : List Dv} {n : String} {b : Bool} (h : PySem.W.kitOne K (.type "tuple") (.type n) = some b) : R (rIsi K) [vD (.t ds), vV (.ty n)] (vB b) := fun vs H hv Q q => by
  obtain ⟨v, r, e, h1, v2, r2, e2, h2, h3⟩ := hv
  rw [show r2 = [] from h3] at e2
  rw [e2] at e
  obtain ⟨a, xs, k1, k2, k3⟩ := is_t.1 h1
  exact ⟨.ref a, .ty n, .type "tuple", .type n, b, by rw [e, k1, show v2 = .ty n from h2], .ty n, .base (.tup k2), h, q _ H (Ex.refl H) rfl⟩
end
end K37
set_option Elab.async false
set_option linter.all false
set_option maxRecDepth 100000
set_option maxHeartbeats 2000000
/-! W2: families step by step; kinds. -/
namespace K37
open PySem L2 Evl
section
variable {P : Program} {w : World} {K : PySem.W.Frag} {mg : Str → Option Value} {base : Heap}

theorem mem_getD' {α : Type} {l : List α} {s : Nat} {d : α} (h : s < l.length) : l.getD s d ∈ l := by
  rw [List.getD_eq_getElem?_getD, List.getElem?_eq_getElem h]
  exact List.getElem_mem h

/-! chain_by -/
def sp_chain_by : Sp := spF (fun (x : List (List Nat) × List Nat) => [vD (eR x.1), vD (eW x.2)]) (fun x => x.2 ≠ [] ∧ x.2.length ≤ 1000 ∧ (∀ a ∈ x.2, a < x.1.length) ∧ ∃ q, q ≤ 1000 ∧ ∀ f ∈ x.1, f.length = q ∧ ∀ s ∈ f, s < q) (fun x => vD (eW (chainB x.1 x.2)))
abbrev n_chain_by : List Str := ["family", "block", "found", "letter"]
theorem sc_chain_by : FnScope n_chain_by ["family", "block"] (defScope st_chain_by) := ⟨rfl, rfl, rfl, by decide +kernel, rfl, by decide +kernel, by decide +kernel⟩
theorem ok_chain_by (F : Df K mg "chain_by" st_chain_by []) (B : Bi mg) (c_chained : Cb P w K mg base "chained" 1 ["first", "second"] [] spChained) : Cb P w K mg base "chain_by" 2 ["family", "block"] [] sp_chain_by := by
  refine F.ok sc_chain_by (fun _ => rfl) (fun _ _ _ _ _ _ us hl => match us, hl with | [_, _], _ => rfl) fun f cdv A outer s H Ex' hr => ?_
  refine ⟨_, pss_cons (ps_set (i := 2) sc_chain_by.nd rfl (Or.inl rfl) (ixT K (pv 0) (ixT K (pv 1) pe_int)))
    (pss_cons (ps_for PassesOwn.never rfl (itT K (pe_slice sl_tupA (pv 1) (po_some pe_int) po_none)) (pg_name (i := 3) sc_chain_by.nd rfl (Or.inl rfl)) (pss_one (ps_set (i := 2) sc_chain_by.nd rfl (Or.inl rfl) (pe_cb c_chained hr rfl (pa_cons (pv 2) (pa_cons (ixT K (pv 0) (pv 3)) pa_nil))))))
    (pss_one (ps_ret (pv 2)))), ?_⟩
  rintro ⟨F0, b⟩ vs ⟨v1, r1, rfl, h1, v2, r2, rfl, h2, e⟩ ⟨hne, hbl, hlt, q, hq, hF⟩ Q k
  dsimp only at *
  rw [show r2 = [] from e]
  cases b with
  | nil => exact absurd rfl hne
  | cons a t =>
    have ha : a < F0.length := hlt a List.mem_cons_self
    have get : ∀ c, c < F0.length → F0.getD c [] ∈ F0 := fun c hc => mem_getD' hc
    refine x_asg (e_op (e_var rfl h1) (e_n (e_op (e_var rfl h2) e_c (o_ixT (d := eN a) (atI_nat (j := 0) rfl)))) (o_ixT (atI_E (d := []) ha))) fun fv H1 e1 p1 => ?_
    have hdr : ((a :: t).map eN).drop 1 = t.map eN := rfl
    refine x_forN (j := 3) t _ (src0_tupE t eN (by
      have := e_sl_from (K := K) (k := 1) (tb := tC (.int 1)) (e_var (σ := [some v1, some v2, some fv, none]) (i := 1) rfl ((vD _).mono e1 h2)) e_c
      rw [hdr] at this
      exact this)) (fun pre σ' H' => ∃ fv l, σ' = [some v1, some v2, some fv, l] ∧ Ex H H' ∧ (∀ s ∈ pre.foldl (fun f c => chained f (F0.getD c [])) (F0.getD a []), s < q) ∧ (pre.foldl (fun f c => chained f (F0.getD c [])) (F0.getD a [])).length = q ∧ Is H' (eW (pre.foldl (fun f c => chained f (F0.getD c [])) (F0.getD a []))) fv)
      (fun H2 e2 => ⟨fv, none, rfl, e1.trans e2, (hF _ (get a ha)).2, (hF _ (get a ha)).1, Is.mono (Ex.tx e2) _ _ p1⟩) ?_ ?_
    · rintro pre c post hsp v σ' H' pc ⟨gv, l, rfl, e2, hl, hlen, pg⟩ N hN
      have hc : c < F0.length := hlt c (by rw [hsp]; simp)
      have hcF := hF _ (get c hc)
      refine x_asg (e_call' (pre.foldl (fun f c => chained f (F0.getD c [])) (F0.getD a []), F0.getD c []) (a_cons (e_var rfl pg) (a_cons (e_op (e_var rfl ((vD _).mono e2 h1)) (e_n (e_var rfl pc)) (o_ixT (atI_E (d := []) hc))) a_nil)) ⟨by dsimp only; omega, by
        dsimp only
        rw [hcF.1]
        exact hl⟩) fun gv' H3 e3 p3 => ?_
      refine hN _ _ (Ex.tx e3) (Ex.nk e3) ⟨gv', some v, rfl, e2.trans e3, ?_, ?_, ?_⟩
      · rw [List.foldl_append]
        intro s hs
        obtain ⟨s0, hs0, rfl⟩ := List.mem_map.1 (show s ∈ (pre.foldl (fun f c => chained f (F0.getD c [])) (F0.getD a [])).map fun s => (F0.getD c []).getD s 0 from hs)
        have hlt0 := hl s0 hs0
        rw [← hcF.1] at hlt0
        refine hcF.2 _ ?_
        exact mem_getD' hlt0
      · rw [List.foldl_append]
        show (chained _ _).length = q
        unfold chained
        rw [List.length_map]
        exact hlen
      · rw [List.foldl_append]
        exact p3
    · rintro σ' H' ⟨gv, l, rfl, e2, hl, hlen, pg⟩
      exact x_ret (e_var rfl (show (vD (eW (chainB F0 (a :: t)))).p gv H' from pg)) fun v H3 e3 p3 => k v H3 (e2.trans e3) p3

/-! next_family -/
def sp_next_family : Sp := spF (fun (x : List (List Nat) × List (List Nat)) => [vD (eR x.1), vD (eR x.2)]) (fun x => x.1.length ≤ 1000 ∧ (∀ b ∈ x.1, b ≠ [] ∧ b.length ≤ 1000 ∧ ∀ a ∈ b, a < x.2.length) ∧ ∃ q, q ≤ 1000 ∧ ∀ f ∈ x.2, f.length = q ∧ ∀ s ∈ f, s < q) (fun x => vD (eR (nextF x.1 x.2)))
abbrev n_next_family : List Str := ["rule", "family", "block"]
theorem sc_next_family : FnScope n_next_family ["rule", "family"] (defScope st_next_family) := ⟨rfl, rfl, rfl, by decide +kernel, rfl, by decide +kernel, by decide +kernel⟩
theorem ok_next_family (F : Df K mg "next_family" st_next_family []) (B : Bi mg) (c_chain_by : Cb P w K mg base "chain_by" 2 ["family", "block"] [] sp_chain_by) : Cb P w K mg base "next_family" 3 ["rule", "family"] [] sp_next_family := by
  refine F.ok sc_next_family (fun _ => rfl) (fun _ _ _ _ _ _ us hl => match us, hl with | [_, _], _ => rfl) fun f cdv A outer s H Ex' hr => ?_
  refine ⟨_, pss_one (ps_ret (bTup K B (pe_lc (own := [("block", 2)]) (g := gName 2) (tt := tYes) rfl sc_next_family.nd (itT K (pv 0)) (blkOk_by (N := n_next_family) (sc := defScope st_next_family) (by decide +kernel)) (fun _ _ _ _ _ => pg_name (i := 2) sc_next_family.nd rfl (Or.inl rfl)) (fun _ _ _ _ _ => pts_nil) (fun _ _ _ _ _ => pe_cb c_chain_by hr rfl (pa_cons (pv 1) (pa_cons (pv 2) pa_nil)))))), ?_⟩
  rintro ⟨r, F0⟩ vs ⟨v1, r1, rfl, h1, v2, r2, rfl, h2, e⟩ ⟨hrl, hb, q, hq, hF⟩ Q k
  dsimp only at *
  rw [show r2 = [] from e]
  refine x_ret (e_cb (a_cons (EN.e (en_lc1 (vs := [2]) r _ (fun b => vD (eW (chainB F0 b))) (src0_tupE r eW (e_var rfl h1)).t.src (by omega) (fun _ _ => st_d _) (fun v => rfl) ?_)) a_nil) (r_tupE r fun b => eW (chainB F0 b))) (by
    unfold nextF eR at k
    rw [List.map_map] at k
    exact k)
  intro b hbm v H1 e1 p
  obtain ⟨b1, b2, b3⟩ := hb b hbm
  exact e_call' (F0, b) (a_cons (e_var rfl ((vD _).mono e1 h2)) (a_cons (e_var rfl p) a_nil)) ⟨b1, b2, b3, q, hq, hF⟩

end
end K37
set_option Elab.async false
set_option linter.all false
set_option maxRecDepth 100000
set_option maxHeartbeats 1000000
/-! E6: more of the layer's rules with the written part named. -/
namespace K37
open PySem L2 Evl
section
variable (K : PySem.W.Frag) {mg : Str → Option Value} {X : Cx} {a b e : Expr} {es : List Expr} {ta tb te tl : TE} {t : TA} {pos p : Pos} {tg : Expr}
theorem bIsiInt {q : Pos} (B : Bi mg) (ha : PE X a ta) (hK : X.K = K := by rfl) (hM : X.mg = mg := by rfl) (hg : Gl X "isinstance" := by rfl) (hg2 : Gl X "int" := by rfl)
    (he : starEach [a, .Name "int" q] X.env = (false, eval a X.env) :: starEach [.Name "int" q] X.env := by rfl) (he2 : starEach [.Name "int" q] X.env = (false, eval (.Name "int" q) X.env) :: starEach [] X.env := by rfl) (hpl : (backTo pos (starEach [.Name "int" q] X.env)).any (·.1) = false := by rfl) :
    PE X (.Call (.Name "isinstance" p) [a, .Name "int" q] [] pos) (tCB (rIsi K) (tCons ta (tCons (tC (.ty "int")) tNil))) := by
  subst hK hM
  exact pe_callB call_isi hg B.g (by decide +kernel) (pa_cons ha (pa_cons (pe_bltn (v := .ty "int") (u := .type "int") hg2 B.g (by decide +kernel) rfl) pa_nil he2) he) (he := he) (hpl := hpl)
theorem bIsiBool {q : Pos} (B : Bi mg) (ha : PE X a ta) (hK : X.K = K := by rfl) (hM : X.mg = mg := by rfl) (hg : Gl X "isinstance" := by rfl) (hg2 : Gl X "bool" := by rfl)
    (he : starEach [a, .Name "bool" q] X.env = (false, eval a X.env) :: starEach [.Name "bool" q] X.env := by rfl) (he2 : starEach [.Name "bool" q] X.env = (false, eval (.Name "bool" q) X.env) :: starEach [] X.env := by rfl) (hpl : (backTo pos (starEach [.Name "bool" q] X.env)).any (·.1) = false := by rfl) :
    PE X (.Call (.Name "isinstance" p) [a, .Name "bool" q] [] pos) (tCB (rIsi K) (tCons ta (tCons (tC (.ty "bool")) tNil))) := by
  subst hK hM
  exact pe_callB call_isi hg B.g (by decide +kernel) (pa_cons ha (pa_cons (pe_bltn (v := .ty "bool") (u := .type "bool") hg2 B.g (by decide +kernel) rfl) pa_nil he2) he) (he := he) (hpl := hpl)
theorem bIsiTup {q : Pos} (B : Bi mg) (ha : PE X a ta) (hK : X.K = K := by rfl) (hM : X.mg = mg := by rfl) (hg : Gl X "isinstance" := by rfl) (hg2 : Gl X "tuple" := by rfl)
    (he : starEach [a, .Name "tuple" q] X.env = (false, eval a X.env) :: starEach [.Name "tuple" q] X.env := by rfl) (he2 : starEach [.Name "tuple" q] X.env = (false, eval (.Name "tuple" q) X.env) :: starEach [] X.env := by rfl) (hpl : (backTo pos (starEach [.Name "tuple" q] X.env)).any (·.1) = false := by rfl) :
    PE X (.Call (.Name "isinstance" p) [a, .Name "tuple" q] [] pos) (tCB (rIsi K) (tCons ta (tCons (tC (.ty "tuple")) tNil))) := by
  subst hK hM
  exact pe_callB call_isi hg B.g (by decide +kernel) (pa_cons ha (pa_cons (pe_bltn (v := .ty "tuple") (u := .type "tuple") hg2 B.g (by decide +kernel) rfl) pa_nil he2) he) (he := he) (hpl := hpl)
theorem bAll (B : Bi mg) (ha : PE X a ta) (hc : X.calm = true := by rfl) (hK : X.K = K := by rfl) (hM : X.mg = mg := by rfl) (hg : Gl X "all" := by rfl) (he : starEach [a] X.env = (false, eval a X.env) :: starEach [] X.env := by rfl) (hpl : (backTo pos (starEach [] X.env)).any (·.1) = false := by rfl) :
    PE X (.Call (.Name "all" p) [a] [] pos) (tCB (rAll K) (tCons ta tNil)) := by
  subst hK hM
  exact pe_callB (cr_all hc) hg B.g (by decide +kernel) (pa_cons ha pa_nil he) (he := he) (hpl := hpl)
theorem bAny (B : Bi mg) (ha : PE X a ta) (hc : X.calm = true := by rfl) (hK : X.K = K := by rfl) (hM : X.mg = mg := by rfl) (hg : Gl X "any" := by rfl) (he : starEach [a] X.env = (false, eval a X.env) :: starEach [] X.env := by rfl) (hpl : (backTo pos (starEach [] X.env)).any (·.1) = false := by rfl) :
    PE X (.Call (.Name "any" p) [a] [] pos) (tCB (rAny K) (tCons ta tNil)) := by
  subst hK hM
  exact pe_callB (cr_any hc) hg B.g (by decide +kernel) (pa_cons ha pa_nil he) (he := he) (hpl := hpl)
theorem bMin (B : Bi mg) (ha : PE X a ta) (hc : X.calm = true := by rfl) (hK : X.K = K := by rfl) (hM : X.mg = mg := by rfl) (hg : Gl X "min" := by rfl) (he : starEach [a] X.env = (false, eval a X.env) :: starEach [] X.env := by rfl) (hpl : (backTo pos (starEach [] X.env)).any (·.1) = false := by rfl) :
    PE X (.Call (.Name "min" p) [a] [] pos) (tCB (rMin K) (tCons ta tNil)) := by
  subst hK hM
  exact pe_callB (cr_min hc) hg B.g (by decide +kernel) (pa_cons ha pa_nil he) (he := he) (hpl := hpl)
theorem bMax (B : Bi mg) (ha : PE X a ta) (hc : X.calm = true := by rfl) (hK : X.K = K := by rfl) (hM : X.mg = mg := by rfl) (hg : Gl X "max" := by rfl) (he : starEach [a] X.env = (false, eval a X.env) :: starEach [] X.env := by rfl) (hpl : (backTo pos (starEach [] X.env)).any (·.1) = false := by rfl) :
    PE X (.Call (.Name "max" p) [a] [] pos) (tCB (rMax K) (tCons ta tNil)) := by
  subst hK hM
  exact pe_callB (cr_max hc) hg B.g (by decide +kernel) (pa_cons ha pa_nil he) (he := he) (hpl := hpl)
end
section
variable {K : PySem.W.Frag} {σ : L2.St} {H : Hp} {ta tb te : TE} {t u : TT}
theorem isi_int_int {i : Int} : R (rIsi K) [vI i, vV (.ty "int")] (vB true) := isi_n (kit_ty (by decide +kernel))
theorem isi_int_bool {i : Int} : R (rIsi K) [vI i, vV (.ty "bool")] (vB false) := isi_n (kit_ty (by decide +kernel))
theorem isi_tup {ds : List Dv} : R (rIsi K) [vD (.t ds), vV (.ty "tuple")] (vB true) := isi_t (kit_ty (by decide +kernel))
/-- comparisons of numbers: the answer as it is known -/
theorem o_cmp {g : Int → Int → V} {i j : Int} {b : Bool} (h : g i j = .bl b) : O (rI0 g) (vI i) (vI j) (vB b) := by
  have := o_I0 (g := g) (i := i) (j := j)
  rw [h] at this
  exact this
theorem t_cmp {p : Int → Int → Bool} {i j : Int} {b : Bool} (ha : E ta σ H (vI i)) (hb : E tb σ H (vI j)) (h : p i j = b) : EvT (tB (tCmp p ta tb)) σ H b := fun H1 e Q q =>
  ha H1 e _ fun v H2 e2 p1 => hb H2 (e.trans e2) _ fun u H3 e3 p2 => ⟨i, j, p1, p2, b, by rw [h], q H3 (e2.trans e3)⟩
theorem t_not {b : Bool} (h : EvT t σ H b) : EvT (tNot t) σ H (!b) := fun H1 e Q q => h H1 e _ fun H2 e2 => q H2 e2
theorem t_and {a b : Bool} (h1 : EvT t σ H a) (h2 : a = true → EvT u σ H b) : EvT (tAnd t u) σ H (a && b) := et_and h1 h2
theorem t_or {a b : Bool} (h1 : EvT t σ H a) (h2 : a = false → EvT u σ H b) : EvT (tOr t u) σ H (a || b) := et_or h1 h2
/-- a list of truths that are all true -/
theorem r_allT {α : Type} {K : PySem.W.Frag} (xs : List α) : R (rAll K) [vL (xs.map fun _ => vB true)] (vB true) := by
  have h := r_all (K := K) (bs := xs.map fun _ => true)
  rw [List.map_map] at h
  have e : (xs.map fun _ => true).all id = true := by
    rw [List.all_eq_true]
    intro x hx
    obtain ⟨_, _, rfl⟩ := List.mem_map.1 hx
    rfl
  rw [e] at h
  exact h
end
end K37
set_option Elab.async false
set_option linter.all false
set_option maxRecDepth 100000
set_option maxHeartbeats 1000000
/-! E7: defs with a default. -/
namespace K37
open PySem L2 Evl
section
variable {P : Program} {w : World} {K : PySem.W.Frag} {mg : Str → Option Value} {base : Heap}
/-- a def with one default behind n written arguments -/
theorem Df.okD {x : Str} {st : Stmt} {N ps : List Str} {k : Nat} {α : Type} {args : α → List VP} {cond : α → Prop} {res : α → VP} {dv : V} (n : Nat) (F : Df K mg x st [dv]) (S : FnScope N ps (defScope st)) (hl : ∀ a, (args a).length = ps.length) (hn : n + 1 = ps.length)
    (hb : ∀ (T : Addr) (kV doc pm : Value) (an : Option Addr) (cdv ct : Value) (us its : List Value), us.length = n → its.length = 1 →
      ∃ k, bindArgs (PySem.W.fnOf x x (defArgs st) (defBody st) (defScope st) (.ref T) kV doc pm an cdv ct) ⟨us, []⟩ = seqItems? (.ref T) >>= k ∧ k (some its.toArray) = pure (ps.zip (us ++ its)))
    (hbody : ∀ (f : Addr) (cdv : Value) (A : Around) (outer : List Env) (s : Shared) (H : Hp) (Ex' : XK), Room k (A.deeper (PyProof.Rows.envOfC x (defScope st) s.heap.objs.size f cdv)) →
      ∃ t, PSs (cxOf CX0 P w K mg base N x (defScope st) f cdv A outer s H Ex').nox (defBody st) t ∧ ∀ a vs, AllP (args a) vs H → cond a → ∀ Q : VK, (∀ v H', Ex H H' → (res a).p v H' → Q v H') → t { nx := fun _ H' => Q .non H', rt := Q } (start N vs) H) : Cb P w K mg base x (k + 1) ps [dv] (spF args cond res) := by
  obtain ⟨f, fd, F, hm⟩ := F
  obtain ⟨ds, r, b⟩ := FunD.binds1 (ps := ps) F n 0 (by simp) (by simpa using hn) fun T kV doc pm an cdv ct us its h1 h2 => hb T kV doc pm an cdv ct us its h1 h2
  refine ⟨f, fd, ds, FunD.ok F S (fun vs H Q E h => ?_) (fun cdv A outer s H vs Q E hr h => ?_), hm, F.kp, b, r⟩
  · obtain ⟨a, h1, _⟩ := h
    rw [h1.length, hl]
  · obtain ⟨t, h1, h2⟩ := hbody f cdv A outer s H E hr
    obtain ⟨a, h3, h4, h5⟩ := h
    exact ⟨t, PSs.nox h1, h2 a vs h3 h4 Q h5⟩
/-- a call that leaves the default -/
theorem e_callD {σ : L2.St} {H : Hp} {ta : TA} {α : Type} {args : α → List VP} {cond : α → Prop} {res : α → VP} {dv : V} {Ex' : XK} {Ps : List VP} (x : α) (h : A ta σ H Ps) (ex : args x = Ps ++ [vV dv]) (hc : cond x) : E (tCall (spF args cond res) [dv] Ex' ta) σ H (res x) :=
  e_call x [vV dv] h ex (fun _ => ⟨dv, [], rfl, rfl, rfl⟩) hc
end
end K37
set_option Elab.async false
set_option linter.all false
set_option maxRecDepth 100000
set_option maxHeartbeats 1000000
/-! E8: dicts whose keys are data of any depth. -/
namespace K37
open PySem PySem.Spec PyProof.Rows L2 Evl

mutual
def Dv.key : Dv → NestedKey
  | .n i => .num i
  | .t ds => .tup (Dv.keys ds)
def Dv.keys : List Dv → List NestedKey
  | [] => []
  | d :: ds => Dv.key d :: Dv.keys ds
end
mutual
theorem key_inj : ∀ d e : Dv, d.key = e.key → d = e
  | .n i, .n j, h => by
    rw [Dv.key, Dv.key] at h
    injection h with h
    rw [h]
  | .n i, .t es, h => by
    rw [Dv.key, Dv.key] at h
    cases h
  | .t ds, .n j, h => by
    rw [Dv.key, Dv.key] at h
    cases h
  | .t ds, .t es, h => by
    rw [Dv.key, Dv.key] at h
    injection h with h
    rw [keys_inj ds es h]
theorem keys_inj : ∀ ds es : List Dv, Dv.keys ds = Dv.keys es → ds = es
  | [], [], _ => rfl
  | [], e :: es, h => by
    rw [Dv.keys, Dv.keys] at h
    cases h
  | d :: ds, [], h => by
    rw [Dv.keys, Dv.keys] at h
    cases h
  | d :: ds, e :: es, h => by
    rw [Dv.keys, Dv.keys] at h
    injection h with h1 h2
    rw [key_inj d e h1, keys_inj ds es h2]
end
mutual
theorem key_dep : ∀ d : Dv, d.key.depth = d.dep
  | .n i => by rw [Dv.key, NestedKey.depth, Dv.dep]
  | .t ds => by rw [Dv.key, NestedKey.depth, Dv.dep, keys_dep ds]
theorem keys_dep : ∀ ds : List Dv, NestedKey.depthAll (Dv.keys ds) = Dv.deps ds
  | [] => by rw [Dv.keys, NestedKey.depthAll, Dv.deps]
  | d :: ds => by rw [Dv.keys, NestedKey.depthAll, Dv.deps, key_dep d, keys_dep ds]
end
section
variable {X : Cx} {pins : List (Addr × Obj)} {σ : L2.St} {H : Hp} {s : Shared}
mutual
theorem Is.nested (I : Inv X pins σ H s) : ∀ (d : Dv) (v : V) (u : Value), Is H d v → RelV v u → NestedIs s.heap d.key u
  | .n i, v, u, h, r => by
    rw [is_n_iff.1 h] at r
    obtain ⟨t, rfl⟩ := r
    rw [Dv.key]
    exact .int i t
  | .t ds, v, u, h, r => by
    obtain ⟨a, vs, h1, h2, h3⟩ := is_t.1 h
    rw [h1] at r
    cases r
    obtain ⟨_, its, rv, o, ho, hc, n, hd⟩ := (show ObjOk X.prog X.w H s.heap a (.tup vs) from I.hok a _ h2)
    rw [Dv.key]
    refine .tup ho hc hd ?_
    have := IsAll.nested I ds vs its h3 rv
    simpa using this
theorem IsAll.nested (I : Inv X pins σ H s) : ∀ (ds : List Dv) (vs : List V) (us : List Value), IsAll H ds vs → Vals vs us → NestedAll s.heap (Dv.keys ds) us
  | [], vs, us, h, r => by
    rw [all_nil.1 h] at r
    cases r
    rw [Dv.keys]
    exact .nil
  | d :: ds, vs, us, h, r => by
    obtain ⟨v, r', e, h2, h3⟩ := all_cons.1 h
    rw [e] at r
    cases r with
    | cons r1 r2 =>
      rw [Dv.keys]
      exact .cons (Is.nested I d v _ h2 r1) (IsAll.nested I ds r' _ h3 r2)
end
end
/-- the dict object at d: its entries, in order; where the keys' own tuples stand -/
def dkOb (P : Program) (w : World) (d : Addr) (xs : List (NestedKey × Addr × Value)) : HO := .ext fun h => (d == sysModules) = false ∧ xs.length ≤ sizeLine ∧
  ∃ o es ep, h.get? d = some o ∧ o.ExactDict ∧ o.data = .dict es ep ∧ es.toList = xs.map (entryOfKey (nestedKind P w)) ∧ (xs.map (·.1)).Nodup
/-- at d stands a dict with these keys and values, in the order of insertion -/
def DkR (H : Hp) (p : Dv × V) (q : NestedKey × Addr × Value) : Prop := p.1.key = q.1 ∧ p.1.dep ≤ 8 ∧ Is H p.1 (.ref q.2.1) ∧ RelV p.2 q.2.2
def Dk (P : Program) (w : World) (H : Hp) (d : Addr) (kvs : List (Dv × V)) : Prop := ∃ xs, H d = some (dkOb P w d xs) ∧ Paired (DkR H) kvs xs
section
variable {P : Program} {w : World} {H H' : Hp} {d : Addr} {kvs : List (Dv × V)}
theorem DkR.mono (e : Tx H H') {p : Dv × V} {q : NestedKey × Addr × Value} (h : DkR H p q) : DkR H' p q := ⟨h.1, h.2.1, Is.mono e _ _ h.2.2.1, h.2.2.2⟩
theorem dkAll_mono (e : Tx H H') : ∀ {kvs : List (Dv × V)} {xs : List (NestedKey × Addr × Value)}, Paired (DkR H) kvs xs → Paired (DkR H') kvs xs
  | _, _, .nil => .nil
  | _, _, .cons h t => .cons (h.mono e) (dkAll_mono e t)
theorem Dk.mono (e : Tx H H') (hd : H' d = H d) (h : Dk P w H d kvs) : Dk P w H' d kvs := by
  obtain ⟨xs, h1, h2⟩ := h
  exact ⟨xs, by rw [hd]; exact h1, dkAll_mono e h2⟩
theorem Dk.ex (e : Ex H H') (h : Dk P w H d kvs) : Dk P w H' d kvs := by
  obtain ⟨xs, h1, h2⟩ := h
  exact ⟨xs, e _ _ h1, dkAll_mono (Ex.tx e) h2⟩
theorem Dk.obj (h : Dk P w H d kvs) : ∃ φ, H d = some (.ext φ) := let ⟨_, h1, _⟩ := h; ⟨_, h1⟩
theorem dk_tx (h : Dk P w H d kvs) {o : HO} : Tx H (upd H d o) := Tx.upd fun vs z => by
  obtain ⟨φ, e⟩ := h.obj
  rw [e] at z
  cases z
  exact not_imm_ext
theorem dkOb_ok {h : Heap} {xs : List (NestedKey × Addr × Value)} (hs : (d == sysModules) = false) (hl : xs.length ≤ sizeLine) (hx : h.DictOfH (nestedKind P w) d xs) : ObjOk P w H h d (dkOb P w d xs) := by
  obtain ⟨o, es, ep, h1, h2, h3, h4, _, h5⟩ := hx
  refine ⟨⟨hs, hl, o, es, ep, h1, h2, h3, h4, h5⟩, ⟨o, h1⟩, ?_⟩
  rintro g1 g2 ⟨a1, a2, o', es', ep', b1, b2⟩ hk
  exact ⟨a1, a2, o', es', ep', hk _ b1, b2⟩
end
section
variable {X : Cx} {pins : List (Addr × Obj)} {σ : L2.St} {H : Hp} {s : Shared} {d : Addr} {kvs : List (Dv × V)}
theorem Dk.of (I : Inv X pins σ H s) (h : Dk X.prog X.w H d kvs) : ∃ xs, H d = some (dkOb X.prog X.w d xs) ∧ Paired (DkR H) kvs xs ∧ (d == sysModules) = false ∧ xs.length ≤ sizeLine ∧ s.heap.DictOfH (nestedKind X.prog X.w) d xs := by
  obtain ⟨xs, h1, h2⟩ := h
  obtain ⟨⟨a1, a2, o, es, ep, b1, b2, b3, b4, b5⟩, _, _⟩ := (show ObjOk X.prog X.w H s.heap d (dkOb X.prog X.w d xs) from I.hok d _ h1)
  refine ⟨xs, h1, h2, a1, a2, o, es, ep, b1, b2, b3, b4, ?_, b5⟩
  intro x hx
  have key : ∀ {kvs : List (Dv × V)} {xs : List (NestedKey × Addr × Value)}, Paired (DkR H) kvs xs → ∀ x ∈ xs, ∃ p : Dv × V, DkR H p x := by
    intro kvs xs hp
    induction hp with
    | nil => intro x hx; cases hx
    | cons h t ih =>
      intro x hx
      rcases List.mem_cons.1 hx with e | hx
      · rw [e]; exact ⟨_, h⟩
      · exact ih x hx
  obtain ⟨p, k1, k2, k3, k4⟩ := key h2 x hx
  refine ⟨?_, ?_⟩
  · rw [← k1]
    exact Is.nested I _ _ _ k3 rfl
  · rw [← k1, key_dep]
    exact k2
/-- {} -/
def tDk (P : Program) (w : World) : TE := fun _ H Q => ∀ p, H p = none → Dk P w (upd H p (dkOb P w p [])) p [] → Q (.ref p) (upd H p (dkOb P w p []))
theorem pe_dk {pos : Pos} : PE X (.Dict [] [] pos) (tDk X.prog X.w) := ⟨fun pins s σ H Q I h =>
  wpAny_Dict_empty ⟨.ref s.heap.objs.size, _, I.laid (a := s.heap.objs.size) (o := dkOb X.prog X.w s.heap.objs.size []) (t' := s.toks) (fun _ _ q => Heap.get?_push_of_some _ q) (Nat.le_refl _)
    (dkOb_ok (beq_eq_false_iff_ne.mpr (Ne.symm (Nat.ne_of_lt I.big))) (Nat.zero_le _) (Heap.DictOfH.new s.heap)), rfl, h _ (I.hok.fresh (Nat.le_refl _)) ⟨[], upd_same, .nil⟩⟩⟩
/-- a key's look among the entries -/
theorem at_of_pairs {H : Hp} {k : Dv} : ∀ {kvs : List (Dv × V)} {xs : List (NestedKey × Addr × Value)}, Paired (DkR H) kvs xs → ((atKey xs k.key).isSome = true ↔ k ∈ kvs.map (·.1)) ∧ ∀ v, (kvs.map (·.1)).Nodup → (k, v) ∈ kvs → ∃ p, atKey xs k.key = some p ∧ RelV v p.2
  | _, _, .nil => ⟨by simp [atKey], fun v _ h => by cases h⟩
  | p :: kvs, q :: xs, .cons h t => by
    obtain ⟨ih1, ih2⟩ := at_of_pairs (k := k) t
    by_cases e : p.1 = k
    · have e2 : q.1 = k.key := by rw [← h.1, e]
      have e3 : atKey (q :: xs) k.key = some q.2 := by simp [atKey, e2]
      refine ⟨by rw [e3]; simp [e], fun v hn hm => ⟨q.2, e3, ?_⟩⟩
      rcases List.mem_cons.1 hm with z | z
      · rw [← z] at h
        exact h.2.2.2
      · rw [List.map_cons, List.nodup_cons] at hn
        exact absurd (List.mem_map.2 ⟨_, z, e.symm⟩) hn.1
    · have e2 : ¬ q.1 = k.key := fun z => e (key_inj _ _ (h.1.trans z))
      have e3 : atKey (q :: xs) k.key = atKey xs k.key := by simp [atKey, e2]
      rw [e3]
      refine ⟨?_, fun v hn hm => ?_⟩
      · rw [ih1, List.map_cons, List.mem_cons]
        constructor
        · exact .inr
        · rintro (z | z)
          · exact absurd z.symm e
          · exact z
      · rcases List.mem_cons.1 hm with z | z
        · rw [← z] at e
          exact absurd rfl e
        · rw [List.map_cons, List.nodup_cons] at hn
          exact ih2 v hn.2 z
theorem room_nested {A : Around} (hu : A.units + 64 < cLine) : (nestedKind X.prog X.w).room A.in1 := by
  show A.units + 1 + 8 < cLine
  omega
/-- k in d, k not in d -/
def rDkIn (P : Program) (w : World) (neg : Bool) : R2 := fun x y H Q => ∃ (d : Addr) (k : Dv) (kvs : List (Dv × V)) (b : Bool), y = .ref d ∧ Is H k x ∧ (∃ ds, k = .t ds) ∧ k.dep ≤ 8 ∧ Dk P w H d kvs ∧ (b = true ↔ k ∈ kvs.map (·.1)) ∧ Q (.bl (if neg then !b else b)) H
theorem is_ref {H : Hp} {ds : List Dv} {v : V} (h : Is H (.t ds) v) : ∃ a, v = .ref a := let ⟨a, _, e, _⟩ := is_t.1 h; ⟨a, e⟩
theorem op_dkIn (hu : X.A.units + 64 < cLine) : OpR X (compareOp .In) (rDkIn X.prog X.w false) := by
  intro pins s σ H x y v u Q I rx ry h
  obtain ⟨d, k, kvs, b, rfl, hk, ⟨ds, rfl⟩, hdep, hd, hb, q⟩ := h
  obtain ⟨a, rfl⟩ := is_ref hk
  cases rx
  cases ry
  obtain ⟨xs, x1, x2, x3, x4, x5⟩ := hd.of I
  refine wpAny_in_heap (room_nested hu) (k := (Dv.t ds).key) ⟨Is.nested I _ _ _ hk rfl, by rw [key_dep]; exact hdep⟩ x3 x5 ⟨.bl _, H, I.tok _, rfl, ?_⟩
  rw [← bool_of_iff hb (at_of_pairs x2).1]
  exact q
theorem op_dkNotIn (hu : X.A.units + 64 < cLine) : OpR X (compareOp .NotIn) (rDkIn X.prog X.w true) := by
  intro pins s σ H x y v u Q I rx ry h
  obtain ⟨d, k, kvs, b, rfl, hk, ⟨ds, rfl⟩, hdep, hd, hb, q⟩ := h
  obtain ⟨a, rfl⟩ := is_ref hk
  cases rx
  cases ry
  obtain ⟨xs, x1, x2, x3, x4, x5⟩ := hd.of I
  show wpAny _ _ (do return Value.bool (!(← contains (.ref d) (.ref a)))) _ _ _
  refine wpAny_bind (wpAny_contains_heap (room_nested hu) (k := (Dv.t ds).key) ⟨Is.nested I _ _ _ hk rfl, by rw [key_dep]; exact hdep⟩ x3 x5 (wpAny_pure ⟨.bl _, H, I.tok _, rfl, ?_⟩))
  rw [← bool_of_iff hb (at_of_pairs x2).1]
  exact q
/-- d[k], there -/
def rDkGet (P : Program) (w : World) : R2 := fun x y H Q => ∃ (d : Addr) (k : Dv) (kvs : List (Dv × V)) (v : V), x = .ref d ∧ Is H k y ∧ (∃ ds, k = .t ds) ∧ k.dep ≤ 8 ∧ Dk P w H d kvs ∧ (kvs.map (·.1)).Nodup ∧ (k, v) ∈ kvs ∧ Q v H
theorem ix_dk (hu : X.A.units + 64 < cLine) : IxR X (rDkGet X.prog X.w) := by
  intro value slice pins s σ H x y v u Q I rx ry h hs
  obtain ⟨d, k, kvs, z, rfl, hk, ⟨ds, rfl⟩, hdep, hd, hn, hm, q⟩ := h
  obtain ⟨a, rfl⟩ := is_ref hk
  cases rx
  cases ry
  obtain ⟨xs, x1, x2, x3, x4, x5⟩ := hd.of I
  obtain ⟨p, p1, p2⟩ := (at_of_pairs x2).2 z hn hm
  exact tail_any x5.typeIs PySem.F.slot_dict_getitem.lookup (wpAny_getItem_heap (room_nested hu) (k := (Dv.t ds).key) ⟨Is.nested I _ _ _ hk rfl, by rw [key_dep]; exact hdep⟩ x5 p1 ⟨z, H, I.tok _, p2, q⟩) hs
/-- d[k] = v: a new key, or a value that stands there already -/
def rDkPut (P : Program) (w : World) : TSet := fun o i v H Q => ∃ (d : Addr) (k : Dv) (kvs : List (Dv × V)), o = .ref d ∧ Is H k i ∧ (∃ ds, k = .t ds) ∧ k.dep ≤ 8 ∧ Dk P w H d kvs ∧ kvs.length < sizeLine ∧
  ((k ∉ kvs.map (·.1) ∧ ∀ H', (∀ a, a ≠ d → H' a = H a) → Dk P w H' d (kvs ++ [(k, v)]) → Q H') ∨ (k ∈ kvs.map (·.1) ∧ (∃ b, v = .bl b ∧ ∀ p ∈ kvs, p.2 = .bl b) ∧ ∀ H', (∀ a, a ≠ d → H' a = H a) → Dk P w H' d kvs → Q H'))
theorem paired_snoc {α β : Type} {F : α → β → Prop} {a : α} {b : β} (h : F a b) : ∀ {l : List α} {m : List β}, Paired F l m → Paired F (l ++ [a]) (m ++ [b])
  | _, _, .nil => .cons h .nil
  | _, _, .cons x t => .cons x (paired_snoc h t)
theorem put_same {H : Hp} {k : NestedKey} {b : Bool} : ∀ {kvs : List (Dv × V)} {xs : List (NestedKey × Addr × Value)}, Paired (DkR H) kvs xs → (∀ p ∈ kvs, p.2 = .bl b) → xs.map (putAt k (.bool b)) = xs
  | _, _, .nil, _ => rfl
  | p :: kvs, q :: xs, .cons h t, hb => by
    rw [List.map_cons, put_same t fun p hp => hb p (List.mem_cons_of_mem _ hp)]
    congr 1
    unfold putAt
    split
    · have h4 := h.2.2.2
      rw [hb p List.mem_cons_self] at h4
      obtain ⟨q1, q2, q3⟩ := q
      have h4' : q3 = Value.bool b := h4
      rw [h4']
    · rfl
theorem set_dk (hu : X.A.units + 64 < cLine) : PSet X (rDkPut X.prog X.w) := by
  intro pins s σ H o i v ov iv u Q I ro ri rv h
  obtain ⟨d, k, kvs, rfl, hk, ⟨ds, rfl⟩, hdep, hd, hl, hq⟩ := h
  obtain ⟨a, rfl⟩ := is_ref hk
  cases ro
  cases ri
  obtain ⟨xs, x1, x2, x3, x4, x5⟩ := hd.of I
  have hlen : kvs.length = xs.length := Paired.length x2
  refine wpAny_setItem_heap (hsz := x4) (room_nested hu) (k := (Dv.t ds).key) ⟨Is.nested I _ _ _ hk rfl, by rw [key_dep]; exact hdep⟩ x5 fun h' hd' hs => ?_
  have he : ∃ q, h'.get? d = some q := let ⟨q, _, _, hq, _⟩ := hd'; ⟨q, hq⟩
  have mu : Mut (H d) := by rw [x1]; exact True.intro
  have tx : ∀ ob, Tx H (upd H d ob) := fun ob => dk_tx hd
  rcases hq with ⟨hno, hq⟩ | ⟨hyes, ⟨b, hv, hb⟩, hq⟩
  · have e0 : atKey xs (Dv.t ds).key = none := by
      cases e : atKey xs (Dv.t ds).key with
      | none => rfl
      | some p => exact absurd ((at_of_pairs x2).1.1 (by rw [e]; rfl)) hno
    rw [storedH_new e0] at hd'
    have hl' : (xs ++ [((Dv.t ds).key, a, u)]).length ≤ sizeLine := by
      rw [List.length_append, ← hlen]
      exact hl
    refine ⟨_, d_write I mu hs he (dkOb_ok x3 hl' hd'), hq _ (fun b hb => upd_ne hb) ⟨_, upd_same, ?_⟩⟩
    refine dkAll_mono (tx _) (paired_snoc ⟨rfl, hdep, hk, rv⟩ x2)
  · obtain ⟨p, ep⟩ : ∃ p, atKey xs (Dv.t ds).key = some p := by
      have := (at_of_pairs x2).1.2 hyes
      cases e : atKey xs (Dv.t ds).key with
      | none => rw [e] at this; cases this
      | some p => exact ⟨p, rfl⟩
    rw [hv] at rv
    cases rv
    rw [storedH_old ep, put_same x2 hb] at hd'
    refine ⟨_, d_write I mu hs he (dkOb_ok x3 x4 hd'), hq _ (fun b hb => upd_ne hb) ⟨_, upd_same, dkAll_mono (tx _) x2⟩⟩
end
end K37
set_option Elab.async false
set_option linter.all false
set_option maxRecDepth 100000
set_option maxHeartbeats 1000000
/-! E9: lists and dicts that a def changes; while; what is known by a case. -/
namespace K37
open PySem L2 Evl
theorem room64 {k : Nat} {A : Around} (hr : Room k A) : A.units + 64 < cLine := by
  have := hr.un
  omega
theorem room65 {k : Nat} {A : Around} (hr : Room k A) : A.units + 65 < cLine := by
  have := hr.un
  omega
def vEx {ι : Type} (c : ι → Prop) (P : ι → VP) : VP := ⟨fun v H => ∃ i, c i ∧ (P i).p v H, fun e ⟨i, h1, h2⟩ => ⟨i, h1, (P i).mono e h2⟩⟩
def vDk (P : Program) (w : World) (kvs : List (Dv × V)) : VP := ⟨fun v H => ∃ d, v = .ref d ∧ Dk P w H d kvs, fun e ⟨d, h1, h2⟩ => ⟨d, h1, h2.ex e⟩⟩
section
variable {K : PySem.W.Frag} {P : Program} {w : World} {σ : L2.St} {H : Hp} {te ta to ti : TE} {t : TT} {Pv : VP} {Ps : List VP} {D : Ends} {tu tw : TS} {kvs : List (Dv × V)} {ds : List Dv}
theorem o_dkIn {b : Bool} (hk : (Dv.t ds).dep ≤ 8) (hb : b = true ↔ Dv.t ds ∈ kvs.map (·.1)) : O (rDkIn P w false) (vD (.t ds)) (vDk P w kvs) (vB b) := fun x y H hx hy Q q => by
  obtain ⟨d, h1, h2⟩ := hy
  exact ⟨d, .t ds, kvs, b, h1, hx, ⟨ds, rfl⟩, hk, h2, hb, q _ H (Ex.refl H) rfl⟩
theorem o_dkNotIn {b : Bool} (hk : (Dv.t ds).dep ≤ 8) (hb : b = true ↔ Dv.t ds ∈ kvs.map (·.1)) : O (rDkIn P w true) (vD (.t ds)) (vDk P w kvs) (vB (!b)) := fun x y H hx hy Q q => by
  obtain ⟨d, h1, h2⟩ := hy
  exact ⟨d, .t ds, kvs, b, h1, hx, ⟨ds, rfl⟩, hk, h2, hb, q _ H (Ex.refl H) rfl⟩
theorem o_dkGet {v : V} (hk : (Dv.t ds).dep ≤ 8) (hn : (kvs.map (·.1)).Nodup) (hm : (Dv.t ds, v) ∈ kvs) : O (rDkGet P w) (vDk P w kvs) (vD (.t ds)) (vV v) := fun x y H hx hy Q q => by
  obtain ⟨d, h1, h2⟩ := hx
  exact ⟨d, .t ds, kvs, v, h1, hy, ⟨ds, rfl⟩, hk, h2, hn, hm, q _ H (Ex.refl H) rfl⟩
/-- x = {} -/
theorem x_asgDk {i : Nat} (k : ∀ d H1, H d = none → Ex H H1 → Dk P w H1 d [] → D.nx (σ.set i (some (.ref d))) H1) : tAsg (tDk P w) (gName i) D σ H := fun p hp h => k p _ hp (Ex.new hp) h
theorem exb_of {d : Addr} {H H' : Hp} (h : ∀ a, a ≠ d → H' a = H a) : ExB d H H' := fun a o n e => by rw [h a n]; exact e
theorem tx_of {d : Addr} {H H' : Hp} (h : ∀ a, a ≠ d → H' a = H a) (hd : Dk P w H d kvs) : Tx H H' := fun a o i e => by
  obtain ⟨φ, e2⟩ := hd.obj
  have hne : a ≠ d := fun z => by rw [z, e2] at e; cases e; exact not_imm_ext i
  rw [h a hne]
  exact e
/-- d[k] = v -/
theorem x_put {d : Addr} {v : V} (he : E te σ H (vV v)) (ho : E to σ H (vV (.ref d))) (hi : E ti σ H (vD (.t ds))) (hk : (Dv.t ds).dep ≤ 8) (hd : Dk P w H d kvs) (hl : kvs.length < 10000000) (hno : Dv.t ds ∉ kvs.map (·.1))
    (k : ∀ H1, Tx H H1 → ExB d H H1 → Dk P w H1 d (kvs ++ [(Dv.t ds, v)]) → D.nx σ H1) : tAsg te (gSub to ti (rDkPut P w)) D σ H := he H (Ex.refl H) _ fun u H1 e1 p1 => by
  rw [show u = v from p1]
  refine ho H1 e1 _ fun o H2 e2 p2 => hi H2 (e1.trans e2) _ fun i H3 e3 p3 => ?_
  have e13 := (e1.trans e2).trans e3
  have hd3 := hd.ex e13
  refine ⟨d, .t ds, kvs, p2, p3, ⟨ds, rfl⟩, hk, hd3, szMl hl, .inl ⟨hno, fun H' h1 h2 => k H' (Tx.trans (Ex.tx e13) (tx_of h1 hd3)) ((Ex.b e13).trans (exb_of h1)) h2⟩⟩
/-- d[k] = True, where all values are True -/
theorem x_putT {d : Addr} (he : E te σ H (vB true)) (ho : E to σ H (vV (.ref d))) (hi : E ti σ H (vD (.t ds))) (hk : (Dv.t ds).dep ≤ 8) {ks : List Dv} (hd : Dk P w H d (ks.map fun k => (k, V.bl true))) (hl : ks.length < 10000000)
    (k : ∀ H1 ks', Tx H H1 → ExB d H H1 → Dk P w H1 d (ks'.map fun k => (k, V.bl true)) → (Dv.t ds ∉ ks ∧ ks' = ks ++ [Dv.t ds]) ∨ (Dv.t ds ∈ ks ∧ ks' = ks) → D.nx σ H1) : tAsg te (gSub to ti (rDkPut P w)) D σ H := by
  have hkeys : (ks.map fun k => (k, V.bl true)).map (·.1) = ks := by
    rw [List.map_map]
    exact List.map_id' ks
  by_cases hin : Dv.t ds ∈ ks
  · refine he H (Ex.refl H) _ fun u H1 e1 p1 => ?_
    rw [show u = .bl true from p1]
    refine ho H1 e1 _ fun o H2 e2 p2 => hi H2 (e1.trans e2) _ fun i H3 e3 p3 => ?_
    have e13 := (e1.trans e2).trans e3
    have hd3 := hd.ex e13
    refine ⟨d, .t ds, _, p2, p3, ⟨ds, rfl⟩, hk, hd3, szMl (by simpa using hl), .inr ⟨by rw [hkeys]; exact hin, ⟨true, rfl, fun p hp => ?_⟩, fun H' h1 h2 => k H' ks (Tx.trans (Ex.tx e13) (tx_of h1 hd3)) ((Ex.b e13).trans (exb_of h1)) h2 (.inr ⟨hin, rfl⟩)⟩⟩
    obtain ⟨_, _, rfl⟩ := List.mem_map.1 hp
    rfl
  · refine x_put he ho hi hk hd (by simpa using hl) (by rw [hkeys]; exact hin) fun H1 t1 e1 h1 => k H1 (ks ++ [Dv.t ds]) t1 e1 ?_ (.inl ⟨hin, rfl⟩)
    rw [List.map_append]
    exact h1
/-- l.append(e) -/
theorem x_app {l : Addr} {vs : List V} (hl : H l = some (.lst vs)) (ha : E ta σ H (vV (.ref l))) (h : E te σ H Pv) (hz : vs.length < 10000000) (k : ∀ v H1, Ex H H1 → Pv.p v H1 → D.nx σ (upd H1 l (.lst (vs ++ [v])))) :
    tDrop (tBM K "list" rAppend ta (tCons te tNil)) D σ H := ha H (Ex.refl H) _ fun a H1 e1 p1 => by
  rw [show a = .ref l from p1]
  exact ⟨Or.inl ⟨rfl, vs, sq_of (e1 l _ hl)⟩, h H1 e1 _ fun v H2 e2 p2 => ⟨l, vs, v, rfl, rfl, e2 l _ (e1 l _ hl), szMl hz, k v H2 (e1.trans e2) p2⟩⟩
/-- a while by what holds between two turns and a number that falls -/
theorem x_while {c : TT} {tb : TS} (W : Nat → L2.St → Hp → Prop) (m0 : Nat) (h0 : W m0 σ H)
    (hs : ∀ m σ' H', W m σ' H' → ∃ b, EvT c σ' H' b ∧ (b = true → ∀ H1, Ex H' H1 → ∀ N : L2.St → Hp → Prop, (∀ m' σ2 H2, m' < m → W m' σ2 H2 → N σ2 H2) → tb { D with nx := N, ct := N, bk := D.nx } σ' H1) ∧ (b = false → ∀ H1, Ex H' H1 → D.nx σ' H1)) : tWhile c tb D σ H :=
  s_while W m0 h0 fun m σ' H' hw => by
    obtain ⟨b, h1, h2, h3⟩ := hs m σ' H' hw
    exact ⟨b, h1, fun hb H1 e => ⟨fun σ2 H2 => ∃ m', m' < m ∧ W m' σ2 H2, fun _ _ h => h, h2 hb H1 e _ fun m' σ2 H2 a b => ⟨m', a, b⟩⟩, h3⟩
end
end K37
set_option Elab.async false
set_option linter.all false
set_option maxRecDepth 100000
set_option maxHeartbeats 2000000
/-! W5: families until they come round. -/
namespace K37
open PySem L2 Evl
section
variable {P : Program} {w : World} {K : PySem.W.Frag} {mg : Str → Option Value} {base : Heap}

/-- what families_by hands back: the families of the levels below m, and the level s < m that comes again at m -/
structure Rnd (r : List (List Nat)) (M : Mach) (m s : Nat) : Prop where
  lt : s < m
  eq : fam r M m = fam r M s
  ne : ∀ i j, i < j → j < m → fam r M i ≠ fam r M j
def vFams (r : List (List Nat)) (M : Mach) (m : Nat) : VP := vL ((List.range m).map fun k => vD (eR (fam r M k)))
def vRnd (r : List (List Nat)) (M : Mach) : VP := vEx (fun (x : Nat × Nat) => Rnd r M x.1 x.2 ∧ x.1 ≤ 600000) fun x => vT [vFams r M x.1, vI x.2]
/-- sizes of the rules and machines here -/
structure Sz (r : List (List Nat)) (M : Mach) : Prop where
  gr : ∃ N, GR r N
  gm : GM r.length M
  four : r.length ≤ 4
  blk : ∀ b ∈ r, b.length ≤ 4
  three : M.length ≤ 3
theorem fam_mem_ok {r : List (List Nat)} {M : Mach} (z : Sz r M) (k : Nat) : ∀ f ∈ fam r M k, f.length = M.length ∧ ∀ s ∈ f, s < M.length := by
  obtain ⟨N, gr⟩ := z.gr
  intro f hf
  obtain ⟨a, ha, e⟩ := List.mem_map.1 hf
  rw [← e]
  exact ⟨mp_len _, mp_lt z.gm (blk_lt gr k (List.mem_range.1 ha))⟩
theorem fam_zero (r : List (List Nat)) (M : Mach) : fam r M 0 = (List.range r.length).map fun a => mp M [a] := rfl
theorem mem_range_map {α : Type} {f : Nat → α} {k : Nat} {x : α} : x ∈ (List.range k).map f ↔ ∃ i, i < k ∧ f i = x := by
  rw [List.mem_map]
  constructor
  · rintro ⟨i, hi, e⟩; exact ⟨i, List.mem_range.1 hi, e⟩
  · rintro ⟨i, hi, e⟩; exact ⟨i, List.mem_range.2 hi, e⟩
theorem range_map_succ {α : Type} (f : Nat → α) (k : Nat) : (List.range (k + 1)).map f = (List.range k).map f ++ [f k] := by
  rw [List.range_succ, List.map_append]
  rfl

theorem mach_row' {M : Mach} {n : Nat} (g : GM n M) : M ≠ [] ∧ ∀ row ∈ M, row.length = n := by
  refine ⟨fun z => (by have := g.pos; rw [z] at this; cases this), fun row hrow => ?_⟩
  obtain ⟨s, hs, e⟩ := List.mem_iff_getElem.1 hrow
  have e2 : M.getD s [] = row := by rw [List.getD_eq_getElem?_getD, List.getElem?_eq_getElem hs, Option.getD_some, e]
  have h1 := g.row s hs
  rw [e2] at h1
  exact h1

/-! families_by -/
def sp_families_by : Sp := spF (fun (x : List (List Nat) × Mach) => [vD (eR x.1), vD (eM x.2)]) (fun x => Sz x.1 x.2) (fun x => vRnd x.1 x.2)
abbrev n_families_by : List Str := ["rule", "machine", "family", "found", "level_of", "letter"]
theorem sc_families_by : FnScope n_families_by ["rule", "machine"] (defScope st_families_by) := ⟨rfl, rfl, rfl, by decide +kernel, rfl, by decide +kernel, by decide +kernel⟩
theorem ok_families_by (F : Df K mg "families_by" st_families_by []) (B : Bi mg) (c_letter_map : Cb P w K mg base "letter_map" 1 ["machine", "letter"] [] spLetterMap) (c_next_family : Cb P w K mg base "next_family" 3 ["rule", "family"] [] sp_next_family) : Cb P w K mg base "families_by" 4 ["rule", "machine"] [] sp_families_by := by
  refine F.ok sc_families_by (fun _ => rfl) (fun _ _ _ _ _ _ us hl => match us, hl with | [_, _], _ => rfl) fun f cdv A outer s H Ex' hr => ?_
  refine ⟨_, pss_cons (ps_set (i := 2) sc_families_by.nd rfl (Or.inl rfl) (bTup K B (pe_lc (own := [("letter", 5)]) (g := gName 5) (tt := tYes) rfl sc_families_by.nd (itRg B (bLen K B (pv 0))) (blkOk_by (N := n_families_by) (sc := defScope st_families_by) (by decide +kernel)) (fun _ _ _ _ _ => pg_name (i := 5) sc_families_by.nd rfl (Or.inl rfl)) (fun _ _ _ _ _ => pts_nil) (fun _ _ _ _ _ => pe_cb c_letter_map (hr.mono (by decide)) rfl (pa_cons (pv 1) (pa_cons (pv 5) pa_nil))))))
    (pss_cons (ps_set (i := 3) sc_families_by.nd rfl (Or.inl rfl) (pe_lst pa_nil))
    (pss_cons (ps_set (i := 4) sc_families_by.nd rfl (Or.inl rfl) (pe_dk))
    (pss_cons (ps_while PassesOwn.never (pt_cmpR (op_dkNotIn (room64 hr)) (pv 2) (pv 4) (by rfl)) (pss_cons (ps_asg (bLen K B (pv 3)) (pg_sub (pv 4) (pv 2) (set_dk (room64 hr))))
    (pss_cons (ps_expr (pe_bm PySem.F.plainAttrs_list PySem.F.slot_list_append PySem.F.type_list_append mt_append (pv 3) (pa_cons (pv 2) pa_nil)))
    (pss_one (ps_set (i := 2) sc_families_by.nd rfl (Or.inl rfl) (pe_cb c_next_family hr rfl (pa_cons (pv 0) (pa_cons (pv 2) pa_nil))))))))
    (pss_one (ps_ret (pe_tup (pa_cons (pv 3) (pa_cons (pe_ix (ix_dk (room64 hr)) (pv 4) (pv 2) (fun _ _ => rfl)) pa_nil)))))))), ?_⟩
  rintro ⟨r, M⟩ vs ⟨v1, r1, rfl, h1, v2, r2, rfl, h2, e⟩ z Q k
  dsimp only at *
  rw [show r2 = [] from e]
  have z' := z
  obtain ⟨⟨N0, gr⟩, gm, h4, hblk, h3⟩ := z'
  have hrow := (mach_row' gm).2
  refine x_asg (e_cb (a_cons (EN.e (en_lc1 (vs := [5]) (List.range r.length) _ (fun a => vD (eW (mp M [a]))) (src0_range (a_cons ((e_cb (a_cons (e_var rfl h1) a_nil) r_lenT).weak fun v H3 _ p => (by
      rw [List.length_map] at p
      exact p)) a_nil) (by omega)).t.src (by rw [List.length_range]; omega) (fun _ _ => st_d _) (fun v => rfl) ?_)) a_nil) (r_tupE (List.range r.length) fun a => eW (mp M [a]))) fun fv H1 e1 p1 => ?_
  · intro a ha v H1 e1 p
    have ha := List.mem_range.1 ha
    exact e_call' (M, a) (a_cons (e_var rfl ((vD _).mono e1 h2)) (a_cons (e_i (e_var rfl p)) a_nil)) ⟨by dsimp only; omega, fun row hr => by
      dsimp only
      rw [hrow row hr]
      exact ha⟩
  have p1' : Is H1 (eR (fam r M 0)) fv := by
    rw [fam_zero]
    unfold eR
    rw [List.map_map]
    exact p1
  refine x_asgN (en_lst (Ps := []) a_nil (Nat.zero_le _)) fun l ls H2 hl0 e2 hl hls => ?_
  rw [show ls = [] from hls] at hl
  refine x_asgDk fun d H3 hd0 e3 hd => ?_
  obtain ⟨i0, j0, hij, hj0, hrep⟩ := fam_again gr gm
  have hB := fam_bound h3 h4
  refine x_while (fun m σ' H' => ∃ k fv vs, m = j0 + 1 - k ∧ k ≤ j0 ∧ σ' = [some v1, some v2, some fv, some (.ref l), some (.ref d), none] ∧ Ex H H' ∧ Is H' (eR (fam r M k)) fv ∧ H' l = some (.lst vs) ∧
    IsAll H' ((List.range k).map fun i => eR (fam r M i)) vs ∧ Dk P w H' d ((List.range k).map fun (i : Nat) => (eR (fam r M i), V.int i)) ∧ ∀ i j, i < j → j < k → fam r M i ≠ fam r M j) (j0 + 1)
    ⟨0, fv, [], rfl, Nat.zero_le _, rfl, (e1.trans e2).trans e3, Is.mono (Ex.tx (e2.trans e3)) _ _ p1', e3 _ _ hl, all_nil.2 rfl, hd, fun i j _ h => by omega⟩ ?_
  rintro m σ' H' ⟨k0, gv, ws, rfl, hk, rfl, eH, pg, hlw, hws, hdk, hne⟩
  have hwl : ws.length = k0 := by rw [hws.length]; simp
  have hkeys : ((List.range k0).map fun (i : Nat) => (eR (fam r M i), V.int i)).map (·.1) = (List.range k0).map fun i => eR (fam r M i) := by
    rw [List.map_map]
    rfl
  have hnd : ((List.range k0).map fun i => eR (fam r M i)).Nodup := by
    refine List.pairwise_map.2 (List.Pairwise.imp_of_mem ?_ (List.pairwise_lt_range (n := k0)))
    intro a b _ hb hab e
    exact hne a b hab (List.mem_range.1 hb) (eR_inj.1 e)
  have hld : l ≠ d := fun z => by
    obtain ⟨φ, e⟩ := hdk.obj
    rw [← z, hlw] at e
    cases e
  have hdep : (eR (fam r M k0)).dep ≤ 8 := Nat.le_trans (dep_eR _) (by omega)
  have hinv : ∀ b : Bool, (b = true ↔ ∃ i, i < k0 ∧ fam r M i = fam r M k0) → (b = true ↔ eR (fam r M k0) ∈ ((List.range k0).map fun (i : Nat) => (eR (fam r M i), V.int i)).map (·.1)) := by
    intro b hb
    rw [hb, hkeys, mem_range_map]
    constructor
    · rintro ⟨i, hi, e⟩; exact ⟨i, hi, by rw [e]⟩
    · rintro ⟨i, hi, e⟩; exact ⟨i, hi, eR_inj.1 e⟩
  by_cases hin : ∃ i, i < k0 ∧ fam r M i = fam r M k0
  · refine ⟨false, t_test (e_op (e_var rfl (show (vD (eR (fam r M k0))).p gv H' from pg)) (e_var rfl (show (vDk P w _).p (.ref d) H' from ⟨d, rfl, hdk⟩)) (o_dkNotIn (b := true) hdep (hinv true ⟨fun _ => hin, fun _ => rfl⟩))), (fun z => by cases z), fun _ H4 e4 => ?_⟩
    obtain ⟨i, hi, ei⟩ := hin
    refine x_ret (e_tup (a_cons (e_var (P := vFams r M k0) rfl ?_) (a_cons (e_op (e_var rfl (show (vDk P w _).p (.ref d) H4 from ⟨d, rfl, hdk.ex e4⟩)) (e_var rfl ((vD (eR (fam r M k0))).mono e4 pg)) (o_dkGet (v := .int i) hdep (by rw [hkeys]; exact hnd) ?_)) a_nil)) (by simp)) fun v H5 e5 p5 => k v H5 ((eH.trans e4).trans e5) ⟨(k0, i), ⟨⟨hi, ei.symm, hne⟩, by dsimp only; omega⟩, p5⟩
    · refine ⟨l, ws, rfl, e4 _ _ hlw, ?_⟩
      have := allP_isAll.2 (IsAll.mono (Ex.tx e4) _ _ hws)
      rw [List.map_map] at this
      exact this
    · exact List.mem_map.2 ⟨i, List.mem_range.2 hi, by rw [ei]; rfl⟩
  · refine ⟨true, t_test (e_op (e_var rfl (show (vD (eR (fam r M k0))).p gv H' from pg)) (e_var rfl (show (vDk P w _).p (.ref d) H' from ⟨d, rfl, hdk⟩)) (o_dkNotIn (b := false) hdep (hinv false ⟨fun z => (by cases z), fun z => absurd z hin⟩))), fun _ H4 e4 N hN => ?_, (fun z => by cases z)⟩
    have hkj : k0 < j0 := by
      rcases Nat.lt_or_ge k0 j0 with z | z
      · exact z
      · have : k0 = j0 := by omega
        rw [this] at hin
        exact absurd ⟨i0, hij, hrep⟩ hin
    have hno : eR (fam r M k0) ∉ ((List.range k0).map fun (i : Nat) => (eR (fam r M i), V.int i)).map (·.1) := by
      rw [hkeys, mem_range_map]
      rintro ⟨i, hi, e⟩
      exact hin ⟨i, hi, eR_inj.1 e⟩
    refine x_put (P := P) (w := w) (d := d) (v := .int k0) ((e_cb (a_cons (e_var (P := vFams r M k0) rfl ?_) a_nil) r_lenL).weak fun v H5 _ p => ?_) (e_var rfl rfl) (e_var rfl ((vD (eR (fam r M k0))).mono e4 pg)) hdep (hdk.ex e4) (by rw [List.length_map, List.length_range]; omega) hno fun H5 t5 x5 d5 => ?_
    · refine ⟨l, ws, rfl, e4 _ _ hlw, ?_⟩
      have := allP_isAll.2 (IsAll.mono (Ex.tx e4) _ _ hws)
      rw [List.map_map] at this
      exact this
    · rw [List.length_map, List.length_range] at p
      exact p
    · have hl5 : H5 l = some (.lst ws) := x5 _ _ hld (e4 _ _ hlw)
      have pg5 : Is H5 (eR (fam r M k0)) gv := Is.mono t5 _ _ (Is.mono (Ex.tx e4) _ _ pg)
      refine x_app hl5 (e_var rfl rfl) (e_var rfl (show (vD (eR (fam r M k0))).p gv H5 from pg5)) (by omega) fun v6 H6 e6 p6 => ?_
      have t56 : Tx H5 (upd H6 l (.lst (ws ++ [v6]))) := Tx.trans (Ex.tx e6) (Tx.updL (e6 _ _ hl5))
      have hlH : H l = none := fresh_back e1 hl0
      have hdH : H d = none := fresh_back (e1.trans e2) hd0
      have ex5 : Ex H H5 := fun a o h => x5 a o (ne_of_none h hdH) (e4 _ _ (eH a o h))
      have ex6 : Ex H (upd H6 l (.lst (ws ++ [v6]))) := Ex.mut (ex5.trans e6) hlH
      dsimp only
      refine x_asg (e_call' (r, fam r M k0) ?_ ?_) fun gv' H7 e7 p7 => ?_
      · exact a_cons (e_var rfl ((vD _).mono ex6 h1)) (a_cons (e_var rfl (show (vD (eR (fam r M k0))).p gv _ from Is.mono t56 _ _ pg5)) a_nil)
      · refine ⟨by dsimp only; omega, fun b hb => ?_, M.length, by omega, fam_mem_ok z k0⟩
        obtain ⟨c, hc, ec⟩ := mem_getD hb
        have := hblk b hb
        dsimp only
        rw [fam_len]
        refine ⟨by rw [← ec]; exact gr.ne c hc, by omega, by rw [← ec]; exact gr.lt c hc⟩
      · have hd6 : Dk P w (upd H6 l (.lst (ws ++ [v6]))) d ((List.range (k0 + 1)).map fun (i : Nat) => (eR (fam r M i), V.int i)) := by
          rw [range_map_succ]
          exact (d5.ex e6).mono (Tx.updL (e6 _ _ hl5)) (upd_ne (Ne.symm hld))
        refine hN (j0 + 1 - (k0 + 1)) _ _ (by omega) ⟨k0 + 1, gv', ws ++ [v6], rfl, by omega, rfl, ex6.trans e7, ?_, e7 _ _ upd_same, ?_, hd6.ex e7, ?_⟩
        · rw [fam_succ gr gm]
          exact p7
        · rw [range_map_succ]
          have w5 : IsAll H5 ((List.range k0).map fun i => eR (fam r M i)) ws := IsAll.mono t5 _ _ (IsAll.mono (Ex.tx e4) _ _ hws)
          exact IsAll.mono (Ex.tx e7) _ _ ((IsAll.mono t56 _ _ w5).append (IsAll.one (Is.mono (Tx.updL (e6 _ _ hl5)) _ _ p6)))
        · intro i j hij2 hj2
          rcases Nat.lt_or_ge j k0 with zz | zz
          · exact hne i j hij2 zz
          · have : j = k0 := by omega
            rw [this] at hij2 ⊢
            exact fun e => hin ⟨i, hij2, e⟩

end
end K37
set_option Elab.async false
set_option linter.all false
set_option maxRecDepth 100000
set_option maxHeartbeats 1000000
/-! S1: the slots of larger sets. The round i -> 5 i + 1 goes through all of 2^k. -/
namespace K37
open PySem PySem.Spec PyProof.Rows L2

/-! ### the round -/
def rd : Nat → Nat
  | 0 => 0
  | n + 1 => 5 * rd n + 1
theorem rd_add (a : Nat) : ∀ b, rd (a + b) = 5 ^ b * rd a + rd b
  | 0 => by simp [rd]
  | b + 1 => by
    show 5 * rd (a + b) + 1 = _
    rw [rd_add a b, Nat.pow_succ, rd, Nat.mul_add, ← Nat.mul_assoc, Nat.mul_comm 5 (5 ^ b)]
    omega
theorem rd_pow : ∀ n, 5 ^ n = 4 * rd n + 1
  | 0 => rfl
  | n + 1 => by
    rw [Nat.pow_succ, rd_pow n, rd]
    omega
theorem odd_pow : ∀ n, 5 ^ n % 2 = 1 := fun n => by
  rw [rd_pow n]
  omega
theorem odd_mul {a b : Nat} (ha : a % 2 = 1) (hb : b % 2 = 1) : (a * b) % 2 = 1 := by
  rw [Nat.mul_mod, ha, hb]
theorem rd_two : ∀ k, ∃ q, rd (2 ^ k) = 2 ^ k * q ∧ q % 2 = 1
  | 0 => ⟨1, rfl, rfl⟩
  | k + 1 => by
    obtain ⟨q, h1, h2⟩ := rd_two k
    refine ⟨q * (2 * rd (2 ^ k) + 1), ?_, odd_mul h2 (by omega)⟩
    have e : 2 ^ (k + 1) = 2 ^ k + 2 ^ k := by rw [Nat.pow_succ]; omega
    rw [e, rd_add, rd_pow]
    have e2 : (4 * rd (2 ^ k) + 1) * rd (2 ^ k) + rd (2 ^ k) = (2 * rd (2 ^ k)) * (2 * rd (2 ^ k) + 1) := by
      rw [Nat.add_mul, Nat.mul_add, Nat.one_mul, Nat.mul_one]
      have : 4 * rd (2 ^ k) * rd (2 ^ k) = 2 * rd (2 ^ k) * (2 * rd (2 ^ k)) := by
        rw [Nat.mul_assoc, Nat.mul_assoc, Nat.mul_left_comm (rd (2 ^ k)) 2, ← Nat.mul_assoc 2 2]
      omega
    rw [e2]
    have e3 : 2 * rd (2 ^ k) = (2 ^ k + 2 ^ k) * q := by
      rw [Nat.add_mul, ← h1]
      omega
    rw [← Nat.mul_assoc, ← e3]
theorem rd_all : ∀ k j, j < 2 ^ k → ∃ b, b < 2 ^ k ∧ rd b % 2 ^ k = j
  | 0, j, h => ⟨0, by omega, by
    have : j = 0 := by simp at h; exact h
    rw [this]
    rfl⟩
  | k + 1, j, h => by
    have hp : 0 < 2 ^ k := Nat.pow_pos (by decide)
    have e : 2 ^ (k + 1) = 2 ^ k + 2 ^ k := by rw [Nat.pow_succ]; omega
    obtain ⟨b, h1, h2⟩ := rd_all k (j % 2 ^ k) (Nat.mod_lt _ hp)
    obtain ⟨q, h3, h4⟩ := rd_two k
    have hm : rd b % 2 ^ (k + 1) % 2 ^ k = rd b % 2 ^ k := Nat.mod_mod_of_dvd _ ⟨2, by rw [Nat.pow_succ]⟩
    have hy : rd b % 2 ^ (k + 1) < 2 ^ (k + 1) := Nat.mod_lt _ (by omega)
    have split : ∀ z, z < 2 ^ k + 2 ^ k → z = z % 2 ^ k ∨ z = z % 2 ^ k + 2 ^ k := fun z hz => by
      rcases Nat.lt_or_ge z (2 ^ k) with c | c
      · exact .inl (Nat.mod_eq_of_lt c).symm
      · right
        rw [Nat.mod_eq_sub_mod c, Nat.mod_eq_of_lt (by omega)]
        omega
    by_cases c : rd b % 2 ^ (k + 1) = j
    · exact ⟨b, by omega, c⟩
    · refine ⟨b + 2 ^ k, by omega, ?_⟩
      rw [Nat.add_comm, rd_add, h3]
      have ho : (5 ^ b * q) % 2 = 1 := odd_mul (odd_pow b) h4
      obtain ⟨r, er⟩ : ∃ r, 5 ^ b * q = 2 * r + 1 := ⟨5 ^ b * q / 2, by omega⟩
      have e5 : 5 ^ b * (2 ^ k * q) + rd b = 2 ^ (k + 1) * r + (2 ^ k + rd b) := by
        rw [Nat.mul_left_comm, er, Nat.mul_add, Nat.mul_one, e, ← Nat.mul_assoc, Nat.mul_comm (2 ^ k) 2, Nat.add_assoc]
        have : 2 ^ k + 2 ^ k = 2 * 2 ^ k := by omega
        rw [this]
      rw [e5, Nat.mul_add_mod, Nat.add_mod]
      have hk : 2 ^ k % 2 ^ (k + 1) = 2 ^ k := Nat.mod_eq_of_lt (by omega)
      rw [hk]
      have s1 := split _ (by rw [← e]; exact hy)
      have s2 := split j (by rw [← e]; exact h)
      rw [hm, h2] at s1
      rcases s1 with s1 | s1 <;> rcases s2 with s2 | s2
      · exact absurd (s1.trans s2.symm) c
      · have : 2 ^ k + rd b % 2 ^ (k + 1) = j := by omega
        rw [this, Nat.mod_eq_of_lt h]
      · rw [s1]
        have : 2 ^ k + (j % 2 ^ k + 2 ^ k) = j % 2 ^ k + 2 ^ (k + 1) := by omega
        rw [this, Nat.add_mod_right, ← s2, Nat.mod_eq_of_lt h]
      · exact absurd (s1.trans s2.symm) c
theorem lcg_rd (m : Nat) : ∀ b, lcgN m b = rd b % (m + 1)
  | 0 => by simp [lcgN, rd]
  | b + 1 => by
    show (lcgN m b * 5 + 1) % (m + 1) = (5 * rd b + 1) % (m + 1)
    rw [lcg_rd m b, Nat.mul_comm 5, Nat.add_mod, Nat.mul_mod, Nat.mod_mod, ← Nat.mul_mod, ← Nat.add_mod]
/-- the masks that come -/
def Mk (m : Nat) : Prop := m = 7 ∨ m = 31 ∨ m = 127 ∨ m = 511 ∨ m = 2047 ∨ m = 8191
theorem Mk.pow {m : Nat} (h : Mk m) : ∃ k, m + 1 = 2 ^ k := by
  rcases h with e | e | e | e | e | e <;> subst e
  · exact ⟨3, rfl⟩
  · exact ⟨5, rfl⟩
  · exact ⟨7, rfl⟩
  · exact ⟨9, rfl⟩
  · exact ⟨11, rfl⟩
  · exact ⟨13, rfl⟩
theorem Mk.odd {m : Nat} (h : Mk m) : m % 2 = 1 := by
  rcases h with e | e | e | e | e | e <;> subst e <;> rfl
theorem Mk.le {m : Nat} (h : Mk m) : m ≤ 8191 := by
  rcases h with e | e | e | e | e | e <;> subst e <;> decide
theorem round_all {m : Nat} (h : Mk m) {i j : Nat} (hi : i ≤ m) (hj : j ≤ m) : ∃ k, k ≤ m ∧ lcgI m i k = j := by
  obtain ⟨k, ek⟩ := h.pow
  obtain ⟨a, a1, a2⟩ := rd_all k i (by omega)
  obtain ⟨b, b1, b2⟩ := rd_all k j (by omega)
  rw [← ek] at a1 a2 b1 b2
  rw [← lcg_rd] at a2 b2
  have per : ∀ n, lcgN m (m + 1 + n) = lcgN m n := fun n => by
    obtain ⟨q, e, _⟩ := rd_two k
    rw [lcg_rd, lcg_rd, ek, rd_add, e, Nat.mul_left_comm, Nat.mul_add_mod]
  rw [← a2]
  rcases Nat.lt_or_ge b a with c | c
  · refine ⟨b + (m + 1) - a, by omega, ?_⟩
    rw [lcgN_add, show a + (b + (m + 1) - a) = m + 1 + b by omega, per, b2]
  · refine ⟨b - a, by omega, ?_⟩
    rw [lcgN_add, show a + (b - a) = b by omega, b2]
theorem starts_all {m : Nat} (hm : Mk m) (h : Int) {j : Nat} (hj : j ≤ m) : ∃ n, n ≤ m + 12 ∧ runI m (SetTable.bits h) n = j := by
  obtain ⟨k, hk, e⟩ := round_all hm (runI_le m (SetTable.bits h) 12) hj
  exact ⟨12 + k, by omega, (runI_tail (bits_lt h) k).trans e⟩
theorem way_all {m : Nat} (hm : Mk m) (h : Int) {j : Nat} (hj : j ≤ m) : ∃ k, k < 10 * SetTable.turns m ∧ way m h k = j := by
  obtain ⟨n, hn, e⟩ := starts_all hm h hj
  obtain ⟨k, hk, e2⟩ := run_nth m (SetTable.bits h) n
  refine ⟨k, by unfold SetTable.turns; omega, ?_⟩
  show (nth m _ k).j = j
  rw [e2]
  exact e
theorem way_in {m : Nat} {h : Int} {k : Nat} : way m h k ≤ m := by
  have hi : SetTable.bits h % (m + 1) ≤ m := Nat.le_of_lt_succ (Nat.mod_lt _ (Nat.succ_pos _))
  have r := runEnd_bd hi
  have q := nth_in (m := m) k (runAt m (SetTable.bits h % (m + 1)) (SetTable.bits h)) (by
    show SetTable.bits h % (m + 1) + (SetTable.runEnd m (SetTable.bits h % (m + 1)) - SetTable.bits h % (m + 1)) ≤ m
    omega)
  exact Nat.le_trans (Nat.le_add_right _ _) q

/-! ### a table in which each is found -/
structure Tab (t : SetTable) (hs : List Int) : Prop where
  ris : Ris t.place.toList
  dm : t.dummies = #[]
  sz : t.place.size = hs.length
  mok : Mk t.mask
  bd : ∀ x ∈ t.place.toList, x ≤ t.mask
  way : ∀ (i : Nat) (h : Int) (j : Nat), hs[i]? = some h → t.place.toList[i]? = some j → ∃ k, L2.way t.mask h k = j ∧ ∀ q, q < k → L2.way t.mask h q ∈ t.place.toList
theorem Tab.first {t : SetTable} {hs : List Int} (T : Tab t hs) (hl : hs.length ≤ t.mask) (h : Int) : ∃ K, K < 10 * SetTable.turns t.mask ∧ L2.way t.mask h K ∉ t.place.toList ∧ ∀ k, k < K → L2.way t.mask h k ∈ t.place.toList := by
  obtain ⟨j, hj, hn⟩ := st_missing t.place.toList (t.mask + 1) (by
    rw [Array.length_toList, T.sz]
    omega)
  obtain ⟨k, hk, e⟩ := way_all T.mok h (Nat.le_of_lt_succ hj)
  obtain ⟨K, h1, h2, h3⟩ := st_least (p := fun k => L2.way t.mask h k ∉ t.place.toList) k (by
    show L2.way t.mask h k ∉ _
    rw [e]
    exact hn)
  exact ⟨K, Nat.lt_of_le_of_lt h1 hk, h2, fun q hq => Classical.not_not.1 (h3 q hq)⟩
theorem Tab.before {t : SetTable} {hs : List Int} (T : Tab t hs) {h : Int} {K i j : Nat} (hK : L2.way t.mask h K ∉ t.place.toList) (hi : hs[i]? = some h) (hj : t.place.toList[i]? = some j) : ∃ k, k < K ∧ L2.way t.mask h k = j := by
  obtain ⟨k, e, hb⟩ := T.way i h j hi hj
  rcases Nat.lt_or_ge k K with c | c
  · exact ⟨k, c, e⟩
  · exfalso
    rcases Nat.lt_or_ge K k with d | d
    · exact hK (hb K d)
    · have ek : k = K := by omega
      rw [ek] at e
      rw [e] at hK
      exact hK (List.mem_of_getElem? hj)
theorem Tab.put {t : SetTable} {hs : List Int} (T : Tab t hs) {h : Int} {K : Nat} (hK : L2.way t.mask h K ∉ t.place.toList) (hb : ∀ k, k < K → L2.way t.mask h k ∈ t.place.toList) {j p : Nat} (ej : L2.way t.mask h K = j) (ep : SetTable.below t.place j = p) :
    (t.put j).2 = p ∧ p ≤ hs.length ∧ Tab (t.put j).1 (hs.take p ++ h :: hs.drop p) ∧ (t.put j).1.fill = hs.length + 1 := by
  obtain ⟨c1, _, _⟩ := below_cut T.ris j
  rw [ep] at c1
  have hpl : p ≤ t.place.toList.length := by
    rw [Array.length_toList]
    exact c1
  have hph : p ≤ hs.length := by
    rw [← T.sz]
    exact c1
  have hjn : j ∉ t.place.toList := by rw [← ej]; exact hK
  have hnp : t.place[SetTable.below t.place j]? ≠ some j := fun e => hjn (List.mem_of_getElem? (by rw [Array.getElem?_toList]; exact e))
  have hpp := put_place t j
  have hsize : (t.put j).1.place.size = hs.length + 1 := by
    rw [← Array.length_toList, hpp, ep, len_ins _ hpl, Array.length_toList, T.sz]
  rw [ep] at hpp
  have up : ∀ {x : Nat}, x ∈ t.place.toList → x ∈ (t.put j).1.place.toList := fun hx => by
    rw [hpp]
    exact L2.mem_ins.2 (.inr hx)
  refine ⟨ep, hph, ⟨ris_insert T.ris hnp, put_dm T.dm j, ?_, T.mok, fun x hx => ?_, fun i h' j' h1 h2 => ?_⟩, ?_⟩
  · rw [len_ins _ hph]
    exact hsize
  · rw [hpp] at hx
    rcases L2.mem_ins.1 hx with z | z
    · rw [z, ← ej]
      exact way_in
    · exact T.bd x z
  · rw [tins_get hs hph] at h1
    rw [hpp, tins_get _ hpl] at h2
    show ∃ k, L2.way t.mask h' k = j' ∧ ∀ q, q < k → L2.way t.mask h' q ∈ (t.put j).1.place.toList
    have old : ∀ i', hs[i']? = some h' → t.place.toList[i']? = some j' → ∃ k, L2.way t.mask h' k = j' ∧ ∀ q, q < k → L2.way t.mask h' q ∈ (t.put j).1.place.toList := fun i' a b =>
      let ⟨k, e, z⟩ := T.way i' h' j' a b
      ⟨k, e, fun q hq => up (z q hq)⟩
    by_cases c : i < p
    · rw [if_pos c] at h1 h2
      exact old i h1 h2
    · rw [if_neg c] at h1 h2
      by_cases d : i = p
      · rw [if_pos d] at h1 h2
        injection h1 with h1
        injection h2 with h2
        subst h1
        subst h2
        exact ⟨K, ej, fun q hq => up (hb q hq)⟩
      · rw [if_neg d] at h1 h2
        exact old (i - 1) h1 h2
  · show (t.put j).1.place.size + (t.put j).1.dummies.size = hs.length + 1
    rw [hsize, put_dm T.dm j]
    rfl

/-! ### all laid anew -/
theorem seat {m : Nat} (hm : Mk m) (owner : Array (Option Nat)) (h : Int) {j : Nat} (hj : j ≤ m) (hf : oAt owner j = none) :
    ∃ K, SetTable.layClean.free m owner (SetTable.turns m) (SetTable.bits h % (m + 1)) (SetTable.bits h) = some (way m h K) ∧ oAt owner (way m h K) = none ∧ ∀ k, k < K → oAt owner (way m h k) ≠ none := by
  obtain ⟨n, hn, e⟩ := starts_all hm h hj
  have hw : way m h (off m (SetTable.bits h % (m + 1)) (SetTable.bits h) n) = j := by
    show (nth m _ (off m _ _ n)).j = j
    rw [nth_off, itL_run]
    exact e
  obtain ⟨K, k1, k2, k3⟩ := st_least (p := fun k => oAt owner (way m h k) = none) _ (show oAt owner (way m h (off m (SetTable.bits h % (m + 1)) (SetTable.bits h) n)) = none by rw [hw]; exact hf)
  refine ⟨K, free_spec m owner (SetTable.turns m) n _ _ K (by unfold SetTable.turns; omega) k1 (fun k hk => ?_) (by rw [show oAt owner (nth m _ K).j = none from k2]; rfl), k2, k3⟩
  cases z : oAt owner (nth m (runAt m (SetTable.bits h % (m + 1)) (SetTable.bits h)) k).j with
  | none => exact absurd z (k3 k hk)
  | some _ => rfl
theorem own_step {m : Nat} (hm : Mk m) {done : List Int} {owner : Array (Option Nat)} (W : Own m done owner) (hl : done.length ≤ m) (h : Int) :
    ∃ j, SetTable.layClean.free m owner (SetTable.turns m) (SetTable.bits h % (m + 1)) (SetTable.bits h) = some j ∧ Own m (done ++ [h]) (owner.setIfInBounds j (some done.length)) := by
  obtain ⟨ps, hps, hin⟩ := W.ps
  obtain ⟨j0, h0, hn0⟩ := st_missing ps (m + 1) (by omega)
  have hj0 : oAt owner j0 = none := Classical.not_not.1 fun z => hn0 (hin j0 (Nat.le_of_lt_succ h0) z)
  obtain ⟨K, e1, e2, e3⟩ := seat hm owner h (Nat.le_of_lt_succ h0) hj0
  have hjs : way m h K < owner.size := by
    rw [W.sz]
    exact Nat.lt_succ_of_le way_in
  have hself := oAt_set_self (some done.length) hjs
  have mono : ∀ {i : Nat}, oAt owner i ≠ none → oAt (owner.setIfInBounds (way m h K) (some done.length)) i ≠ none := fun {i} hi => by
    by_cases c : i = way m h K
    · rw [c, hself]
      exact fun e => nomatch e
    · rw [oAt_set_ne _ c]
      exact hi
  have hl1 : (done ++ [h]).length = done.length + 1 := by simp
  refine ⟨way m h K, e1, by rw [Array.size_setIfInBounds]; exact W.sz, fun j k hj e => ?_, fun k hk => ?_, way m h K :: ps, by rw [List.length_cons, hl1, hps], fun j hj e => ?_⟩
  · by_cases c : j = way m h K
    · rw [c, hself] at e
      injection e with e
      exact ⟨h, K, by rw [← e]; simp, c.symm, fun q hq => mono (e3 q hq)⟩
    · rw [oAt_set_ne _ c] at e
      obtain ⟨h', K', a1, a2, a3⟩ := W.at_ j k hj e
      exact ⟨h', K', by rw [List.getElem?_append_left (List.getElem?_eq_some_iff.mp a1).1]; exact a1, a2, fun q hq => mono (a3 q hq)⟩
  · rw [hl1] at hk
    by_cases c : k < done.length
    · obtain ⟨j, hj, e⟩ := W.all k c
      refine ⟨j, hj, ?_⟩
      rw [oAt_set_ne _ (fun z => by rw [z, e2] at e; cases e)]
      exact e
    · exact ⟨way m h K, way_in, by rw [hself, show k = done.length by omega]⟩
  · by_cases c : j = way m h K
    · rw [c]
      exact List.mem_cons_self
    · rw [oAt_set_ne _ c] at e
      exact List.mem_cons_of_mem _ (hin j hj e)
theorem own_all {m : Nat} (hm : Mk m) : ∀ (rest done : List Int) (owner : Array (Option Nat)), Own m done owner → done.length + rest.length ≤ m →
    ∃ o', rest.foldl (stepF m) (some (owner, done.length)) = some (o', (done ++ rest).length) ∧ Own m (done ++ rest) o'
  | [], done, owner, W, _ => ⟨owner, by simp, by simpa using W⟩
  | h :: rest, done, owner, W, hl => by
    rw [List.length_cons] at hl
    obtain ⟨j, e, W'⟩ := own_step hm W (by omega) h
    have hl1 : (done ++ [h]).length = done.length + 1 := by simp
    obtain ⟨o', f, W2⟩ := own_all hm rest (done ++ [h]) _ W' (by rw [hl1]; omega)
    rw [List.append_assoc, List.singleton_append, hl1] at f
    rw [List.append_assoc, List.singleton_append] at W2
    exact ⟨o', by rw [List.foldl_cons, stepF_some e]; exact f, W2⟩
theorem lay_new {m : Nat} (hm : Mk m) {hs : Array Int} (hn : hs.size ≤ m) : ∃ owner, SetTable.layClean m hs = some owner ∧ Own m hs.toList owner := by
  obtain ⟨owner, f, W⟩ := own_all hm hs.toList [] _ (Own.init m) (by simpa using hn)
  rw [List.nil_append] at W
  refine ⟨owner, ?_, W⟩
  rw [layClean_eq, show (0 : Nat) = ([] : List Int).length from rfl, f]
  rfl
theorem tab_new (t : SetTable) {hs : Array Int} {wanted M : Nat} (hw : SetTable.sizeAbove wanted - 1 = M) (hM : Mk M) (hn : hs.size ≤ M) :
    ∃ t' order, t.relaid hs wanted = some (t', order) ∧ order.toList.Perm (List.range hs.size) ∧ Tab t' (order.toList.map fun i => hs.getD i 0) ∧ t'.mask = M ∧ t'.led = t.led ∧ t'.plain = t.plain := by
  obtain ⟨owner, e, W⟩ := lay_new hM hn
  have ris := ris_live (fun j => owner.getD j none) (List.range (M + 1)) (by
    unfold Ris
    exact List.pairwise_lt_range)
  have r1 : Ris ((liveOf M owner).map (·.1)) := ris.1
  have r2 : ∀ x ∈ (liveOf M owner).map (·.1), x ∈ List.range (M + 1) := ris.2
  have nd : ((liveOf M owner).map (·.1)).Nodup := List.Pairwise.imp (fun h => Nat.ne_of_lt h) r1
  have seated : ∀ k, k < hs.size → k ∈ (liveOf M owner).map (·.2) := fun k hk => by
    obtain ⟨j, b1, b2⟩ := W.all k (by rw [Array.length_toList]; exact hk)
    exact List.mem_map.mpr ⟨(j, k), (mem_live W.sz).2 ⟨b1, b2⟩, rfl⟩
  have hlen : (liveOf M owner).length = hs.size := by
    obtain ⟨ps, p1, p2⟩ := W.ps
    have a := nat_nodup_len ((liveOf M owner).map (·.1)) ps nd fun x hx => by
      obtain ⟨⟨y, k⟩, hq, rfl⟩ := List.mem_map.mp hx
      obtain ⟨b1, b2⟩ := (mem_live W.sz).1 hq
      exact p2 y b1 (by rw [b2]; exact fun z => nomatch z)
    have b := nat_nodup_len (List.range hs.size) ((liveOf M owner).map (·.2)) List.nodup_range fun k hk => seated k (List.mem_range.mp hk)
    rw [List.length_map, p1] at a
    rw [List.length_map, List.length_range] at b
    have hz : hs.toList.length = hs.size := Array.length_toList
    omega
  refine ⟨tabOf t M owner, ((liveOf M owner).map (·.2)).toArray, by rw [relaid_eq, hw, e]; rfl, ?_, ⟨r1, rfl, ?_, hM, fun x hx => ?_, fun i h j h1 h2 => ?_⟩, rfl, rfl, rfl⟩
  · exact perm_range hs.size _ (by rw [List.length_map]; exact hlen) seated
  · show ((liveOf M owner).map (·.1)).toArray.size = (((liveOf M owner).map (·.2)).map fun i => hs.getD i 0).length
    simp
  · exact Nat.le_of_lt_succ (List.mem_range.mp (r2 x hx))
  · have g1 : (((liveOf M owner).map (·.2)).map fun i => hs.getD i 0)[i]? = some h := h1
    have g2 : ((liveOf M owner).map (·.1))[i]? = some j := h2
    rw [List.getElem?_map, List.getElem?_map] at g1
    rw [List.getElem?_map] at g2
    cases hq : (liveOf M owner)[i]? with
    | none =>
      rw [hq] at g2
      cases g2
    | some q =>
      obtain ⟨y, k⟩ := q
      rw [hq] at g1 g2
      injection g2 with ej
      injection g1 with eh
      dsimp only at ej eh
      subst ej
      obtain ⟨b1, b2⟩ := (mem_live W.sz).1 (List.mem_of_getElem? hq)
      obtain ⟨h0, K, a1, a2, a3⟩ := W.at_ y k b1 b2
      have e0 : hs.getD k 0 = h0 := by
        rw [Array.getD_eq_getD_getElem?, ← Array.getElem?_toList, a1]
        rfl
      have ehh : h0 = h := e0.symm.trans eh
      subst ehh
      refine ⟨K, a2, fun q hq => ?_⟩
      show way M h0 q ∈ (liveOf M owner).map (·.1)
      cases z : oAt owner (way M h0 q) with
      | none => exact absurd z (a3 q hq)
      | some k2 => exact List.mem_map.mpr ⟨(way M h0 q, k2), (mem_live W.sz).2 ⟨way_in, z⟩, rfl⟩
theorem sz_a : SetTable.sizeAbove (SetTable.grown 5) = 32 ∧ SetTable.sizeAbove (SetTable.grown 19) = 128 ∧ SetTable.sizeAbove (SetTable.grown 77) = 512 ∧ SetTable.sizeAbove (SetTable.grown 307) = 2048 ∧ SetTable.sizeAbove (SetTable.grown 1229) = 8192 := by decide +kernel
end K37
set_option Elab.async false
set_option linter.all false
set_option maxRecDepth 100000
set_option maxHeartbeats 1000000
/-! S2: sets of tuples of ints, fewer than 4096. -/
namespace K37
open PySem PySem.Spec PyProof.Rows L2
abbrev Row := Addr × List Int
section
variable {P : Program} {w : World} {A : Around} {E : Value → Shared → Prop} {s : Shared}
/-- the set at a: its rows, each found again -/
structure SR (P : Program) (w : World) (h : Heap) (a : Addr) (L : List Row) (es : Array (Int × Value)) (ep : Nat) (t : SetTable) : Prop where
  ob : ∃ o, h.get? a = some o ∧ o.ExactSet ∧ o.data = .set es ep t
  rows : es.toList = rowsOf P w L
  tab : Tab t (L.map fun p => thash P w p.2)
  nd : (L.map (·.2)).Nodup
  tup : ∀ p ∈ L, IsT P w h p.2 p.1
  plain : t.plain = true
  led : w.params.followText "set-order" = true ∨ t.led = true
  room : L.length * 5 < t.mask * 3
  few : L.length < 4096
variable {a : Addr} {L : List Row} {es : Array (Int × Value)} {ep : Nat} {t : SetTable}
theorem rows_size {es : Array (Int × Value)} {L : List Row} (h : es.toList = rowsOf P w L) : es.size = L.length := by
  have q := congrArg List.length h
  unfold rowsOf at q
  rwa [Array.length_toList, List.length_map] at q
theorem tab_fits {t : SetTable} {hs : List Int} {n : Nat} (T : Tab t hs) (h1 : hs.length = n) (h2 : n ≤ t.mask) : t.fits n = true := by
  have h3 := T.sz
  unfold SetTable.fits SetTable.fill
  rw [T.dm, Bool.and_eq_true, beq_iff_eq, decide_eq_true_eq]
  show t.place.size = n ∧ t.place.size + 0 ≤ t.mask
  omega
theorem SR.fits (R : SR P w s.heap a L es ep t) : t.fits es.size = true := by
  have h2 := rows_size R.rows
  have h3 := R.room
  exact tab_fits R.tab (by rw [List.length_map, h2]) (by omega)
theorem SR.entry (R : SR P w s.heap a L es ep t) {i : Nat} {p : Row} (h : L[i]? = some p) : es[i]? = some (thash P w p.2, Value.ref p.1) := by
  rw [← Array.getElem?_toList, R.rows]
  unfold rowsOf
  rw [List.getElem?_map, h]
  rfl
theorem SR.stays (R : SR P w s.heap a L es ep t) : ¬ t.gaveWay = true := by
  unfold SetTable.gaveWay
  rw [R.tab.mok.odd]
  decide
theorem no_dummy (m : Nat) : ∀ (n : Nat) (p : SetTable.Probe), p.dummy = none → (nth m p n).dummy = none
  | 0, _, h => h
  | n + 1, p, h => no_dummy m n (adv m p) (by
    unfold adv
    split <;> exact h)
/-- the search, from step c of the way on; K is the first empty step -/
theorem look (R : SR P w s.heap a L es ep t) {x : Addr} {k : List Int} (hx : IsT P w s.heap k x) (hu : A.units < cLine) {K : Nat} (hKf : K < 10 * SetTable.turns t.mask)
    (hK : way t.mask (thash P w k) K ∉ t.place.toList) (hKb : ∀ c, c < K → way t.mask (thash P w k) c ∈ t.place.toList) {Q : SetFound → Shared → Prop}
    (hin : k ∈ L.map (·.2) → Q (.there none) s) (hout : k ∉ L.map (·.2) → Q (.free (way t.mask (thash P w k) K) false) s) {b : Nat} (hb : SetTable.bits (thash P w k) = b) {p0 : SetTable.Probe} (hp0 : runAt t.mask (b % (t.mask + 1)) b = p0) :
    ∀ (f c : Nat) (stand : Option SetTable.Probe), stand.getD (t.probeStart (thash P w k)) = nth t.mask p0 c → c ≤ K → K - c < f →
      (∀ (i : Nat) p, L[i]? = some p → p.2 = k → ∃ c', c ≤ c' ∧ c' < K ∧ t.place.toList[i]? = some (way t.mask (thash P w k) c')) →
      wpAny (model P w) A (setSearchFrom a (.ref x) (thash P w k) true f stand) Q E s
  | 0, c, stand, _, _, hf, _ => absurd hf (Nat.not_lt_zero _)
  | f + 1, c, stand, hst, hc, hf, hre => by
    obtain ⟨o, ho, hex, hd⟩ := R.ob
    have wy : ∀ q, (nth t.mask p0 q).j = way t.mask (thash P w k) q := fun q => by
      rw [← hp0, ← hb]
    have sh : ∀ q, nth t.mask (nth t.mask p0 c) q = nth t.mask p0 (c + q) := fun q => (nth_add t.mask c _ q).symm
    have e1 : ∀ q, (nth t.mask (nth t.mask p0 c) q).j = way t.mask (thash P w k) (c + q) := fun q => by rw [sh, wy]
    rw [setSearchFrom_succ]
    refine wpAny_bind (wpAny_setState_of ho hd R.fits ?_)
    dsimp only
    refine wp_if_neg R.stays ?_
    have hnd : (nth t.mask p0 c).dummy = none := no_dummy _ c _ (by rw [← hp0]; rfl)
    have spec := go_spec t R.tab.ris R.tab.dm (fun i => (es[i]?.map (·.1)).getD 0) (thash P w k) (10 * SetTable.turns t.mask) (K - c) _ hnd (by omega)
      (fun q hq => by rw [e1]; exact hKb (c + q) (by omega)) (by rw [e1, show c + (K - c) = K by omega]; exact hK)
    have hashAt : ∀ (i : Nat) p, L[i]? = some p → (es[i]?.map (·.1)).getD 0 = thash P w p.2 := fun i p hp => by
      rw [R.entry hp]
      rfl
    rcases spec with ⟨q, i, hq, hi, hh, hno, hpr⟩ | ⟨hno, hpr⟩
    · have hpr' : t.probe (fun i => (es[i]?.map (·.1)).getD 0) (thash P w k) (stand.getD (t.probeStart (thash P w k))) = some (.candidate (way t.mask (thash P w k) (c + q)) i (nth t.mask p0 (c + (q + 1)))) := by
        rw [hst, ← e1, ← sh]
        exact hpr
      rw [hpr']
      dsimp only
      rw [e1] at hi
      have hil : i < L.length := by
        have h1 := (List.getElem?_eq_some_iff.mp hi).1
        have h2 := R.tab.sz
        rw [List.length_map] at h2
        rw [Array.length_toList] at h1
        omega
      obtain ⟨p, hp⟩ : ∃ p, L[i]? = some p := ⟨_, List.getElem?_eq_getElem hil⟩
      have hmem : p ∈ L := List.mem_of_getElem? hp
      have rest : wpAny (model P w) A (searchRest a (.ref x) (thash P w k) true f es t (way t.mask (thash P w k) (c + q)) i (nth t.mask p0 (c + (q + 1)))) Q E s := by
        unfold searchRest
        rw [R.entry hp]
        dsimp only
        refine wpAny_bind (wpAny_holding (wpAny_eqBool_tuple hu (R.tup p hmem) hx ?_))
        refine wpAny_bind (wpAny_setState_of ho hd R.fits ?_)
        dsimp only
        by_cases hkk : p.2 = k
        · exact wp_if_pos (by simp [hkk]) (wpAny_pure (hin (List.mem_map.mpr ⟨p, hmem, hkk⟩)))
        · refine wp_if_neg (by simp [hkk]) ?_
          rw [sameMem]
          dsimp only
          have hsl : t.slot (way t.mask (thash P w k) (c + q)) = .live i := slot_live R.tab.ris hi
          simp only [if_true, hsl, R.entry hp]
          refine wpAny_bind (wpAny_isSame_ref_self (wpAny_bind (wpAny_pure ?_)))
          simp only [if_true]
          refine wp_if_neg (by simp [hkk]) ?_
          refine look R hx hu hKf hK hKb hin hout hb hp0 f (c + (q + 1)) _ rfl (by omega) (by omega) fun i0 p1 h0 hk0 => ?_
          obtain ⟨c', a1, a2, a3⟩ := hre i0 p1 h0 hk0
          refine ⟨c', ?_, a2, a3⟩
          have far : c' < c + q → False := fun z =>
            hno (c' - c) i0 (by omega) (by rw [e1, show c + (c' - c) = c' by omega]; exact a3) ((hashAt i0 p1 h0).trans (congrArg (thash P w) hk0))
          have near : c' = c + q → False := fun z => by
            rw [z] at a3
            have s0 := slot_live R.tab.ris a3
            rw [hsl] at s0
            injection s0 with s0
            rw [← s0, hp] at h0
            injection h0 with h0
            exact hkk (by rw [h0]; exact hk0)
          rcases Nat.lt_trichotomy c' (c + q) with z | z | z
          · exact (far z).elim
          · exact (near z).elim
          · omega
      by_cases hl : t.led = true
      · exact wp_if_neg (by simp [hl]) rest
      · refine wp_if_pos (by simp [hl]) ?_
        refine wpAny_bind (seen_tup hx (fun y hy => ?_) (wp_if_neg (by decide) rest))
        obtain ⟨e, he, ee⟩ := List.mem_map.mp hy
        have he2 : e ∈ es.toList := (show e ∈ es ∧ e.1 = thash P w k by simpa using he).1.val
        rw [R.rows] at he2
        obtain ⟨p2, hp2, e2⟩ := List.mem_map.mp he2
        exact ⟨p2.2, p2.1, by rw [← ee, ← e2], R.tup p2 hp2⟩
    · have hpr' : t.probe (fun i => (es[i]?.map (·.1)).getD 0) (thash P w k) (stand.getD (t.probeStart (thash P w k))) = some (.empty (way t.mask (thash P w k) K) none) := by
        have e2 : way t.mask (thash P w k) K = (nth t.mask (nth t.mask p0 c) (K - c)).j := by
          rw [e1, show c + (K - c) = K by omega]
        rw [hst, e2]
        exact hpr
      rw [hpr']
      dsimp only
      refine wpAny_pure (hout fun hm => ?_)
      obtain ⟨p1, h0, hk0⟩ := List.mem_map.mp hm
      obtain ⟨i0, h00⟩ := List.mem_iff_getElem?.1 h0
      obtain ⟨c', a1, a2, a3⟩ := hre i0 p1 h00 hk0
      exact hno (c' - c) i0 (by omega) (by rw [e1, show c + (c' - c) = c' by omega]; exact a3) ((hashAt i0 p1 h00).trans (congrArg (thash P w) hk0))
theorem look_add (R : SR P w s.heap a L es ep t) {x : Addr} {k : List Int} (hx : IsT P w s.heap k x) (hu : A.units < cLine) {Q : SetFound → Shared → Prop}
    (hin : k ∈ L.map (·.2) → Q (.there none) s)
    (hout : ∀ K, k ∉ L.map (·.2) → way t.mask (thash P w k) K ∉ t.place.toList → (∀ c, c < K → way t.mask (thash P w k) c ∈ t.place.toList) → Q (.free (way t.mask (thash P w k) K) false) s) :
    wpAny (model P w) A (setSearch a (.ref x) (thash P w k) true) Q E s := by
  have hroom := R.room
  have hm := R.tab.mok.le
  obtain ⟨K, hKf, hK, hKb⟩ := R.tab.first (by rw [List.length_map]; omega) (thash P w k)
  have hbig : 10 * SetTable.turns t.mask < 100000 := by
    unfold SetTable.turns
    omega
  unfold setSearch
  refine look R hx hu hKf hK hKb hin (fun hn => hout K hn hK hKb) rfl rfl 100000 0 none rfl (Nat.zero_le _) (by omega) fun i p hp hk => ?_
  have hi : (L.map fun p => thash P w p.2)[i]? = some (thash P w k) := by
    rw [List.getElem?_map, hp, ← hk]
    rfl
  have hil : i < t.place.toList.length := by
    have h1 := (List.getElem?_eq_some_iff.mp hp).1
    have h2 := R.tab.sz
    rw [List.length_map] at h2
    rw [Array.length_toList]
    omega
  have hj := List.getElem?_eq_getElem hil
  obtain ⟨c, hc, e⟩ := R.tab.before hK hi hj
  exact ⟨c, Nat.zero_le _, hc, by rw [hj, e]⟩
/-- a larger table -/
theorem grow_at {o : Obj} (ho : s.heap.get? a = some o) (hex : o.ExactSet) (hd : o.data = .set es ep t) (hrows : es.toList = rowsOf P w L) (hf : t.fits es.size = true)
    (nd : (L.map (·.2)).Nodup) (tup : ∀ p ∈ L, IsT P w s.heap p.2 p.1) (pl : t.plain = true) (ld : w.params.followText "set-order" = true ∨ t.led = true) (few : L.length < 4096) {wanted M : Nat}
    (hw : SetTable.sizeAbove wanted = M + 1) (hM : Mk M) (hn : L.length * 5 < M * 3) {Q : Unit → Shared → Prop}
    (hQ : ∀ h' L' es' ep' t', Heap.SameBut a s.heap h' → SR P w h' a L' es' ep' t' → L'.Perm L → Q () { s with heap := h' }) : wpAny (model P w) A (setRelay a wanted) Q E s := by
  have hsl := rows_size hrows
  obtain ⟨t', order, e, hp, T, em, el, ep'⟩ := tab_new t (hs := es.map (·.1)) (wanted := wanted) (M := M) (by rw [hw]; rfl) hM (by rw [Array.size_map, hsl]; omega)
  rw [Array.size_map, hsl] at hp
  obtain ⟨L2, r1, r2, r3⟩ := order_rows L es order hrows hp
  rw [← r3] at T
  have hs2 : (order.filterMap (es[·]?)).size = es.size := by rw [rows_size r1, r2.length_eq, hsl]
  have hMl := hM.le
  rw [setRelay_eq]
  refine wpAny_bind (wpAny_setState_of ho hd hf ?_)
  dsimp only
  refine wp_if_neg (by rw [sizeLine_eq, hw]; omega) ?_
  rw [e]
  dsimp only
  refine wpAny_bind (wp_if_neg (by rw [hs2]; simp) (wpAny_pure ?_))
  dsimp only
  refine wpAny_storeSet_of ho hd ?_ (by rw [hs2, hsl, sizeLine_eq]; omega)
  have sb : Heap.SameBut a s.heap (s.heap.update a (Obj.putSet (order.filterMap (es[·]?)) t')) := Heap.SameBut.update ..
  refine hQ _ L2 (order.filterMap (es[·]?)) (ep + 1) t' sb ⟨⟨_, store_at ho hd, ⟨hex.1, hex.2.1, hex.2.2⟩, rfl⟩, r1, T, (r2.map (·.2)).nodup_iff.mpr nd, fun p hpm => isT_same (tup p (r2.mem_iff.mp hpm)) ho hd sb, by rw [ep']; exact pl, by rw [el]; exact ld, ?_, by rw [r2.length_eq]; exact few⟩ r2
  rw [r2.length_eq, em]
  exact hn
theorem next_mask {m n : Nat} (hm : Mk m) (h1 : n * 5 < m * 3) (h2 : (n + 1) * 5 ≥ m * 3) (h3 : n + 1 < 4096) : ∃ M, SetTable.sizeAbove (SetTable.grown (n + 1)) = M + 1 ∧ Mk M ∧ (n + 1) * 5 < M * 3 := by
  obtain ⟨a1, a2, a3, a4, a5⟩ := sz_a
  rcases hm with e | e | e | e | e | e
  · have en : n = 4 := by omega
    rw [en]
    exact ⟨31, a1, by unfold Mk; omega, by omega⟩
  · have en : n = 18 := by omega
    rw [en]
    exact ⟨127, a2, by unfold Mk; omega, by omega⟩
  · have en : n = 76 := by omega
    rw [en]
    exact ⟨511, a3, by unfold Mk; omega, by omega⟩
  · have en : n = 306 := by omega
    rw [en]
    exact ⟨2047, a4, by unfold Mk; omega, by omega⟩
  · have en : n = 1228 := by omega
    rw [en]
    exact ⟨8191, a5, by unfold Mk; omega, by omega⟩
  · omega
/-- one is added -/
theorem add_one (R : SR P w s.heap a L es ep t) {x : Addr} {k : List Int} (hx : IsT P w s.heap k x) (hu : A.units < cLine) (hfew : k ∉ L.map (·.2) → L.length + 1 < 4096) {Q : Bool → Shared → Prop}
    (hQ : ∀ b h' L' es' ep' t', Heap.SameBut a s.heap h' → SR P w h' a L' es' ep' t' → (k ∈ L.map (·.2) → L' = L) → (k ∉ L.map (·.2) → L'.Perm ((x, k) :: L)) → Q b { s with heap := h' }) :
    wpAny (model P w) A (setAddHashed a (.ref x) (thash P w k)) Q E s := by
  obtain ⟨o, ho, hex, hd⟩ := R.ob
  have hsl := rows_size R.rows
  have hroom := R.room
  unfold setAddHashed
  refine wpAny_holding ?_
  rw [show (100000 : Nat) = 99999 + 1 from rfl, setAddHashedIn_succ]
  refine wpAny_bind (wpAny_setState_of ho hd R.fits ?_)
  dsimp only
  refine wp_if_neg (by simp [byScan, Value.scannable]) ?_
  refine wpAny_bind (look_add R hx hu (fun hm => wpAny_pure (hQ false s.heap L es ep t (Heap.SameBut.refl a s.heap) R (fun _ => rfl) fun z => absurd hm z)) fun K hm hK hb => ?_)
  dsimp only
  refine wpAny_bind (wpAny_setState_of ho hd R.fits ?_)
  dsimp only
  have hfew := hfew hm
  obtain ⟨j, ej⟩ : ∃ j, way t.mask (thash P w k) K = j := ⟨_, rfl⟩
  obtain ⟨p, ep1⟩ : ∃ p, SetTable.below t.place j = p := ⟨_, rfl⟩
  obtain ⟨q1, q2, q3, q9⟩ := R.tab.put hK hb ej ep1
  have q4 : (t.put j).1.mask = t.mask := rfl
  have q5 : (t.put j).1.led = t.led := rfl
  have q6 : (t.put j).1.plain = t.plain := rfl
  rw [ej]
  generalize hpt : t.put j = pt at q1 q3 q4 q5 q6 q9 ⊢
  obtain ⟨t1, p1⟩ := pt
  dsimp only at q1 q3 q4 q5 q6 q9 ⊢
  subst q1
  have hp1 : t1.plain = true := by rw [q6]; exact R.plain
  first
    | exact absurd rfl (by decide : ¬ (0 : Nat) = 0)
    | refine wp_if_pos hp1 (wpAny_bind (hashBy_tup hx ?_))
    | (refine wpAny_bind ?_; refine wp_if_pos hp1 ?_; refine hashBy_tup hx ?_)
  simp only [if_true]
  have hin : (SetTable.insertAt es p1 (thash P w k, Value.ref x)).toList = rowsOf P w (L.take p1 ++ (x, k) :: L.drop p1) := by
    rw [SetTable.toList_insertAt, rows_put, R.rows]
  have pm := put_perm L p1 (x, k)
  have hhs : (L.take p1 ++ (x, k) :: L.drop p1).map (fun p => thash P w p.2) = (L.map fun p => thash P w p.2).take p1 ++ thash P w k :: (L.map fun p => thash P w p.2).drop p1 := by
    rw [List.map_append, List.map_cons, List.map_take, List.map_drop]
  rw [← hhs] at q3
  generalize SetTable.insertAt es p1 (thash P w k, Value.ref x) = es1 at hin ⊢
  generalize L.take p1 ++ (x, k) :: L.drop p1 = L1 at pm q3 hin
  have hlen : L1.length = L.length + 1 := pm.length_eq
  have hes : es1.size = L.length + 1 := (rows_size hin).trans hlen
  have nd1 : (L1.map (·.2)).Nodup := (pm.map (·.2)).nodup_iff.mpr (by rw [List.map_cons]; exact List.nodup_cons.mpr ⟨hm, R.nd⟩)
  rw [List.length_map] at q9
  refine wpAny_bind (wpAny_storeSet_of ho hd ?_ (by rw [hes, sizeLine_eq]; omega))
  have sb : Heap.SameBut a s.heap (s.heap.update a (Obj.putSet es1 t1)) := Heap.SameBut.update ..
  have ho1 := store_at (es' := es1) (t' := t1) ho hd
  generalize s.heap.update a (Obj.putSet es1 t1) = h1 at sb ho1 ⊢
  have tup1 : ∀ p ∈ L1, IsT P w h1 p.2 p.1 := fun p hp => by
    rcases List.mem_cons.mp (pm.mem_iff.mp hp) with e | hp
    · rw [e]
      exact isT_same hx ho hd sb
    · exact isT_same (R.tup p hp) ho hd sb
  have ld1 : w.params.followText "set-order" = true ∨ t1.led = true := by rw [q5]; exact R.led
  have full : t1.tooFull = decide ((L.length + 1) * 5 ≥ t.mask * 3) := by
    unfold SetTable.tooFull
    rw [q9, q4]
  by_cases hf : (L.length + 1) * 5 ≥ t.mask * 3
  · obtain ⟨M, m1, m2, m3⟩ := next_mask R.tab.mok hroom hf hfew
    have c : ((!false && t1.tooFull) = true) := by rw [full]; simpa using hf
    have hfit : t1.fits es1.size = true := tab_fits q3 (by rw [List.length_map, hlen, hes]) (by
      rw [hes, q4]
      have := R.tab.mok.le
      rcases R.tab.mok with e | e | e | e | e | e <;> omega)
    have go : wpAny (model P w) A (setRelay a (SetTable.grown (es.size + 1))) (fun _ s' => wpAny (model P w) A (pure true) Q E s') E { s with heap := h1 } := by
      rw [hsl]
      refine grow_at (s := { s with heap := h1 }) ho1 ⟨hex.1, hex.2.1, hex.2.2⟩ rfl hin hfit nd1 tup1 hp1 ld1 (by rw [hlen]; exact hfew) m1 m2 (by rw [hlen]; exact m3) ?_
      intro h2 L2 es2 ep2 t2 sb2 R2 pm2
      exact wpAny_pure (hQ true h2 L2 es2 ep2 t2 (sb.trans sb2) R2 (fun z => absurd z hm) fun _ => pm2.trans pm)
    first
      | (refine wpAny_bind ?_; refine wp_if_pos c ?_; exact go)
      | (refine wp_if_pos c ?_; refine wpAny_bind ?_; exact go)
  · have c : ¬ ((!false && t1.tooFull) = true) := by rw [full]; simpa using hf
    have fin : wpAny (model P w) A (pure true) Q E { s with heap := h1 } :=
      wpAny_pure (hQ true h1 L1 es1 (ep + 1) t1 sb ⟨⟨_, ho1, ⟨hex.1, hex.2.1, hex.2.2⟩, rfl⟩, hin, q3, nd1, tup1, hp1, ld1, by rw [hlen, q4]; omega, by rw [hlen]; exact hfew⟩ (fun z => absurd z hm) fun _ => pm)
    first
      | (refine wp_if_neg c ?_; exact fin)
      | (refine wpAny_bind ?_; refine wp_if_neg c ?_; exact wpAny_pure fin)
end
end K37
set_option Elab.async false
set_option linter.all false
set_option maxRecDepth 100000
set_option maxHeartbeats 3200000
/-! S3: set(xs) of a list of tuples of ints, sorted(set). -/
namespace K37
open PySem PySem.Spec PyProof.Rows L2
section
variable {P : Program} {w : World} {A : Around} {E : Value → Shared → Prop} {s : Shared}
theorem SR.kept {h h' : Heap} {a : Addr} {L : List Row} {es : Array (Int × Value)} {ep : Nat} {t : SetTable} (R : SR P w h a L es ep t) (ha : ∀ o, h.get? a = some o → h'.get? a = some o) (ht : ∀ p ∈ L, IsT P w h' p.2 p.1) : SR P w h' a L es ep t := by
  obtain ⟨o, ho, r⟩ := R.ob
  exact ⟨⟨o, ha o ho, r⟩, R.rows, R.tab, R.nd, ht, R.plain, R.led, R.room, R.few⟩
def newSet (w : World) : Obj := { cls := .type "set", dict := none, data := .set #[] 0 (.fresh 0 0 (!w.params.followText "set-order")) }
theorem SR.empty {h : Heap} {a : Addr} (ho : h.get? a = some (newSet w)) : SR P w h a [] #[] 0 (.fresh 0 0 (!w.params.followText "set-order")) where
  ob := ⟨_, ho, ⟨rfl, rfl, rfl⟩, rfl⟩
  rows := rfl
  tab := ⟨List.Pairwise.nil, rfl, rfl, .inl rfl, fun x hx => (by cases hx), fun i h j hi => (by simp at hi)⟩
  nd := List.nodup_nil
  tup := fun p hp => (by cases hp)
  plain := rfl
  led := by
    show _ ∨ (!w.params.followText "set-order") = true
    cases w.params.followText "set-order"
    · exact .inr rfl
    · exact .inl rfl
  room := by
    show 0 * 5 < 7 * 3
    decide
  few := by
    show 0 < 4096
    decide
/-- the loop of set.update -/
theorem update_rows {I : Addr} {fp wr : List Addr} {G : Array GenState → Array GenState → Prop} {n : Nat} {Pv : Nat → Value → Prop} {Sn : Nat → Shared → Prop} {R : Result → Shared → Prop}
    (W : WalksS P w A.in1 I fp wr G n Pv Sn) (S : Addr) (hSf : S ∉ fp) (ks : List Row) (hn : n = ks.length) (hfew : ks.length < 4096) (hval : ∀ i v, Pv i v → ∃ p, ks[i]? = some p ∧ v = .ref p.1)
    (h0 : Heap) (hk : ∀ p ∈ ks, IsT P w h0 p.2 p.1) (hS0 : h0.get? S = none) (hw0 : ∀ b ∈ wr, h0.get? b = none) (hu : A.in1.units < cLine) :
    ∀ (k i : Nat) (s : Shared), n - i = k → i ≤ n → Sn i s → (∀ b o, h0.get? b = some o → s.heap.get? b = some o) → (∃ L es ep t, SR P w s.heap S L es ep t ∧ Got ks i L) →
      (∀ s' L es ep t, Moved (S :: wr) G s s' → SR P w s'.heap S L es ep t → Got ks n L → (∀ b o, h0.get? b = some o → s'.heap.get? b = some o) → R (.ok (.ret .none)) s') →
      codeAny (model P w) A (.builtin "set.update.loop" ⟨[.ref S, .ref I], []⟩) R s := by
  have hSw : S ∉ wr := fun h => hSf (W.sub _ h)
  have hsub : ∀ b ∈ wr, b ∈ S :: wr := fun b hb => List.mem_cons_of_mem _ hb
  have keepM : ∀ {s s' : Shared}, Moved wr G s s' → (∀ b o, h0.get? b = some o → s.heap.get? b = some o) → ∀ b o, h0.get? b = some o → s'.heap.get? b = some o := fun hm hkp b o e =>
    hm.heap b o (fun hb => by rw [hw0 b hb] at e; cases e) (hkp b o e)
  have sub : ∀ {i : Nat} {L : List Row}, Got ks i L → ∀ p ∈ L, p ∈ ks := fun g p hp => List.mem_of_mem_take (g.sub p hp)
  intro k
  induction k with
  | zero =>
    intro i s hk' hi hst hkp ⟨L, es, ep, t, hS, g⟩ hR
    have hin : i = n := by omega
    subst hin
    refine codeAny_builtin F.entry_set_update_loop ?_
    rw [Around.under_plainId F.plain_set_update_loop _]
    show wpAny _ A.in1 (pyNext (.ref I) >>= _) _ _ s
    refine wpAny_bind (W.done s _ _ hst fun s' hm => ?_)
    have hkp' := keepM hm hkp
    exact wpAny_pure (hR s' L es ep t (hm.mono hsub) (hS.kept (fun o e => hm.heap S o hSw e) fun p hp => isT_keep (hk p (sub g p hp)) hkp') g hkp')
  | succ k ih =>
    intro i s hk' hi hst hkp ⟨L, es, ep, t, hS, g⟩ hR
    have hlt : i < n := by omega
    refine codeAny_builtin F.entry_set_update_loop ?_
    rw [Around.under_plainId F.plain_set_update_loop _]
    show wpAny _ A.in1 (pyNext (.ref I) >>= _) _ _ s
    refine wpAny_bind (W.item i s _ _ hlt hst fun v s' hP hst' hm => ?_)
    obtain ⟨p, hp, rfl⟩ := hval i v hP
    have hkp' := keepM hm hkp
    have hS' : SR P w s'.heap S L es ep t := hS.kept (fun o e => hm.heap S o hSw e) fun q hq => isT_keep (hk q (sub g q hq)) hkp'
    have hx : IsT P w s'.heap p.2 p.1 := isT_keep (hk p (List.mem_of_getElem? hp)) hkp'
    show wpAny _ A.in1 (holding [Value.ref p.1] (setAdd S (.ref p.1)) >>= _) _ _ s'
    refine wpAny_bind (wpAny_holding ?_)
    unfold setAdd
    refine wpAny_holding (wpAny_bind (wpAny_pyHash_tuple hu hx ?_))
    refine add_one (s := { s' with toks := s'.toks + (p.2.length + 1) }) hS' hx hu (fun _ => by have := g.len; omega) fun b h' L' es' ep' t' hsb hS2 c1 c2 => ?_
    have g' : Got ks (i + 1) L' := by
      rcases Classical.em (p.2 ∈ L.map (·.2)) with c | c
      · rw [c1 c]; exact g.same hp c
      · exact g.more hp (c2 c)
    have hkp2 : ∀ b o, h0.get? b = some o → h'.get? b = some o := fun b o e => (hsb.2 b (fun z => by rw [z, hS0] at e; cases e)).trans (hkp' b o e)
    refine wpAny_pure ⟨plainId_quiet F.plain_set_update_loop _, ih (i + 1) _ (by omega) hlt (W.frame _ s' _ _ hst' (Nat.le_add_right _ _) fun b hb o e => ?_) hkp2 ⟨L', es', ep', t', hS2, g'⟩ fun s'' L2 es2 ep2 t2 hm'' hS'' g'' hkp'' => ?_⟩
    · rw [hsb.2 b (fun h : b = S => hSf (by rw [← h]; exact hb))]; exact e
    · refine hR s'' L2 es2 ep2 t2 (Moved.trans W.gtrans ((hm.mono hsub).then_heap (Nat.le_add_right _ _) fun b o hb e => ?_) hm'') hS'' g'' hkp''
      rw [hsb.2 b (fun h : b = S => hb (by rw [h]; exact List.mem_cons_self))]; exact e

/-- set(xs), by what the loop over its items leaves -/
theorem set_of_items {l : Addr} {items : Array Value} (Res : Heap → Prop) {Q : Value → Shared → Prop} (hh : A.handled = none) (hl : s.heap.IsList l items)
    (loop : ∀ (A' : Around) (I : Addr) (fp wr : List Addr) (G : Array GenState → Array GenState → Prop) (Sn : Nat → Shared → Prop) (s1 : Shared) (R : Result → Shared → Prop), WalksS P w A'.in1 I fp wr G items.size (fun i v => items[i]? = some v) Sn → A'.in1.units ≤ A.units + 16 → s.heap.objs.size ∉ fp → (∀ b ∈ wr, s.heap.get? b = none) →
      Sn 0 s1 → (∀ b o, s.heap.get? b = some o → s1.heap.get? b = some o) → s1.heap.get? s.heap.objs.size = some (newSet w) →
      (∀ s', Moved (s.heap.objs.size :: wr) G s1 s' → Res s'.heap → (∀ b o, s.heap.get? b = some o → s'.heap.get? b = some o) → R (.ok (.ret .none)) s') → codeAny (model P w) A' (.builtin "set.update.loop" ⟨[.ref s.heap.objs.size, .ref I], []⟩) R s1)
    (h : ∀ (h' : Heap) (tk : Nat), Res h' → (∀ b o, s.heap.get? b = some o → h'.get? b = some o) → Q (.ref s.heap.objs.size) { s with heap := h', toks := tk }) :
    wpAny (model P w) A (call (.type "set") [.ref l]) Q E s := by
  obtain ⟨c, tl, hmro⟩ := F.called_set.mro
  have hmade := F.called_set.made
  have hsub := F.called_set.sub
  refine wpAny_call (codeAny_of_tree ?_)
  show wpAny _ _ (callAny (.type "set") _) _ _ _
  refine wpAny_pure ⟨Code.quiet_builtin _ (by decide +kernel), codeAny_builtin F.entry_type_call ?_⟩
  rw [Around.under_plain (weight_type_call_type "set" [.ref l] []) rfl]
  have h1 := F.called_set.notType
  have h2 := F.called_set.canCreate
  have hct := F.typeCall_set_1 (.ref l)
  repeat (any_goals (first | assumption | wp_step))
  refine codeAny_mono (code_set_led1 (.ref l) (E := E) (Q₁ := fun obj s₁ => obj = .ref s.heap.objs.size ∧ s₁ = { s with heap := s.heap.push (newSet w) }) ⟨rfl, rfl⟩) fun r s₁ hr => ?_
  cases r with
  | error e => exact hr
  | ok fl =>
    cases fl with
    | ret obj =>
      obtain ⟨rfl, rfl⟩ := hr
      have hS : (s.heap.push (newSet w)).get? s.heap.objs.size = some (newSet w) := Heap.get?_push_size _ rfl
      have hT : Shared.TypeIs { s with heap := s.heap.push (newSet w) } (.ref s.heap.objs.size) "set" := ⟨_, hS, rfl⟩
      have hli := F.called_set.init.lookup
      have hbi := F.called_set.init.bind (.ref s.heap.objs.size)
      repeat (any_goals (first | assumption | wp_step))
      refine codeAny_mono (codeAny_call_builtin (R := wants (fun r s₂ => r = .none ∧ ∃ h' tk, s₂ = { s with heap := h', toks := tk } ∧ Res h' ∧
          (∀ b o, s.heap.get? b = some o → h'.get? b = some o)) E) F.called_set.init.plain F.entry_set_init (check_set_init_1 hT ?_)) fun r₂ s₂ hr₂ => ?_
      · obtain ⟨⟨ocls, odict, odata, oslots⟩, hol, hcl, nl, hdl⟩ := hl
        simp only at hcl hdl
        subst hcl; subst hdl
        have hol' : (s.heap.push (newSet w)).get? l = some { cls := .type "list", dict := odict, data := .seq items nl, slots := oslots } := Heap.get?_push_of_some _ hol
        have hsls := F.sub_list_set
        have hslf := F.sub_list_frozenset
        have hne : (Value.type "list" == Value.type "dict") = false := by decide
        have hl1 : (s.heap.push (newSet w)).IsList l items := ⟨_, hol', rfl, nl, rfl⟩
        unfold Builtin.«set.__init__» noKeywords Builtin.Frozenset.updateFrom
        generalize hPI : pyIter = PI
        wp_walk
        subst hPI
        refine wpAny_pyIter_list hl1 ?_
        refine wpAny_bind (wpAny_runValue ?_)
        have hlS : l < s.heap.objs.size := Heap.lt_size hol
        have hh3 : A.in1.in1.in1.handled = none := by simp [hh]
        have hz1 : (s.heap.push (newSet w)).objs.size = s.heap.objs.size + 1 := Heap.size_push ..
        have hneI : l ≠ (s.heap.push (newSet w)).objs.size := by
          rw [hz1]; exact Nat.ne_of_lt (Nat.lt_succ_of_lt hlS)
        have hSf : s.heap.objs.size ∉ [(s.heap.push (newSet w)).objs.size, l] := by
          rw [hz1]
          simp only [List.mem_cons, List.not_mem_nil, or_false, not_or]
          exact ⟨Nat.ne_of_lt (Nat.lt_succ_self _), Nat.ne_of_gt hlS⟩
        have none_of : ∀ b, s.heap.objs.size ≤ b → s.heap.get? b = none := fun b hb => by
          cases q : s.heap.get? b with
          | none => rfl
          | some o => exact absurd (Nat.lt_of_lt_of_le (Heap.lt_size q) hb) (Nat.lt_irrefl _)
        refine loop _ _ _ _ _ _ _ _ ((Walks.list hh3 _ l hneI items).toS) (by
            show A.units + 1 + 1 + 1 ≤ A.units + 16
            omega) hSf (fun b hb => none_of b (by
            rw [List.mem_singleton.mp hb, hz1]
            exact Nat.le_succ _)) ⟨⟨_, Heap.get?_push_size _ rfl, rfl, rfl⟩, (hl1.push _)⟩ (fun b o e => Heap.get?_push_of_some _ (Heap.get?_push_of_some _ e)) (Heap.get?_push_of_some _ hS) ?hR
        case hR =>
          intro s' hm hS' hkp
          obtain ⟨h', g2, d', tk', os'⟩ := s'
          have eg : g2 = s.gens := hm.gens
          have ed : d' = s.drawn := hm.drawn
          have eo : os' = s.os := hm.os
          subst eg; subst ed; subst eo
          refine wpAny_pure ?_
          show wpAny _ _ (ret Value.none) _ _ _
          exact wpAny_pure ⟨rfl, h', tk', rfl, hS', hkp⟩
      · cases r₂ with
        | error e => exact hr₂
        | ok fl₂ =>
          cases fl₂ with
          | ret r =>
            obtain ⟨rfl, h', tk, rfl, hS', hk'⟩ := hr₂
            repeat (any_goals (first | assumption | wp_step))
            exact h _ _ hS' hk'
          | _ => exact hr₂.elim
    | _ => exact hr.elim
/-- of tuples of ints -/
theorem set_of_list {l : Addr} {items : Array Value} (ks : List Row) {Q : Value → Shared → Prop} (hh : A.handled = none) (hl : s.heap.IsList l items) (hit : items.toList = ks.map fun p => Value.ref p.1)
    (hk : ∀ p ∈ ks, IsT P w s.heap p.2 p.1) (hfew : ks.length < 4096) (hu : A.units + 32 < cLine)
    (h : ∀ (h' : Heap) (tk : Nat) L es ep t, SR P w h' s.heap.objs.size L es ep t → Got ks ks.length L → (∀ b o, s.heap.get? b = some o → h'.get? b = some o) → Q (.ref s.heap.objs.size) { s with heap := h', toks := tk }) :
    wpAny (model P w) A (call (.type "set") [.ref l]) Q E s := by
  have hisz : items.size = ks.length := by
    have q := congrArg List.length hit
    rwa [Array.length_toList, List.length_map] at q
  refine set_of_items (fun h' => ∃ L es ep t, SR P w h' s.heap.objs.size L es ep t ∧ Got ks ks.length L) hh hl (fun A' I fp wr G Sn s1 R W hA hSf hw hst hkp hS fin => ?_) fun h' tk ⟨L, es, ep, t, h1, h2⟩ hk => h h' tk L es ep t h1 h2 hk
  have hval : ∀ (i : Nat) (v : Value), items[i]? = some v → ∃ p, ks[i]? = some p ∧ v = .ref p.1 := fun i v hv => by
    have q : items.toList[i]? = some v := by rw [Array.getElem?_toList]; exact hv
    rw [hit, List.getElem?_map] at q
    obtain ⟨p, hp, e⟩ := Option.map_eq_some_iff.1 q
    exact ⟨p, hp, e.symm⟩
  have hS0 : s.heap.get? s.heap.objs.size = none := by
    cases q : s.heap.get? s.heap.objs.size with
    | none => rfl
    | some o => exact absurd (Heap.lt_size q) (Nat.lt_irrefl _)
  exact update_rows W s.heap.objs.size hSf ks hisz hfew hval s.heap hk hS0 hw (by omega) (items.size - 0) 0 _ (by omega) (Nat.zero_le _) hst hkp ⟨[], #[], 0, _, SR.empty hS, Got.zero ks⟩
    fun s' L es ep t hm hS' g' hkp => fin s' hm ⟨L, es, ep, t, hS', by rw [← hisz]; exact g'⟩ hkp
/-- of ints -/
theorem set_of_ints {l : Addr} {items : Array Value} (ns : List Int) {Q : Value → Shared → Prop} (hh : A.handled = none) (hl : s.heap.IsList l items) (hit : IntsAre items.toList ns) (hb : ns.length + 1 < scanBound)
    (h : ∀ (h' : Heap) (tk c : Nat), SetR w h' s.heap.objs.size (fun j => decide (j ∈ ns)) c → c ≤ ns.length → (∀ b o, s.heap.get? b = some o → h'.get? b = some o) → Q (.ref s.heap.objs.size) { s with heap := h', toks := tk }) :
    wpAny (model P w) A (call (.type "set") [.ref l]) Q E s := by
  have hisz : items.size = ns.length := by
    have q := IntsAre.length hit
    rwa [Array.length_toList] at q
  refine set_of_items (fun h' => ∃ c, SetR w h' s.heap.objs.size (fun j => decide (j ∈ ns)) c ∧ c ≤ ns.length) hh hl (fun A' I fp wr G Sn s1 R W hA hSf hw hst hkp hS fin => ?_) fun h' tk ⟨c, h1, h2⟩ hk => h h' tk c h1 h2 hk
  have hval : ∀ (i : Nat) (v : Value), items[i]? = some v → ∃ k t, ns[i]? = some k ∧ v = .int k t := fun i v hv => by
    have hi : i < ns.length := by rw [← hisz]; exact (Array.getElem?_eq_some_iff.mp hv).1
    obtain ⟨t, e⟩ := PyProof.Rows.IntsAre.int_at hit i v (by rw [Array.getElem?_toList]; exact hv)
    refine ⟨ns[i], t, List.getElem?_eq_getElem hi, ?_⟩
    rw [e, List.getD_eq_getElem?_getD, List.getElem?_eq_getElem hi]
    rfl
  refine set_update_ints W s.heap.objs.size hSf ns hisz hb hval (items.size - 0) 0 _ (by omega) (Nat.zero_le _) hst ⟨0, Nat.le_refl 0, setR_new_at hS⟩ fun s' c' hm hc' hS' => fin s' hm ⟨c', hS', by rw [← hisz]; exact hc'⟩ fun b o e => ?_
  have hb0 : b < s.heap.objs.size := Heap.lt_size e
  refine hm.heap b o (fun hmem => ?_) (hkp b o e)
  rcases List.mem_cons.1 hmem with z | z
  · exact absurd z (Nat.ne_of_lt hb0)
  · rw [hw b z] at e
    cases e
end
end K37
set_option Elab.async false
set_option linter.all false
set_option maxRecDepth 100000
set_option maxHeartbeats 1000000
/-! S4: words in ascending order: sorting them, sorted(set), sorted(dict). -/
namespace K37
open PySem PySem.Spec PySem.W PyProof.Rows L2
def ofW (w : List Nat) : List Int := w.map fun (i : Nat) => (i : Int)
theorem ints_inj {a b : List Nat} (h : ofW a = ofW b) : a = b := by
  unfold ofW at h
  induction a generalizing b with
  | nil => cases b with
    | nil => rfl
    | cons y b => cases h
  | cons x a ih => cases b with
    | nil => cases h
    | cons y b =>
      rw [List.map_cons, List.map_cons] at h
      injection h with h1 h2
      rw [ih h2, show x = y by omega]
def encW (w : List Nat) : PyData := .tuple ((ofW w).map .int)
theorem lt_row : ∀ a b : List Nat, rowLt ((ofW a).map .int) ((ofW b).map .int) = ltW a b := fun a b => by
  rw [dataLt_ints]
  induction a generalizing b with
  | nil => cases b with
    | nil => simp [ltW, lx, ofW]
    | cons y b => simp [ltW, lx, ofW]
  | cons x a ih => cases b with
    | nil => simp [ltW, lx, ofW]
    | cons y b =>
      have ih := ih b
      unfold ltW at ih ⊢
      unfold lx
      rw [← ih]
      simp only [ofW, List.map_cons, List.cons_lt_cons_iff, ltN, decide_eq_true_eq, Int.ofNat_lt]
      rcases Nat.lt_trichotomy x y with c | c | c
      · simp [c]
      · subst c
        simp
        exact decide_eq_decide.2 Iff.rfl
      · have h1 : ¬ x < y := by omega
        have h2 : ¬ (x : Int) = y := by omega
        simp [c, h1, h2]
theorem le_words : dataLe false encW = fun a b => !ltW b a := by
  funext a b
  show (!dataLt (encW b) (encW a)) = _
  unfold encW
  rw [dataLt_tuple]
  show (!rowLt ((ofW b).map .int) ((ofW a).map .int)) = _
  rw [lt_row]
theorem sorted_words {bs : List (List Nat)} (hn : bs.Nodup) : bs.mergeSort (dataLe false encW) = canon ltW bs := by
  rw [le_words]
  have pm := List.mergeSort_perm bs (fun a b => !ltW b a)
  refine canon_eq soW ?_ fun x => pm.mem_iff
  have hp : (bs.mergeSort fun a b => !ltW b a).Pairwise fun a b => (!ltW b a) = true := List.pairwise_mergeSort (fun a b c h1 h2 => by
    simp only [Bool.not_eq_true'] at h1 h2 ⊢
    cases hca : ltW c a with
    | false => rfl
    | true =>
      cases hab : ltW a b with
      | true =>
        rw [soW.tr _ _ _ hca hab] at h2
        cases h2
      | false =>
        have := soW.tri _ _ hab h1
        subst this
        rw [hca] at h2
        cases h2) (fun a b => by
    cases hab : ltW a b with
    | false => simp
    | true =>
      cases hba : ltW b a with
      | false => simp
      | true =>
        have := soW.tr _ _ _ hab hba
        rw [soW.irr] at this
        cases this) bs
  have nd : (bs.mergeSort fun a b => !ltW b a).Nodup := pm.nodup_iff.2 hn
  refine List.Pairwise.imp (fun {a b} h => ?_) (hp.and nd)
  obtain ⟨h1, h2⟩ := h
  simp only [Bool.not_eq_true'] at h1
  cases hab : ltW a b with
  | true => rfl
  | false => exact absurd (soW.tri _ _ hab h1) h2
/-- the words that are sorted here: none empty, or the empty one alone -/
def Cd (bs : List (List Nat)) : Prop := (∀ b ∈ bs, b ≠ []) ∨ bs = [[]]
section
variable {P : Program} {w : World} {A : Around} {E : Value → Shared → Prop} {s : Shared}
theorem reads_ints {h : Heap} : ∀ {k : List Int} {vs : List Value}, ItemsAre (intKind P w) k vs → ReadsAll h vs (k.map .int) [] := fun {k vs} x => by
  induction x with
  | nil => exact .nil
  | @cons k0 v ks vs h1 _ ih =>
    obtain ⟨t, e⟩ := Value.isInt_shape h1
    rw [e]
    exact .cons (.int k0 t) ih
theorem isT_reads {h : Heap} {k : List Int} {a : Addr} (x : IsT P w h k a) : Reads h (.ref a) (.tuple (k.map .int)) [] := by
  obtain ⟨o, items, n, ho, hc, hd, hi⟩ := x
  exact .tuple ho hc hd (reads_ints hi)
theorem sorts_words {vs : List Value} {bs : List (List Nat)} (e : EachIs (fun v b => Reads s.heap v (encW b) []) vs bs) (hc : Cd bs) (hu : A.units + 8 < cLine) : SortsAt P w A s (dataKind s.heap (bs.map encW)) vs := by
  have hal : AllAlike (bs.map encW) := AllAlike.of fun a b => by
    unfold encW
    simp only [alike]
    exact alike_ints _ _
  have hdep : ∀ b : List Nat, (encW b).depth ≤ 1 := fun b => by
    unfold encW
    simp [PyData.depth, depth_ints]
  have e' : EachIs (fun v d => ∃ as, Reads s.heap v d as) vs (bs.map encW) := each_map (R := fun v d => ∃ as, Reads s.heap v d as) encW (e.mono fun _ _ h => ⟨[], h⟩)
  rcases hc with hc | hc
  · refine SortsAt.data e' hal (.inl fun d hd => ?_) fun d hd => ?_
    · obtain ⟨b, hb, rfl⟩ := List.mem_map.mp hd
      have := hc b hb
      unfold encW ofW
      cases b with
      | nil => exact absurd rfl this
      | cons x b => exact ⟨_, _, rfl⟩
    · obtain ⟨b, hb, rfl⟩ := List.mem_map.mp hd
      have := hdep b
      omega
  · subst hc
    refine ⟨fun v hv => ?_, tuples' true, ?_, fun h2 => ?_⟩
    · obtain ⟨d, hd, as, r⟩ := e'.left v hv
      exact ⟨_, dataKind_some hal hd r⟩
    · intro E x y a b Q ha hb hq
      obtain ⟨d, as, hd, ra, rfl⟩ := dataKind_inv ha
      obtain ⟨d', as', hd', rb, rfl⟩ := dataKind_inv hb
      have e1 : d = .tuple [] := by simpa [encW, ofW] using hd
      have e2 : d' = .tuple [] := by simpa [encW, ofW] using hd'
      subst e1 e2
      have hq' : Q (dataLt (.tuple []) (.tuple [])) s := hq
      rw [dataLt_tuple] at hq'
      cases ra with
      | @tuple l o xs n _ _ h1 h2 h3 h4 =>
        cases rb with
        | @tuple l' o' xs' n' _ _ k1 k2 k3 k4 =>
          have n1 : xs.size = 0 := by simpa using SeqAt.ReadsAll.length _ _ _ h4
          have n2 : xs'.size = 0 := by simpa using SeqAt.ReadsAll.length _ _ _ k4
          exact kat_lt h1 h3 k1 k3 (katLex_alike [] [] 0 _ _ _ _ h4 k4 (by simp [alikeAll]) (by simp [PyData.depthAll]; omega) (fun hb _ x r t ex => by cases ex) (by rw [n1, n2]; rfl) hq')
    · have := e.length
      rw [this] at h2
      exact absurd h2 (by simp)
theorem each_reads_keep {h h' : Heap} {vs : List Value} {bs : List (List Nat)} {a : Addr} (k : ∀ b o, b ≠ a → h.get? b = some o → h'.get? b = some o) (ha : ∀ o, h.get? a = some o → o.cls = .type "list") (e : EachIs (fun v b => Reads h v (encW b) []) vs bs) : EachIs (fun v b => Reads h' v (encW b) []) vs bs :=
  e.mono fun v b r => Reads.keepBut k ha _ _ _ (by
    unfold encW
    simp only [alike]
    exact alike_ints _ _) r (by simp)
/-- xs.sort() of words -/
theorem sort_words {a : Addr} {n : Nat} {vs : List Value} {bs : List (List Nat)} {R : Value → List Nat → Prop} {Q : Value → Shared → Prop} (ho : s.heap.get? a = some (seqObj "list" vs.toArray n)) (e : EachIs R vs bs) (er : EachIs (fun v b => Reads s.heap v (encW b) []) vs bs)
    (hc : Cd bs) (hn : bs.Nodup) (hL : bs.length ≤ sizeLine) (hu : A.units + 16 < cLine) (h : ∀ out, EachIs R out (canon ltW bs) → Q .none { s with heap := sortedHeap s.heap a vs (List.toArray out) }) :
    wpAny (model P w) A (call (.builtin "list.sort") [.ref a]) Q E s := by
  have er' : EachIs (fun v b => Reads (sortingHeap s.heap a vs) v (encW b) []) vs bs := each_reads_keep (fun _ _ hb q => sortingHeap_old hb q) (fun o q => by rw [ho] at q; rw [← Option.some.inj q]) er
  have hal : AllAlike (bs.map encW) := AllAlike.of fun a b => by
    unfold encW
    simp only [alike]
    exact alike_ints _ _
  refine wpAny_call_entry slot_list_sort ⟨_, ho, rfl⟩ entry_list_sort (list_sort_vals (κ := dataKind (sortingHeap s.heap a vs) (bs.map encW)) ho (sorts_words (s := { s with heap := sortingHeap s.heap a vs }) er' hc (by
    show A.units + 1 + 8 < cLine
    omega)) (by rw [e.length]; exact hL) ⟨.none, rfl, ?_⟩) (args_list_sort _)
  refine h _ ?_
  have := sortVals_data (h' := sortingHeap s.heap a vs) (R := R) (enc := encW) false e (er'.mono fun _ _ h => ⟨[], h⟩) hal
  rw [sorted_words hn] at this
  exact this
/-- a collection gathered into a new list and sorted -/
theorem sorted_of {G : Shared → Prop} {r : Value} {bs : List (List Nat)} {R : Value → List Nat → Prop} {Q : Value → Shared → Prop}
    (coll : ∀ Q2 : List Value → Shared → Prop, (∀ s1 vs (bs1 : List (List Nat)), G s1 → bs1.Perm bs → EachIs R vs bs1 → EachIs (fun v b => Reads s1.heap v (encW b) []) vs bs1 → Q2 vs s1) → wpAny (model P w) A.in1 (collect r) Q2 E s)
    (hc : Cd bs) (hn : bs.Nodup) (hL : bs.length ≤ 100000) (hu : A.units + 32 < cLine)
    (h : ∀ s1 s' p out c, G s1 → (∀ b o, s1.heap.get? b = some o → s'.heap.get? b = some o) → s'.gens = s1.gens → s'.os = s1.os → s1.heap.objs.size ≤ p → s'.heap.get? p = some (seqObj "list" (List.toArray out) c) → EachIs R out (canon ltW bs) → Q (.ref p) s') :
    wpAny (model P w) A (call (.builtin "sorted") [r]) Q E s := by
  refine Calls.call_function_entry kind_sorted plain_sorted entry_sorted (args_sorted1 _) ?_
  unfold Builtin.«sorted»
  refine wpAny_bind (m := checkCount "sorted" 1 1 _) (wpAny_pure ?_)
  refine wpAny_bind (coll _ fun s1 vs bs1 hG pm e er => ?_)
  have hlen : bs1.length = bs.length := pm.length_eq
  have hsl := sizeLine_eq
  have hc1 : Cd bs1 := by
    rcases hc with c | c
    · exact .inl fun b hb => c b (pm.mem_iff.1 hb)
    · rw [c] at pm
      exact .inr (List.perm_singleton.1 pm)
  refine wpAny_bind (wpAny_newList ?_ (by rw [e.length]; omega))
  have hoL : (s1.heap.push (seqObj "list" vs.toArray 0)).get? s1.heap.objs.size = some (seqObj "list" vs.toArray 0) := Heap.get?_push_size _ rfl
  have push : ∀ b o, s1.heap.get? b = some o → (s1.heap.push (seqObj "list" vs.toArray 0)).get? b = some o := fun b o q => Heap.get?_push_of_some _ q
  have erp : EachIs (fun v b => Reads (s1.heap.push (seqObj "list" vs.toArray 0)) v (encW b) []) vs bs1 := er.mono fun v b r => PyProof.Rows.Reads.keeps push r
  refine wpAny_bind (wpAny_holding (sort_words (s := { s1 with heap := s1.heap.push (seqObj "list" vs.toArray 0) }) hoL e erp hc1 (pm.nodup_iff.2 hn) (by omega) (by
    show A.units + 1 + 16 < cLine
    omega) fun out ho => ?_))
  obtain ⟨c, hcc⟩ := sortedHeap_at (vs := vs) (out := List.toArray out) hoL
  refine wpAny_pure ⟨_, rfl, h s1 _ s1.heap.objs.size out c hG (fun b u q => ?_) rfl rfl (Nat.le_refl _) hcc ?_⟩
  · have hlt := Heap.lt_size q
    show (sortedHeap (s1.heap.push (seqObj "list" vs.toArray 0)) s1.heap.objs.size vs (List.toArray out)).get? b = some u
    rw [sortedHeap_old (Nat.ne_of_lt hlt) (by rw [size_push']; exact Nat.lt_succ_of_lt hlt)]
    exact push b u q
  · rw [canon_congr soW (m := bs) fun x => pm.mem_iff] at ho
    exact ho
end
end K37
set_option Elab.async false
set_option linter.all false
set_option maxRecDepth 100000
set_option maxHeartbeats 1000000
/-! S5: sets of words, sorted(set), sorted(dict) as rules of the layer. -/
namespace K37
open PySem PySem.Spec PySem.W PyProof.Rows L2 Evl
abbrev WRow := Addr × List Nat
def row (p : WRow) : Row := (p.1, ofW p.2)
/-- the set object, without the words' own tuples -/
structure S0 (P : Program) (w : World) (h : Heap) (a : Addr) (L : List Row) : Prop where
  ex : ∃ (es : Array (Int × Value)) (ep : Nat) (t : SetTable), (∃ o, h.get? a = some o ∧ o.ExactSet ∧ o.data = .set es ep t) ∧ es.toList = rowsOf P w L ∧ Tab t (L.map fun p => thash P w p.2) ∧ (L.map (·.2)).Nodup ∧ t.plain = true ∧
    (w.params.followText "set-order" = true ∨ t.led = true) ∧ L.length * 5 < t.mask * 3 ∧ L.length < 4096
def setOb (P : Program) (w : World) (a : Addr) (L : List Row) : HO := .ext fun h => S0 P w h a L
theorem SR.s0 {P : Program} {w : World} {h : Heap} {a : Addr} {L : List Row} {es : Array (Int × Value)} {ep : Nat} {t : SetTable} (R : SR P w h a L es ep t) : S0 P w h a L :=
  ⟨es, ep, t, R.ob, R.rows, R.tab, R.nd, R.plain, R.led, R.room, R.few⟩
theorem S0.full {P : Program} {w : World} {h : Heap} {a : Addr} {L : List Row} (R : S0 P w h a L) (ht : ∀ p ∈ L, IsT P w h p.2 p.1) : ∃ es ep t, SR P w h a L es ep t := by
  obtain ⟨es, ep, t, h1, h2, h3, h4, h5, h6, h7, h8⟩ := R.ex
  exact ⟨es, ep, t, h1, h2, h3, h4, ht, h5, h6, h7, h8⟩
theorem setOb_ok {P : Program} {w : World} {H : Hp} {h : Heap} {a : Addr} {L : List Row} (R : S0 P w h a L) : ObjOk P w H h a (setOb P w a L) := by
  have ⟨es, ep, t, ⟨o, ho, r⟩, q⟩ := R.ex
  refine ⟨R, ⟨o, ho⟩, fun h1 h2 p k => ?_⟩
  have ⟨es', ep', t', ⟨o', ho', r'⟩, q'⟩ := S0.ex p
  exact ⟨es', ep', t', ⟨o', k o' ho', r'⟩, q'⟩
/-- all words of ws, each once -/
def Rows (H : Hp) (L : List WRow) (ws : List (List Nat)) : Prop := (∀ p ∈ L, Is H (eW p.2) (.ref p.1)) ∧ ∀ u, u ∈ L.map (·.2) ↔ u ∈ ws
theorem Rows.mono {H H' : Hp} (e : Tx H H') {L : List WRow} {ws : List (List Nat)} (h : Rows H L ws) : Rows H' L ws := ⟨fun p hp => Is.mono e _ _ (h.1 p hp), h.2⟩
def vSet (P : Program) (w : World) (ws : List (List Nat)) : VP := ⟨fun x H => ∃ a L, x = .ref a ∧ H a = some (setOb P w a (L.map row)) ∧ Rows H L ws, by
  rintro x H H' e ⟨a, L, h1, h2, h3⟩
  exact ⟨a, L, h1, e _ _ h2, h3.mono (Ex.tx e)⟩⟩
theorem eN_ofW (w : List Nat) : w.map eN = (ofW w).map Dv.n := by
  unfold ofW
  rw [List.map_map]
  rfl
theorem is_sq {H : Hp} {w : List Nat} {v : V} (h : Is H (eW w) v) : ∃ a, v = .ref a ∧ H a = some (.tup ((ofW w).map V.int)) := by
  unfold eW at h
  rw [eN_ofW] at h
  obtain ⟨a, vs, h1, h2, h3⟩ := is_t.1 h
  rw [IsAll.ints h3] at h2
  exact ⟨a, h1, h2⟩
theorem lift_map {α β : Type} {f : α → β} {ks : List α} : ∀ (L : List β), (∀ p ∈ L, p ∈ ks.map f) → ∃ M : List α, L = M.map f ∧ ∀ q ∈ M, q ∈ ks
  | [], _ => ⟨[], rfl, fun q hq => by cases hq⟩
  | p :: L, h => by
    obtain ⟨q, hq, e⟩ := List.mem_map.1 (h p List.mem_cons_self)
    obtain ⟨M, e1, h1⟩ := lift_map L fun p hp => h p (List.mem_cons_of_mem _ hp)
    refine ⟨q :: M, by rw [List.map_cons, e, e1], fun z hz => ?_⟩
    rcases List.mem_cons.1 hz with e2 | e2
    · rw [e2]; exact hq
    · exact h1 z e2
/-- the rows of a list of words -/
theorem rows_of : ∀ {ws : List (List Nat)} {vs : List V} {H : Hp}, AllP (ws.map fun u => vD (eW u)) vs H → ∃ ks : List WRow, vs = ks.map (fun p => V.ref p.1) ∧ ks.map (·.2) = ws ∧ ∀ p ∈ ks, Is H (eW p.2) (.ref p.1)
  | [], _, _, h => ⟨[], h, rfl, fun p hp => by cases hp⟩
  | u :: ws, _, H, ⟨v, r, e, h1, h2⟩ => by
    obtain ⟨ks, e1, e2, h3⟩ := rows_of (ws := ws) h2
    obtain ⟨a, ea, _⟩ := is_sq h1
    refine ⟨(a, u) :: ks, by rw [e, ea, e1]; rfl, by rw [List.map_cons, e2], fun p hp => ?_⟩
    rcases List.mem_cons.1 hp with z | z
    · rw [z, ← ea]; exact h1
    · exact h3 p z
section
variable {X : Cx} {pins : List (Addr × Obj)} {σ : L2.St} {H : Hp} {s : Shared}
theorem word_isT (I : Inv X pins σ H s) {w : List Nat} {a : Addr} (h : Is H (eW w) (.ref a)) : IsT X.prog X.w s.heap (ofW w) a := by
  obtain ⟨b, e, h2⟩ := is_sq h
  cases e
  exact I.isT (st_of h2)
theorem vals_refs : ∀ {ks : List WRow} {us : List Value}, Vals (ks.map fun p => V.ref p.1) us → us = ks.map fun p => Value.ref p.1
  | [], _, .nil => rfl
  | p :: ks, _, .cons r t => by
    cases r
    rw [vals_refs t]
    rfl
/-- set(xs) -/
def rSetW (K : PySem.W.Frag) (P : Program) (w : World) : List V → Hp → VK → Prop := fun xs H Q => ∃ (l : Addr) (ks : List WRow), xs = [V.ref l] ∧ SqL K H l (ks.map fun p => V.ref p.1) ∧ (∀ p ∈ ks, Is H (eW p.2) (.ref p.1)) ∧ ks.length < 4096 ∧
  ∀ a L, H a = none → Rows (upd H a (setOb P w a (L.map row))) L (ks.map (·.2)) → Q (.ref a) (upd H a (setOb P w a (L.map row)))
theorem cr_setW (hc : X.calm = true) (hu : X.A.units + 64 < cLine) : CallR X (.type "set") (rSetW X.K X.prog X.w) := by
  intro pins s σ H xs us Q I r h
  obtain ⟨l, ks, rfl, hl, hk, hf, q⟩ := h
  rw [Vals.ref1 r]
  obtain ⟨its, rv, pl, hz⟩ := I.list hl
  have hn : H s.heap.objs.size = none := I.hok.fresh (Nat.le_refl _)
  refine set_of_list (P := X.prog) (w := X.w) (ks.map row) (I.ok.hd hc) pl.isList (by rw [List.map_map, List.toList_toArray]; exact vals_refs rv) (fun p hp => ?_) (by rw [List.length_map]; exact hf) (by omega) fun h' tk L es ep t R g k => ?_
  · obtain ⟨q, hq, rfl⟩ := List.mem_map.1 hp
    exact word_isT I (hk q hq)
  · obtain ⟨M, e, hM⟩ := lift_map (f := row) (ks := ks) L fun p hp => List.mem_of_mem_take (g.sub p hp)
    have g2 := g.all
    rw [List.take_length] at g2
    rw [e] at R g2
    refine ⟨.ref s.heap.objs.size, upd H s.heap.objs.size (setOb X.prog X.w s.heap.objs.size (M.map row)), I.laid (t' := tk) k (Nat.le_refl _) (setOb_ok R.s0), rfl, q _ M hn ⟨fun p hp => Is.mono (Ex.tx (Ex.new hn)) _ _ (hk p (hM p hp)), fun u => ⟨fun hu => ?_, fun hu => ?_⟩⟩⟩
    · obtain ⟨p, hp, rfl⟩ := List.mem_map.1 hu
      exact List.mem_map.2 ⟨p, hM p hp, rfl⟩
    · obtain ⟨p, hp, rfl⟩ := List.mem_map.1 hu
      have := g2 (row p) (List.mem_map.2 ⟨p, hp, rfl⟩)
      obtain ⟨p', hp', e'⟩ := List.mem_map.1 this
      obtain ⟨p2, hp2, rfl⟩ := List.mem_map.1 hp'
      exact List.mem_map.2 ⟨p2, hp2, ints_inj e'⟩
/-- the words alike in being empty or not -/
def Ce (ws : List (List Nat)) : Prop := (∀ b ∈ ws, b ≠ []) ∨ ∀ b ∈ ws, b = []
theorem Ce.cd {ws bs : List (List Nat)} (h : Ce ws) (hn : bs.Nodup) (hm : ∀ u, u ∈ bs ↔ u ∈ ws) : Cd bs := by
  rcases h with h | h
  · exact .inl fun b hb => h b ((hm b).1 hb)
  · cases bs with
    | nil => exact .inl fun b hb => by cases hb
    | cons b bs =>
      have e : b = [] := h b ((hm b).1 List.mem_cons_self)
      cases bs with
      | nil => exact .inr (by rw [e])
      | cons c bs =>
        have e2 : c = [] := h c ((hm c).1 (List.mem_cons_of_mem _ List.mem_cons_self))
        rw [e, e2] at hn
        simp at hn
/-- what stands for the word, in the call's own heap -/
def Wd (H : Hp) (v : Value) (b : List Nat) : Prop := ∃ a, v = .ref a ∧ Is H (eW b) (.ref a)
theorem each_wd {H : Hp} : ∀ {out : List Value} {bs : List (List Nat)}, EachIs (Wd H) out bs → ∃ vs, Vals vs out ∧ AllP (bs.map fun u => vD (eW u)) vs H
  | _, _, .nil => ⟨[], .nil, rfl⟩
  | _, _, .cons ⟨a, e, h⟩ t => by
    obtain ⟨vs, h1, h2⟩ := each_wd t
    exact ⟨.ref a :: vs, .cons (by rw [e]; rfl) h1, .ref a, vs, rfl, h, h2⟩
/-- sorted(c): a new list of the words, ascending -/
def qSorted (ws : List (List Nat)) : Hp → VK → Prop := fun H Q => ∀ p vs, H p = none → AllP ((canon ltW ws).map fun u => vD (eW u)) vs H → Q (.ref p) (upd H p (.lst vs))
theorem each_of_refs {H : Hp} : ∀ (L : List WRow), (∀ p ∈ L, Is H (eW p.2) (.ref p.1)) → EachIs (Wd H) (L.map fun p => Value.ref p.1) (L.map (·.2))
  | [], _ => .nil
  | p :: L, h => .cons ⟨p.1, rfl, h p List.mem_cons_self⟩ (each_of_refs L fun q hq => h q (List.mem_cons_of_mem _ hq))
theorem sorted_end (I : Inv X pins σ H s) {s' : Shared} {p : Addr} {out : List Value} {c : Nat} {bs ws : List (List Nat)} {Q : VK} {R : Value → Shared → Prop} (k : ∀ b o, s.heap.get? b = some o → s'.heap.get? b = some o) (g : s'.gens = s.gens) (o : s'.os = s.os) (hp : s.heap.objs.size ≤ p)
    (hg : s'.heap.get? p = some (seqObj "list" (List.toArray out) c)) (e : EachIs (Wd H) out (canon ltW bs)) (hl : bs.length < 100000) (hm : ∀ u, u ∈ bs ↔ u ∈ ws) (q : qSorted ws H Q) (fin : ∀ v H', Inv X pins σ H' s' → Q v H' → RelV v (.ref p) → R (.ref p) s') : R (.ref p) s' := by
  obtain ⟨vs, h1, h2⟩ := each_wd e
  have hn : H p = none := I.hok.fresh hp
  have hlen : vs.length ≤ sizeLine := by
    rw [h2.length, List.length_map, sizeLine_eq]
    have := canon_len_le soW bs
    omega
  have J : Inv X pins σ (upd H p (.lst vs)) { s with heap := s'.heap, gens := s'.gens, drawn := s'.drawn, toks := s'.toks } :=
    I.call (ch := []) (Un.laid k hp hn) (I.hok.laid k hp ⟨hlen, out, c, h1, hg⟩) (by rw [g]; exact I.bare) (fun _ z => nomatch z)
  have es : s' = { s with heap := s'.heap, gens := s'.gens, drawn := s'.drawn, toks := s'.toks } := by
    cases s'
    cases s
    cases o
    rfl
  rw [es]
  refine fin (.ref p) (upd H p (.lst vs)) ?_ (q p vs hn ?_) rfl |> fun z => by rw [← es]; exact z
  · rw [es]; exact J
  · rw [canon_congr soW (m := ws) hm] at h2
    exact h2
def rSortS (P : Program) (w : World) : List V → Hp → VK → Prop := fun vs H Q => ∃ (v : V) (ws : List (List Nat)), vs = [v] ∧ (vSet P w ws).p v H ∧ Ce ws ∧ qSorted ws H Q
theorem one_key {P : Program} {w : World} {h : Heap} {k k' : List Int} {a : Addr} (x : IsT P w h k a) (y : IsT P w h k' a) : k = k' := x.inj y
theorem cr_sortS (hc : X.calm = true) (hu : X.A.units + 64 < cLine) : CallR X (.builtin "sorted") (rSortS X.prog X.w) := by
  intro pins s σ H vs us Q I r h
  obtain ⟨v, ws, rfl, ⟨a, L, rfl, ha, hL, hm⟩, hce, q⟩ := h
  rw [Vals.ref1 r]
  have R0 : S0 X.prog X.w s.heap a (L.map row) := (I.hok a _ ha).1
  obtain ⟨es, ep, t, R⟩ := R0.full fun p hp => by
    obtain ⟨z, hz, rfl⟩ := List.mem_map.1 hp
    exact word_isT I (hL z hz)
  obtain ⟨o, ho, hex, hd⟩ := R.ob
  have hsz := rows_size R.rows
  have hfew := R.few
  rw [List.length_map] at hsz hfew
  have hnd : (L.map (·.2)).Nodup := by
    have := R.nd
    rw [List.map_map] at this
    exact nodup_of_map (f := ofW) (by rw [List.map_map]; exact this)
  have hes : es.toList.map (·.2) = L.map fun q => Value.ref q.1 := by
    rw [R.rows]
    unfold L2.rowsOf
    rw [List.map_map, List.map_map]
    rfl
  refine sorted_of (G := fun s1 => (∀ b o, s.heap.get? b = some o → s1.heap.get? b = some o) ∧ s.heap.objs.size ≤ s1.heap.objs.size ∧ s1.gens = s.gens ∧ s1.os = s.os) (R := Wd H) (bs := L.map (·.2)) (fun Q2 hQ2 => ?_) (hce.cd hnd hm) hnd (by rw [List.length_map]; omega) (by omega) fun s1 s' p out c G1 k g o' hp hg he => ?_
  · refine collect_set (A := X.A.in1) (I.ok.hd hc) ⟨o, ho, hex.1, hd⟩ R.fits (by unfold scanBound; omega) R.tab.ris R.led fun s1 vs k1 hz g1 o1 pm => ?_
    rw [hes] at pm
    obtain ⟨M, eM, hM⟩ := lift_map (f := fun q : WRow => Value.ref q.1) (ks := L) vs fun v hv => pm.mem_iff.1 hv
    have same : ∀ p ∈ L, ∀ p' ∈ L, p.1 = p'.1 → p = p' := fun p hp p' hp' e => by
      have t1 := word_isT I (hL p hp)
      have t2 := word_isT I (hL p' hp')
      rw [e] at t1
      exact Prod.ext e (ints_inj (one_key t1 t2))
    have nref : (L.map fun q => Value.ref q.1).Nodup := by
      refine List.pairwise_map.2 (List.Pairwise.imp_of_mem (fun {p p'} hp hp' hne e => ?_) (nodup_of_map (f := fun q : WRow => q.2) hnd))
      injection e with e
      exact hne (same p hp p' hp' e)
    have nM : M.Nodup := by
      have : (M.map fun q : WRow => Value.ref q.1).Nodup := by rw [← eM]; exact pm.nodup_iff.2 nref
      exact nodup_of_map this
    have nL : L.Nodup := nodup_of_map hnd
    have pM : M.Perm L := (List.perm_ext_iff_of_nodup nM nL).2 fun p => ⟨hM p, fun hp => by
      have : Value.ref p.1 ∈ vs := pm.mem_iff.2 (List.mem_map.2 ⟨p, hp, rfl⟩)
      rw [eM] at this
      obtain ⟨p', hp', e⟩ := List.mem_map.1 this
      injection e with e
      rw [← same p' (hM p' hp') p hp e]
      exact hp'⟩
    refine hQ2 s1 vs (M.map (·.2)) ⟨k1, hz, g1, o1⟩ (pM.map _) ?_ ?_
    · rw [eM]
      exact each_of_refs M fun p hp => hL p (hM p hp)
    · rw [eM]
      have : ∀ M : List WRow, (∀ p ∈ M, p ∈ L) → EachIs (fun v b => Reads s1.heap v (encW b) []) (M.map fun q => Value.ref q.1) (M.map (·.2)) := by
        intro M
        induction M with
        | nil => intro _; exact .nil
        | cons p M ih => intro h; exact .cons (isT_reads (isT_keep (word_isT I (hL p (h p List.mem_cons_self))) k1)) (ih fun q hq => h q (List.mem_cons_of_mem _ hq))
      exact this M hM
  · exact sorted_end (R := fun v s' => ∃ v' H', Inv X pins σ H' s' ∧ RelV v' v ∧ Q v' H') I (fun b o e => k b o (G1.1 b o e)) (g.trans G1.2.2.1) (o'.trans G1.2.2.2) (Nat.le_trans G1.2.1 hp) hg he (by rw [List.length_map]; omega) hm q fun v H' J hq hr => ⟨v, H', J, hr, hq⟩
/-- sorted(d) of a dict keyed by words -/
def rSortD (P : Program) (w : World) : List V → Hp → VK → Prop := fun vs H Q => ∃ (d : Addr) (ws : List (List Nat)) (kvs : List (Dv × V)), vs = [.ref d] ∧ Dk P w H d kvs ∧ kvs.map (·.1) = ws.map eW ∧ ws.Nodup ∧ ws.length < 100000 ∧ Ce ws ∧ qSorted ws H Q
theorem rows_of_dk : ∀ {kvs : List (Dv × V)} {xs : List (NestedKey × Addr × Value)} {ws : List (List Nat)} {H : Hp}, Paired (DkR H) kvs xs → kvs.map (·.1) = ws.map eW → ∃ L : List WRow, L.map (·.2) = ws ∧ (L.map fun p => p.1) = xs.map (fun x => x.2.1) ∧ ∀ p ∈ L, Is H (eW p.2) (.ref p.1)
  | _, _, [], _, .nil, _ => ⟨[], rfl, rfl, fun p hp => by cases hp⟩
  | _, _, _ :: _, _, .nil, h => by cases h
  | _, _, [], _, .cons _ _, h => by cases h
  | k :: kvs, x :: xs, u :: ws, H, .cons h t, e => by
    rw [List.map_cons, List.map_cons] at e
    injection e with e1 e2
    obtain ⟨L, l1, l2, l3⟩ := rows_of_dk t e2
    refine ⟨(x.2.1, u) :: L, by rw [List.map_cons, l1], by rw [List.map_cons, List.map_cons, l2], fun p hp => ?_⟩
    rcases List.mem_cons.1 hp with z | z
    · rw [z]
      have := h.2.2.1
      rw [e1] at this
      exact this
    · exact l3 p z
theorem cr_sortD (hc : X.calm = true) (hu : X.A.units + 64 < cLine) : CallR X (.builtin "sorted") (rSortD X.prog X.w) := by
  intro pins s σ H vs us Q I r h
  obtain ⟨d, ws, kvs, rfl, hd, hk, hn, hl, hce, q⟩ := h
  rw [Vals.ref1 r]
  obtain ⟨xs, x1, x2, x3, x4, x5⟩ := hd.of I
  obtain ⟨L, l1, l2, l3⟩ := rows_of_dk x2 hk
  obtain ⟨es, ep, hraw, hsz, hes⟩ := x5.raw
  have hxl : xs.length = L.length := by
    have := congrArg List.length l2
    rw [List.length_map, List.length_map] at this
    exact this.symm
  have hLw : L.length = ws.length := by rw [← l1, List.length_map]
  refine sorted_of (G := fun s1 => Inv X pins σ H s1) (R := Wd H) (bs := ws) (fun Q2 hQ2 => ?_) (hce.cd hn fun _ => Iff.rfl) hn (by omega) (by omega) fun s1 s' p out c G1 k g o' hp hg he => ?_
  · refine kdu_collect (A := X.A.in1) (PySem.KdlSrc.rawDict (prog := X.prog) (w := X.w) (es := es) (ep := ep) x3) (I.ok.hd hc) hraw (by rw [sizeLine_eq]; omega) fun h' tk acc hk hacc => ?_
    have hacc2 : acc.toList = L.map fun p => Value.ref p.1 := by
      refine List.ext_getElem? fun j => ?_
      rw [Array.getElem?_toList]
      by_cases hj : j < es.size
      · obtain ⟨v, hv⟩ : ∃ v, acc[j]? = some v := ⟨_, Array.getElem?_eq_getElem (by rw [hacc.1]; exact hj)⟩
        obtain ⟨hi, ev⟩ := hacc.2 j v hv
        obtain ⟨y, hy, ey, _⟩ := hes j hi
        have h2 : (L.map fun p => p.1)[j]? = some y.2.1 := by rw [l2, List.getElem?_map, hy]; rfl
        rw [List.getElem?_map] at h2 ⊢
        obtain ⟨p, hp, ep⟩ := Option.map_eq_some_iff.1 h2
        rw [hv, hp, ev, ey, ← ep]
        rfl
      · rw [Array.getElem?_eq_none (by rw [hacc.1]; omega), List.getElem?_eq_none (by rw [List.length_map]; omega)]
    have k1 : ∀ b o, s.heap.get? b = some o → ({ s with heap := h', toks := tk } : Shared).heap.get? b = some o := hk
    refine hQ2 { s with heap := h', toks := tk } acc.toList ws (I.kept hk) (List.Perm.refl _) ?_ ?_
    · rw [hacc2, ← l1]
      exact each_of_refs L l3
    · rw [hacc2, ← l1]
      have : ∀ M : List WRow, (∀ p ∈ M, p ∈ L) → EachIs (fun v b => Reads h' v (encW b) []) (M.map fun q => Value.ref q.1) (M.map (·.2)) := by
        intro M
        induction M with
        | nil => intro _; exact .nil
        | cons p M ih => intro h; exact .cons (isT_reads (isT_keep (word_isT I (l3 p (h p List.mem_cons_self))) k1)) (ih fun q hq => h q (List.mem_cons_of_mem _ hq))
      exact this L fun _ h => h
  · exact sorted_end (R := fun v s' => ∃ v' H', Inv X pins σ H' s' ∧ RelV v' v ∧ Q v' H') G1 k g o' hp hg he (by omega) (fun _ => Iff.rfl) q fun v H' J hq hr => ⟨v, H', J, hr, hq⟩
end
end K37
set_option Elab.async false
set_option linter.all false
set_option maxRecDepth 100000
set_option maxHeartbeats 1000000
/-! S6: sets of numbers; all rules of sets with the written part named. -/
namespace K37
open PySem PySem.Spec PySem.W PyProof.Rows L2 Evl
def vSetI (w : World) (ws : List Nat) : VP := ⟨fun x H => ∃ a S, x = .ref a ∧ H a = some (SetO w a S (canon ltN ws).length) ∧ ∀ k : Int, S k = true ↔ k ∈ ofW ws, by
  rintro x H H' e ⟨a, S, h1, h2, h3⟩
  exact ⟨a, S, h1, e _ _ h2, h3⟩⟩
theorem mem_ofW {k : Int} {ws : List Nat} : k ∈ ofW ws ↔ ∃ n : Nat, n ∈ ws ∧ (n : Int) = k := by
  unfold ofW
  rw [List.mem_map]
theorem asc_ofW {ns : List Int} {ws : List Nat} (h1 : ns.Pairwise (· < ·)) (h2 : ∀ k : Int, k ∈ ns ↔ k ∈ ofW ws) : ns = ofW (canon ltN ws) := by
  have so : SO fun a b : Int => decide (a < b) := ⟨fun a => by simp, fun a b c h1 h2 => by simp at *; omega, fun a b h1 h2 => by simp at *; omega⟩
  refine asc_ext so (List.Pairwise.imp (fun h => decide_eq_true h) h1) ?_ fun k => (h2 k).trans ?_
  · unfold ofW Asc
    refine List.pairwise_map.2 (List.Pairwise.imp (fun {a b} h => ?_) (asc_canon soN ws))
    unfold ltN at h
    simp at h
    simpa using h
  · rw [mem_ofW, mem_ofW]
    constructor
    · rintro ⟨n, h, e⟩; exact ⟨n, (mem_canon soN n ws).2 h, e⟩
    · rintro ⟨n, h, e⟩; exact ⟨n, (mem_canon soN n ws).1 h, e⟩
theorem nodup_len {α : Type} [BEq α] [LawfulBEq α] {l m : List α} (hl : l.Nodup) (hm : m.Nodup) (h : ∀ x, x ∈ l ↔ x ∈ m) : l.length = m.length :=
  ((List.perm_ext_iff_of_nodup hl hm).2 h).length_eq
theorem ofW_len (ws : List Nat) : (ofW ws).length = ws.length := by
  unfold ofW
  rw [List.length_map]
theorem setR_count {w : World} {h : Heap} {a : Addr} {S : Int → Bool} {c : Nat} {ws : List Nat} (R : SetR w h a S c) (hs : ∀ k : Int, S k = true ↔ k ∈ ofW ws) : c = (canon ltN ws).length := by
  obtain ⟨o, es, ep, t, ho, hex, hd, g, nd, hm, hb, hf, hn, hr, hl⟩ := R
  have h1 : (ofW (canon ltN ws)).Nodup := by
    unfold ofW
    refine List.pairwise_map.2 (List.Pairwise.imp (fun {a b} h e => h (by omega)) ((asc_canon soN ws).nodup soN))
  have := nodup_len nd h1 fun k => ((hm k).symm.trans (hs k)).trans (by
    rw [mem_ofW, mem_ofW]
    constructor
    · rintro ⟨n, h, e⟩; exact ⟨n, (mem_canon soN n ws).2 h, e⟩
    · rintro ⟨n, h, e⟩; exact ⟨n, (mem_canon soN n ws).1 h, e⟩)
  rw [List.length_map, ofW_len, Array.length_toList] at this
  omega
section
variable {X : Cx} {pins : List (Addr × Obj)} {σ : L2.St} {H : Hp} {s : Shared}
/-- set(xs), xs a list or a tuple of numbers -/
def rSetI (K : PySem.W.Frag) (w : World) : List V → Hp → VK → Prop := fun xs H Q => ∃ (p : Addr) (ws : List Nat), xs = [V.ref p] ∧ (SqL K H p ((ofW ws).map V.int) ∨ SqT K H p ((ofW ws).map V.int)) ∧ ws.length < 4000 ∧
  ∀ a S, H a = none → (∀ k : Int, S k = true ↔ k ∈ ofW ws) → Q (.ref a) (upd H a (SetO w a S (canon ltN ws).length))
theorem cr_setI (hc : X.calm = true) : CallR X (.type "set") (rSetI X.K X.w) := by
  intro pins s σ H xs us Q I r h
  obtain ⟨p, ws, rfl, hp, hl, q⟩ := h
  rw [Vals.ref1 r]
  have hn : H s.heap.objs.size = none := I.hok.fresh (Nat.le_refl _)
  have fin : ∀ (h' : Heap) (tk c : Nat), SetR X.w h' s.heap.objs.size (fun j => decide (j ∈ ofW ws)) c → c ≤ (ofW ws).length → (∀ b o, s.heap.get? b = some o → h'.get? b = some o) → ∃ x H', Inv X pins σ H' { s with heap := h', toks := tk } ∧ RelV x (.ref s.heap.objs.size) ∧ Q x H' := fun h' tk c R _ k => by
    have hS : ∀ k : Int, decide (k ∈ ofW ws) = true ↔ k ∈ ofW ws := fun k => decide_eq_true_iff
    rw [setR_count R hS] at R
    exact ⟨.ref s.heap.objs.size, _, I.laid (t' := tk) k (Nat.le_refl _) (setO_new R), rfl, q _ _ hn hS⟩
  rcases hp with hp | hp
  · obtain ⟨its, rv, pl, hz⟩ := I.list hp
    exact set_of_ints (P := X.prog) (w := X.w) (ofW ws) (I.ok.hd hc) pl.isList (by simpa using rv.ints) (by rw [ofW_len]; unfold scanBound; omega) fin
  · obtain ⟨its, rv, hT, _⟩ := I.tuple hp
    exact call_set_tupI (P := X.prog) (w := X.w) (ofW ws) (I.ok.hd hc) hT (by simpa using rv.ints) (by rw [ofW_len]; unfold scanBound; omega) fin
/-- len of such a set -/
def rLenSI (w : World) : List V → Hp → VK → Prop := fun xs H Q => ∃ (a : Addr) (S : Int → Bool) (n : Nat), xs = [V.ref a] ∧ H a = some (SetO w a S n) ∧ Q (.int n) H
theorem cr_lenSI : CallR X (.builtin "len") (rLenSI X.w) := by
  intro pins s σ H xs us Q I r h
  obtain ⟨a, S, n, rfl, ha, q⟩ := h
  rw [Vals.ref1 r]
  have R := setO_get I ha
  obtain ⟨o, es, ep, t, ho, hex, hd, g, nd, hm, hb, hf, hn, hr, hl⟩ := R
  unfold scanBound at hb
  refine call_len_set ho hex hd hf (by omega) ⟨.int n, H, I.tok _, ⟨_, by rw [hn]⟩, q⟩
end
section
variable {K : PySem.W.Frag} {P : Program} {w : World} {σ : L2.St} {H : Hp} {te : TE} {kvs : List (Dv × V)}
theorem allP_ofW {ws : List Nat} {vs : List V} (h : AllP (ws.map fun n => vD (eN n)) vs H) : vs = (ofW ws).map V.int := by
  have h2 : AllP ((ws.map eN).map vD) vs H := by rw [List.map_map]; exact h
  have h3 := allP_isAll.1 h2
  rw [eN_ofW] at h3
  exact IsAll.ints h3
theorem ofW_allP (ws : List Nat) : AllP (ws.map fun n => vD (eN n)) ((ofW ws).map V.int) H := by
  have h3 : IsAll H (ws.map eN) ((ofW ws).map V.int) := by
    rw [eN_ofW]
    exact IsAll.of_ints _
  have := allP_isAll.2 h3
  rw [List.map_map] at this
  exact this
theorem r_setIT {ws : List Nat} (hl : ws.length < 4000) : R (rSetI K w) [vD (eW ws)] (vSetI w ws) := fun vs H h Q q => by
  obtain ⟨v, r, e, h1, h2⟩ := h
  obtain ⟨a, e1, h3⟩ := is_sq h1
  rw [show r = [] from h2] at e
  exact ⟨a, ws, by rw [e, e1], .inr (st_of h3), hl, fun b S hb hS => q _ _ (Ex.new hb) ⟨b, S, rfl, upd_same, hS⟩⟩
theorem r_setIL {ws : List Nat} (hl : ws.length < 4000) : R (rSetI K w) [vL (ws.map fun n => vD (eN n))] (vSetI w ws) := fun vs H h Q q => by
  obtain ⟨v, r, e, ⟨a, us, e1, h3, h4⟩, h2⟩ := h
  rw [show r = [] from h2] at e
  rw [allP_ofW h4] at h3
  exact ⟨a, ws, by rw [e, e1], .inl (sq_of h3), hl, fun b S hb hS => q _ _ (Ex.new hb) ⟨b, S, rfl, upd_same, hS⟩⟩
theorem r_lenSI {ws : List Nat} : R (rLenSI w) [vSetI w ws] (vI (canon ltN ws).length) := fun vs H h Q q => by
  obtain ⟨v, r, e, ⟨a, S, e1, h3, h4⟩, h2⟩ := h
  rw [show r = [] from h2] at e
  exact ⟨a, S, _, by rw [e, e1], h3, q _ _ (Ex.refl H) rfl⟩
theorem r_sortSI {ws : List Nat} (hl : (canon ltN ws).length < 64) : R (rSortedSet w) [vSetI w ws] (vL ((canon ltN ws).map fun n => vD (eN n))) := fun vs H h Q q => by
  obtain ⟨v, r, e, ⟨a, S, e1, h3, h4⟩, h2⟩ := h
  rw [show r = [] from h2] at e
  refine ⟨a, S, _, by rw [e, e1], h3, hl, fun ns p ha hm hn hp => q _ _ (Ex.new hp) ⟨p, _, rfl, upd_same, ?_⟩⟩
  rw [asc_ofW ha fun k => (hm k).trans (h4 k)]
  exact ofW_allP _
theorem r_setW {ws : List (List Nat)} (hl : ws.length < 4096) : R (rSetW K P w) [vL (ws.map fun u => vD (eW u))] (vSet P w ws) := fun vs H h Q q => by
  obtain ⟨v, r, e, ⟨a, us, e1, h3, h4⟩, h2⟩ := h
  rw [show r = [] from h2] at e
  obtain ⟨ks, k1, k2, k3⟩ := rows_of h4
  rw [k1] at h3
  exact ⟨a, ks, by rw [e, e1], sq_of h3, k3, by rw [← k2, List.length_map] at hl; exact hl, fun b L hb hL => q _ _ (Ex.new hb) ⟨b, L, rfl, upd_same, by rw [← k2]; exact hL⟩⟩
theorem r_sortS {ws : List (List Nat)} (hc : Ce ws) : R (rSortS P w) [vSet P w ws] (vL ((canon ltW ws).map fun u => vD (eW u))) := fun vs H h Q q => by
  obtain ⟨v, r, e, h1, h2⟩ := h
  rw [show r = [] from h2] at e
  exact ⟨v, ws, e, h1, hc, fun p us hp hu => q _ _ (Ex.new hp) ⟨p, us, rfl, upd_same, AllP.mono (Ex.new hp) hu⟩⟩
theorem r_sortD {ws : List (List Nat)} (hc : Ce ws) (hk : kvs.map (·.1) = ws.map eW) (hn : ws.Nodup) (hl : ws.length < 100000) : R (rSortD P w) [vDk P w kvs] (vL ((canon ltW ws).map fun u => vD (eW u))) := fun vs H h Q q => by
  obtain ⟨v, r, e, ⟨d, e1, h1⟩, h2⟩ := h
  rw [show r = [] from h2] at e
  exact ⟨d, ws, kvs, by rw [e, e1], h1, hk, hn, hl, hc, fun p us hp hu => q _ _ (Ex.new hp) ⟨p, us, rfl, upd_same, AllP.mono (Ex.new hp) hu⟩⟩
end
section
variable (K : PySem.W.Frag) (P : Program) (w : World) {mg : Str → Option Value} {X : Cx} {a : Expr} {ta : TE} {pos p : Pos}
theorem bSetW (B : Bi mg) (hu : X.A.units + 64 < cLine) (ha : PE X a ta) (hK : X.K = K := by rfl) (hP : X.prog = P := by rfl) (hW : X.w = w := by rfl) (hc : X.calm = true := by rfl) (hM : X.mg = mg := by rfl) (hg : Gl X "set" := by rfl) (he : starEach [a] X.env = (false, eval a X.env) :: starEach [] X.env := by rfl) (hpl : (backTo pos (starEach [] X.env)).any (·.1) = false := by rfl) :
    PE X (.Call (.Name "set" p) [a] [] pos) (tCB (rSetW K P w) (tCons ta tNil)) := by
  subst hK hM hP hW
  exact pe_callTy (cr_setW hc hu) hg B.g PyProof.Rows.boot_set (pa_cons ha pa_nil he) (he := he) (hpl := hpl)
theorem bSetI (B : Bi mg) (ha : PE X a ta) (hK : X.K = K := by rfl) (hW : X.w = w := by rfl) (hc : X.calm = true := by rfl) (hM : X.mg = mg := by rfl) (hg : Gl X "set" := by rfl) (he : starEach [a] X.env = (false, eval a X.env) :: starEach [] X.env := by rfl) (hpl : (backTo pos (starEach [] X.env)).any (·.1) = false := by rfl) :
    PE X (.Call (.Name "set" p) [a] [] pos) (tCB (rSetI K w) (tCons ta tNil)) := by
  subst hK hM hW
  exact pe_callTy (cr_setI hc) hg B.g PyProof.Rows.boot_set (pa_cons ha pa_nil he) (he := he) (hpl := hpl)
theorem bSortS (B : Bi mg) (hu : X.A.units + 64 < cLine) (ha : PE X a ta) (hP : X.prog = P := by rfl) (hW : X.w = w := by rfl) (hc : X.calm = true := by rfl) (hM : X.mg = mg := by rfl) (hg : Gl X "sorted" := by rfl) (he : starEach [a] X.env = (false, eval a X.env) :: starEach [] X.env := by rfl) (hpl : (backTo pos (starEach [] X.env)).any (·.1) = false := by rfl) :
    PE X (.Call (.Name "sorted" p) [a] [] pos) (tCB (rSortS P w) (tCons ta tNil)) := by
  subst hM hP hW
  exact pe_callB (cr_sortS hc hu) hg B.g PyProof.Rows.boot_sorted (pa_cons ha pa_nil he) (he := he) (hpl := hpl)
theorem bSortD (B : Bi mg) (hu : X.A.units + 64 < cLine) (ha : PE X a ta) (hP : X.prog = P := by rfl) (hW : X.w = w := by rfl) (hc : X.calm = true := by rfl) (hM : X.mg = mg := by rfl) (hg : Gl X "sorted" := by rfl) (he : starEach [a] X.env = (false, eval a X.env) :: starEach [] X.env := by rfl) (hpl : (backTo pos (starEach [] X.env)).any (·.1) = false := by rfl) :
    PE X (.Call (.Name "sorted" p) [a] [] pos) (tCB (rSortD P w) (tCons ta tNil)) := by
  subst hM hP hW
  exact pe_callB (cr_sortD hc hu) hg B.g PyProof.Rows.boot_sorted (pa_cons ha pa_nil he) (he := he) (hpl := hpl)
theorem bSortI (B : Bi mg) (ha : PE X a ta) (hW : X.w = w := by rfl) (hc : X.calm = true := by rfl) (hM : X.mg = mg := by rfl) (hg : Gl X "sorted" := by rfl) (he : starEach [a] X.env = (false, eval a X.env) :: starEach [] X.env := by rfl) (hpl : (backTo pos (starEach [] X.env)).any (·.1) = false := by rfl) :
    PE X (.Call (.Name "sorted" p) [a] [] pos) (tCB (rSortedSet w) (tCons ta tNil)) := by
  subst hM hW
  exact pe_callB (cr_sortedSet hc) hg B.g PyProof.Rows.boot_sorted (pa_cons ha pa_nil he) (he := he) (hpl := hpl)
theorem bLenSI (B : Bi mg) (ha : PE X a ta) (hW : X.w = w := by rfl) (hM : X.mg = mg := by rfl) (hg : Gl X "len" := by rfl) (he : starEach [a] X.env = (false, eval a X.env) :: starEach [] X.env := by rfl) (hpl : (backTo pos (starEach [] X.env)).any (·.1) = false := by rfl) :
    PE X (.Call (.Name "len" p) [a] [] pos) (tCB (rLenSI w) (tCons ta tNil)) := by
  subst hM hW
  exact pe_callB cr_lenSI hg B.g PySem.boot_len (pa_cons ha pa_nil he) (he := he) (hpl := hpl)
end
end K37
/-! M6: blocks stay short while one of them is short; fewer than 4096 words of nine letters. Core Lean alone. -/
namespace K37
section
variable {r : List (List Nat)} {N : Nat}
def near (r : List (List Nat)) (a j : Nat) : List Nat := (List.range r.length).filter fun b => (List.range (j + 1)).any fun i => decide (b ∈ blk r i a)
theorem mem_near {a j b : Nat} : b ∈ near r a j ↔ b < r.length ∧ ∃ i, i ≤ j ∧ b ∈ blk r i a := by
  unfold near
  rw [List.mem_filter, List.mem_range, List.any_eq_true]
  constructor
  · rintro ⟨h1, i, h2, h3⟩
    exact ⟨h1, i, by have := List.mem_range.1 h2; omega, of_decide_eq_true h3⟩
  · rintro ⟨h1, i, h2, h3⟩
    exact ⟨h1, i, List.mem_range.2 (by omega), decide_eq_true h3⟩
theorem near_nodup (a j : Nat) : (near r a j).Nodup := List.Pairwise.filter _ List.nodup_range
theorem near_grow (g : GR r N) {a : Nat} (ha : a < r.length) : ∀ j, (∀ b, b < r.length → b ∈ near r a j) ∨ j + 1 ≤ (near r a j).length
  | 0 => .inr (List.length_pos_of_mem (mem_near.2 ⟨ha, 0, Nat.le_refl _, by rw [blk_zero]; exact List.mem_cons_self⟩))
  | j + 1 => by
    have sub : near r a j ⊆ near r a (j + 1) := fun b hb => by
      obtain ⟨h1, i, h2, h3⟩ := mem_near.1 hb
      exact mem_near.2 ⟨h1, i, by omega, h3⟩
    rcases near_grow g ha j with h | h
    · exact .inl fun b hb => sub (h b hb)
    · by_cases c : j + 2 ≤ (near r a (j + 1)).length
      · exact .inr c
      · left
        have back := sub_eq_of_len (near_nodup a j) sub (by omega)
        have cl : ∀ k b, b ∈ blk r k a → b ∈ near r a j := by
          intro k
          induction k with
          | zero =>
            intro b hb
            rw [blk_zero] at hb
            rw [List.mem_singleton.1 hb]
            exact mem_near.2 ⟨ha, 0, Nat.zero_le _, by rw [blk_zero]; exact List.mem_cons_self⟩
          | succ k ih =>
            intro b hb
            rw [blk_succ'] at hb
            obtain ⟨c, hc, hbc⟩ := List.mem_flatMap.1 hb
            obtain ⟨h1, i, h2, h3⟩ := mem_near.1 (ih c hc)
            refine back (mem_near.2 ⟨g.lt c h1 b hbc, i + 1, by omega, ?_⟩)
            rw [blk_succ']
            exact List.mem_flatMap.2 ⟨c, h3, hbc⟩
        intro b hb
        exact sub (cl N b (g.full a ha b hb))
theorem near_three (g : GR r N) (h4 : r.length ≤ 4) {a : Nat} (ha : a < r.length) {b : Nat} (hb : b < r.length) : ∃ i, i ≤ 3 ∧ b ∈ blk r i a := by
  have : b ∈ near r a 3 := by
    rcases near_grow g ha 3 with h | h
    · exact h b hb
    · exact sub_eq_of_len (m := List.range r.length) (near_nodup a 3) (fun c hc => List.mem_range.2 (mem_near.1 hc).1) (by rw [List.length_range]; omega) (List.mem_range.2 hb)
  exact (mem_near.1 this).2
theorem near_one (g : GR r N) (h2 : 2 ≤ r.length) {a : Nat} (ha : a < r.length) : ∃ c, c < r.length ∧ c ≠ a ∧ ∃ i, i ≤ 1 ∧ c ∈ blk r i a := by
  rcases near_grow g ha 1 with h | h
  · obtain ⟨c, h1, h3⟩ : ∃ c, c < r.length ∧ c ≠ a := by
      by_cases z : a = 0
      · exact ⟨1, by omega, by omega⟩
      · exact ⟨0, by omega, fun e => z e.symm⟩
    exact ⟨c, h1, h3, (mem_near.1 (h c h1)).2⟩
  · have nd := near_nodup (r := r) a 1
    match hn : near r a 1 with
    | [] => rw [hn] at h; simp at h
    | [x] => rw [hn] at h; simp at h
    | x :: y :: l =>
      rw [hn] at nd
      have hx : x ∈ near r a 1 := by rw [hn]; simp
      have hy : y ∈ near r a 1 := by rw [hn]; simp
      by_cases z : x = a
      · refine ⟨y, (mem_near.1 hy).1, fun e => ?_, (mem_near.1 hy).2⟩
        rw [z, e] at nd
        simp at nd
      · exact ⟨x, (mem_near.1 hx).1, z, (mem_near.1 hx).2⟩
theorem len_flat_le (f : Nat → List Nat) (c : Nat) : ∀ l : List Nat, (∀ x ∈ l, (f x).length ≤ c) → (l.flatMap f).length ≤ l.length * c
  | [], _ => by simp
  | x :: l, h => by
    rw [List.flatMap_cons, List.length_append, List.length_cons, Nat.add_mul, Nat.one_mul]
    have h1 := h x List.mem_cons_self
    have h2 := len_flat_le f c l fun y hy => h y (List.mem_cons_of_mem _ hy)
    omega
theorem len_pow4 (g : Good r) : ∀ k a, a < r.length → (blk r k a).length ≤ 4 ^ k
  | 0, a, _ => by rw [blk_zero]; simp
  | k + 1, a, ha => by
    rw [blk_succ', Nat.pow_succ]
    refine Nat.le_trans (len_flat_le _ 4 _ fun x hx => g.blk4 x (blk_lt g.gr k ha x hx)) (Nat.mul_le_mul_right 4 (len_pow4 g k a ha))
theorem mem_flat_len (f : Nat → List Nat) : ∀ {l : List Nat} {x : Nat}, x ∈ l → (f x).length ≤ (l.flatMap f).length
  | y :: l, x, h => by
    rw [List.flatMap_cons, List.length_append]
    rcases List.mem_cons.1 h with e | h
    · rw [e]; omega
    · have := mem_flat_len f h
      omega
theorem blk_small (g : Good r) {K a b i : Nat} (ha : a < r.length) (hb : b < r.length) (hi : b ∈ blk r i a) (h7 : (blk r K a).length ≤ 7) : (blk r (K + 1) b).length ≤ 7 * 4 ^ (i + 1) := by
  rcases Nat.lt_or_ge K i with c | c
  · refine Nat.le_trans (len_pow4 g (K + 1) b hb) (Nat.le_trans (Nat.pow_le_pow_right (by decide) (show K + 1 ≤ i + 1 by omega)) ?_)
    omega
  · have h1 : (blk r (K - i) b).length ≤ 7 := by
      refine Nat.le_trans ?_ h7
      rw [show blk r K a = blk r (K - i + i) a by rw [Nat.sub_add_cancel c], blk_add]
      exact mem_flat_len _ hi
    rw [show K + 1 = (i + 1) + (K - i) by omega, blk_add]
    exact Nat.le_trans (len_flat_le _ (4 ^ (i + 1)) _ fun x hx => len_pow4 g _ x (blk_lt g.gr _ hb x hx)) (Nat.mul_le_mul_right _ h1)
theorem blk_1792 (g : Good r) {K a b : Nat} (ha : a < r.length) (hb : b < r.length) (h7 : (blk r K a).length ≤ 7) : (blk r (K + 1) b).length ≤ 1792 := by
  obtain ⟨i, hi, hm⟩ := near_three g.gr g.four ha hb
  refine Nat.le_trans (blk_small g ha hb hm h7) ?_
  have : 4 ^ (i + 1) ≤ 4 ^ 4 := Nat.pow_le_pow_right (by decide) (by omega)
  have e : (4 : Nat) ^ 4 = 256 := by decide
  omega
/-- the blocks at the first level at which all have `least` letters -/
theorem blk_long (g : Good r) {least k : Nat} (hl : least ≤ 8) (hk : ∀ j, j < k → ∃ a, a < r.length ∧ (blk r j a).length < least) {b : Nat} (hb : b < r.length) : (blk r k b).length ≤ 1792 := by
  cases k with
  | zero => rw [blk_zero]; simp
  | succ k =>
    obtain ⟨a, ha, h⟩ := hk k (Nat.lt_succ_self k)
    exact blk_1792 g ha hb (by omega)
theorem sum_blk (g : Good r) {K a : Nat} (ha : a < r.length) (h7 : (blk r K a).length ≤ 7) : ((List.range r.length).map fun b => (blk r (K + 1) b).length).sum ≤ 3724 := by
  have h4 := g.four
  have all : ∀ b, b < r.length → (blk r (K + 1) b).length ≤ 1792 := fun b hb => blk_1792 g ha hb h7
  have own : (blk r (K + 1) a).length ≤ 28 := blk_small (i := 0) g ha ha (by rw [blk_zero]; exact List.mem_cons_self) h7
  by_cases h2 : 2 ≤ r.length
  · obtain ⟨c, hc, hne, i, hi, hm⟩ := near_one g.gr h2 ha
    have oth : (blk r (K + 1) c).length ≤ 112 := by
      refine Nat.le_trans (blk_small g ha hc hm h7) ?_
      have : 4 ^ (i + 1) ≤ 4 ^ 2 := Nat.pow_le_pow_right (by decide) (by omega)
      have e : (4 : Nat) ^ 2 = 16 := by decide
      omega
    generalize hf : (fun b => (blk r (K + 1) b).length) = f
    have own' : f a ≤ 28 := by rw [← hf]; exact own
    have oth' : f c ≤ 112 := by rw [← hf]; exact oth
    have all' : ∀ b, b < r.length → f b ≤ 1792 := fun b hb => by rw [← hf]; exact all b hb
    have e : r.length = 2 ∨ r.length = 3 ∨ r.length = 4 := by omega
    have b0 := all' 0 (by omega)
    have b1 := all' 1 (by omega)
    rcases e with e | e | e
    · rw [e]
      show f 0 + (f 1 + 0) ≤ 3724
      omega
    · have b2 := all' 2 (by omega)
      rw [e]
      show f 0 + (f 1 + (f 2 + 0)) ≤ 3724
      have ea : a = 0 ∨ a = 1 ∨ a = 2 := by omega
      rcases ea with ea | ea | ea <;> subst ea <;> omega
    · have b2 := all' 2 (by omega)
      have b3 := all' 3 (by omega)
      rw [e]
      show f 0 + (f 1 + (f 2 + (f 3 + 0))) ≤ 3724
      have ea : a = 0 ∨ a = 1 ∨ a = 2 ∨ a = 3 := by omega
      have ec : c = 0 ∨ c = 1 ∨ c = 2 ∨ c = 3 := by omega
      rcases ea with ea | ea | ea | ea <;> rcases ec with ec | ec | ec | ec <;> subst ea <;> subst ec <;> first | omega | exact absurd rfl hne
  · have e : r.length = 1 := by omega
    have ea : a = 0 := by omega
    rw [e]
    show (blk r (K + 1) 0).length + 0 ≤ 3724
    rw [ea] at own
    omega
/-- where words of nine letters are looked for -/
def cand (r : List (List Nat)) (k : Nat) : List (List Nat) := (List.range r.length).flatMap fun b => ((List.range (blk r k b).length).map fun off => ((blk r k b).drop off).take 9) ++
  (List.range r.length).flatMap fun c => (List.range 8).map fun t => ((blk r k b ++ blk r k c).drop ((blk r k b).length - 8 + t)).take 9
theorem sum_add (f : Nat → Nat) (c : Nat) : ∀ l : List Nat, (l.map fun b => f b + c).sum = (l.map f).sum + l.length * c
  | [] => by simp
  | x :: l => by
    simp only [List.map_cons, List.sum_cons, List.length_cons]
    rw [sum_add f c l, Nat.add_mul]
    omega
theorem cand_len (k : Nat) : (cand r k).length = ((List.range r.length).map fun b => (blk r k b).length).sum + r.length * (r.length * 8) := by
  unfold cand
  rw [List.length_flatMap]
  have : (fun b => (((List.range (blk r k b).length).map fun off => ((blk r k b).drop off).take 9) ++
      (List.range r.length).flatMap fun c => (List.range 8).map fun t => ((blk r k b ++ blk r k c).drop ((blk r k b).length - 8 + t)).take 9).length) = fun b => (blk r k b).length + r.length * 8 := by
    funext b
    rw [List.length_append, List.length_map, List.length_range, len_flatMap_const _ 8 _ (fun c _ => by rw [List.length_map, List.length_range]), List.length_range]
  rw [this, sum_add, List.length_range]
theorem ws9_le (g : Good r) : (ws r 9).length ≤ 3852 := by
  obtain ⟨K0, hK0⟩ := len_unb g.gr 8
  -- the first level at which all blocks have eight letters
  have ex : ∃ k, (∀ a, a < r.length → 8 ≤ (blk r k a).length) ∧ ∀ j, j < k → ∃ a, a < r.length ∧ (blk r j a).length < 8 := by
    have key : ∀ n, (∀ a, a < r.length → 8 ≤ (blk r n a).length) → ∃ k, (∀ a, a < r.length → 8 ≤ (blk r k a).length) ∧ ∀ j, j < k → ∃ a, a < r.length ∧ (blk r j a).length < 8 := by
      intro n
      induction n using Nat.strongRecOn with
      | ind n ih =>
        intro h
        by_cases c : ∃ j, j < n ∧ ∀ a, a < r.length → 8 ≤ (blk r j a).length
        · obtain ⟨j, hj, h2⟩ := c
          exact ih j hj h2
        · refine ⟨n, h, fun j hj => ?_⟩
          apply Classical.byContradiction
          intro z
          refine c ⟨j, hj, fun a ha => ?_⟩
          apply Classical.byContradiction
          intro y
          exact z ⟨a, ha, by omega⟩
    exact key K0 fun a ha => hK0 K0 (Nat.le_refl _) a ha
  obtain ⟨k, h8, hbefore⟩ := ex
  cases k with
  | zero =>
    have := h8 0 g.gr.pos
    rw [blk_zero] at this
    simp at this
  | succ K =>
    obtain ⟨a, ha, h7⟩ := hbefore K (Nat.lt_succ_self K)
    have hsub : ws r 9 ⊆ cand r (K + 1) := fun w hw => by
      obtain ⟨hw1, hw2⟩ := (mem_ws g.gr).1 hw
      obtain ⟨b, c, off, h1, h2, h3⟩ := inL_window (k := K + 1) g.gr (fun z => by rw [z] at hw2; cases hw2) hw1 fun x hx => by have := h8 x hx; omega
      rw [hw2] at h3
      have hb := h1.pair_left g.gr
      have hc := h1.pair_right g.gr
      refine List.mem_flatMap.2 ⟨b, List.mem_range.2 hb, ?_⟩
      rw [List.mem_append]
      by_cases z : off + 9 ≤ (blk r (K + 1) b).length
      · refine .inl (List.mem_map.2 ⟨off, List.mem_range.2 h2, ?_⟩)
        rw [h3, List.drop_append_of_le_length (by omega), List.take_append_of_le_length (by rw [List.length_drop]; omega)]
      · refine .inr (List.mem_flatMap.2 ⟨c, List.mem_range.2 hc, List.mem_map.2 ⟨off - ((blk r (K + 1) b).length - 8), List.mem_range.2 ?_, ?_⟩⟩)
        · have := h8 b hb
          omega
        · rw [h3]
          have := h8 b hb
          rw [show (blk r (K + 1) b).length - 8 + (off - ((blk r (K + 1) b).length - 8)) = off by omega]
    have h1 := List.Nodup.length_le_of_subset ((ws_ok g.gr 9).1.nodup soW) hsub
    rw [cand_len] at h1
    have h2 := sum_blk g ha (by omega : (blk r K a).length ≤ 7)
    have h4 := g.four
    have h5 : r.length * (r.length * 8) ≤ 4 * (4 * 8) := Nat.mul_le_mul h4 (Nat.mul_le_mul_right 8 h4)
    omega
theorem ws_le (g : Good r) {k : Nat} (hk : k ≤ 9) : (ws r k).length ≤ 3852 := by
  rw [← ws_short g.gr hk]
  refine Nat.le_trans (canon_len_le soW _) ?_
  rw [List.length_map]
  exact ws9_le g
end
end K37
set_option Elab.async false
set_option linter.all false
set_option maxRecDepth 100000
set_option maxHeartbeats 2000000
/-! W6: images, memory. -/
namespace K37
open PySem L2 Evl
section
variable {P : Program} {w : World} {K : PySem.W.Frag} {mg : Str → Option Value} {base : Heap}

/-! as_ascending -/
def sp_as_ascending : Sp := spF (fun (x : List Nat) => [vD (eW x)]) (fun x => x.length < 60) (fun x => vD (eW (canon ltN x)))
abbrev n_as_ascending : List Str := ["things"]
theorem sc_as_ascending : FnScope n_as_ascending ["things"] (defScope st_as_ascending) := ⟨rfl, rfl, rfl, by decide +kernel, rfl, by decide +kernel, by decide +kernel⟩
theorem ok_as_ascending (F : Df K mg "as_ascending" st_as_ascending []) (B : Bi mg) : Cb P w K mg base "as_ascending" 1 ["things"] [] sp_as_ascending := by
  refine F.ok sc_as_ascending (fun _ => rfl) (fun _ _ _ _ _ _ us hl => match us, hl with | [_], _ => rfl) fun f cdv A outer s H Ex' hr => ?_
  refine ⟨_, pss_one (ps_ret (bTup K B (bSortI w B (bSetI K w B (pv 0))))), ?_⟩
  rintro x vs ⟨v1, r1, rfl, h1, e⟩ hl Q k
  try dsimp only at *
  rw [show r1 = [] from e]
  have hc := canon_len_le soN x
  exact x_ret (e_cb (a_cons (e_cb (a_cons (e_cb (a_cons (e_var rfl h1) a_nil) (r_setIT (by omega))) a_nil) (r_sortSI (by omega))) a_nil) (r_tupE (canon ltN x) eN)) k

/-! image_of -/
def sp_image_of : Sp := spF (fun (x : List Nat) => [vD (eW x)]) (fun x => x.length < 60) (fun x => vD (eW (canon ltN x)))
abbrev n_image_of : List Str := ["lead"]
theorem sc_image_of : FnScope n_image_of ["lead"] (defScope st_image_of) := ⟨rfl, rfl, rfl, by decide +kernel, rfl, by decide +kernel, by decide +kernel⟩
theorem ok_image_of (F : Df K mg "image_of" st_image_of []) (B : Bi mg) (c_as_ascending : Cb P w K mg base "as_ascending" 1 ["things"] [] sp_as_ascending) : Cb P w K mg base "image_of" 2 ["lead"] [] sp_image_of := by
  refine F.ok sc_image_of (fun _ => rfl) (fun _ _ _ _ _ _ us hl => match us, hl with | [_], _ => rfl) fun f cdv A outer s H Ex' hr => ?_
  refine ⟨_, pss_one (ps_ret (pe_cb c_as_ascending (hr.mono (by decide)) rfl (pa_cons (pv 0) pa_nil))), ?_⟩
  rintro x vs ⟨v1, r1, rfl, h1, e⟩ hl Q k
  try dsimp only at *
  rw [show r1 = [] from e]
  exact x_ret (e_call' x (a_cons (e_var rfl h1) a_nil) hl) k

theorem rnd_ex {r : List (List Nat)} {M : Mach} (z : Sz r M) : ∃ m t, Rnd r M m t ∧ m ≤ 600000 := by
  obtain ⟨⟨N0, gr⟩, gm, h4, hblk, h3⟩ := z
  obtain ⟨i, j, hij, hj, e⟩ := fam_again gr gm
  have hB := fam_bound h3 h4
  have key : ∀ n, (∃ t, t < n ∧ fam r M n = fam r M t) → ∃ m t, m ≤ n ∧ Rnd r M m t := by
    intro n
    induction n using Nat.strongRecOn with
    | ind n ih =>
      rintro ⟨t, ht, e⟩
      by_cases c : ∃ m, m < n ∧ ∃ t, t < m ∧ fam r M m = fam r M t
      · obtain ⟨m, hm, h⟩ := c
        obtain ⟨m', t', h1, h2⟩ := ih m hm h
        exact ⟨m', t', by omega, h2⟩
      · exact ⟨n, t, Nat.le_refl _, ht, e, fun a b hab hb he => c ⟨b, hb, a, hab, he.symm⟩⟩
  obtain ⟨m, t, h1, h2⟩ := key j ⟨i, hij, e.symm⟩
  exact ⟨m, t, h2, by omega⟩
theorem Rnd.uniq {r : List (List Nat)} {M : Mach} {m t m' t' : Nat} (h : Rnd r M m t) (h' : Rnd r M m' t') : m = m' ∧ t = t' := by
  have e : m = m' := by
    rcases Nat.lt_trichotomy m m' with c | c | c
    · exact absurd h.eq.symm (h'.ne t m h.lt c)
    · exact c
    · exact absurd h'.eq.symm (h.ne t' m' h'.lt c)
  subst e
  refine ⟨rfl, ?_⟩
  rcases Nat.lt_trichotomy t t' with c | c | c
  · exact absurd (h.eq.symm.trans h'.eq) (h.ne t t' c h'.lt)
  · exact c
  · exact absurd (h'.eq.symm.trans h.eq) (h.ne t' t c h.lt)
def vMem (r : List (List Nat)) (M : Mach) : VP := vEx (fun (m : Nat) => Mem r M m) fun m => vI m
theorem least_nat (l : List Nat) (h : l ≠ []) : ∃ m ∈ l, ∀ y ∈ l, m ≤ y := by
  induction l with
  | nil => exact absurd rfl h
  | cons x l ih =>
    by_cases c : l = []
    · exact ⟨x, List.mem_cons_self, fun y hy => by rw [c] at hy; simp at hy; omega⟩
    · obtain ⟨m, hm, hl⟩ := ih c
      rcases Nat.lt_or_ge m x with z | z
      · exact ⟨m, List.mem_cons_of_mem _ hm, fun y hy => by rcases List.mem_cons.1 hy with e | e; · omega
                                                            · exact hl y e⟩
      · exact ⟨x, List.mem_cons_self, fun y hy => by rcases List.mem_cons.1 hy with e | e; · omega
                                                     · exact Nat.le_trans z (hl y e)⟩

/-! memory_by -/
def sp_memory_by : Sp := spF (fun (x : List (List Nat) × Mach) => [vD (eR x.1), vD (eM x.2)]) (fun x => Sz x.1 x.2) (fun x => vMem x.1 x.2)
abbrev n_memory_by : List Str := ["rule", "machine", "family", "lead"]
theorem sc_memory_by : FnScope n_memory_by ["rule", "machine"] (defScope st_memory_by) := ⟨rfl, rfl, rfl, by decide +kernel, rfl, by decide +kernel, by decide +kernel⟩
theorem ok_memory_by (F : Df K mg "memory_by" st_memory_by []) (B : Bi mg) (c_families_by : Cb P w K mg base "families_by" 4 ["rule", "machine"] [] sp_families_by) (c_image_of : Cb P w K mg base "image_of" 2 ["lead"] [] sp_image_of) : Cb P w K mg base "memory_by" 5 ["rule", "machine"] [] sp_memory_by := by
  refine F.ok sc_memory_by (fun _ => rfl) (fun _ _ _ _ _ _ us hl => match us, hl with | [_, _], _ => rfl) fun f cdv A outer s H Ex' hr => ?_
  refine ⟨_, pss_one (ps_ret (bMin K B (pe_lc2 (own := [("family", 2), ("lead", 3)]) (vs1 := [3]) (g := gName 2) (g1 := gName 3) (tt := tYes) (tt1 := tYes) rfl sc_memory_by.nd (itL K (ixT K (pe_cb c_families_by (hr.mono (by decide)) rfl (pa_cons (pv 0) (pa_cons (pv 1) pa_nil))) pe_int)) (blkOk_by (N := n_memory_by) (sc := defScope st_memory_by) (by decide +kernel)) (by decide) (fun _ _ _ _ _ => pg_name (i := 2) sc_memory_by.nd rfl (Or.inl rfl)) (fun _ _ _ _ _ => pts_nil) (fun _ _ _ _ _ => itT K (pv 2)) (fun _ _ _ _ _ => pg_name (i := 3) sc_memory_by.nd rfl (Or.inl rfl)) (fun _ _ _ _ _ => pts_nil) (fun _ _ _ _ _ => bLen K B (pe_cb c_image_of (hr.mono (by decide)) rfl (pa_cons (pv 3) pa_nil)))))), ?_⟩
  rintro ⟨r, M⟩ vs ⟨v1, r1, rfl, h1, v2, r2, rfl, h2, e⟩ z Q k
  dsimp only at *
  rw [show r2 = [] from e]
  have z' := z
  obtain ⟨⟨N0, gr⟩, gm, h4, hblk, h3⟩ := z'
  obtain ⟨m, t, hr0, hm6⟩ := rnd_ex z
  have hL : ((List.range m).flatMap fun k => (fam r M k).map fun f => (canon ltN f).length) ≠ [] := fun e => by
    have hm0 := hr0.lt
    have h0 := gr.pos
    have : (canon ltN (mp M (blk r 0 0))).length ∈ ((List.range m).flatMap fun k => (fam r M k).map fun f => (canon ltN f).length) :=
      List.mem_flatMap.2 ⟨0, List.mem_range.2 (by omega), List.mem_map.2 ⟨_, List.mem_map.2 ⟨0, List.mem_range.2 h0, rfl⟩, rfl⟩⟩
    rw [e] at this
    cases this
  obtain ⟨mem, hm, hle⟩ := least_nat _ hL
  have hmem : Mem r M mem := by
    refine mem_of_fams gr gm hr0.lt hr0.eq (fun k hk a ha => hle _ (List.mem_flatMap.2 ⟨k, List.mem_range.2 hk, List.mem_map.2 ⟨_, List.mem_map.2 ⟨a, List.mem_range.2 ha, rfl⟩, rfl⟩⟩)) ?_
    obtain ⟨k, hk, h⟩ := List.mem_flatMap.1 hm
    obtain ⟨f, hf, e⟩ := List.mem_map.1 h
    obtain ⟨a, ha, ea⟩ := List.mem_map.1 hf
    rw [← ea] at e
    exact ⟨k, a, List.mem_range.1 hk, List.mem_range.1 ha, e⟩
  have hz : ((List.range m).flatMap fun k => fam r M k).length ≤ 10000000 := by
    rw [len_flatMap_const _ r.length _ fun k _ => fam_len k, List.length_range]
    have : m * r.length ≤ 600000 * 4 := Nat.mul_le_mul hm6 h4
    omega
  have hints : ((List.range m).flatMap fun k => (fam r M k).map fun f => vI ((canon ltN f).length : Nat)) = ((List.range m).flatMap fun k => (fam r M k).map fun f => ((canon ltN f).length : Int)).map vI := by
    rw [List.map_flatMap]
    congr 1
    funext k
    rw [List.map_map]
    rfl
  have hmI : ∀ y : Int, y ∈ ((List.range m).flatMap fun k => (fam r M k).map fun f => ((canon ltN f).length : Int)) ↔ ∃ n : Nat, n ∈ ((List.range m).flatMap fun k => (fam r M k).map fun f => (canon ltN f).length) ∧ (n : Int) = y := fun y => by
    constructor
    · intro h
      obtain ⟨k, hk, h⟩ := List.mem_flatMap.1 h
      obtain ⟨f, hf, e⟩ := List.mem_map.1 h
      exact ⟨_, List.mem_flatMap.2 ⟨k, hk, List.mem_map.2 ⟨f, hf, rfl⟩⟩, e⟩
    · rintro ⟨n, h, e⟩
      obtain ⟨k, hk, h⟩ := List.mem_flatMap.1 h
      obtain ⟨f, hf, e2⟩ := List.mem_map.1 h
      exact List.mem_flatMap.2 ⟨k, hk, List.mem_map.2 ⟨f, hf, by rw [← e, ← e2]⟩⟩
  have src : E (tOp (rIxT K) (tCall sp_families_by [] E0 (tCons (tVar 0) (tCons (tVar 1) tNil))) (tC (.int 0))) [some v1, some v2, none, none] H (vL ((List.range m).map fun k => vD (eR (fam r M k)))) :=
    e_op ((e_call' (r, M) (a_cons (e_var rfl h1) (a_cons (e_var rfl h2) a_nil)) z).weak fun v H1 _ p => by
      obtain ⟨⟨m', t'⟩, ⟨hr', _⟩, p⟩ := p
      obtain ⟨e1, e2⟩ := hr0.uniq hr'
      dsimp only at p hr' e1 e2
      rw [← e1, ← e2] at p
      exact p) e_c (o_ixTP (atI_nat (j := 0) rfl))
  refine x_ret (e_cb (a_cons (EN.e (en_lc2 (vs := [2, 3]) (vs1 := [3]) (List.range m) (fun k => vD (eR (fam r M k))) (fun k => fam r M k) (fun _ f => vD (eW f)) (fun _ f => vI ((canon ltN f).length : Nat)) (src_list src) hz (fun _ _ _ _ => st_v _) ?_)) a_nil) (by
    rw [hints]
    exact r_min (m := (mem : Int)) (fun e => hL (by
      have := congrArg List.length e
      rw [List.length_flatMap] at this
      refine List.eq_nil_of_length_eq_zero ?_
      rw [List.length_flatMap]
      simpa using this)) ((hmI _).2 ⟨mem, hm, rfl⟩) fun y hy => by
        obtain ⟨n, hn, en⟩ := (hmI y).1 hy
        have := hle n hn
        omega)) fun v H3 e3 p => k v H3 e3 ⟨mem, hmem, p⟩
  intro k hk v H3 e3 p Q1 hQ
  refine hQ _ rfl (src0_tupE (fam r M k) eW (e_var rfl p)).t ?_
  intro f hf u H4 e4 pu Q2 hQ2
  refine hQ2 _ rfl ?_
  refine (e_cb (a_cons (e_call' f (a_cons (e_var rfl pu) a_nil) ?_) a_nil) r_lenT).weak fun v H5 _ p => ?_
  · have := (fam_mem_ok z k f hf).1
    omega
  · rw [List.length_map] at p
    exact p

/-! is_settled -/
def sp_is_settled : Sp := spF (fun (x : (Mach × Nat) × List Nat) => [vD (eM x.1.1), vI x.1.2, vD (eW x.2)]) (fun x => x.1.1.length ≤ 3 ∧ x.2.length ≤ 100000 ∧ ∃ n, GM n x.1.1 ∧ ∀ a ∈ x.2, a < n) (fun x => vB (rk x.1.1 x.2 == x.1.2))
abbrev n_is_settled : List Str := ["machine", "memory", "word"]
theorem sc_is_settled : FnScope n_is_settled ["machine", "memory", "word"] (defScope st_is_settled) := ⟨rfl, rfl, rfl, by decide +kernel, rfl, by decide +kernel, by decide +kernel⟩
theorem ok_is_settled (F : Df K mg "is_settled" st_is_settled []) (B : Bi mg) (c_image_of : Cb P w K mg base "image_of" 2 ["lead"] [] sp_image_of) (c_map_by : Cb P w K mg base "map_by" 2 ["machine", "word"] [] spMapBy) : Cb P w K mg base "is_settled" 3 ["machine", "memory", "word"] [] sp_is_settled := by
  refine F.ok sc_is_settled (fun _ => rfl) (fun _ _ _ _ _ _ us hl => match us, hl with | [_, _, _], _ => rfl) fun f cdv A outer s H Ex' hr => ?_
  refine ⟨_, pss_one (ps_ret (pe_cmpR op_eq (bLen K B (pe_cb c_image_of (hr.mono (by decide)) rfl (pa_cons (pe_cb c_map_by (hr.mono (by decide)) rfl (pa_cons (pv 0) (pa_cons (pv 2) pa_nil))) pa_nil))) (pv 1) (nomark _))), ?_⟩
  rintro ⟨⟨M, mem⟩, wd⟩ vs ⟨v1, r1, rfl, h1, v2, r2, rfl, h2, v3, r3, rfl, h3, e⟩ ⟨hM, hw, n, gm, hlt⟩ Q k
  dsimp only at *
  rw [show r3 = [] from e]
  refine x_ret (e_op ((e_cb (a_cons (e_call' (mp M wd) (a_cons (e_call' (M, wd) (a_cons (e_var rfl h1) (a_cons (e_var rfl h3) a_nil)) ⟨by dsimp only; omega, by dsimp only; omega, n, gm, hlt⟩) a_nil) (by rw [mp_len]; omega)) a_nil) r_lenT).weak fun v H1 _ p => (show (vI (rk M wd : Nat)).p v H1 by
    rw [List.length_map] at p
    exact p)) (e_var rfl h2) (o_eq (by rfl))) fun v H1 e1 p => k v H1 e1 ?_
  rw [show v = _ from p]
  show V.bl _ = V.bl _
  congr 1
  by_cases c : rk M wd = mem
  · simp [c]
  · have : ¬ V.int (rk M wd : Nat) = V.int (mem : Nat) := fun e => c (by injection e with e; omega)
    simp [c, this]

end
end K37
set_option Elab.async false
set_option linter.all false
set_option maxRecDepth 100000
set_option maxHeartbeats 2000000
/-! W3: kinds, of what is of the kind. -/
namespace K37
open PySem L2 Evl
section
variable {P : Program} {w : World} {K : PySem.W.Frag} {mg : Str → Option Value} {base : Heap}

/-! is_integer -/
def sp_is_integer : Sp := spF (fun (i : Int) => [vI i]) (fun _ => True) (fun _ => vB true)
abbrev n_is_integer : List Str := ["thing"]
theorem sc_is_integer : FnScope n_is_integer ["thing"] (defScope st_is_integer) := ⟨rfl, rfl, rfl, by decide +kernel, rfl, by decide +kernel, by decide +kernel⟩
theorem ok_is_integer (F : Df K mg "is_integer" st_is_integer []) (B : Bi mg) : Cb P w K mg base "is_integer" 1 ["thing"] [] sp_is_integer := by
  refine F.ok sc_is_integer (fun _ => rfl) (fun _ _ _ _ _ _ us hl => match us, hl with | [_], _ => rfl) fun f cdv A outer s H Ex' hr => ?_
  refine ⟨_, pss_one (ps_ret (pe_and (bIsiInt K B (pv 0)) (pe_one (pe_not (bIsiBool K B (pv 0)))))), ?_⟩
  rintro i vs ⟨v1, r1, rfl, h1, e⟩ _ Q k
  try dsimp only at *
  rw [show r1 = [] from e]
  exact x_ret (e_andV (a := true) (b := true) (e_cb (a_cons (e_var rfl h1) (a_cons e_c a_nil)) isi_int_int) fun _ => e_notV (a := false) (e_cb (a_cons (e_var rfl h1) (a_cons e_c a_nil)) isi_int_bool)) k

/-! is_number -/
def sp_is_number : Sp := spF (fun (i : Int) => [vI i]) (fun i => 0 ≤ i) (fun _ => vB true)
abbrev n_is_number : List Str := ["thing"]
theorem sc_is_number : FnScope n_is_number ["thing"] (defScope st_is_number) := ⟨rfl, rfl, rfl, by decide +kernel, rfl, by decide +kernel, by decide +kernel⟩
theorem ok_is_number (F : Df K mg "is_number" st_is_number []) (B : Bi mg) (c_is_integer : Cb P w K mg base "is_integer" 1 ["thing"] [] sp_is_integer) : Cb P w K mg base "is_number" 2 ["thing"] [] sp_is_number := by
  refine F.ok sc_is_number (fun _ => rfl) (fun _ _ _ _ _ _ us hl => match us, hl with | [_], _ => rfl) fun f cdv A outer s H Ex' hr => ?_
  refine ⟨_, pss_one (ps_ret (pe_and (pe_cb c_is_integer hr rfl (pa_cons (pv 0) pa_nil)) (pe_one (pe_cmpR op_ge (pv 0) pe_int (nomark _))))), ?_⟩
  rintro i vs ⟨v1, r1, rfl, h1, e⟩ hi Q k
  try dsimp only at *
  rw [show r1 = [] from e]
  refine x_ret (e_andV (a := true) (b := true) (e_call' i (a_cons (e_var rfl h1) a_nil) trivial) fun _ => e_op (e_var rfl h1) e_c (o_cmp ?_)) k
  show V.bl (decide ((0 : Int) ≤ i)) = .bl true
  rw [decide_eq_true hi]

/-! is_index -/
def sp_is_index : Sp := spF (fun (x : Int × Int) => [vI x.1, vI x.2]) (fun x => 0 ≤ x.1 ∧ x.1 < x.2) (fun _ => vB true)
abbrev n_is_index : List Str := ["thing", "many"]
theorem sc_is_index : FnScope n_is_index ["thing", "many"] (defScope st_is_index) := ⟨rfl, rfl, rfl, by decide +kernel, rfl, by decide +kernel, by decide +kernel⟩
theorem ok_is_index (F : Df K mg "is_index" st_is_index []) (B : Bi mg) (c_is_number : Cb P w K mg base "is_number" 2 ["thing"] [] sp_is_number) : Cb P w K mg base "is_index" 3 ["thing", "many"] [] sp_is_index := by
  refine F.ok sc_is_index (fun _ => rfl) (fun _ _ _ _ _ _ us hl => match us, hl with | [_, _], _ => rfl) fun f cdv A outer s H Ex' hr => ?_
  refine ⟨_, pss_one (ps_ret (pe_and (pe_cb c_is_number hr rfl (pa_cons (pv 0) pa_nil)) (pe_one (pe_cmpR op_lt (pv 0) (pv 1) (nomark _))))), ?_⟩
  rintro ⟨i, n⟩ vs ⟨v1, r1, rfl, h1, v2, r2, rfl, h2, e⟩ ⟨hi, hn⟩ Q k
  try dsimp only at *
  rw [show r2 = [] from e]
  refine x_ret (e_andV (a := true) (b := true) (e_call' i (a_cons (e_var rfl h1) a_nil) hi) fun _ => e_op (e_var rfl h1) (e_var rfl h2) (o_cmp ?_)) k
  show V.bl (decide (i < n)) = .bl true
  rw [decide_eq_true hn]

/-! is_full_tuple -/
def sp_is_full_tuple : Sp := spF (fun (ds : List Dv) => [vD (.t ds)]) (fun ds => ds ≠ []) (fun _ => vB true)
abbrev n_is_full_tuple : List Str := ["thing"]
theorem sc_is_full_tuple : FnScope n_is_full_tuple ["thing"] (defScope st_is_full_tuple) := ⟨rfl, rfl, rfl, by decide +kernel, rfl, by decide +kernel, by decide +kernel⟩
theorem ok_is_full_tuple (F : Df K mg "is_full_tuple" st_is_full_tuple []) (B : Bi mg) : Cb P w K mg base "is_full_tuple" 1 ["thing"] [] sp_is_full_tuple := by
  refine F.ok sc_is_full_tuple (fun _ => rfl) (fun _ _ _ _ _ _ us hl => match us, hl with | [_], _ => rfl) fun f cdv A outer s H Ex' hr => ?_
  refine ⟨_, pss_one (ps_ret (pe_and (bIsiTup K B (pv 0)) (pe_one (pe_cmpR op_gt (bLen K B (pv 0)) pe_int (nomark _))))), ?_⟩
  rintro ds vs ⟨v1, r1, rfl, h1, e⟩ hne Q k
  try dsimp only at *
  rw [show r1 = [] from e]
  refine x_ret (e_andV (a := true) (b := true) (e_cb (a_cons (e_var rfl h1) (a_cons e_c a_nil)) isi_tup) fun _ => e_op (e_cb (a_cons (e_var rfl h1) a_nil) r_lenT) e_c (o_cmp ?_)) k
  show V.bl (decide ((0 : Int) < (ds.length : Int))) = .bl true
  have := List.length_pos_iff.2 hne
  rw [decide_eq_true (by omega)]

/-! is_tuple_of -/
def sp_is_tuple_of : Sp := spF (fun (x : List Dv × Nat) => [vD (.t x.1), vI x.2]) (fun x => x.1.length = x.2) (fun _ => vB true)
abbrev n_is_tuple_of : List Str := ["thing", "many"]
theorem sc_is_tuple_of : FnScope n_is_tuple_of ["thing", "many"] (defScope st_is_tuple_of) := ⟨rfl, rfl, rfl, by decide +kernel, rfl, by decide +kernel, by decide +kernel⟩
theorem ok_is_tuple_of (F : Df K mg "is_tuple_of" st_is_tuple_of []) (B : Bi mg) : Cb P w K mg base "is_tuple_of" 1 ["thing", "many"] [] sp_is_tuple_of := by
  refine F.ok sc_is_tuple_of (fun _ => rfl) (fun _ _ _ _ _ _ us hl => match us, hl with | [_, _], _ => rfl) fun f cdv A outer s H Ex' hr => ?_
  refine ⟨_, pss_one (ps_ret (pe_and (bIsiTup K B (pv 0)) (pe_one (pe_cmpR op_eq (bLen K B (pv 0)) (pv 1) (nomark _))))), ?_⟩
  rintro ⟨ds, n⟩ vs ⟨v1, r1, rfl, h1, v2, r2, rfl, h2, e⟩ hl Q k
  try dsimp only at *
  rw [show r2 = [] from e]
  refine x_ret (e_andV (a := true) (b := true) (e_cb (a_cons (e_var rfl h1) (a_cons e_c a_nil)) isi_tup) fun _ => (e_op (e_cb (a_cons (e_var rfl h1) a_nil) r_lenT) (e_var rfl h2) (o_eq rfl)).weak fun v H1 _ p => ?_) k
  rw [hl, decide_eq_true rfl] at p
  exact p

/-! are_indexes -/
def sp_are_indexes : Sp := spF (fun (x : List Nat × Nat) => [vD (eW x.1), vI x.2]) (fun x => x.1.length ≤ 1000000 ∧ ∀ a ∈ x.1, a < x.2) (fun _ => vB true)
abbrev n_are_indexes : List Str := ["thing", "many", "one"]
theorem sc_are_indexes : FnScope n_are_indexes ["thing", "many"] (defScope st_are_indexes) := ⟨rfl, rfl, rfl, by decide +kernel, rfl, by decide +kernel, by decide +kernel⟩
theorem ok_are_indexes (F : Df K mg "are_indexes" st_are_indexes []) (B : Bi mg) (c_is_index : Cb P w K mg base "is_index" 3 ["thing", "many"] [] sp_is_index) : Cb P w K mg base "are_indexes" 4 ["thing", "many"] [] sp_are_indexes := by
  refine F.ok sc_are_indexes (fun _ => rfl) (fun _ _ _ _ _ _ us hl => match us, hl with | [_, _], _ => rfl) fun f cdv A outer s H Ex' hr => ?_
  refine ⟨_, pss_one (ps_ret (pe_and (bIsiTup K B (pv 0)) (pe_one (bAll K B (pe_lc (own := [("one", 2)]) (g := gName 2) (tt := tYes) rfl sc_are_indexes.nd (itT K (pv 0)) (blkOk_by (N := n_are_indexes) (sc := defScope st_are_indexes) (by decide +kernel)) (fun _ _ _ _ _ => pg_name (i := 2) sc_are_indexes.nd rfl (Or.inl rfl)) (fun _ _ _ _ _ => pts_nil) (fun _ _ _ _ _ => pe_cb c_is_index hr rfl (pa_cons (pv 2) (pa_cons (pv 1) pa_nil)))))))), ?_⟩
  rintro ⟨w, n⟩ vs ⟨v1, r1, rfl, h1, v2, r2, rfl, h2, e⟩ ⟨hl, hw⟩ Q k
  try dsimp only at *
  rw [show r2 = [] from e]
  refine x_ret (e_andV (a := true) (b := true) (e_cb (a_cons (e_var rfl h1) (a_cons e_c a_nil)) isi_tup) fun _ => e_cb (a_cons (EN.e (en_lc1 (vs := [2]) w _ (fun _ => vB true) (src0_tupE w eN (e_var rfl h1)).t.src (by omega) (fun _ _ => st_v _) (fun v => rfl) ?_)) a_nil) (r_allT w)) k
  intro a ha v H1 e1 p
  have := hw a ha
  exact e_call' ((a : Int), (n : Int)) (a_cons (e_n (e_var rfl p)) (a_cons (e_var rfl ((vI n).mono e1 h2)) a_nil)) ⟨by dsimp only; omega, by dsimp only; omega⟩

/-! is_rule -/
def sp_is_rule : Sp := spF (fun (x : List (List Nat)) => [vD (eR x)]) (fun x => x.length ≤ 1000 ∧ x ≠ [] ∧ ∀ b ∈ x, b ≠ [] ∧ b.length ≤ 1000 ∧ ∀ a ∈ b, a < x.length) (fun _ => vB true)
abbrev n_is_rule : List Str := ["thing", "one"]
theorem sc_is_rule : FnScope n_is_rule ["thing"] (defScope st_is_rule) := ⟨rfl, rfl, rfl, by decide +kernel, rfl, by decide +kernel, by decide +kernel⟩
theorem ok_is_rule (F : Df K mg "is_rule" st_is_rule []) (B : Bi mg) (c_is_full_tuple : Cb P w K mg base "is_full_tuple" 1 ["thing"] [] sp_is_full_tuple) (c_are_indexes : Cb P w K mg base "are_indexes" 4 ["thing", "many"] [] sp_are_indexes) : Cb P w K mg base "is_rule" 5 ["thing"] [] sp_is_rule := by
  refine F.ok sc_is_rule (fun _ => rfl) (fun _ _ _ _ _ _ us hl => match us, hl with | [_], _ => rfl) fun f cdv A outer s H Ex' hr => ?_
  refine ⟨_, pss_cons (ps_if (pt_not (pt_val (pe_cb c_is_full_tuple (hr.mono (by decide)) rfl (pa_cons (pv 0) pa_nil)))) (pss_one (ps_ret pe_bl)) pss_nil)
    (pss_one (ps_ret (bAll K B (pe_lc (own := [("one", 1)]) (g := gName 1) (tt := tYes) rfl sc_is_rule.nd (itT K (pv 0)) (blkOk_by (N := n_is_rule) (sc := defScope st_is_rule) (by decide +kernel)) (fun _ _ _ _ _ => pg_name (i := 1) sc_is_rule.nd rfl (Or.inl rfl)) (fun _ _ _ _ _ => pts_nil) (fun _ _ _ _ _ => pe_and (pe_cb c_is_full_tuple (hr.mono (by decide)) rfl (pa_cons (pv 1) pa_nil)) (pe_one (pe_cb c_are_indexes hr rfl (pa_cons (pv 1) (pa_cons (bLen K B (pv 0)) pa_nil))))))))), ?_⟩
  rintro r vs ⟨v1, r1, rfl, h1, e⟩ ⟨hl, hne, hb⟩ Q k
  try dsimp only at *
  rw [show r1 = [] from e]
  have hne2 : r.map eW ≠ [] := fun z => hne (List.map_eq_nil_iff.1 z)
  refine x_if (t_not (b := true) (t_b (e_call' (r.map eW) (a_cons (e_var rfl h1) a_nil) hne2))) (fun z => by cases z) fun _ H1 e1 => ?_
  refine x_ret (e_cb (a_cons (EN.e (en_lc1 (vs := [1]) r _ (fun _ => vB true) (src0_tupE r eW (e_var rfl ((vD _).mono e1 h1))).t.src (by omega) (fun _ _ => st_v _) (fun v => rfl) ?_)) a_nil) (r_allT r)) fun v H2 e2 p => k v H2 (e1.trans e2) p
  intro b hbm v H2 e2 p
  obtain ⟨b1, b2, b3⟩ := hb b hbm
  refine e_andV (a := true) (b := true) (e_call' (b.map eN) (a_cons (e_var rfl p) a_nil) fun z => b1 (List.map_eq_nil_iff.1 z)) fun _ => e_call' (b, r.length) (a_cons (e_var rfl p) (a_cons ((e_cb (a_cons (e_var rfl ((vD _).mono (e1.trans e2) h1)) a_nil) r_lenT).weak fun v H3 _ p => ?_) a_nil)) ⟨by dsimp only; omega, b3⟩
  rw [List.length_map] at p
  exact p

/-! is_word -/
def sp_is_word : Sp := spF (fun (x : List (List Nat) × List Nat) => [vD (eR x.1), vD (eW x.2)]) (fun y => (fun x : List (List Nat) => x.length ≤ 1000 ∧ x ≠ [] ∧ ∀ b ∈ x, b ≠ [] ∧ b.length ≤ 1000 ∧ ∀ a ∈ b, a < x.length) y.1 ∧ y.2.length ≤ 1000000 ∧ ∀ a ∈ y.2, a < y.1.length) (fun _ => vB true)
abbrev n_is_word : List Str := ["rule", "thing"]
theorem sc_is_word : FnScope n_is_word ["rule", "thing"] (defScope st_is_word) := ⟨rfl, rfl, rfl, by decide +kernel, rfl, by decide +kernel, by decide +kernel⟩
theorem ok_is_word (F : Df K mg "is_word" st_is_word []) (B : Bi mg) (c_is_rule : Cb P w K mg base "is_rule" 5 ["thing"] [] sp_is_rule) (c_are_indexes : Cb P w K mg base "are_indexes" 4 ["thing", "many"] [] sp_are_indexes) : Cb P w K mg base "is_word" 6 ["rule", "thing"] [] sp_is_word := by
  refine F.ok sc_is_word (fun _ => rfl) (fun _ _ _ _ _ _ us hl => match us, hl with | [_, _], _ => rfl) fun f cdv A outer s H Ex' hr => ?_
  refine ⟨_, pss_one (ps_ret (pe_and (pe_cb c_is_rule hr rfl (pa_cons (pv 0) pa_nil)) (pe_one (pe_cb c_are_indexes (hr.mono (by decide)) rfl (pa_cons (pv 1) (pa_cons (bLen K B (pv 0)) pa_nil)))))), ?_⟩
  rintro ⟨r, u⟩ vs ⟨v1, r1, rfl, h1, v2, r2, rfl, h2, e⟩ ⟨hr1, hl, hu⟩ Q k
  try dsimp only at *
  rw [show r2 = [] from e]
  refine x_ret (e_andV (a := true) (b := true) (e_call' r (a_cons (e_var rfl h1) a_nil) hr1) fun _ => e_call' (u, r.length) (a_cons (e_var rfl h2) (a_cons ((e_cb (a_cons (e_var rfl h1) a_nil) r_lenT).weak fun v H3 _ p => ?_) a_nil)) ⟨hl, hu⟩) k
  rw [List.length_map] at p
  exact p

/-! is_step -/
def sp_is_step : Sp := spF (fun (x : (Nat × Nat) × Nat) => [vD (eP x.1), vI x.2]) (fun x => x.1.1 < x.2) (fun _ => vB true)
abbrev n_is_step : List Str := ["thing", "many"]
theorem sc_is_step : FnScope n_is_step ["thing", "many"] (defScope st_is_step) := ⟨rfl, rfl, rfl, by decide +kernel, rfl, by decide +kernel, by decide +kernel⟩
theorem ok_is_step (F : Df K mg "is_step" st_is_step []) (B : Bi mg) (c_is_tuple_of : Cb P w K mg base "is_tuple_of" 1 ["thing", "many"] [] sp_is_tuple_of) (c_is_index : Cb P w K mg base "is_index" 3 ["thing", "many"] [] sp_is_index) (c_is_number : Cb P w K mg base "is_number" 2 ["thing"] [] sp_is_number) : Cb P w K mg base "is_step" 4 ["thing", "many"] [] sp_is_step := by
  refine F.ok sc_is_step (fun _ => rfl) (fun _ _ _ _ _ _ us hl => match us, hl with | [_, _], _ => rfl) fun f cdv A outer s H Ex' hr => ?_
  refine ⟨_, pss_one (ps_ret (pe_and (pe_cb c_is_tuple_of (hr.mono (by decide)) rfl (pa_cons (pv 0) (pa_cons (pe_int) pa_nil))) (pe_and (pe_cb c_is_index hr rfl (pa_cons (ixT K (pv 0) pe_int) (pa_cons (pv 1) pa_nil))) (pe_one (pe_cb c_is_number (hr.mono (by decide)) rfl (pa_cons (ixT K (pv 0) pe_int) pa_nil)))))), ?_⟩
  rintro ⟨⟨a, b⟩, n⟩ vs ⟨v1, r1, rfl, h1, v2, r2, rfl, h2, e⟩ hlt Q k
  try dsimp only at *
  rw [show r2 = [] from e]
  refine x_ret (e_andV (a := true) (b := true) (e_call' ([eN a, eN b], 2) (a_cons (e_var rfl h1) (a_cons e_c a_nil)) rfl) fun _ => e_andV (a := true) (b := true)
    (e_call' ((a : Int), (n : Int)) (a_cons (e_n (e_op (e_var rfl h1) e_c (o_ixT (atI_pair0 (a, b))))) (a_cons (e_var rfl h2) a_nil)) ⟨by dsimp only; omega, by dsimp only; omega⟩) fun _ =>
    e_call' (b : Int) (a_cons (e_n (e_op (e_var rfl h1) e_c (o_ixT (atI_pair1 (a, b))))) a_nil) (by omega)) k

theorem t_b' {te : TE} {σ : L2.St} {H : Hp} {b : Bool} (h : E te σ H (vB b)) : EvT (tB te) σ H b := t_b h
theorem e_not_t {te : TE} {σ : L2.St} {H : Hp} (h : E te σ H (vB true)) : EvT (tNot (tB te)) σ H false := t_not (b := true) (t_b h)
theorem atI_zero {ds : List Dv} {d : Dv} (h : ds[0]? = some d) : atI ds 0 = some d := atI_nat (j := 0) h
theorem mach_row {M : Mach} {n : Nat} (g : GM n M) : M ≠ [] ∧ ∀ row ∈ M, row.length = n ∧ ∀ a, a < n → (row.getD a (0, 0)).1 < M.length := by
  refine ⟨fun z => (by have := g.pos; rw [z] at this; cases this), fun row hrow => ?_⟩
  obtain ⟨s, hs, e⟩ := List.mem_iff_getElem.1 hrow
  have e2 : M.getD s [] = row := by rw [List.getD_eq_getElem?_getD, List.getElem?_eq_getElem hs, Option.getD_some, e]
  have h1 := g.row s hs
  rw [e2] at h1
  refine ⟨h1, fun a ha => ?_⟩
  have := g.lt s hs a ha
  unfold nx at this
  rw [e2] at this
  exact this

/-! is_machine -/
def sp_is_machine : Sp := spF (fun (x : Mach × Nat) => [vD (eM x.1)]) (fun x => (fun (M : Mach) (n : Nat) => M.length ≤ 1000 ∧ n ≤ 1000 ∧ 0 < n ∧ GM n M) x.1 x.2) (fun _ => vB true)
abbrev n_is_machine : List Str := ["thing", "one", "pair"]
theorem sc_is_machine : FnScope n_is_machine ["thing"] (defScope st_is_machine) := ⟨rfl, rfl, rfl, by decide +kernel, rfl, by decide +kernel, by decide +kernel⟩
theorem ok_is_machine (F : Df K mg "is_machine" st_is_machine []) (B : Bi mg) (c_is_full_tuple : Cb P w K mg base "is_full_tuple" 1 ["thing"] [] sp_is_full_tuple) (c_is_tuple_of : Cb P w K mg base "is_tuple_of" 1 ["thing", "many"] [] sp_is_tuple_of) (c_is_step : Cb P w K mg base "is_step" 4 ["thing", "many"] [] sp_is_step) : Cb P w K mg base "is_machine" 5 ["thing"] [] sp_is_machine := by
  refine F.ok sc_is_machine (fun _ => rfl) (fun _ _ _ _ _ _ us hl => match us, hl with | [_], _ => rfl) fun f cdv A outer s H Ex' hr => ?_
  refine ⟨_, pss_cons (ps_if (PW.pt (pw_or (pt_not (pt_val (pe_cb c_is_full_tuple (hr.mono (by decide)) rfl (pa_cons (pv 0) pa_nil)))) (pw_or1 (pt_not (pt_val (pe_cb c_is_full_tuple (hr.mono (by decide)) rfl (pa_cons (ixT K (pv 0) pe_int) pa_nil))))))) (pss_one (ps_ret pe_bl)) pss_nil)
    (pss_cons (ps_if (pt_not (pt_val (bAll K B (pe_lc (own := [("one", 1)]) (g := gName 1) (tt := tYes) rfl sc_is_machine.nd (itT K (pv 0)) (blkOk_by (N := n_is_machine) (sc := defScope st_is_machine) (by decide +kernel)) (fun _ _ _ _ _ => pg_name (i := 1) sc_is_machine.nd rfl (Or.inl rfl)) (fun _ _ _ _ _ => pts_nil) (fun _ _ _ _ _ => pe_cb c_is_tuple_of (hr.mono (by decide)) rfl (pa_cons (pv 1) (pa_cons (bLen K B (ixT K (pv 0) pe_int)) pa_nil))))))) (pss_one (ps_ret pe_bl)) pss_nil)
    (pss_one (ps_ret (bAll K B (pe_lc2 (own := [("one", 1), ("pair", 2)]) (vs1 := [2]) (g := gName 1) (g1 := gName 2) (tt := tYes) (tt1 := tYes) rfl sc_is_machine.nd (itT K (pv 0)) (blkOk_by (N := n_is_machine) (sc := defScope st_is_machine) (by decide +kernel)) (by decide) (fun _ _ _ _ _ => pg_name (i := 1) sc_is_machine.nd rfl (Or.inl rfl)) (fun _ _ _ _ _ => pts_nil) (fun _ _ _ _ _ => itT K (pv 1)) (fun _ _ _ _ _ => pg_name (i := 2) sc_is_machine.nd rfl (Or.inl rfl)) (fun _ _ _ _ _ => pts_nil) (fun _ _ _ _ _ => pe_cb c_is_step (hr.mono (by decide)) rfl (pa_cons (pv 2) (pa_cons (bLen K B (pv 0)) pa_nil)))))))), ?_⟩
  rintro ⟨M, n⟩ vs ⟨v1, r1, rfl, h1, e⟩ ⟨hl, hn, hn0, gm⟩ Q k
  try dsimp only at *
  rw [show r1 = [] from e]
  obtain ⟨m1, m2⟩ := mach_row gm
  obtain ⟨row0, M', hM⟩ : ∃ row0 M', M = row0 :: M' := by
    cases M with
    | nil => exact absurd rfl m1
    | cons a b => exact ⟨a, b, rfl⟩
  have h0 : ∀ H1, Ex H H1 → E (tOp (rIxT K) (tVar 0) (tC (.int 0))) [some v1, none, none] H1 (vD (.t (row0.map eP))) := fun H1 e1 =>
    e_op (e_var rfl ((vD _).mono e1 h1)) e_c (o_ixT (atI_zero (by rw [hM]; rfl)))
  have h0' : ∀ H1 x y, Ex H H1 → E (tOp (rIxT K) (tVar 0) (tC (.int 0))) [some v1, x, y] H1 (vD (.t (row0.map eP))) := fun H1 x y e1 =>
    e_op (e_var rfl ((vD _).mono e1 h1)) e_c (o_ixT (atI_zero (by rw [hM]; rfl)))
  have hr0 : row0.length = n := (m2 row0 (by rw [hM]; exact List.mem_cons_self)).1
  have hne0 : row0.map eP ≠ [] := fun z => by
    have := List.map_eq_nil_iff.1 z
    rw [this] at hr0
    simp at hr0
    omega
  refine x_if (b := false) (t_or (a := false) (b := false) (e_not_t (e_call' (M.map fun (row : List (Nat × Nat)) => Dv.t (row.map eP)) (a_cons (e_var rfl h1) a_nil) (fun z => m1 (List.map_eq_nil_iff.1 z)))) fun _ => e_not_t (e_call' (row0.map eP) (a_cons (h0 H (Ex.refl H)) a_nil) hne0)) (fun z => by cases z) fun _ H1 e1 => ?_
  refine x_if (b := false) (e_not_t (e_cb (a_cons (EN.e (en_lc1 (vs := [1]) M _ (fun _ => vB true) (src0_tupE M _ (e_var rfl ((vD _).mono e1 h1))).t.src (by omega) (fun _ _ => st_v _) (fun v => rfl) ?_)) a_nil) (r_allT M))) (fun z => by cases z) fun _ H2 e2 => ?_
  · intro row hrow v H2 e2 p
    exact e_call' (row.map eP, n) (a_cons (e_var rfl p) (a_cons ((e_cb (a_cons (h0' _ _ _ (e1.trans e2)) a_nil) r_lenT).weak fun v H3 _ p => (by
      rw [List.length_map, hr0] at p
      exact p)) a_nil)) (by dsimp only; rw [List.length_map]; exact (m2 row hrow).1)
  · have hfm : (M.flatMap fun row : List (Nat × Nat) => row).length ≤ 10000000 := by
      rw [len_flatMap_const (fun row => row) n M (fun row hrow => (m2 row hrow).1)]
      have : M.length * n ≤ 1000 * 1000 := Nat.mul_le_mul hl hn
      omega
    have e12 := e1.trans e2
    refine x_ret (e_cb (a_cons (EN.e (en_lc2 (vs := [1, 2]) (vs1 := [2]) M _ (fun row => row) (fun _ pr => vD (eP pr)) (fun _ _ => vB true) (src0_tupE M _ (e_var rfl ((vD _).mono e12 h1))).t.src hfm (fun _ _ _ _ => st_v _) ?_)) a_nil) (by
      have := r_allT (K := K) (M.flatMap fun row => row)
      have e3 : ((M.flatMap fun row => row).map fun _ => vB true) = M.flatMap fun row => row.map fun _ => vB true := by rw [List.map_flatMap]
      rw [e3] at this
      exact this)) fun v H3 e3 p => k v H3 (e12.trans e3) p
    intro row hrow v H3 e3 p Q1 hQ
    refine hQ _ rfl (src0_tupE row eP (e_var rfl p)).t ?_
    intro pr hpr u H4 e4 pu Q2 hQ2
    refine hQ2 _ rfl ?_
    obtain ⟨a, ha, ea⟩ := List.mem_iff_getElem.1 hpr
    have hrr := m2 row hrow
    have hlt := hrr.2 a (by rw [← hrr.1]; exact ha)
    rw [List.getD_eq_getElem?_getD, List.getElem?_eq_getElem ha, Option.getD_some, ea] at hlt
    exact e_call' (pr, M.length) (a_cons (e_var rfl pu) (a_cons ((e_cb (a_cons (e_var rfl ((vD _).mono (e12.trans e4.1) h1)) a_nil) r_lenT).weak fun v H5 _ p => (by
      rw [List.length_map] at p
      exact p)) a_nil)) hlt

end
end K37
set_option Elab.async false
set_option linter.all false
set_option maxRecDepth 100000
set_option maxHeartbeats 2000000
/-! W4: want and its kin. -/
namespace K37
open PySem L2 Evl
section
variable {P : Program} {w : World} {K : PySem.W.Frag} {mg : Str → Option Value} {base : Heap}

/-! want -/
def sp_want : Sp := spF (fun (x : Str) => [vB true, vV (.str x), vI (-1)]) (fun _ => True) (fun _ => vV .non)
abbrev n_want : List Str := ["holds", "word", "at"]
theorem sc_want : FnScope n_want ["holds", "word", "at"] (defScope st_want) := ⟨rfl, rfl, rfl, by decide +kernel, rfl, by decide +kernel, by decide +kernel⟩
theorem ok_want (F : Df K mg "want" st_want [.int (-1)]) (B : Bi mg) : Cb P w K mg base "want" 1 ["holds", "word", "at"] [.int (-1)] sp_want := by
  refine F.okD 2 sc_want (fun _ => rfl) rfl (fun _ _ _ _ _ _ _ us its h1 h2 => match us, its, h1, h2 with | [_, _], [_], _, _ => ⟨_, rfl, rfl⟩) fun f cdv A outer s H Ex' hr => ?_
  refine ⟨_, pss_one (ps_if (pt_not (pt_val (pv 0))) (pss_one ps_never) pss_nil), ?_⟩
  rintro x vs ⟨v1, r1, rfl, h1, v2, r2, rfl, h2, v3, r3, rfl, h3, e⟩ _ Q k
  rw [show r3 = [] from e]
  refine x_if (b := false) (e_not_t (e_var rfl h1)) (fun z => by cases z) fun _ H1 e1 => ?_
  exact k _ H1 e1 rfl

end
end K37
set_option Elab.async false
set_option linter.all false
set_option maxRecDepth 100000
set_option maxHeartbeats 1000000
/-! E10: dicts of numbers, all True, that are never written: locked when made. -/
namespace K37
open PySem L2 Evl
def kvT (us : List Nat) : List (Key × V) := us.map fun (n : Nat) => (.inl (n : Int), .bl true)
def vKs (us : List Nat) : VP := ⟨fun x H => ∃ d ob, x = .ref d ∧ H d = some (.frz ob (.dK (kvT us))), fun e ⟨d, ob, h1, h2⟩ => ⟨d, ob, h1, e _ _ h2⟩⟩
theorem st_ks (us : List Nat) : St' (vKs us) := fun _ _ _ t ⟨d, ob, h1, h2⟩ => ⟨d, ob, h1, t.frz h2⟩
theorem st_t {Ps : List VP} (h : ∀ P ∈ Ps, St' P) : St' (vT Ps) := fun _ _ _ t ⟨a, vs, h1, h2, h3⟩ => ⟨a, vs, h1, t.tup h2, allP_tx t h h3⟩
/-- first appearances -/
def dd : List Nat → List Nat → List Nat
  | acc, [] => acc
  | acc, x :: xs => dd (if x ∈ acc then acc else acc ++ [x]) xs
theorem mem_dd {y : Nat} : ∀ {xs acc : List Nat}, y ∈ dd acc xs ↔ y ∈ acc ∨ y ∈ xs
  | [], acc => by simp [dd]
  | x :: xs, acc => by
    rw [dd, mem_dd]
    by_cases h : x ∈ acc
    · rw [if_pos h, List.mem_cons]
      constructor
      · rintro (z | z)
        · exact .inl z
        · exact .inr (.inr z)
      · rintro (z | z | z)
        · exact .inl z
        · rw [z]; exact .inl h
        · exact .inr z
    · rw [if_neg h, List.mem_append, List.mem_singleton, List.mem_cons, or_assoc]
theorem dd_nodup : ∀ {xs acc : List Nat}, acc.Nodup → (dd acc xs).Nodup
  | [], _, h => h
  | x :: xs, acc, h => by
    rw [dd]
    by_cases c : x ∈ acc
    · rw [if_pos c]; exact dd_nodup h
    · rw [if_neg c]; exact dd_nodup (nd_snoc h c)
theorem merge_dd : ∀ (xs acc : List Nat), mergeK (kvT acc) (kvT xs) = kvT (dd acc xs)
  | [], _ => rfl
  | x :: xs, acc => by
    have ih := merge_dd xs (if x ∈ acc then acc else acc ++ [x])
    rw [dd, ← ih]
    show mergeK (putK (kvT acc) (.inl (x : Int)) (.bl true)) (kvT xs) = _
    congr 1
    unfold putK
    have hany : ((kvT acc).any fun kv => decide (kv.1 = Sum.inl (x : Int))) = true ↔ x ∈ acc := by
      unfold kvT
      rw [List.any_map, List.any_eq_true]
      constructor
      · rintro ⟨y, hy, e⟩
        have e2 : (Sum.inl (y : Int) : Key) = Sum.inl (x : Int) := of_decide_eq_true e
        injection e2 with e2
        have : y = x := by omega
        rw [← this]; exact hy
      · intro h
        exact ⟨x, h, by simp⟩
    by_cases c : x ∈ acc
    · rw [if_pos (hany.2 c), if_pos c]
      unfold kvT
      rw [List.map_map]
      refine List.map_congr_left fun y _ => ?_
      show (if (Sum.inl (y : Int) : Key) = Sum.inl (x : Int) then ((Sum.inl (y : Int) : Key), V.bl true) else (Sum.inl (y : Int), V.bl true)) = _
      split <;> rfl
    · rw [if_neg (fun z => c (hany.1 z)), if_neg c]
      unfold kvT
      rw [List.map_append]
      rfl
/-- what is made is locked at once -/
def tFrz (t : TE) : TE := fun σ H Q => t σ H fun v H1 => ∃ d u, v = .ref d ∧ H1 d = some u ∧ Mut (some u) ∧ ∀ od, Q v (upd H1 d (.frz od u))
theorem pe_frz {X : Cx} {e : Expr} {t : TE} (h : PE X e t) : PE X e (tFrz t) := by
  refine ⟨fun pins s σ H Q I hw => ?_⟩
  refine thn (h.run pins s σ _ _ I hw) fun v s1 ⟨x, H1, I1, r, d, u, ex, hd, mu, q⟩ => ?_
  obtain ⟨od, I2⟩ := I1.lock hd mu
  exact ⟨x, _, I2, r, q od⟩
def rDictP (K : PySem.W.Frag) : List V → Hp → VK → Prop := fun xs H Q => ∃ (a : Addr) (ps : List Addr) (kvs : List (Key × V)), xs = [.ref a] ∧ SqL K H a (ps.map V.ref) ∧ Paired (fun p kv => SqT K H p [kV kv.1, kv.2]) ps kvs ∧
  ∀ p, H p = none → Q (.ref p) (upd H p (.dK (mergeK [] kvs)))
def rLenRd : List V → Hp → VK → Prop := fun xs H Q => ∃ a kvs, xs = [V.ref a] ∧ Rd H a (.dK kvs) ∧ Q (.int kvs.length) H
theorem cr_lenRd {X : Cx} : CallR X (.builtin "len") rLenRd := by
  intro pins s σ H xs us Q I r h
  obtain ⟨a, kvs, rfl, ha, q⟩ := h
  obtain ⟨u, rfl, ru⟩ := vals1 r
  cases ru
  exact d_len I ha fun t s' I' => ⟨.int kvs.length, H, I', ⟨t, rfl⟩, q⟩
section
variable {K : PySem.W.Frag} {σ : L2.St} {H : Hp} {ta tk tv : TE}
/-- {k: True} -/
theorem e_disp1 {n : Nat} (hk : E tk σ H (vI n)) (hv : E tv σ H (vB true)) : E (tFrz (tDisp [(tk, tv)])) σ H (vKs [n]) := fun H1 e Q q => fun p hp =>
  hk _ (e.trans (Ex.new hp)) _ fun x H2 e2 p2 => hv _ ((e.trans (Ex.new hp)).trans e2) _ fun y H3 e3 p3 => by
    have h3 : H3 p = some (.dK []) := e3 _ _ (e2 _ _ upd_same)
    refine ⟨h3, [(.inl (n : Int), .bl true)], by rw [show x = .int n from p2, show y = .bl true from p3]; rfl, Nat.succ_le_succ (Nat.zero_le 14), p, _, rfl, upd_same, trivial, fun od => ?_⟩
    exact q _ _ (Ex.mut (Ex.mut (((Ex.new hp).trans e2).trans e3) hp) hp) ⟨p, od, rfl, upd_same⟩
/-- dict([(n, True) ..]) -/
theorem e_dictT {xs : List Nat} (h : E ta σ H (vL (xs.map fun (n : Nat) => vT [vI n, vB true]))) : E (tFrz (tCB (rDictP K) (tCons ta tNil))) σ H (vKs (dd [] xs)) := fun H1 e Q q => h H1 e _ fun v H2 e2 ⟨a, vs, h1, h2, h3⟩ => by
  have key : ∀ {xs : List Nat} {vs : List V}, AllP (xs.map fun (n : Nat) => vT [vI n, vB true]) vs H2 → ∃ ps : List Addr, vs = ps.map V.ref ∧ Paired (fun p kv => SqT K H2 p [kV kv.1, kv.2]) ps (kvT xs) := by
    intro xs
    induction xs with
    | nil => intro vs h; exact ⟨[], h, .nil⟩
    | cons n xs ih =>
      rintro vs ⟨v, r, ev, ⟨b, us, b1, b2, u1, r1, c1, c2, u2, r2, c3, c4, c5⟩, hr⟩
      obtain ⟨ps, p1, p2⟩ := ih hr
      refine ⟨b :: ps, by rw [ev, b1, p1]; rfl, .cons ?_ p2⟩
      rw [c1, c3, show r2 = [] from c5, show u1 = .int n from c2, show u2 = .bl true from c4] at b2
      exact st_of b2
  obtain ⟨ps, p1, p2⟩ := key h3
  refine ⟨a, ps, kvT xs, by rw [h1], by rw [← p1]; exact sq_of h2, p2, fun p hp => ⟨p, _, rfl, upd_same, trivial, fun od => ?_⟩⟩
  refine q _ _ (Ex.mut (Ex.mut e2 (fresh_back e2 hp)) (fresh_back e2 hp)) ⟨p, od, rfl, ?_⟩
  rw [upd_same, ← merge_dd]
  rfl
theorem src0_keys {us : List Nat} (h : E ta σ H (vKs us)) : Src0 (iKeys ta) σ H (us.map fun (n : Nat) => vI n) := fun H1 e Rr q => h H1 e _ fun v H2 e2 ⟨d, ob, h1, h2⟩ => by
  refine ⟨d, ob, h1, .inl ⟨kvT us, h2, ?_⟩⟩
  refine q _ H2 (fun H' => H' d = some (.frz ob (.dK (kvT us)))) e2 (fun H' _ tx => tx.frz h2) ?_
  have hl : (us.map fun (n : Nat) => vI n).length = (kvT us).length := by unfold kvT; rw [List.length_map, List.length_map]
  rw [hl]
  refine walk_keys.mono (fun _ g => g) fun i Ha x Hb hi g y => ?_
  obtain ⟨y1, k, w, y2, y3⟩ := y
  unfold kvT at y2
  rw [List.getElem?_map] at y2
  obtain ⟨n, hn, en⟩ := Option.map_eq_some_iff.1 y2
  injection en with en1 en2
  refine ⟨y1, vI n, by rw [List.getElem?_map, hn]; rfl, ?_⟩
  show x = .int n
  rw [y3, ← en1]
  rfl
theorem r_lenKs {us : List Nat} : R rLenRd [vKs us] (vI us.length) := fun vs H h Q q => by
  obtain ⟨v, r, e, ⟨d, ob, h1, h2⟩, h3⟩ := h
  rw [show r = [] from h3] at e
  refine ⟨d, _, by rw [e, h1], .inr ⟨ob, h2⟩, q _ H (Ex.refl H) ?_⟩
  unfold kvT
  rw [List.length_map]
  rfl
theorem o_notN {i : Int} : O rNotN (vI i) (vV .non) (vB true) := o_val fun _ _ q => ⟨rfl, q⟩
theorem o_isN_non : O rIsN (vV .non) (vV .non) (vB true) := o_val fun _ _ q => ⟨rfl, q⟩
end
section
variable (K : PySem.W.Frag) {mg : Str → Option Value} {X : Cx} {a k v : Expr} {ta tk tv : TE} {pos p : Pos}
theorem bDisp1 (hk : PE X k tk) (hv : PE X v tv) : PE X (.Dict [some k] [v] pos) (tFrz (tDisp [(tk, tv)])) := pe_frz (pe_disp (pps_cons hk hv pps_nil) rfl rfl (by simp) (by simp))
theorem bDictP (B : Bi mg) (ha : PE X a ta) (hK : X.K = K := by rfl) (hc : X.calm = true := by rfl) (hM : X.mg = mg := by rfl) (hg : Gl X "dict" := by rfl) (he : starEach [a] X.env = (false, eval a X.env) :: starEach [] X.env := by rfl) (hpl : (backTo pos (starEach [] X.env)).any (·.1) = false := by rfl) :
    PE X (.Call (.Name "dict" p) [a] [] pos) (tFrz (tCB (rDictP K) (tCons ta tNil))) := by
  subst hK hM
  exact pe_frz (pe_callTy (call_dictP hc) hg B.g PyProof.Rows.boot_dict (pa_cons ha pa_nil he) (he := he) (hpl := hpl))
theorem bLenRd (B : Bi mg) (ha : PE X a ta) (hM : X.mg = mg := by rfl) (hg : Gl X "len" := by rfl) (he : starEach [a] X.env = (false, eval a X.env) :: starEach [] X.env := by rfl) (hpl : (backTo pos (starEach [] X.env)).any (·.1) = false := by rfl) :
    PE X (.Call (.Name "len" p) [a] [] pos) (tCB rLenRd (tCons ta tNil)) := by
  subst hM
  exact pe_callB cr_lenRd hg B.g PySem.boot_len (pa_cons ha pa_nil he) (he := he) (hpl := hpl)
end
end K37
set_option Elab.async false
set_option linter.all false
set_option maxRecDepth 100000
set_option maxHeartbeats 2000000
/-! W7: growth, want_world. -/
namespace K37
open PySem L2 Evl
section
variable {P : Program} {w : World} {K : PySem.W.Frag} {mg : Str → Option Value} {base : Heap}

/-- the letters reached, by level, in the order of the program -/
def gs (r : List (List Nat)) : Nat → Nat → List Nat
  | 0, a => [a]
  | k + 1, a => dd [] ((r.getD a []).flatMap (gs r k))
theorem mem_gs {r : List (List Nat)} {b : Nat} : ∀ (k a : Nat), b ∈ gs r k a ↔ b ∈ blk r k a
  | 0, a => by rw [gs, blk_zero]
  | k + 1, a => by
    rw [gs, mem_dd, blk_succ, List.mem_flatMap, List.mem_flatMap]
    constructor
    · rintro (h | ⟨c, h1, h2⟩)
      · cases h
      · exact ⟨c, h1, (mem_gs k c).1 h2⟩
    · rintro ⟨c, h1, h2⟩
      exact .inr ⟨c, h1, (mem_gs k c).2 h2⟩
theorem gs_nodup {r : List (List Nat)} : ∀ (k a : Nat), (gs r k a).Nodup
  | 0, a => by rw [gs]; simp
  | k + 1, a => by rw [gs]; exact dd_nodup List.nodup_nil
theorem gs_le {r : List (List Nat)} {N : Nat} (g : GR r N) (k : Nat) {a : Nat} (ha : a < r.length) : (gs r k a).length ≤ r.length := by
  have := List.Nodup.length_le_of_subset (l₂ := List.range r.length) (gs_nodup (r := r) k a) fun b hb => List.mem_range.2 (blk_lt g k ha b ((mem_gs k a).1 hb))
  rwa [List.length_range] at this
theorem gs_full {r : List (List Nat)} {N : Nat} (g : GR r N) (k : Nat) {a : Nat} (ha : a < r.length) : (gs r k a).length = r.length ↔ ∀ b, b < r.length → b ∈ blk r k a := by
  constructor
  · intro h b hb
    exact (mem_gs k a).1 (sub_eq_of_len (m := List.range r.length) (gs_nodup k a) (fun c hc => List.mem_range.2 (blk_lt g k ha c ((mem_gs k a).1 hc))) (by rw [List.length_range, h]; exact Nat.le_refl _) (List.mem_range.2 hb))
  · intro h
    have h1 := gs_le g k ha
    have h2 := List.Nodup.length_le_of_subset (l₂ := gs r k a) (List.nodup_range (n := r.length)) fun b hb => (mem_gs k a).2 (h b (List.mem_range.1 hb))
    rw [List.length_range] at h2
    omega
theorem cmul4 {i j : Nat} (hi : i ≤ 4) (hj : j ≤ 4) : CMul (i : Int) (j : Int) := .inl (by omega)
theorem most_nat (l : List Nat) (h : l ≠ []) : ∃ m ∈ l, ∀ y ∈ l, y ≤ m := by
  induction l with
  | nil => exact absurd rfl h
  | cons x l ih =>
    by_cases c : l = []
    · exact ⟨x, List.mem_cons_self, fun y hy => by rw [c] at hy; simp at hy; omega⟩
    · obtain ⟨m, hm, hl⟩ := ih c
      rcases Nat.lt_or_ge x m with z | z
      · refine ⟨m, List.mem_cons_of_mem _ hm, fun y hy => ?_⟩
        rcases List.mem_cons.1 hy with e | e
        · omega
        · exact hl y e
      · refine ⟨x, List.mem_cons_self, fun y hy => ?_⟩
        rcases List.mem_cons.1 hy with e | e
        · omega
        · exact Nat.le_trans (hl y e) z
theorem range_getD {α : Type} (r : List (List Nat)) (f : List Nat → α) (g : Nat → α) (h : ∀ a, a < r.length → g a = f (r.getD a [])) : (List.range r.length).map g = r.map f := by
  refine List.ext_getElem? fun i => ?_
  rw [List.getElem?_map, List.getElem?_map]
  by_cases hi : i < r.length
  · rw [List.getElem?_range hi, List.getElem?_eq_getElem hi]
    show some (g i) = some (f r[i])
    rw [h i hi, List.getD_eq_getElem?_getD, List.getElem?_eq_getElem hi]
    rfl
  · rw [List.getElem?_eq_none (by simpa using Nat.le_of_not_lt hi), List.getElem?_eq_none (Nat.le_of_not_lt hi)]
    rfl
theorem range_split {m : Nat} {pre post : List Nat} {x : Nat} (h : List.range m = pre ++ x :: post) : x = pre.length ∧ pre.length < m := by
  have h1 : (List.range m)[pre.length]? = some x := by rw [h]; simp
  have h2 := (List.getElem?_eq_some_iff.1 h1).1
  rw [List.length_range] at h2
  rw [List.getElem?_range h2] at h1
  injection h1 with h1
  exact ⟨h1.symm, h2⟩

/-! growth_by -/
def sp_growth_by : Sp := spF (fun (r : List (List Nat)) => [vD (eR r)]) Good (fun _ => vEx (fun (_ : Nat) => True) fun n => vI n)
abbrev n_growth_by : List Str := ["rule", "many", "sets", "level", "letter", "late", "block", "one"]
theorem sc_growth_by : FnScope n_growth_by ["rule"] (defScope st_growth_by) := ⟨rfl, rfl, rfl, by decide +kernel, rfl, by decide +kernel, by decide +kernel⟩
theorem ok_growth_by (F : Df K mg "growth_by" st_growth_by []) (B : Bi mg) : Cb P w K mg base "growth_by" 1 ["rule"] [] sp_growth_by := by
  refine F.ok sc_growth_by (fun _ => rfl) (fun _ _ _ _ _ _ us hl => match us, hl with | [_], _ => rfl) fun f cdv A outer s H Ex' hr => ?_
  refine ⟨_, pss_cons (ps_if (pt_cmpR op_lt (bMax K B (pe_lc (own := [("block", 6)]) (g := gName 6) (tt := tYes) rfl sc_growth_by.nd (itT K (pv 0)) (blkOk_by (N := n_growth_by) (sc := defScope st_growth_by) (by decide +kernel)) (fun _ _ _ _ _ => pg_name (i := 6) sc_growth_by.nd rfl (Or.inl rfl)) (fun _ _ _ _ _ => pts_nil) (fun _ _ _ _ _ => bLen K B (pv 6)))) pe_int (by rfl)) (pss_one (ps_ret pe_non)) pss_nil)
    (pss_cons (ps_set (i := 1) sc_growth_by.nd rfl (Or.inl rfl) (bLen K B (pv 0)))
    (pss_cons (ps_set (i := 2) sc_growth_by.nd rfl (Or.inr rfl) (pe_lc (own := [("letter", 4)]) (g := gName 4) (tt := tYes) rfl sc_growth_by.nd (itRg B (pv 1)) (blkOk_by (N := n_growth_by) (sc := defScope st_growth_by) (by decide +kernel)) (fun _ _ _ _ _ => pg_name (i := 4) sc_growth_by.nd rfl (Or.inl rfl)) (fun _ _ _ _ _ => pts_nil) (fun _ _ _ _ _ => bDisp1 (pv 4) pe_bl)))
    (pss_cons (ps_for PassesOwn.never rfl (itRg B (pe_op op_add (pe_op op_mul (pv 1) (pv 1)) pe_int)) (pg_name (i := 3) sc_growth_by.nd rfl (Or.inl rfl)) (pss_cons (ps_if (pt_cmpR op_eq (bMin K B (pe_lc (own := [("one", 7)]) (g := gName 7) (tt := tYes) rfl sc_growth_by.nd (itL K (pv 2)) (blkOk_by (N := n_growth_by) (sc := defScope st_growth_by) (by decide +kernel)) (fun _ _ _ _ _ => pg_name (i := 7) sc_growth_by.nd rfl (Or.inl rfl)) (fun _ _ _ _ _ => pts_nil) (fun _ _ _ _ _ => bLenRd B (pv 7)))) (pv 1) (by rfl)) (pss_one (ps_ret (pv 3))) pss_nil)
    (pss_one (ps_set (i := 2) sc_growth_by.nd rfl (Or.inr rfl) (pe_lc (own := [("block", 6)]) (g := gName 6) (tt := tYes) rfl sc_growth_by.nd (itT K (pv 0)) (blkOk_by (N := n_growth_by) (sc := defScope st_growth_by) (by decide +kernel)) (fun _ _ _ _ _ => pg_name (i := 6) sc_growth_by.nd rfl (Or.inl rfl)) (fun _ _ _ _ _ => pts_nil) (fun _ _ _ _ _ => bDictP K B (pe_lc2 (own := [("letter", 4), ("late", 5)]) (vs1 := [5]) (g := gName 4) (g1 := gName 5) (tt := tYes) (tt1 := tYes) rfl sc_growth_by.nd (itT K (pv 6)) (blkOk_by (N := n_growth_by) (sc := { kind := .function, names := [(".0", .local), ("block", .local), ("dict", .globalImplicit), ("sets", .cell)], isGenerator := false, isCoroutine := false }) (by decide +kernel)) (by decide) (fun _ _ _ _ _ => pg_name (i := 4) sc_growth_by.nd rfl (Or.inl rfl)) (fun _ _ _ _ _ => pts_nil) (fun _ _ _ _ _ => pi_keys (ixL K (pv 2) (pv 4))) (fun _ _ _ _ _ => pg_name (i := 5) sc_growth_by.nd rfl (Or.inl rfl)) (fun _ _ _ _ _ => pts_nil) (fun _ _ _ _ _ => pe_tup (pa_cons (pv 5) (pa_cons pe_bl pa_nil))))))))))
    (pss_one (ps_ret pe_non))))), ?_⟩
  rintro r vs ⟨v1, r1, rfl, h1, e⟩ g Q k
  try dsimp only at *
  rw [show r1 = [] from e]
  have h4 := g.four
  have h0 := g.gr.pos
  obtain ⟨c, hc, hc2⟩ := g.gr.long
  obtain ⟨M, hM, hMle⟩ := most_nat (r.map List.length) (fun z => by rw [List.map_eq_nil_iff.1 z] at h0; cases h0)
  have hM2 : 2 ≤ M := Nat.le_trans hc2 (hMle _ (List.mem_map.2 ⟨_, getD_mem hc, rfl⟩))
  refine x_if (b := false) (t_test (e_op (e_cb (a_cons (EN.e (en_lc1 (vs := [6]) r _ (fun b => vI (b.length : Nat)) (src0_tupE r eW (e_var rfl h1)).t.src (by omega) (fun _ _ => st_v _) (fun v => rfl) ?_)) a_nil) (by
    rw [show (r.map fun b => vI (b.length : Nat)) = (r.map fun b => (b.length : Int)).map vI by rw [List.map_map]; rfl]
    refine r_max (m := (M : Int)) (fun z => by rw [List.map_eq_nil_iff.1 z] at h0; cases h0) ?_ fun y hy => ?_
    · obtain ⟨b, hb, eb⟩ := List.mem_map.1 hM
      exact List.mem_map.2 ⟨b, hb, by rw [← eb]⟩
    · obtain ⟨b, hb, eb⟩ := List.mem_map.1 hy
      have := hMle _ (List.mem_map.2 ⟨b, hb, rfl⟩)
      omega)) e_c (o_cmp (by show V.bl _ = V.bl _; simp; omega)))) (fun z => by cases z) fun _ H1 e1 => ?_
  · intro b hb v H2 e2 p
    refine (e_cb (a_cons (e_var rfl p) a_nil) r_lenT).weak fun v H3 _ p => ?_
    rw [List.length_map] at p
    exact p
  refine x_asg ((e_cb (a_cons (e_var rfl ((vD _).mono e1 h1)) a_nil) r_lenT).weak fun v H2 _ p => (show (vI (r.length : Nat)).p v H2 by
    rw [List.length_map] at p
    exact p)) fun v2 H2 e2 p2 => ?_
  refine x_asg (P := vL ((List.range r.length).map fun a => vKs (gs r 0 a))) (EN.e (en_lc1 (vs := [4]) (List.range r.length) _ (fun a => vKs (gs r 0 a)) (src0_range (a_cons (e_var rfl p2) a_nil) (by omega)).t.src (by rw [List.length_range]; omega) (fun _ _ => st_ks _) (fun v => rfl) ?_)) fun v3 H3 e3 p3 => ?_
  · intro a ha v H4 e4 p
    exact e_disp1 (e_var rfl p) e_c
  have e13 := (e1.trans e2).trans e3
  refine x_forN (List.range (r.length * r.length + 1)) (fun i => vI (i : Nat)) (src0_range (n := r.length * r.length + 1) (a_cons ((e_op (e_op (e_var rfl ((vI _).mono e3 p2)) (e_var rfl ((vI _).mono e3 p2)) (o_I (cmul4 h4 h4))) e_c o_I0).weak fun v H4 _ p => p) a_nil) (by
    have : r.length * r.length ≤ 4 * 4 := Nat.mul_le_mul h4 h4
    omega)) (fun pre σ' H' => ∃ u3 u4, σ' = [some v1, some v2, some u3, u4, none, none, none, none] ∧ Ex H H' ∧ (vL ((List.range r.length).map fun a => vKs (gs r pre.length a))).p u3 H' ∧ ∀ j, j < pre.length → ¬ FullAt r j) (fun H4 e4 => ⟨v3, none, rfl, e13.trans e4, (vL _).mono e4 p3, fun j h => by cases h⟩) ?_ ?_
  · rintro pre x post hx v σ' H' pv ⟨u3, u4, rfl, eH, pu, hno⟩ N hN
    obtain ⟨ex, hlt⟩ := range_split hx
    subst ex
    dsimp only
    have hne : ((List.range r.length).map fun a => (gs r pre.length a).length) ≠ [] := fun z => by
      have := List.map_eq_nil_iff.1 z
      rw [List.range_eq_nil] at this
      omega
    obtain ⟨m, hm, hle⟩ := least_nat _ hne
    have hmn : m = r.length ↔ FullAt r pre.length := by
      constructor
      · intro e a ha
        refine (gs_full g.gr _ ha).1 ?_
        have h5 := hle _ (List.mem_map.2 ⟨a, List.mem_range.2 ha, rfl⟩)
        have h6 := gs_le g.gr pre.length ha
        omega
      · intro h
        obtain ⟨a, ha, e⟩ := List.mem_map.1 hm
        rw [← e]
        exact (gs_full g.gr _ (List.mem_range.1 ha)).2 (h a (List.mem_range.1 ha))
    have p2' : (vI (r.length : Nat)).p v2 H' := p2
    have hbool : decide (V.int (m : Int) = V.int (r.length : Nat)) = true ↔ FullAt r pre.length := by
      rw [decide_eq_true_iff, ← hmn]
      constructor
      · intro e; injection e with e; omega
      · intro e; rw [e]
    refine x_if (b := decide (V.int (m : Int) = V.int (r.length : Nat))) (t_test (e_op (e_cb (a_cons (EN.e (en_lc1 (vs := [7]) (List.range r.length) _ (fun a => vI ((gs r pre.length a).length : Nat)) (src_list (e_var rfl pu)) (by rw [List.length_range]; omega) (fun _ _ => st_v _) (fun v => rfl) ?_)) a_nil) (by
      rw [show ((List.range r.length).map fun a => vI ((gs r pre.length a).length : Nat)) = ((List.range r.length).map fun a => ((gs r pre.length a).length : Int)).map vI by rw [List.map_map]; rfl]
      refine r_min (m := (m : Int)) (fun z => hne (by rw [List.map_eq_nil_iff] at z ⊢; exact z)) ?_ fun y hy => ?_
      · obtain ⟨a, ha, e⟩ := List.mem_map.1 hm
        exact List.mem_map.2 ⟨a, ha, by rw [← e]⟩
      · obtain ⟨a, ha, e⟩ := List.mem_map.1 hy
        have := hle _ (List.mem_map.2 ⟨a, ha, rfl⟩)
        omega)) (e_var rfl p2') (o_eq (by rfl)))) (fun hb H5 e5 => ?_) (fun hb H5 e5 => ?_)
    · intro a ha u H5 e5 p5
      exact e_cb (a_cons (e_var rfl p5) a_nil) r_lenKs
    · exact x_ret (e_var rfl ((vI _).mono e5 pv)) fun u H6 e6 p6 => k u H6 (eH.trans (e5.trans e6)) ⟨pre.length, trivial, p6⟩
    · have hnf : ¬ FullAt r pre.length := fun z => by rw [hbool.2 z] at hb; cases hb
      have eH5 := eH.trans e5
      unfold tNext
      dsimp only
      refine x_asg (P := vL ((List.range r.length).map fun a => vKs (gs r (pre.length + 1) a))) ?_ fun u6 H6 e6 p6 => ?_
      · rw [range_getD r (fun b => vKs (dd [] (b.flatMap (gs r pre.length)))) (fun a => vKs (gs r (pre.length + 1) a)) fun a _ => rfl]
        refine EN.e (en_lc1 (vs := [6]) r _ (fun b => vKs (dd [] (b.flatMap (gs r pre.length)))) (src0_tupE r eW (e_var rfl ((vD _).mono eH5 h1))).t.src (by omega) (fun _ _ => st_ks _) (fun v => rfl) ?_)
        intro b hb v7 H7 e7 p7
        obtain ⟨a, ha, eab⟩ := mem_getD hb
        have hbl : b.length ≤ 4 := by rw [← eab]; exact g.blk4 a ha
        have hblt : ∀ c ∈ b, c < r.length := by rw [← eab]; exact g.gr.lt a ha
        have hz : (b.flatMap (gs r pre.length)).length ≤ 16 := Nat.le_trans (len_flat_le _ 4 b fun c hc => Nat.le_trans (gs_le g.gr _ (hblt c hc)) h4) (by omega)
        have e2 : (vL ((b.flatMap (gs r pre.length)).map fun (n : Nat) => vT [vI n, vB true])) = vL (b.flatMap fun c => (gs r pre.length c).map fun (n : Nat) => vT [vI n, vB true]) := by rw [List.map_flatMap]
        refine e_dictT ?_
        rw [e2]
        refine EN.e (en_lc2 (vs := [4, 5]) (vs1 := [5]) b _ (gs r pre.length) (fun _ n => vI (n : Nat)) (fun _ (n : Nat) => vT [vI n, vB true]) (src0_tupE b eN (e_var rfl p7)).t.src (by omega) (fun _ _ _ _ => st_t fun P hP => ?_) ?_)
        · rcases List.mem_cons.1 hP with e | hP
          · rw [e]; exact st_v _
          · rw [List.mem_singleton.1 hP]; exact st_v _
        · intro c hc v8 H8 e8 p8 Q1 hQ1
          refine hQ1 _ rfl (src0_keys (e_op (e_var rfl ((vL _).mono ((e5.trans e7).trans e8) pu)) (e_n (e_var rfl p8)) (o_ixL (by
            rw [atI_P (d := 0) (by rw [List.length_range]; exact hblt c hc)]
            rw [List.getD_eq_getElem?_getD, List.getElem?_range (hblt c hc)]
            rfl)))).t ?_
          intro n hn v9 H9 e9 p9 Q2 hQ2
          exact hQ2 _ rfl (e_tup (a_cons (e_var rfl p9) (a_cons e_c a_nil)) (by simp))
      · refine hN _ _ (Ex.tx (e5.trans e6)) (Ex.nk (e5.trans e6)) ⟨u6, _, rfl, eH5.trans e6, by rw [List.length_append]; exact p6, fun j hj => ?_⟩
        rw [List.length_append, List.length_singleton] at hj
        rcases Nat.lt_or_ge j pre.length with z | z
        · exact hno j z
        · rw [show j = pre.length by omega]
          exact hnf
  · rintro σ' H' ⟨u3, u4, rfl, eH, pu, hno⟩
    rw [List.length_range] at hno
    exact absurd (fun a ha b hb => g.gr.full a ha b hb) (hno (r.length * r.length) (Nat.lt_succ_self _))

theorem e_want {σ : L2.St} {H : Hp} {ta : TA} {Ex' : XK} {x : Str} (h : A ta σ H [vB true, vV (.str x)]) : E (tCall sp_want [.int (-1)] Ex' ta) σ H (vV .non) :=
  e_callD (args := fun (x : Str) => [vB true, vV (.str x), vI (-1)]) (cond := fun _ => True) (res := fun _ => vV .non) x h rfl trivial

/-! want_growing -/
def sp_want_growing : Sp := spF (fun (r : List (List Nat)) => [vD (eR r), vV (.str "rule")]) Good (fun _ => vV .non)
abbrev n_want_growing : List Str := ["thing", "name"]
theorem sc_want_growing : FnScope n_want_growing ["thing", "name"] (defScope st_want_growing) := ⟨rfl, rfl, rfl, by decide +kernel, rfl, by decide +kernel, by decide +kernel⟩
theorem ok_want_growing (F : Df K mg "want_growing" st_want_growing [.str "rule"]) (B : Bi mg) (c_want : Cb P w K mg base "want" 1 ["holds", "word", "at"] [.int (-1)] sp_want) (c_is_rule : Cb P w K mg base "is_rule" 5 ["thing"] [] sp_is_rule) (c_growth_by : Cb P w K mg base "growth_by" 1 ["rule"] [] sp_growth_by) : Cb P w K mg base "want_growing" 6 ["thing", "name"] [.str "rule"] sp_want_growing := by
  refine F.okD 1 sc_want_growing (fun _ => rfl) rfl (fun _ _ _ _ _ _ _ us its h1 h2 => match us, its, h1, h2 with | [_], [_], _, _ => ⟨_, rfl, rfl⟩) fun f cdv A outer s H Ex' hr => ?_
  refine ⟨_, pss_one (ps_expr (pe_cb c_want (hr.mono (by decide)) rfl (pa_cons (pe_and (pe_cb c_is_rule (hr.mono (by decide)) rfl (pa_cons (pv 0) pa_nil)) (pe_one (pe_cmpR op_notN1 (pe_cb c_growth_by (hr.mono (by decide)) rfl (pa_cons (pv 0) pa_nil)) pe_non (by rfl)))) (pa_cons (pv 1) pa_nil)))), ?_⟩
  rintro r vs ⟨v1, r1, rfl, h1, v2, r2, rfl, h2, e⟩ g Q k
  try dsimp only at *
  rw [show r2 = [] from e]
  have h4 := g.four
  have h0 := g.gr.pos
  refine x_drop (e_want (x := "rule") (a_cons (e_andV (a := true) (b := true) ?_ fun _ => ?_) (a_cons (e_var rfl h2) a_nil))) fun v H1 e1 _ => k _ H1 e1 rfl
  · refine e_call' r (a_cons (e_var rfl h1) a_nil) ⟨by omega, (fun z => (by rw [z] at h0; cases h0)), fun b hb => ?_⟩
    obtain ⟨a, ha, ea⟩ := mem_getD hb
    rw [← ea]
    have := g.blk4 a ha
    exact ⟨g.gr.ne a ha, by omega, g.gr.lt a ha⟩
  · have := g
    refine fun H1 e1 Q1 q1 => e_call' (Ex' := E0) (σ := [some v1, some v2]) r (a_cons (e_var rfl h1) a_nil) g H1 e1 _ fun v H2 e2 ⟨n, _, p⟩ => ?_
    exact ⟨rfl, by rw [show v = .int n from p]; exact q1 _ _ e2 rfl⟩

/-! want_fit -/
def sp_want_fit : Sp := spF (fun (x : List (List Nat) × Mach) => [vD (eR x.1), vD (eM x.2), vV (.str "machine")]) (fun x => Good x.1 ∧ GM x.1.length x.2 ∧ x.2.length ≤ 3) (fun _ => vV .non)
abbrev n_want_fit : List Str := ["rule", "thing", "name"]
theorem sc_want_fit : FnScope n_want_fit ["rule", "thing", "name"] (defScope st_want_fit) := ⟨rfl, rfl, rfl, by decide +kernel, rfl, by decide +kernel, by decide +kernel⟩
theorem ok_want_fit (F : Df K mg "want_fit" st_want_fit [.str "machine"]) (B : Bi mg) (c_want : Cb P w K mg base "want" 1 ["holds", "word", "at"] [.int (-1)] sp_want) (c_is_machine : Cb P w K mg base "is_machine" 5 ["thing"] [] sp_is_machine) : Cb P w K mg base "want_fit" 6 ["rule", "thing", "name"] [.str "machine"] sp_want_fit := by
  refine F.okD 2 sc_want_fit (fun _ => rfl) rfl (fun _ _ _ _ _ _ _ us its h1 h2 => match us, its, h1, h2 with | [_, _], [_], _, _ => ⟨_, rfl, rfl⟩) fun f cdv A outer s H Ex' hr => ?_
  refine ⟨_, pss_one (ps_expr (pe_cb c_want (hr.mono (by decide)) rfl (pa_cons (pe_and (pe_cb c_is_machine (hr.mono (by decide)) rfl (pa_cons (pv 1) pa_nil)) (pe_one (pe_cmpR op_eq (bLen K B (ixT K (pv 1) pe_int)) (bLen K B (pv 0)) (by rfl)))) (pa_cons (pv 2) pa_nil)))), ?_⟩
  rintro ⟨r, M⟩ vs ⟨v1, r1, rfl, h1, v2, r2, rfl, h2, v3, r3, rfl, h3, e⟩ ⟨g, gm, hM⟩ Q k
  try dsimp only at *
  rw [show r3 = [] from e]
  have h4 := g.four
  have h0 := g.gr.pos
  have hr := gm.row 0 gm.pos
  obtain ⟨m1, m2⟩ := mach_row' gm
  obtain ⟨row0, M', hM'⟩ : ∃ row0 M', M = row0 :: M' := by
    cases M with
    | nil => exact absurd rfl m1
    | cons a b => exact ⟨a, b, rfl⟩
  have hr0 : row0.length = r.length := m2 row0 (by rw [hM']; exact List.mem_cons_self)
  refine x_drop (e_want (x := "machine") (a_cons (e_andV (a := true) (b := true) (e_call' (M, r.length) (a_cons (e_var rfl h2) a_nil) ⟨by dsimp only; omega, by dsimp only; omega, h0, gm⟩) fun _ => ?_) (a_cons (e_var rfl h3) a_nil))) fun v H1 e1 _ => k _ H1 e1 rfl
  refine (e_op ((e_cb (a_cons (e_op (e_var rfl h2) e_c (o_ixT (d := .t (row0.map eP)) (atI_zero (by rw [hM']; rfl)))) a_nil) r_lenT).weak fun v H3 _ p => (show (vI (r.length : Nat)).p v H3 by
    rw [List.length_map, hr0] at p
    exact p)) ((e_cb (a_cons (e_var rfl h1) a_nil) r_lenT).weak fun v H3 _ p => (show (vI (r.length : Nat)).p v H3 by
    rw [List.length_map] at p
    exact p)) (o_eq (by rfl))).weak fun v H3 _ p => ?_
  rw [show v = _ from p]
  show V.bl _ = V.bl true
  simp

/-! want_world -/
def sp_want_world : Sp := spF (fun (x : List (List Nat) × Mach) => [vD (eR x.1), vD (eM x.2)]) (fun x => Good x.1 ∧ GM x.1.length x.2 ∧ x.2.length ≤ 3) (fun _ => vV .non)
abbrev n_want_world : List Str := ["rule", "machine"]
theorem sc_want_world : FnScope n_want_world ["rule", "machine"] (defScope st_want_world) := ⟨rfl, rfl, rfl, by decide +kernel, rfl, by decide +kernel, by decide +kernel⟩
theorem ok_want_world (F : Df K mg "want_world" st_want_world []) (B : Bi mg) (c_want_growing : Cb P w K mg base "want_growing" 6 ["thing", "name"] [.str "rule"] sp_want_growing) (c_want_fit : Cb P w K mg base "want_fit" 6 ["rule", "thing", "name"] [.str "machine"] sp_want_fit) : Cb P w K mg base "want_world" 7 ["rule", "machine"] [] sp_want_world := by
  refine F.ok sc_want_world (fun _ => rfl) (fun _ _ _ _ _ _ us hl => match us, hl with | [_, _], _ => rfl) fun f cdv A outer s H Ex' hr => ?_
  refine ⟨_, pss_cons (ps_expr (pe_cb c_want_growing (hr.mono (by decide)) rfl (pa_cons (pv 0) pa_nil)))
    (pss_one (ps_expr (pe_cb c_want_fit (hr.mono (by decide)) rfl (pa_cons (pv 0) (pa_cons (pv 1) pa_nil))))), ?_⟩
  rintro ⟨r, M⟩ vs ⟨v1, r1, rfl, h1, v2, r2, rfl, h2, e⟩ ⟨g, gm, hM⟩ Q k
  try dsimp only at *
  rw [show r2 = [] from e]
  refine x_drop (e_callD (args := fun (r : List (List Nat)) => [vD (eR r), vV (.str "rule")]) (cond := Good) (res := fun _ => vV .non) r (a_cons (e_var rfl h1) a_nil) rfl g) fun v H1 e1 _ => ?_
  refine x_drop (e_callD (args := fun (x : List (List Nat) × Mach) => [vD (eR x.1), vD (eM x.2), vV (.str "machine")]) (cond := fun x => Good x.1 ∧ GM x.1.length x.2 ∧ x.2.length ≤ 3) (res := fun _ => vV .non) (r, M) (a_cons (e_var rfl ((vD _).mono e1 h1)) (a_cons (e_var rfl ((vD _).mono e1 h2)) a_nil)) rfl ⟨g, gm, hM⟩) fun v H2 e2 _ => ?_
  exact k _ H2 (e1.trans e2) rfl
end
end K37
set_option Elab.async false
set_option linter.all false
set_option maxRecDepth 100000
set_option maxHeartbeats 1000000
/-! Z1: walking zip of two tuples where each pair is kept under a name. -/
namespace K37
open PySem PySem.Spec PyProof.Rows L2 RZ Evl
/-- the zip at z; v: its own tuple, if that is still out -/
abbrev ZAt (h : Heap) (z TI TO : Addr) (v : Value) (f : Bool) : Prop := h.get? z = some { cls := .type "zip", dict := none, data := .fields #[v, .bool f, .bool false, .ref TI, .ref TO], slots := #[] }
def ZV (v : Value) : Prop := v = .none ∨ ∃ T : Addr, v = rawInt T
section
variable {prog : Program} {w : World} {A : Around} {E : Value → Shared → Prop} {s : Shared}
theorem alive_any {a : Addr} {Q : Option Obj → Shared → Prop} (h : Q (s.heap.get? a) s) : wpAny (model prog w) A (loadIfAlive a) Q E s := fun _ _ _ => h
theorem own_free {z TI TO : Addr} {v : Value} {f : Bool} {Q : Bool → Shared → Prop} (hz : ZAt s.heap z TI TO v f) (hv : ZV v) (h1 : Q true s) (h2 : ∀ h', ZAt h' z TI TO v true → Heap.SameBut z s.heap h' → Q false { s with heap := h' }) :
    wpAny (model prog w) A (Builtin.SmallTypes.ownedTupleIsFree (.ref z)) Q E s := by
  unfold Builtin.SmallTypes.ownedTupleIsFree
  rcases hv with rfl | ⟨T, rfl⟩
  · exact wpAny_bind (wpAny_field hz rfl (x := .none) rfl (wpAny_pure h1))
  · refine wpAny_bind (wpAny_field hz rfl (x := rawInt T) rfl ?_)
    show wpAny _ _ (loadIfAlive ((T : Int).toNat) >>= _) _ _ _
    refine wpAny_bind (alive_any ?_)
    cases s.heap.get? (T : Int).toNat with
    | none =>
      simp only [Option.isNone_none, if_true]
      exact wpAny_pure h1
    | some o =>
      simp only [Option.isNone_some, Bool.false_eq_true, if_false]
      refine wpAny_bind (wpAny_field hz rfl (x := .bool f) rfl ?_)
      cases f with
      | true =>
        rw [if_neg (show ¬ ((Value.bool true != Value.bool true) = true) from Bool.false_ne_true)]
        exact wpAny_pure (h2 s.heap hz (Heap.SameBut.refl _ _))
      | false =>
        rw [if_pos (show (Value.bool false != Value.bool true) = true from rfl)]
        exact wpAny_bind (wpAny_setField_rec hz (by simp) fun h₁ hz₁ hs₁ => wpAny_pure (h2 h₁ hz₁ hs₁))
variable {z TI TO i1 i2 l1 l2 : Addr} {k1 k2 : Nat} {xs ys : Array Value} {x y a b v : Value} {f : Bool}
theorem zip_item {Q : Value → Shared → Prop} (D : ZipApart z TI TO i1 i2 l1 l2)
    (hz : ZAt s.heap z TI TO v f) (hv : ZV v) (hTI : IsPair s.heap TI (.ref i1) (.ref i2)) (hTO : IsPair s.heap TO a b)
    (h1 : s.heap.IsTupleIter i1 l1 k1) (h2 : s.heap.IsTupleIter i2 l2 k2) (hl1 : s.heap.IsTuple l1 xs) (hl2 : s.heap.IsTuple l2 ys) (hx : xs[k1]? = some x) (hy : ys[k2]? = some y)
    (hQ : ∀ h' v' f', ZAt h' z TI TO v' f' → ZV v' → (∃ a b, IsPair h' TO a b) → h'.IsTupleIter i1 l1 (k1 + 1) → h'.IsTupleIter i2 l2 (k2 + 1) → IsPair h' s.heap.objs.size x y → h'.objs.size = s.heap.objs.size + 1 →
      (∀ c o, c ≠ z → c ≠ TO → c ≠ i1 → c ≠ i2 → s.heap.get? c = some o → h'.get? c = some o) → Q (.ref s.heap.objs.size) { s with heap := h' }) :
    wpAny (model prog w) A (Builtin.«zip.__next__» ⟨[.ref z], []⟩) (fun fin s' => ∃ v, fin = .done (.ret v) ∧ Q v s') E s := by
  show wpAny _ _ (field (.ref z) 2 >>= _) _ _ _
  refine wpAny_bind (wpAny_field hz rfl (x := .bool false) rfl ?_)
  show wpAny _ _ (field (.ref z) 3 >>= _) _ _ _
  refine wpAny_bind (wpAny_field hz rfl (x := .ref TI) rfl ?_)
  refine wpAny_bind (wpAny_seqItems hTI rfl ?_)
  show wpAny _ _ (Builtin.SmallTypes.ownedTupleIsFree (.ref z) >>= _) _ _ _
  refine wpAny_bind (own_free hz hv ?_ fun h₁ hz₁ hs₁ => ?_)
  · -- the zip's own tuple is used again
    simp only [if_true]
    refine wpAny_bind (wpAny_rule ?_)
    refine wpAny_bind (wpAny_field hz rfl (x := .ref TO) rfl ?_)
    refine wpAny_bind (wpAny_setField_rec hz (by simp) fun h₁ hz₁ hs₁ => ?_)
    replace hz₁ : ZAt h₁ z TI TO .ellipsis f := hz₁
    refine wpAny_bind ?_
    simp only [List.zipIdx_cons, List.zipIdx_nil, List.forIn_cons, List.forIn_nil]
    refine wpAny_bind (wpAny_bind (wpAny_onRaise ?_))
    show wpAny _ _ (Builtin.SmallTypes.nextOf (.ref i1) >>= _) _ _ _
    refine wpAny_bind (nextOf_tuple_item (h1.extBut hs₁.extBut D.i1z) (hl1.extBut hs₁.extBut D.l1z) hx fun h₂ h1₂ hs₂ => wpAny_pure ?_)
    have hTO₂ : IsPair h₂ TO a b := hs₂.extBut _ _ D.TOi1 (hs₁.extBut _ _ D.TOz hTO)
    refine wpAny_bind (wpAny_seqItems hTO₂ rfl ?_)
    refine wpAny_bind (wpAny_updateSeq_pair hTO₂ fun h₃ hTO₃ hs₃ => ?_)
    replace hTO₃ : IsPair h₃ TO x b := hTO₃
    refine wpAny_bind (wpAny_letGo (wpAny_pure ?_))
    refine wpAny_bind (wpAny_bind (wpAny_onRaise ?_))
    show wpAny _ _ (Builtin.SmallTypes.nextOf (.ref i2) >>= _) _ _ _
    refine wpAny_bind (nextOf_tuple_item (((h2.extBut hs₁.extBut D.i2z).extBut hs₂.extBut D.i12.symm).extBut hs₃.extBut D.TOi2.symm)
      (((hl2.extBut hs₁.extBut D.l2z).extBut hs₂.extBut D.l2i1).extBut hs₃.extBut D.l2TO) hy fun h₄ h2₄ hs₄ => wpAny_pure ?_)
    have hTO₄ : IsPair h₄ TO x b := hs₄.extBut _ _ D.TOi2 hTO₃
    refine wpAny_bind (wpAny_seqItems hTO₄ rfl ?_)
    refine wpAny_bind (wpAny_updateSeq_pair hTO₄ fun h₅ hTO₅ hs₅ => ?_)
    replace hTO₅ : IsPair h₅ TO x y := hTO₅
    refine wpAny_bind (wpAny_letGo (wpAny_pure (wpAny_pure ?_)))
    refine wpAny_bind (wpAny_seqItems hTO₅ rfl ?_)
    refine wpAny_bind (wpAny_newTuple ?_)
    have hsz : h₅.objs.size = s.heap.objs.size := by rw [hs₅.1, hs₄.1, hs₃.1, hs₂.1, hs₁.1]
    have hz₅ : ZAt h₅ z TI TO .ellipsis f := hs₅.extBut _ _ D.TOz.symm (hs₄.extBut _ _ D.i2z.symm (hs₃.extBut _ _ D.TOz.symm (hs₂.extBut _ _ D.i1z.symm hz₁)))
    have hk₅ : ∀ c o, c ≠ z → c ≠ TO → c ≠ i1 → c ≠ i2 → s.heap.get? c = some o → h₅.get? c = some o := fun c o c1 c2 c3 c4 e =>
      hs₅.extBut _ _ c2 (hs₄.extBut _ _ c4 (hs₃.extBut _ _ c2 (hs₂.extBut _ _ c3 (hs₁.extBut _ _ c1 e))))
    have h1₅ : h₅.IsTupleIter i1 l1 (k1 + 1) := ((h1₂.extBut hs₃.extBut D.TOi1.symm).extBut hs₄.extBut D.i12).extBut hs₅.extBut D.TOi1.symm
    have h2₅ : h₅.IsTupleIter i2 l2 (k2 + 1) := h2₄.extBut hs₅.extBut D.TOi2.symm
    have hzlt : z < h₅.objs.size := Heap.lt_size hz₅
    show wpAny _ _ (Builtin.SmallTypes.ownedTupleHandOut (.ref z) (.ref h₅.objs.size) >>= _) _ _ _
    refine wpAny_bind ?_
    unfold Builtin.SmallTypes.ownedTupleHandOut
    have hz₆ : ZAt (h₅.push { cls := .type "tuple", data := .seq #[x, y] }) z TI TO .ellipsis f := Heap.get?_push_of_some _ hz₅
    refine wpAny_bind (wpAny_setField_rec hz₆ (by simp) fun h₇ hz₇ hs₇ => ?_)
    replace hz₇ : ZAt h₇ z TI TO (rawInt h₅.objs.size) f := hz₇
    refine wpAny_setField_rec hz₇ (by simp) fun h₈ hz₈ hs₈ => ?_
    replace hz₈ : ZAt h₈ z TI TO (rawInt h₅.objs.size) false := hz₈
    have up : ∀ c o, c ≠ z → h₅.get? c = some o → h₈.get? c = some o := fun c o c1 e => hs₈.extBut _ _ c1 (hs₇.extBut _ _ c1 (Heap.get?_push_of_some _ e))
    have hT₈ : IsPair h₈ h₅.objs.size x y := hs₈.extBut _ _ (Nat.ne_of_gt hzlt) (hs₇.extBut _ _ (Nat.ne_of_gt hzlt) (Heap.get?_push_size _ rfl))
    have hz8 : h₈.objs.size = h₅.objs.size + 1 := by rw [hs₈.1, hs₇.1, Heap.size_push]
    rw [hsz] at hz₈ hT₈ hz8
    refine wpAny_pure ⟨_, rfl, ?_⟩
    show Q (.ref h₅.objs.size) _
    rw [hsz]
    exact hQ h₈ _ _ hz₈ (.inr ⟨_, rfl⟩) ⟨_, _, up _ _ D.TOz hTO₅⟩ (h1₅.at fun o e => up _ o D.i1z e) (h2₅.at fun o e => up _ o D.i2z e) hT₈ hz8 fun c o c1 c2 c3 c4 e => up c o c1 (hk₅ c o c1 c2 c3 c4 e)
  · -- it is still out
    simp only [Bool.false_eq_true, if_false]
    refine wpAny_bind ?_
    rw [← Array.forIn_toList]
    simp only [List.forIn_cons, List.forIn_nil]
    refine wpAny_bind (wpAny_bind (wpAny_holding ?_))
    show wpAny _ _ (Builtin.SmallTypes.nextOf (.ref i1) >>= _) _ _ _
    refine wpAny_bind (nextOf_tuple_item (s := { s with heap := h₁ }) (h1.extBut hs₁.extBut D.i1z) (hl1.extBut hs₁.extBut D.l1z) hx fun h₂ h1₂ hs₂ => wpAny_pure ?_)
    refine wpAny_pure ?_
    refine wpAny_bind (wpAny_bind (wpAny_holding ?_))
    show wpAny _ _ (Builtin.SmallTypes.nextOf (.ref i2) >>= _) _ _ _
    refine wpAny_bind (nextOf_tuple_item (s := { s with heap := h₂ }) ((h2.extBut hs₁.extBut D.i2z).extBut hs₂.extBut D.i12.symm) ((hl2.extBut hs₁.extBut D.l2z).extBut hs₂.extBut D.l2i1) hy fun h₃ h2₃ hs₃ => wpAny_pure ?_)
    refine wpAny_pure (wpAny_pure ?_)
    show wpAny _ _ (newTuple [x, y] >>= _) _ _ _
    refine wpAny_bind (wpAny_newTuple ?_)
    have hsz : h₃.objs.size = s.heap.objs.size := by rw [hs₃.1, hs₂.1, hs₁.1]
    have hz₃ : ZAt h₃ z TI TO v true := hs₃.extBut _ _ D.i2z.symm (hs₂.extBut _ _ D.i1z.symm hz₁)
    have hk : ∀ c o, c ≠ z → c ≠ i1 → c ≠ i2 → s.heap.get? c = some o → h₃.get? c = some o := fun c o c1 c2 c3 e => hs₃.extBut _ _ c3 (hs₂.extBut _ _ c2 (hs₁.extBut _ _ c1 e))
    have h1₃ : h₃.IsTupleIter i1 l1 (k1 + 1) := h1₂.extBut hs₃.extBut D.i12
    have hTO₃ : IsPair h₃ TO a b := hk _ _ D.TOz D.TOi1 D.TOi2 hTO
    refine wpAny_pure ⟨_, rfl, ?_⟩
    show Q (.ref h₃.objs.size) _
    have hp : IsPair (h₃.push { cls := .type "tuple", data := .seq #[x, y] }) h₃.objs.size x y := Heap.get?_push_size _ rfl
    have hz4 : (h₃.push { cls := .type "tuple", data := .seq #[x, y] }).objs.size = h₃.objs.size + 1 := Heap.size_push ..
    rw [hsz] at hp hz4 ⊢
    exact hQ _ _ _ (Heap.get?_push_of_some _ hz₃) hv ⟨_, _, Heap.get?_push_of_some _ hTO₃⟩ (h1₃.at fun o e => Heap.get?_push_of_some _ e) (h2₃.at fun o e => Heap.get?_push_of_some _ e) hp hz4 fun c o c1 _ c2 c3 e => Heap.get?_push_of_some _ (hk c o c1 c2 c3 e)
theorem zip_end {Q : Fin → Shared → Prop} (hh : A.handled = none) (D : ZipApart z TI TO i1 i2 l1 l2)
    (hz : ZAt s.heap z TI TO v f) (hv : ZV v) (hTI : IsPair s.heap TI (.ref i1) (.ref i2)) (hTO : IsPair s.heap TO a b)
    (h1 : s.heap.IsTupleIter i1 l1 k1) (h2 : s.heap.IsTupleIter i2 l2 k2) (hl1 : s.heap.IsTuple l1 xs) (hl2 : s.heap.IsTuple l2 ys) (hend : xs[k1]? = none ∨ ys[k2]? = none)
    (hE : ∀ h' e, (∀ c o, c ≠ z → c ≠ TO → c ≠ i1 → c ≠ i2 → s.heap.get? c = some o → h'.get? c = some o) → (∃ o, h'.get? e = some o ∧ o.cls = .type "StopIteration") → E (.ref e) { s with heap := h' }) :
    wpAny (model prog w) A (Builtin.«zip.__next__» ⟨[.ref z], []⟩) Q E s := by
  show wpAny _ _ (field (.ref z) 2 >>= _) _ _ _
  refine wpAny_bind (wpAny_field hz rfl (x := .bool false) rfl ?_)
  show wpAny _ _ (field (.ref z) 3 >>= _) _ _ _
  refine wpAny_bind (wpAny_field hz rfl (x := .ref TI) rfl ?_)
  refine wpAny_bind (wpAny_seqItems hTI rfl ?_)
  show wpAny _ _ (Builtin.SmallTypes.ownedTupleIsFree (.ref z) >>= _) _ _ _
  refine wpAny_bind (own_free hz hv ?_ fun h₁ hz₁ hs₁ => ?_)
  · simp only [if_true]
    refine wpAny_bind (wpAny_rule ?_)
    refine wpAny_bind (wpAny_field hz rfl (x := .ref TO) rfl ?_)
    refine wpAny_bind (wpAny_setField_rec hz (by simp) fun h₁ hz₁ hs₁ => ?_)
    replace hz₁ : ZAt h₁ z TI TO .ellipsis f := hz₁
    refine wpAny_bind ?_
    simp only [List.zipIdx_cons, List.zipIdx_nil, List.forIn_cons, List.forIn_nil]
    refine wpAny_bind (wpAny_bind (wpAny_onRaise ?_))
    show wpAny _ _ (Builtin.SmallTypes.nextOf (.ref i1) >>= _) _ _ _
    cases hx : xs[k1]? with
    | none =>
      refine wpAny_bind (nextOf_tuple_end hh (h1.extBut hs₁.extBut D.i1z) (hl1.extBut hs₁.extBut D.l1z) hx fun h₂ e hs₂ he => ?_)
      obtain ⟨oe, hoe, hce⟩ := he
      have hz₂ : ZAt h₂ z TI TO .ellipsis f := hs₂ _ _ D.i1z.symm hz₁
      have hez : e ≠ z := fun x => by subst x; rw [hz₂] at hoe; cases hoe; simp at hce
      exact wpAny_setField_rec hz₂ (by simp) fun h₃ _ hs₃ => hE h₃ e (fun c o c1 _ c3 _ x => hs₃.extBut _ _ c1 (hs₂ _ _ c3 (hs₁.extBut _ _ c1 x))) ⟨oe, hs₃.extBut _ _ hez hoe, hce⟩
    | some x =>
      have hy : ys[k2]? = none := by
        rcases hend with h | h
        · rw [hx] at h; cases h
        · exact h
      refine wpAny_bind (nextOf_tuple_item (h1.extBut hs₁.extBut D.i1z) (hl1.extBut hs₁.extBut D.l1z) hx fun h₂ h1₂ hs₂ => wpAny_pure ?_)
      have hTO₂ : IsPair h₂ TO a b := hs₂.extBut _ _ D.TOi1 (hs₁.extBut _ _ D.TOz hTO)
      refine wpAny_bind (wpAny_seqItems hTO₂ rfl ?_)
      refine wpAny_bind (wpAny_updateSeq_pair hTO₂ fun h₃ hTO₃ hs₃ => ?_)
      refine wpAny_bind (wpAny_letGo (wpAny_pure ?_))
      refine wpAny_bind (wpAny_bind (wpAny_onRaise ?_))
      show wpAny _ _ (Builtin.SmallTypes.nextOf (.ref i2) >>= _) _ _ _
      refine wpAny_bind (nextOf_tuple_end hh (((h2.extBut hs₁.extBut D.i2z).extBut hs₂.extBut D.i12.symm).extBut hs₃.extBut D.TOi2.symm)
        (((hl2.extBut hs₁.extBut D.l2z).extBut hs₂.extBut D.l2i1).extBut hs₃.extBut D.l2TO) hy fun h₄ e hs₄ he => ?_)
      obtain ⟨oe, hoe, hce⟩ := he
      have hz₄ : ZAt h₄ z TI TO .ellipsis f := hs₄ _ _ D.i2z.symm (hs₃.extBut _ _ D.TOz.symm (hs₂.extBut _ _ D.i1z.symm hz₁))
      have hez : e ≠ z := fun x => by subst x; rw [hz₄] at hoe; cases hoe; simp at hce
      exact wpAny_setField_rec hz₄ (by simp) fun h₅ _ hs₅ => hE h₅ e (fun c o c1 c2 c3 c4 x => hs₅.extBut _ _ c1 (hs₄ _ _ c4 (hs₃.extBut _ _ c2 (hs₂.extBut _ _ c3 (hs₁.extBut _ _ c1 x))))) ⟨oe, hs₅.extBut _ _ hez hoe, hce⟩
  · simp only [Bool.false_eq_true, if_false]
    refine wpAny_bind ?_
    rw [← Array.forIn_toList]
    simp only [List.forIn_cons, List.forIn_nil]
    refine wpAny_bind (wpAny_bind (wpAny_holding ?_))
    show wpAny _ _ (Builtin.SmallTypes.nextOf (.ref i1) >>= _) _ _ _
    cases hx : xs[k1]? with
    | none =>
      exact wpAny_bind (nextOf_tuple_end (s := { s with heap := h₁ }) hh (h1.extBut hs₁.extBut D.i1z) (hl1.extBut hs₁.extBut D.l1z) hx fun h₂ e hs₂ he =>
        hE h₂ e (fun c o c1 _ c2 _ x => hs₂ _ _ c2 (hs₁.extBut _ _ c1 x)) he)
    | some x =>
      have hy : ys[k2]? = none := by
        rcases hend with h | h
        · rw [hx] at h; cases h
        · exact h
      refine wpAny_bind (nextOf_tuple_item (s := { s with heap := h₁ }) (h1.extBut hs₁.extBut D.i1z) (hl1.extBut hs₁.extBut D.l1z) hx fun h₂ h1₂ hs₂ => wpAny_pure ?_)
      refine wpAny_pure ?_
      refine wpAny_bind (wpAny_bind (wpAny_holding ?_))
      show wpAny _ _ (Builtin.SmallTypes.nextOf (.ref i2) >>= _) _ _ _
      exact wpAny_bind (nextOf_tuple_end (s := { s with heap := h₂ }) hh ((h2.extBut hs₁.extBut D.i2z).extBut hs₂.extBut D.i12.symm) ((hl2.extBut hs₁.extBut D.l2z).extBut hs₂.extBut D.l2i1) hy fun h₃ e hs₃ he =>
        hE h₃ e (fun c o c1 _ c2 c3 x => hs₃ _ _ c3 (hs₂.extBut _ _ c2 (hs₁.extBut _ _ c1 x))) he)
theorem pyNext_item {Q : Option Value → Shared → Prop} (D : ZipApart z TI TO i1 i2 l1 l2)
    (hz : ZAt s.heap z TI TO v f) (hv : ZV v) (hTI : IsPair s.heap TI (.ref i1) (.ref i2)) (hTO : IsPair s.heap TO a b)
    (h1 : s.heap.IsTupleIter i1 l1 k1) (h2 : s.heap.IsTupleIter i2 l2 k2) (hl1 : s.heap.IsTuple l1 xs) (hl2 : s.heap.IsTuple l2 ys) (hx : xs[k1]? = some x) (hy : ys[k2]? = some y)
    (hQ : ∀ h' v' f', ZAt h' z TI TO v' f' → ZV v' → (∃ a b, IsPair h' TO a b) → h'.IsTupleIter i1 l1 (k1 + 1) → h'.IsTupleIter i2 l2 (k2 + 1) → IsPair h' s.heap.objs.size x y → h'.objs.size = s.heap.objs.size + 1 →
      (∀ c o, c ≠ z → c ≠ TO → c ≠ i1 → c ≠ i2 → s.heap.get? c = some o → h'.get? c = some o) → Q (some (.ref s.heap.objs.size)) { s with heap := h' }) :
    wpAny (model prog w) A (pyNext (.ref z)) Q E s := by
  have hTy : s.TypeIs (.ref z) "zip" := ⟨_, hz, rfl⟩
  unfold pyNext
  exact wpAny_bind (wpAny_attempt (wpAny_callSpecial?_slot (name := Str.ofString "__next__") hTy F.slot_zip_next
    (wpAny_call_entry F.slot_zip_next hTy F.entry_zip_next
      (zip_item D hz hv hTI hTO h1 h2 hl1 hl2 hx hy fun h' v' f' a1 a2 a3 a4 a5 a6 a7 a8 => wpAny_pure (hQ h' v' f' a1 a2 a3 a4 a5 a6 a7 a8)) (F.args_zip_next_1 _))))
theorem pyNext_end {Q : Option Value → Shared → Prop} (hh : A.handled = none) (D : ZipApart z TI TO i1 i2 l1 l2)
    (hz : ZAt s.heap z TI TO v f) (hv : ZV v) (hTI : IsPair s.heap TI (.ref i1) (.ref i2)) (hTO : IsPair s.heap TO a b)
    (h1 : s.heap.IsTupleIter i1 l1 k1) (h2 : s.heap.IsTupleIter i2 l2 k2) (hl1 : s.heap.IsTuple l1 xs) (hl2 : s.heap.IsTuple l2 ys) (hend : xs[k1]? = none ∨ ys[k2]? = none)
    (hQ : ∀ h', (∀ c o, c ≠ z → c ≠ TO → c ≠ i1 → c ≠ i2 → s.heap.get? c = some o → h'.get? c = some o) → Q none { s with heap := h' }) : wpAny (model prog w) A (pyNext (.ref z)) Q E s := by
  have hTy : s.TypeIs (.ref z) "zip" := ⟨_, hz, rfl⟩
  unfold pyNext
  refine wpAny_bind (wpAny_attempt (wpAny_callSpecial?_slot (name := Str.ofString "__next__") hTy F.slot_zip_next
    (wpAny_call_entry F.slot_zip_next hTy F.entry_zip_next (zip_end hh D hz hv hTI hTO h1 h2 hl1 hl2 hend fun h' e hk he => ?_) (F.args_zip_next_1 _))))
  obtain ⟨o, ho, hc⟩ := he
  refine wpAny_bind (wpAny_isInstance (T := "StopIteration") (b := true) ⟨o, ho, hc⟩ isSubtype_stop ?_)
  exact wpAny_pure (hQ _ hk)
end
theorem turn_zipN {P : Program} {w : World} {K : PySem.W.Frag} {nm : Str} {tpos : Pos} {a b z TI TO i1 i2 : Addr} (D : ZipApart z TI TO i1 i2 a b) :
    Turn P w K (.Name nm tpos) (ItzT K a b) [z, TI, TO, i1, i2] z (fun i h => (∃ v f, ZAt h z TI TO v f ∧ ZV v) ∧ IsPair h TI (.ref i1) (.ref i2) ∧ (∃ x y, IsPair h TO x y) ∧ h.IsTupleIter i1 a i ∧ h.IsTupleIter i2 b i) where
  mem := by simp
  obj := fun i h st c hc => by
    obtain ⟨⟨v, f, hz, _⟩, hTI, ⟨x, y, hTO⟩, ⟨o1, e1, _, d1⟩, ⟨o2, e2, _, d2⟩⟩ := st
    have e' : c = z ∨ c = TI ∨ c = TO ∨ c = i1 ∨ c = i2 := by simpa using hc
    rcases e' with q | q | q | q | q
    · rw [q]; exact ⟨_, hz, fun v q => nomatch q⟩
    · rw [q]; exact ⟨_, hTI, fun v q => nomatch q⟩
    · rw [q]; exact ⟨_, hTO, fun v q => nomatch q⟩
    · rw [q]; exact ⟨o1, e1, fun v q => by rw [d1] at q; cases q⟩
    · rw [q]; exact ⟨o2, e2, fun v q => by rw [d2] at q; cases q⟩
  keep := fun i h h' st k => by
    obtain ⟨⟨v, f, hz, hv⟩, hTI, ⟨x, y, hTO⟩, h1, h2⟩ := st
    exact ⟨⟨v, f, k z (by simp) _ hz, hv⟩, k TI (by simp) _ hTI, ⟨x, y, k TO (by simp) _ hTO⟩, h1.at fun o q => k i1 (by simp) o q, h2.at fun o q => k i2 (by simp) o q⟩
  item := by
    intro X hP hw hK hc i pins s σ H E I hf st hg
    subst hP hw hK
    obtain ⟨⟨v, f, hz, hv⟩, hTI, ⟨x0, y0, hTO⟩, h1, h2⟩ := st
    obtain ⟨xs, ys, x, y, hqx, hqy, hx, hy⟩ := hg
    obtain ⟨its, rv, p, _⟩ := I.tuple hqx
    obtain ⟨its2, rv2, p2, _⟩ := I.tuple hqy
    obtain ⟨u, hu, ru⟩ := rv.get hx
    obtain ⟨u2, hu2, ru2⟩ := rv2.get hy
    have hzl : z < s.heap.objs.size := Heap.lt_size hz
    refine pyNext_item D hz hv hTI hTO h1 h2 p p2 (x := u) (y := u2) (by simpa using hu) (by simpa using hu2) fun h' v' f' z' hv' TO' h1' h2' hT hsz hk => ?_
    have new : ObjOk X.prog X.w (upd H s.heap.objs.size (.tup [x, y])) h' s.heap.objs.size (.tup [x, y]) :=
      ⟨by show 2 ≤ sizeLine; decide, [u, u2], .cons ru (.cons ru2 .nil), ⟨_, hT, rfl, _, rfl⟩⟩
    have I1 : Inv X pins σ (upd H s.heap.objs.size (.tup [x, y])) { s with heap := h' } :=
      I.turnedNew (t' := s.toks) (ch := [z, TI, TO, i1, i2]) (fun c o hb q => hk c o (fun q' => hb (by simp [q'])) (fun q' => hb (by simp [q'])) (fun q' => hb (by simp [q'])) (fun q' => hb (by simp [q'])) q) hf (Nat.le_refl _) new
    refine ⟨_, rfl, ?_⟩
    show wpAny _ _ (pure ()) _ _ _
    refine wpAny_pure ⟨.ref s.heap.objs.size, _, I1, rfl, ⟨_, x, y, rfl, I.hok.fresh (Nat.le_refl _), rfl, fun l hl => by rw [I.tuple_inj hl hqx]; exact hx, fun l hl => by rw [I.tuple_inj hl hqy]; exact hy⟩, ⟨⟨v', f', z', hv'⟩, ?_, TO', h1', h2'⟩, fun c hcm => ?_⟩
    · exact hk _ _ D.TIz D.TITO D.TIi1 D.TIi2 hTI
    · have hlt : c < s.heap.objs.size := by
        have e' : c = z ∨ c = TI ∨ c = TO ∨ c = i1 ∨ c = i2 := by simpa using hcm
        rcases e' with q | q | q | q | q
        · rw [q]; exact hzl
        · rw [q]; exact Heap.lt_size hTI
        · rw [q]; exact Heap.lt_size hTO
        · rw [q]; obtain ⟨_, e1, _⟩ := h1; exact Heap.lt_size e1
        · rw [q]; obtain ⟨_, e2, _⟩ := h2; exact Heap.lt_size e2
      rw [upd_ne (Nat.ne_of_lt hlt)]
      exact (hf c hcm).1
  done := by
    intro X hP hw hK hc i pins s σ H E I hf st hg
    subst hP hw hK
    obtain ⟨⟨v, f, hz, hv⟩, hTI, ⟨x0, y0, hTO⟩, h1, h2⟩ := st
    obtain ⟨xs, ys, hqx, hqy, hend⟩ := hg
    obtain ⟨its, rv, p, _⟩ := I.tuple hqx
    obtain ⟨its2, rv2, p2, _⟩ := I.tuple hqy
    have l1 := rv.length
    have l2 := rv2.length
    have he : its.toArray[i]? = none ∨ its2.toArray[i]? = none := by
      rcases hend with q | q
      · exact .inl (by simp; omega)
      · exact .inr (by simp; omega)
    exact pyNext_end (I.ok.hd hc) D hz hv hTI hTO h1 h2 p p2 he fun h' hk => ⟨rfl, I.turnedL (t' := s.toks) (ch := [z, TI, TO, i1, i2]) (fun c o hb q =>
      hk c o (fun q' => hb (by simp [q'])) (fun q' => hb (by simp [q'])) (fun q' => hb (by simp [q'])) (fun q' => hb (by simp [q'])) q) hf⟩
  self := fun A i s Q E st h => by
    obtain ⟨⟨v, f, hz, hv⟩, _⟩ := st
    have hTy : s.TypeIs (.ref z) "zip" := ⟨_, hz, rfl⟩
    refine wpAny_pyIter_slot hTy F.slot_zip_iter (wpAny_call_entry F.slot_zip_iter hTy F.entry_zip_iter ?_ (F.args_zip_iter_1 _))
    show wpAny _ _ (ret (.ref z)) _ _ s
    exact wpAny_pure ⟨_, rfl, "zip", _, hTy, F.slot_zip_next.lookup, h⟩
def iZipN (K : PySem.W.Frag) (ta : TA) : TI := fun σ H R => ta σ H fun vs H1 => ∃ a b xs ys, vs = [.ref a, .ref b] ∧ SqT K H1 a xs ∧ SqT K H1 b ys ∧ R (ItzT K a b) H1
theorem pi_zipN (K : PySem.W.Frag) {mg : Str → Option Value} {X : Cx} {e e2 : Expr} {ta : TA} {nm : Str} {p pos tpos : Pos} (B : Bi mg) (ha : PA X [e, e2] ta) (hK : X.K = K := by rfl) (hM : X.mg = mg := by rfl) (hg : Gl X "zip" := by rfl)
    (hs : starEach [e, e2] X.env = (false, eval e X.env) :: starEach [e2] X.env := by rfl) (hpl : (backTo pos (starEach [e2] X.env)).any (·.1) = false := by rfl) :
    PI X (.Name nm tpos) (.Call (.Name "zip" p) [e, e2] [] pos) (iZipN K ta) := by
  subst hK hM
  refine ⟨fun pins s σ H R I h => ?_⟩
  refine Call_ (ld_blt I hg B.g PyProof.Rows.boot_zip (PyProof.Rows.callWith_type1 (thn (ha.run pos pins s σ H _ I h) fun us s1 ⟨vs, H1, I1, r1, q1⟩ => ?_) hs hpl))
  obtain ⟨a, b, xs, ys, ex, hqx, hqy, q⟩ := q1
  subst ex
  cases r1 with
  | cons r rr =>
    cases rr with
    | cons r' rr =>
      cases rr
      cases r
      cases r'
      have fresh5 : ∀ c, c ∈ [s1.heap.objs.size + 4, s1.heap.objs.size + 2, s1.heap.objs.size + 3, s1.heap.objs.size, s1.heap.objs.size + 1] → FpOk X pins H1 c := fun c hcm => by
        have e' : c = s1.heap.objs.size + 4 ∨ c = s1.heap.objs.size + 2 ∨ c = s1.heap.objs.size + 3 ∨ c = s1.heap.objs.size ∨ c = s1.heap.objs.size + 1 := by simpa using hcm
        have hle : s1.heap.objs.size ≤ c := by omega
        exact I1.fpOk hle (I1.hok.fresh hle)
      obtain ⟨its, rv, p1, _⟩ := I1.tuple hqx
      obtain ⟨its2, rv2, p2, _⟩ := I1.tuple hqy
      obtain ⟨o1, ho1, _⟩ := id p1
      obtain ⟨o2, ho2, _⟩ := id p2
      refine call_zipT (show s1.heap.IsTuple a its.toArray from p1) (show s1.heap.IsTuple b its2.toArray from p2) fun h' hz hTI hTO h1 h2 hsz hk => wpAny_pyIter_zip hz ?_
      have I2 : Inv X pins σ H1 { s1 with heap := h' } := I1.kept (t' := s1.toks) hk
      exact ⟨s1.heap.objs.size + 4, [s1.heap.objs.size + 4, s1.heap.objs.size + 2, s1.heap.objs.size + 3, s1.heap.objs.size, s1.heap.objs.size + 1], _, _, H1, rfl, I2, turn_zipN (PySem.W.ktu_apart s1.heap.objs.size a b (Heap.lt_size ho1) (Heap.lt_size ho2)), ⟨⟨_, _, hz, .inl rfl⟩, hTI, ⟨_, _, hTO⟩, h1, h2⟩, fresh5, q⟩
section
variable {K : PySem.W.Frag} {σ : L2.St} {H : Hp} {ta : TA}
/-- the pairs of neighbours, new tuples -/
theorem srcT_zip {ds es : List Dv} {n : Nat} (P : Nat → Dv) (h : K37.A ta σ H [vD (.t ds), vD (.t es)]) (hn : n = min ds.length es.length) (hp : ∀ i, i < n → ∃ d e, ds[i]? = some d ∧ es[i]? = some e ∧ P i = .t [d, e]) : SrcT (iZipN K ta) σ H ((List.range n).map fun i => vD (P i)) := fun H1 e Rr q => h H1 e _ fun vs H2 e2 hv => by
  obtain ⟨v, r, ev, h1, v', r', ev', h1', e0⟩ := hv
  obtain ⟨a, xs, ea, ha, hx⟩ := is_t.1 h1
  obtain ⟨b, ys, eb, hb, hy⟩ := is_t.1 h1'
  have hlx := hx.length
  have hly := hy.length
  refine ⟨a, b, xs, ys, by rw [ev, ev', ea, eb, show r' = [] from e0], st_of ha, st_of hb, ?_⟩
  refine q _ H2 (fun H' => SqT K H' a xs ∧ SqT K H' b ys ∧ IsAll H' ds xs ∧ IsAll H' es ys) e2 (fun H' _ tx => ⟨st_of (tx.tup ha), st_of (tx.tup hb), IsAll.mono tx _ _ hx, IsAll.mono tx _ _ hy⟩) ?_
  rw [List.length_map, List.length_range]
  refine ⟨fun i Ha hi g => ?_, fun Ha g => ⟨xs, ys, g.1, g.2.1, by omega⟩, fun i Ha x Hb hi g y => ?_⟩
  · have h3 : i < xs.length := by omega
    have h4 : i < ys.length := by omega
    exact ⟨xs, ys, xs[i], ys[i], g.1, g.2.1, by simp [h3], by simp [h4]⟩
  · obtain ⟨T, u, z, y1, y2, y3, y4, y5⟩ := y
    obtain ⟨d, d', p1, p2, p3⟩ := hp i hi
    obtain ⟨u1, hu1, iu⟩ := g.2.2.1.get p1
    obtain ⟨z1, hz1, iz⟩ := g.2.2.2.get p2
    have eu : u = u1 := by
      have := y4 xs g.1
      rw [hu1] at this
      exact (Option.some.inj this).symm
    have ez : z = z1 := by
      have := y5 ys g.2.1
      rw [hz1] at this
      exact (Option.some.inj this).symm
    have ex : Ex Ha Hb := by rw [y3]; exact Ex.new y2
    refine ⟨ex, vD (P i), by rw [List.getElem?_map, List.getElem?_range hi]; rfl, ?_⟩
    rw [y1, p3]
    refine is_t.2 ⟨T, [u, z], rfl, by rw [y3]; exact upd_same, all_cons.2 ⟨u, [z], rfl, ?_, IsAll.one ?_⟩⟩
    · rw [eu]; exact Is.mono (Ex.tx ex) _ _ iu
    · rw [ez]; exact Is.mono (Ex.tx ex) _ _ iz
end
end K37
set_option Elab.async false
set_option linter.all false
set_option maxRecDepth 100000
set_option maxHeartbeats 1000000
/-! E11: pop, minus, the last item. -/
namespace K37
open PySem L2 Evl
section
variable {K : PySem.W.Frag} {σ : L2.St} {H : Hp} {to te : TE} {D : Ends}
/-- x = l.pop() -/
theorem x_pop {l : Addr} {vs : List V} {v : V} {i : Nat} (hl : H l = some (.lst (vs ++ [v]))) (ho : E to σ H (vV (.ref l))) (k : ∀ H1, Ex H H1 → D.nx (σ.set i (some v)) (upd H1 l (.lst vs))) : tAsg (tBM0 K "list" rPop to) (gName i) D σ H :=
  ho H (Ex.refl H) _ fun o H1 e1 p1 => by
    rw [show o = .ref l from p1]
    refine ⟨Or.inl ⟨rfl, _, sq_of (e1 l _ hl)⟩, l, vs ++ [v], v, rfl, rfl, e1 l _ hl, by simp, ?_⟩
    rw [List.dropLast_concat]
    exact k H1 e1
theorem e_neg {i : Int} (h : E te σ H (vI i)) : E (tUn (rU fun i => .int (-i)) te) σ H (vI (-i)) := fun H1 e Q q => h H1 e _ fun v H2 e2 p => ⟨i, p, q _ H2 e2 rfl⟩
theorem slT (K : PySem.W.Frag) {X : Cx} {e : Expr} {lo hi : Option Expr} {te : TE} {tl th : TO} {p2 pos : Pos} (he : PE X e te) (hl : PO X lo tl) (hu : PO X hi th) (hK : X.K = K := by rfl) : PE X (.Subscript e (.Slice lo hi none p2) pos) (tSl (rSlA K) te tl th) := by
  subst hK
  exact pe_slice sl_tupA he hl hu
theorem atI_last {α : Type} {xs : List α} {x : α} (h : xs.getLast? = some x) : atI xs (-1) = some x := by
  have hne : xs ≠ [] := fun z => by rw [z] at h; cases h
  have hl : 0 < xs.length := List.length_pos_iff.2 hne
  unfold atI ixN
  rw [if_neg (by omega), if_pos (by omega)]
  show xs[_]? = some x
  rw [show (-1 + (xs.length : Int)).toNat = xs.length - 1 by omega, ← List.getLast?_eq_getElem?]
  exact h
end
end K37
set_option Elab.async false
set_option linter.all false
set_option maxRecDepth 100000
set_option maxHeartbeats 2000000
/-! W8: legal pairs. -/
namespace K37
open PySem L2 Evl
section
variable {P : Program} {w : World} {K : PySem.W.Frag} {mg : Str → Option Value} {base : Heap}

theorem dep8 (w : List Nat) : (eW w).dep ≤ 8 := Nat.le_trans (dep_eW w) (by omega)
theorem eW_ne_nil (u : List Nat) : eW u = Dv.t (u.map eN) := rfl
/-- the pairs of neighbours in a block -/
theorem adjW_get : ∀ (w : List Nat) (i : Nat), i < w.length - 1 → (adjW w)[i]? = some [w.getD i 0, w.getD (i + 1) 0]
  | [], i, h => by simp at h
  | [a], i, h => by simp at h
  | a :: b :: w, 0, _ => by simp [adjW]
  | a :: b :: w, i + 1, h => by
    have := adjW_get (b :: w) i (by simp at h ⊢; omega)
    rw [adjW, List.getElem?_cons_succ, this]
    rfl
theorem adjW_len : ∀ w : List Nat, (adjW w).length = w.length - 1
  | [] => rfl
  | [a] => rfl
  | a :: b :: w => by
    rw [adjW, List.length_cons, adjW_len (b :: w)]
    simp
theorem adjW_range (w : List Nat) : adjW w = (List.range (w.length - 1)).map fun i => [w.getD i 0, w.getD (i + 1) 0] := by
  refine List.ext_getElem? fun i => ?_
  rw [List.getElem?_map]
  by_cases h : i < w.length - 1
  · rw [adjW_get w i h, List.getElem?_range h]
    rfl
  · rw [List.getElem?_eq_none (by rw [adjW_len]; omega), List.getElem?_eq_none (by rw [List.length_range]; omega)]
    rfl
/-- what is found and what is left make up the closure -/
structure PW (r : List (List Nat)) (ks ls : List (List Nat)) : Prop where
  nd : ks.Nodup
  cl : ∀ p, p ∈ ks ∨ p ∈ ls → Cl r p
  base : ∀ p ∈ r.flatMap adjW, p ∈ ks ∨ p ∈ ls
  step : ∀ p ∈ ks, nxt r p ∈ ks ∨ nxt r p ∈ ls
theorem PW.done {r ks : List (List Nat)} (h : PW r ks []) (p : List Nat) : p ∈ ks ↔ Cl r p := by
  refine ⟨fun hp => h.cl p (.inl hp), fun hp => ?_⟩
  induction hp with
  | base hb => exact (h.base _ hb).resolve_right (fun z => by cases z)
  | step _ ih => exact (h.step _ ih).resolve_right (fun z => by cases z)
theorem PW.old {r ks ls : List (List Nat)} {p : List Nat} (h : PW r ks (ls ++ [p])) (hp : p ∈ ks) : PW r ks ls := by
  have key : ∀ q, q ∈ ls ++ [p] → q ∈ ks ∨ q ∈ ls := fun q hq => by
    rcases List.mem_append.1 hq with z | z
    · exact .inr z
    · rw [List.mem_singleton.1 z]; exact .inl hp
  exact ⟨h.nd, fun q hq => h.cl q (hq.imp id fun z => List.mem_append_left _ z), fun q hq => (h.base q hq).elim .inl (key q), fun q hq => (h.step q hq).elim .inl (key _)⟩
theorem PW.new {r ks ls : List (List Nat)} {p : List Nat} (h : PW r ks (ls ++ [p])) (hp : p ∉ ks) : PW r (ks ++ [p]) (ls ++ [nxt r p]) := by
  have up : ∀ q, q ∈ ks ∨ q ∈ ls ++ [p] → q ∈ ks ++ [p] ∨ q ∈ ls ++ [nxt r p] := fun q hq => by
    rcases hq with z | z
    · exact .inl (List.mem_append_left _ z)
    · rcases List.mem_append.1 z with z | z
      · exact .inr (List.mem_append_left _ z)
      · exact .inl (List.mem_append_right _ z)
  refine ⟨nd_snoc h.nd hp, fun q hq => ?_, fun q hq => up q (h.base q hq), fun q hq => ?_⟩
  · have hcp : Cl r p := h.cl p (.inr (by simp))
    rcases hq with z | z
    · rcases List.mem_append.1 z with z | z
      · exact h.cl q (.inl z)
      · rw [List.mem_singleton.1 z]; exact hcp
    · rcases List.mem_append.1 z with z | z
      · exact h.cl q (.inr (List.mem_append_left _ z))
      · rw [List.mem_singleton.1 z]; exact hcp.step
  · rcases List.mem_append.1 hq with z | z
    · exact up _ (h.step q z)
    · rw [List.mem_singleton.1 z]; exact .inr (by simp)
theorem PW.small {r ks ls : List (List Nat)} {N : Nat} (g : GR r N) (h4 : r.length ≤ 4) (h : PW r ks ls) : ks.length ≤ 16 := by
  have := words_le (n := r.length) (k := 2) h.nd fun w hw => by
    have hc := (cl_iff g w).1 (h.cl w (.inl hw))
    exact ⟨hc.2, hc.1.letters g⟩
  have h2 : r.length ^ 2 ≤ 4 ^ 2 := Nat.pow_le_pow_left h4 2
  have e : (4 : Nat) ^ 2 = 16 := by decide
  omega
theorem len_flatW {α β : Type} (f : α → List β) (c : Nat) : ∀ l : List α, (∀ x ∈ l, (f x).length ≤ c) → (l.flatMap f).length ≤ l.length * c
  | [], _ => by simp
  | x :: l, h => by
    rw [List.flatMap_cons, List.length_append, List.length_cons, Nat.add_mul, Nat.one_mul]
    have h1 := h x List.mem_cons_self
    have h2 := len_flatW f c l fun y hy => h y (List.mem_cons_of_mem _ hy)
    omega
theorem isAll_snoc {H : Hp} {d : Dv} : ∀ {ds : List Dv} {vs : List V}, IsAll H (ds ++ [d]) vs → ∃ us v, vs = us ++ [v] ∧ IsAll H ds us ∧ Is H d v
  | [], vs, h => by
    obtain ⟨v, r, e, h1, h2⟩ := all_cons.1 h
    exact ⟨[], v, by rw [e, all_nil.1 h2]; rfl, all_nil.2 rfl, h1⟩
  | x :: ds, vs, h => by
    obtain ⟨v, r, e, h1, h2⟩ := all_cons.1 h
    obtain ⟨us, u, e2, h3, h4⟩ := isAll_snoc h2
    exact ⟨v :: us, u, by rw [e, e2]; rfl, all_cons.2 ⟨v, us, rfl, h1, h3⟩, h4⟩
theorem tag_snoc (ks : List (List Nat)) (p : List Nat) : ((ks ++ [p]).map eW).map (fun k => (k, V.bl true)) = (ks.map eW).map (fun k => (k, V.bl true)) ++ [(eW p, V.bl true)] := by
  rw [List.map_append, List.map_append]
  rfl
/-- a list of words, known by their numbers -/
def Wl (H : Hp) (l : Addr) (ws : List (List Nat)) : Prop := ∃ vs, H l = some (.lst vs) ∧ IsAll H (ws.map eW) vs
theorem map_keys (ks : List (List Nat)) : ((ks.map eW).map fun k => (k, V.bl true)).map (·.1) = ks.map eW := by
  rw [List.map_map]
  exact List.map_id' _
theorem mem_map_eW {p : List Nat} {ks : List (List Nat)} : eW p ∈ ks.map eW ↔ p ∈ ks := by
  rw [List.mem_map]
  constructor
  · rintro ⟨q, hq, e⟩; rw [← eW_inj.1 e]; exact hq
  · intro h; exact ⟨p, h, rfl⟩

/-! pairs_by -/
def sp_pairs_by : Sp := spF (fun (r : List (List Nat)) => [vD (eR r)]) Good (fun r => vL ((ws r 2).map fun u => vD (eW u)))
abbrev n_pairs_by : List Str := ["rule", "found", "left", "pair", "block"]
theorem sc_pairs_by : FnScope n_pairs_by ["rule"] (defScope st_pairs_by) := ⟨rfl, rfl, rfl, by decide +kernel, rfl, by decide +kernel, by decide +kernel⟩
theorem ok_pairs_by (F : Df K mg "pairs_by" st_pairs_by []) (B : Bi mg) : Cb P w K mg base "pairs_by" 1 ["rule"] [] sp_pairs_by := by
  refine F.ok sc_pairs_by (fun _ => rfl) (fun _ _ _ _ _ _ us hl => match us, hl with | [_], _ => rfl) fun f cdv A outer s H Ex' hr => ?_
  refine ⟨_, pss_cons (ps_set (i := 1) sc_pairs_by.nd rfl (Or.inl rfl) (pe_dk))
    (pss_cons (ps_setLc2 (i := 2) (own := [("block", 4), ("pair", 3)]) (vs1 := [3]) (g := gName 4) (g1 := gName 3) (tt := tYes) (tt1 := tYes) rfl sc_pairs_by.nd rfl rfl (sw_true rfl rfl rfl rfl) (itT K (pv 0)) (blkOk_by (N := n_pairs_by) (sc := defScope st_pairs_by) (by decide +kernel)) (by decide) (fun _ _ _ _ _ => pg_name (i := 4) sc_pairs_by.nd rfl (Or.inl rfl)) (fun _ _ _ _ _ => pts_nil) (fun _ _ _ _ _ => pi_zipN K B (pa_cons (pv 4) (pa_cons (slT K (pv 4) (po_some pe_int) po_none) pa_nil))) (fun _ _ _ _ _ => pg_name (i := 3) sc_pairs_by.nd rfl (Or.inl rfl)) (fun _ _ _ _ _ => pts_nil) (fun _ _ _ _ _ => pv 3))
    (pss_cons (ps_while PassesOwn.never (pt_cmpR op_gt (bLen K B (pv 2)) pe_int (by rfl)) (pss_cons (ps_set (i := 3) sc_pairs_by.nd rfl (Or.inl rfl) (pe_bm0 PySem.F.plainAttrs_list PySem.F.slot_list_pop PySem.F.type_list_pop mt_pop (pv 2)))
    (pss_one (ps_if (pt_cmpR (op_dkNotIn (room64 hr)) (pv 3) (pv 1) (by rfl)) (pss_cons (ps_asg pe_bl (pg_sub (pv 1) (pv 3) (set_dk (room64 hr))))
    (pss_one (ps_expr (pe_bm PySem.F.plainAttrs_list PySem.F.slot_list_append PySem.F.type_list_append mt_append (pv 2) (pa_cons (pe_tup (pa_cons (ixT K (ixT K (pv 0) (ixT K (pv 3) pe_int)) (pe_un un_neg pe_int)) (pa_cons (ixT K (ixT K (pv 0) (ixT K (pv 3) pe_int)) pe_int) pa_nil))) pa_nil))))) pss_nil))))
    (pss_one (ps_ret (bSortD P w B (room64 hr) (pv 1)))))), ?_⟩
  rintro r vs ⟨v1, r1, rfl, h1, e⟩ g Q k
  try dsimp only at *
  rw [show r1 = [] from e]
  have h4 := g.four
  have h0 := g.gr.pos
  have hb4 : ∀ b ∈ r, b.length ≤ 4 := fun b hb => by
    obtain ⟨a, ha, e⟩ := mem_getD hb
    rw [← e]
    exact g.blk4 a ha
  refine x_asgDk fun d H1 hd0 e1 hd => ?_
  refine x_asgN (en_lc2 (vs := [4, 3]) (vs1 := [3]) r _ (fun b => adjW b) (fun _ p => vD (eW p)) (fun _ p => vD (eW p)) (src0_tupE r eW (e_var rfl ((vD _).mono e1 h1))).t.src (by
    refine Nat.le_trans (len_flatW _ 4 r fun b hb => ?_) (by omega)
    rw [adjW_len]
    have := hb4 b hb
    omega) (fun _ _ _ _ => st_d _) ?_) fun l ls H2 hl0 e2 hl hls => ?_
  · intro b hb v H2 e2 p Q1 hQ1
    refine hQ1 _ rfl ?_ fun pr hpr u H3 e3 p3 Q2 hQ2 => hQ2 _ rfl (e_var rfl p3)
    rw [adjW_range]
    rw [List.map_map]
    refine srcT_zip (fun i => eW [b.getD i 0, b.getD (i + 1) 0]) (a_cons (e_var rfl p) (a_cons (e_sl_from (K := K) (k := 1) (e_var rfl p) e_c) a_nil)) (by simp) fun i hi => ?_
    refine ⟨eN (b.getD i 0), eN (b.getD (i + 1) 0), ?_, ?_, rfl⟩
    · rw [List.getElem?_map, getD_some (d := 0) (by omega)]
      rfl
    · rw [List.getElem?_drop, List.getElem?_map, Nat.add_comm 1 i, getD_some (d := 0) (by omega)]
      rfl
  have hb16 : (r.flatMap adjW).length ≤ 16 := by
    refine Nat.le_trans (len_flatW _ 4 r fun b hb => ?_) (by omega)
    rw [adjW_len]
    have := hb4 b hb
    omega
  have hls0 : IsAll H2 ((r.flatMap adjW).map eW) ls := by
    refine allP_isAll.1 ?_
    rw [List.map_map, List.map_flatMap]
    exact hls
  refine x_while (fun m σ' H' => ∃ ks lw v3, m = 2 * (16 - ks.length) + lw.length ∧ lw.length ≤ 16 ∧ PW r ks lw ∧ σ' = [some v1, some (.ref d), some (.ref l), v3, none] ∧ Ex H H' ∧ Dk P w H' d ((ks.map eW).map fun k => (k, V.bl true)) ∧ Wl H' l lw) (32 + (r.flatMap adjW).length)
    ⟨[], r.flatMap adjW, none, rfl, hb16, ⟨List.nodup_nil, fun p hp => hp.elim (fun z => by cases z) .base, fun p hp => .inr hp, fun p hp => by cases hp⟩, rfl, e1.trans e2, hd.ex e2, ls, hl, hls0⟩ ?_
  rintro m σ' H' ⟨ks, lw, v3, rfl, hlw, pw, rfl, eH, hdk, us, hus, hall⟩
  have hld : l ≠ d := fun z => by
    obtain ⟨φ, e⟩ := hdk.obj
    rw [← z, hus] at e
    cases e
  have hlen : (vDs (lw.map eW)).p (.ref l) H' := ⟨l, us, rfl, hus, allP_isAll.2 hall⟩
  rcases List.eq_nil_or_concat lw with hnil | ⟨lw', p, hsn⟩
  · refine ⟨false, t_test (e_op (e_cb (a_cons (e_var rfl hlen) a_nil) r_lenL) e_c (o_cmp (by rw [hnil]; rfl))), (fun z => by cases z), fun _ H4 e4 => ?_⟩
    rw [hnil] at pw
    have hws : canon ltW ks = ws r 2 := (WS.of_canon fun u => (pw.done u).trans (cl_iff g.gr u)).uniq (ws_ok g.gr 2)
    have hne : Ce ks := .inl fun b hb z => by
      have := ((cl_iff g.gr b).1 ((pw.done b).1 hb)).2
      rw [z] at this
      cases this
    refine x_ret (e_cb (a_cons (e_var rfl (show (vDk P w _).p (.ref d) H4 from ⟨d, rfl, hdk.ex e4⟩)) a_nil) (r_sortD hne (map_keys ks) pw.nd (by have := pw.small g.gr h4; omega))) fun v H5 e5 p5 => k v H5 ((eH.trans e4).trans e5) ?_
    rw [hws] at p5
    exact p5
  · rw [List.concat_eq_append] at hsn
    subst hsn
    refine ⟨true, t_test (e_op (e_cb (a_cons (e_var rfl hlen) a_nil) r_lenL) e_c (o_cmp (by
      show V.bl _ = V.bl true
      simp))), fun _ H4 e4 N hN => ?_, (fun z => by cases z)⟩
    rw [List.map_append] at hall
    obtain ⟨us', pv, rfl, hall', hpv⟩ := isAll_snoc hall
    have hlH : H l = none := fresh_back e1 hl0
    have hdH : H d = none := hd0
    refine x_pop (e4 _ _ hus) (e_var rfl rfl) fun H5 e5 => ?_
    dsimp only
    have hl5 : H5 l = some (.lst (us' ++ [pv])) := e5 _ _ (e4 _ _ hus)
    have t5 : Tx H' (upd H5 l (.lst us')) := Tx.trans (Ex.tx (e4.trans e5)) (Tx.updL hl5)
    have ex5 : Ex H (upd H5 l (.lst us')) := Ex.mut ((eH.trans e4).trans e5) hlH
    have dk5 : Dk P w (upd H5 l (.lst us')) d ((ks.map eW).map fun k => (k, V.bl true)) := (hdk.ex (e4.trans e5)).mono (Tx.updL hl5) (upd_ne (Ne.symm hld))
    have pv5 : Is (upd H5 l (.lst us')) (eW p) pv := Is.mono t5 _ _ hpv
    have all5 : IsAll (upd H5 l (.lst us')) (lw'.map eW) us' := IsAll.mono t5 _ _ hall'
    rw [List.length_append, List.length_singleton] at hlw hN
    refine x_if (b := !decide (p ∈ ks)) (t_test (e_op (e_var rfl (show (vD (eW p)).p pv _ from pv5)) (e_var rfl (show (vDk P w _).p (.ref d) _ from ⟨d, rfl, dk5⟩)) (o_dkNotIn (b := decide (p ∈ ks)) (dep8 p) (by rw [map_keys, decide_eq_true_iff]; exact mem_map_eW.symm)))) (fun hb H6 e6 => ?_) (fun hb H6 e6 => ?_)
    · have hp : p ∉ ks := by simpa using hb
      have hcl : Cl r p := pw.cl p (.inr (by simp))
      obtain ⟨a, b, rfl⟩ := cl_two hcl
      have hin := ((cl_iff g.gr _).1 hcl).1
      have ha := hin.pair_left g.gr
      have hbb := hin.pair_right g.gr
      have pw' := pw.new hp
      have hks := pw'.small g.gr h4
      rw [List.length_append, List.length_singleton] at hks
      refine x_put (P := P) (w := w) (d := d) (v := .bl true) e_c (e_var rfl rfl) (e_var rfl (show (vD (eW [a, b])).p pv H6 from Is.mono (Ex.tx e6) _ _ pv5)) (dep8 _) (dk5.ex e6) (by rw [List.length_map, List.length_map]; omega) (by
        rw [map_keys]
        exact fun z => hp (mem_map_eW.1 z)) fun H7 t7 x7 d7 => ?_
      have hl7 : H7 l = some (.lst us') := x7 _ _ hld (e6 _ _ upd_same)
      have t57 : Tx (upd H5 l (.lst us')) H7 := Tx.trans (Ex.tx e6) t7
      have ex7 : Ex H H7 := fun c o h => x7 c o (ne_of_none h hdH) (e6 _ _ (ex5 c o h))
      have rv : Is H7 (eR r) v1 := Is.mono (Ex.tx ex7) _ _ h1
      have pv7 : Is H7 (eW [a, b]) pv := Is.mono t57 _ _ pv5
      refine x_app (Pv := vD (eW (nxt r [a, b]))) hl7 (e_var rfl rfl) ?_ (by rw [hall'.length, List.length_map]; omega) fun v8 H8 e8 p8 => ?_
      · have blk : ∀ {c : Nat} {i : Int}, c < r.length → atI [eN a, eN b] i = some (eN c) → E (tOp (rIxT K) (tVar 0) (tOp (rIxT K) (tVar 3) (tC (.int i)))) [some v1, some (.ref d), some (.ref l), some pv, none] H7 (vD (eW (r.getD c []))) := fun {c i} hc hi =>
          e_op (e_var rfl (show (vD (eR r)).p v1 H7 from rv)) (e_n (e_op (e_var rfl (show (vD (eW [a, b])).p pv H7 from pv7)) e_c (o_ixT hi))) (o_ixT (atI_E hc))
        have hne1 := g.gr.ne a ha
        have hne2 := g.gr.ne b hbb
        refine e_tupD (ds := [eN ((r.getD a []).getLast?.getD 0), eN ((r.getD b []).head?.getD 0)]) (a_cons (e_op (blk ha rfl) (e_neg e_c) (o_ixT (atI_last ?_))) (a_cons (e_op (blk hbb rfl) e_c (o_ixT (atI_nat (j := 0) ?_))) a_nil)) (by simp)
        · rw [List.getLast?_map]
          obtain ⟨i, x, e⟩ := cut_last hne1
          rw [e]
          simp
        · cases hc : r.getD b [] with
          | nil => exact absurd hc hne2
          | cons x t => rfl
      · dsimp only
        have t78 : Tx H7 (upd H8 l (.lst (us' ++ [v8]))) := Tx.trans (Ex.tx e8) (Tx.updL (e8 _ _ hl7))
        refine hN (2 * (16 - (ks.length + 1)) + (lw'.length + 1)) _ _ (by omega) ⟨ks ++ [[a, b]], lw' ++ [nxt r [a, b]], _, by rw [List.length_append, List.length_append]; rfl, by rw [List.length_append]; exact hlw, pw', rfl, Ex.mut (ex7.trans e8) hlH, ?_, us' ++ [v8], upd_same, ?_⟩
        · rw [tag_snoc]
          exact (d7.ex e8).mono (Tx.updL (e8 _ _ hl7)) (upd_ne (Ne.symm hld))
        · rw [List.map_append]
          exact (IsAll.mono (Tx.trans t57 t78) _ _ all5).append (IsAll.one (Is.mono (Tx.updL (e8 _ _ hl7)) _ _ p8))
    · have hp : p ∈ ks := by simpa using hb
      refine hN (2 * (16 - ks.length) + lw'.length) _ _ (by omega) ⟨ks, lw', _, rfl, by omega, pw.old hp, rfl, ex5.trans e6, dk5.ex e6, us', e6 _ _ upd_same, IsAll.mono (Ex.tx e6) _ _ all5⟩

end
end K37
set_option Elab.async false
set_option linter.all false
set_option maxRecDepth 100000
set_option maxHeartbeats 1000000
/-! E12: loops over a list while another thing is written; loops that write nothing; two names at once. -/
namespace K37
open PySem L2 Evl
section
variable {K : PySem.W.Frag} {P : Program} {w : World} {σ : L2.St} {H : Hp} {tl ta te : TE} {D : Ends} {tu : TS} {g : TG}
theorem x_forG {α : Type} (J : Hp → Hp → Prop) (Jr : ∀ H, J H H) (Jt : ∀ {a b c}, J a b → J b c → J a c) (xs : List α) (Pa : α → VP) (h : E tl σ H (vL (xs.map Pa)))
    (hJ : ∀ (a : Addr) (vs : List V) (H2 H' : Hp), Ex H H2 → H2 a = some (.lst vs) → AllP (xs.map Pa) vs H2 → J H2 H' → H' a = some (.lst vs) ∧ AllP (xs.map Pa) vs H')
    (Pv : List α → L2.St → Hp → Prop) (h0 : ∀ H1, Ex H H1 → Pv [] σ H1)
    (hs : ∀ pre x post, xs = pre ++ x :: post → ∀ v σ' H', (Pa x).p v H' → Pv pre σ' H' → ∀ N : L2.St → Hp → Prop, (∀ σ3 H3, J H' H3 → Pv (pre ++ [x]) σ3 H3 → N σ3 H3) → g v σ' H' fun σ2 H2 => tu { D with nx := N, ct := N, bk := D.nx } σ2 H2)
    (hd : ∀ σ' H', Pv xs σ' H' → D.nx σ' H') : tFor (iList K tl) g tu D σ H := h H (Ex.refl H) _ fun v H2 e2 ⟨a, vs, h1, h2, h3⟩ => by
  refine ⟨a, h1, ⟨vs, sq_of h2⟩, ?_⟩
  have hl := h3.length
  rw [List.length_map] at hl
  have wk : Walk (Itl K a) vs.length (fun H' => SqL K H' a vs ∧ AllP (xs.map Pa) vs H') (YP0 (xs.map Pa)) := (walk_list (K := K) (a := a) (xs := vs)).mono (fun _ g => g.1) fun i Ha x Hb hi g y => ⟨y.1, allP_at g.2 y.2⟩
  refine ⟨fun i m σ' H' => m = xs.length - i ∧ i ≤ xs.length ∧ J H2 H' ∧ Pv (xs.take i) σ' H', ⟨_, rfl, Nat.zero_le _, Jr _, by rw [List.take_zero]; exact h0 _ e2⟩, ?_⟩
  rintro i m σ' Ha ⟨rfl, hi, jj, pv⟩
  obtain ⟨ga, gb⟩ := hJ a vs H2 Ha e2 h2 h3 jj
  have gA : SqL K Ha a vs ∧ AllP (xs.map Pa) vs Ha := ⟨sq_of ga, gb⟩
  by_cases hlt : i < xs.length
  · refine .inr ⟨wk.goes i Ha (by omega) gA, fun σ3 H3 => J H2 H3 ∧ Pv (xs.take (i + 1)) σ3 H3, fun σ3 H3 p => ⟨xs.length - (i + 1), by omega, rfl, hlt, p⟩, fun x Hb y => ?_⟩
    obtain ⟨y1, P0, y2, y3⟩ := wk.yields i Ha x Hb (by omega) gA y
    rw [List.getElem?_map] at y2
    obtain ⟨x0, hx0, rfl⟩ := Option.map_eq_some_iff.1 y2
    obtain ⟨s1, s2⟩ := split_at hx0
    rw [y1]
    refine hs _ x0 _ s1 x σ' Ha y3 pv _ fun σ3 H3 j3 p3 => ⟨Jt jj j3, ?_⟩
    rw [s2]
    exact p3
  · have e : i = xs.length := by omega
    subst e
    rw [List.take_length] at pv
    exact .inl ⟨by rw [← hl]; exact wk.stops Ha gA, hd _ _ pv⟩
/-- over a list, while the dict at d is written -/
theorem x_forB {α : Type} {d : Addr} {φ : Heap → Prop} (hdd : H d = some (.ext φ)) (xs : List α) (Pa : α → VP) (h : E tl σ H (vL (xs.map Pa))) (hst : ∀ P ∈ xs.map Pa, St' P)
    (Pv : List α → L2.St → Hp → Prop) (h0 : ∀ H1, Ex H H1 → Pv [] σ H1)
    (hs : ∀ pre x post, xs = pre ++ x :: post → ∀ v σ' H', (Pa x).p v H' → Pv pre σ' H' → ∀ N : L2.St → Hp → Prop, (∀ σ3 H3, Tx H' H3 → ExB d H' H3 → Pv (pre ++ [x]) σ3 H3 → N σ3 H3) → g v σ' H' fun σ2 H2 => tu { D with nx := N, ct := N, bk := D.nx } σ2 H2)
    (hd : ∀ σ' H', Pv xs σ' H' → D.nx σ' H') : tFor (iList K tl) g tu D σ H :=
  x_forG (fun a b => Tx a b ∧ ExB d a b) (fun H => ⟨Tx.refl _, ExB.refl _ _⟩) (fun a b => ⟨a.1.trans b.1, a.2.trans b.2⟩) xs Pa h (fun a vs H2 H' e2 h2 h3 j => by
    have hne : a ≠ d := fun z => by
      have := e2 _ _ hdd
      rw [← z, h2] at this
      cases this
    exact ⟨j.2 _ _ hne h2, allP_tx j.1 hst h3⟩) Pv h0 (fun pre x post hx v σ' H' pa pv N hN => hs pre x post hx v σ' H' pa pv N fun σ3 H3 t b p => hN σ3 H3 ⟨t, b⟩ p) hd
/-- over a list, nothing is written -/
theorem x_forP {α : Type} (xs : List α) (Pa : α → VP) (h : E tl σ H (vL (xs.map Pa)))
    (Pv : List α → L2.St → Hp → Prop) (h0 : ∀ H1, Ex H H1 → Pv [] σ H1)
    (hs : ∀ pre x post, xs = pre ++ x :: post → ∀ v σ' H', (Pa x).p v H' → Pv pre σ' H' → ∀ N : L2.St → Hp → Prop, (∀ σ3 H3, Ex H' H3 → Pv (pre ++ [x]) σ3 H3 → N σ3 H3) → g v σ' H' fun σ2 H2 => tu { D with nx := N, ct := N, bk := D.nx } σ2 H2)
    (hd : ∀ σ' H', Pv xs σ' H' → D.nx σ' H') : tFor (iList K tl) g tu D σ H :=
  x_forG Ex Ex.refl (fun a b => a.trans b) xs Pa h (fun a vs H2 H' e2 h2 h3 j => ⟨j _ _ h2, AllP.mono j h3⟩) Pv h0 hs hd
/-- a pair of numbers in two names -/
theorem g_two {i j : Nat} {v : V} {x y : Nat} {Q : L2.St → Hp → Prop} (h : Is H (eW [x, y]) v) (k : Q ((σ.set i (some (.int x))).set j (some (.int y))) H) : gTup K 2 (gCons (gName i) (gCons (gName j) gNil)) v σ H Q := by
  obtain ⟨a, vs, e, ha, hall⟩ := is_t.1 h
  obtain ⟨u, r, e1, h1, h2⟩ := all_cons.1 hall
  obtain ⟨u2, r2, e2, h3, h4⟩ := all_cons.1 h2
  rw [all_nil.1 h4] at e2
  rw [e2] at e1
  rw [is_n_iff.1 h1, is_n_iff.1 h3] at e1
  exact ⟨a, vs, e, st_of ha, by rw [e1]; rfl, V.int x, [V.int y], e1, V.int y, [], rfl, rfl, k⟩
end
end K37
set_option Elab.async false
set_option linter.all false
set_option maxRecDepth 100000
set_option maxHeartbeats 2000000
/-! W9: blocks, words. -/
namespace K37
open PySem L2 Evl
section
variable {P : Program} {w : World} {K : PySem.W.Frag} {mg : Str → Option Value} {base : Heap}

/-! joined_rows -/
def sp_joined_rows : Sp := spF (fun (x : List (List Nat) × List Nat) => [vL (x.1.map fun u => vD (eW u)), vD (eW x.2)]) (fun x => (∀ a ∈ x.2, a < x.1.length) ∧ (x.2.flatMap fun a => x.1.getD a []).length ≤ 100000 ∧ x.2.length ≤ 100000) (fun x => vD (eW (x.2.flatMap fun a => x.1.getD a [])))
abbrev n_joined_rows : List Str := ["rows", "letters", "letter", "late"]
theorem sc_joined_rows : FnScope n_joined_rows ["rows", "letters"] (defScope st_joined_rows) := ⟨rfl, rfl, rfl, by decide +kernel, rfl, by decide +kernel, by decide +kernel⟩
theorem ok_joined_rows (F : Df K mg "joined_rows" st_joined_rows []) (B : Bi mg) : Cb P w K mg base "joined_rows" 1 ["rows", "letters"] [] sp_joined_rows := by
  refine F.ok sc_joined_rows (fun _ => rfl) (fun _ _ _ _ _ _ us hl => match us, hl with | [_, _], _ => rfl) fun f cdv A outer s H Ex' hr => ?_
  refine ⟨_, pss_one (ps_ret (bTup K B (pe_lc2 (own := [("letter", 2), ("late", 3)]) (vs1 := [3]) (g := gName 2) (g1 := gName 3) (tt := tYes) (tt1 := tYes) rfl sc_joined_rows.nd (itT K (pv 1)) (blkOk_by (N := n_joined_rows) (sc := defScope st_joined_rows) (by decide +kernel)) (by decide) (fun _ _ _ _ _ => pg_name (i := 2) sc_joined_rows.nd rfl (Or.inl rfl)) (fun _ _ _ _ _ => pts_nil) (fun _ _ _ _ _ => itT K (ixL K (pv 0) (pv 2))) (fun _ _ _ _ _ => pg_name (i := 3) sc_joined_rows.nd rfl (Or.inl rfl)) (fun _ _ _ _ _ => pts_nil) (fun _ _ _ _ _ => pv 3)))), ?_⟩
  rintro ⟨rows, wd⟩ vs ⟨v1, r1, rfl, h1, v2, r2, rfl, h2, e⟩ ⟨hlt, hz, hz2⟩ Q k
  try dsimp only at *
  rw [show r2 = [] from e]
  have e2 : (wd.flatMap fun a => (rows.getD a []).map fun n => vD (eN n)) = (wd.flatMap fun a => rows.getD a []).map fun n => vD (eN n) := by rw [List.map_flatMap]
  refine x_ret (e_cb (a_cons (EN.e (en_lc2 (vs := [2, 3]) (vs1 := [3]) wd _ (fun a => rows.getD a []) (fun _ n => vD (eN n)) (fun _ n => vD (eN n)) (src0_tupE wd eN (e_var rfl h2)).t.src (by omega) (fun _ _ _ _ => st_d _) ?_)) a_nil) (by
    rw [e2]
    exact r_tupE _ eN)) k
  intro a ha v H3 e3 p Q1 hQ
  refine hQ _ rfl (src0_tupE (rows.getD a []) eN (e_op (e_var rfl ((vL _).mono e3 h1)) (e_n (e_var rfl p)) (o_ixL (atI_P (d := []) (hlt a ha))))).t ?_
  intro n hn u H4 e4 pu Q2 hQ2
  exact hQ2 _ rfl (e_var rfl pu)

/-- the blocks of the first level at which all have least letters -/
structure Lvl (r : List (List Nat)) (least k : Nat) : Prop where
  all : ∀ a, a < r.length → least ≤ (blk r k a).length
  bef : ∀ j, j < k → ∃ a, a < r.length ∧ (blk r j a).length < least
def vBlks (r : List (List Nat)) (k : Nat) : VP := vL ((List.range r.length).map fun a => vD (eW (blk r k a)))
def vLvl (r : List (List Nat)) (least : Nat) : VP := vEx (fun k => Lvl r least k) fun k => vBlks r k
theorem blks_map (r : List (List Nat)) (k : Nat) : ((List.range r.length).map fun a => vD (eW (blk r k a))) = ((List.range r.length).map (blk r k)).map fun u => vD (eW u) := by
  rw [List.map_map]
  rfl
theorem range_map_getD {α : Type} {n : Nat} {f : Nat → α} {a : Nat} {d : α} (h : a < n) : ((List.range n).map f).getD a d = f a := by
  rw [List.getD_eq_getElem?_getD, List.getElem?_map, List.getElem?_range h]
  rfl

theorem flatMap_congr' {α β : Type} {f g : α → List β} : ∀ {l : List α}, (∀ x ∈ l, f x = g x) → l.flatMap f = l.flatMap g
  | [], _ => rfl
  | x :: l, h => by rw [List.flatMap_cons, List.flatMap_cons, h x List.mem_cons_self, flatMap_congr' fun y hy => h y (List.mem_cons_of_mem _ hy)]

/-! long_blocks -/
def sp_long_blocks : Sp := spF (fun (x : List (List Nat) × Nat) => [vD (eR x.1), vI x.2]) (fun x => Good x.1 ∧ x.2 ≤ 8) (fun x => vLvl x.1 x.2)
abbrev n_long_blocks : List Str := ["rule", "least", "found", "letter", "one", "block"]
theorem sc_long_blocks : FnScope n_long_blocks ["rule", "least"] (defScope st_long_blocks) := ⟨rfl, rfl, rfl, by decide +kernel, rfl, by decide +kernel, by decide +kernel⟩
theorem ok_long_blocks (F : Df K mg "long_blocks" st_long_blocks []) (B : Bi mg) (c_joined_rows : Cb P w K mg base "joined_rows" 1 ["rows", "letters"] [] sp_joined_rows) : Cb P w K mg base "long_blocks" 2 ["rule", "least"] [] sp_long_blocks := by
  refine F.ok sc_long_blocks (fun _ => rfl) (fun _ _ _ _ _ _ us hl => match us, hl with | [_, _], _ => rfl) fun f cdv A outer s H Ex' hr => ?_
  refine ⟨_, pss_cons (ps_set (i := 2) sc_long_blocks.nd rfl (Or.inr rfl) (pe_lc (own := [("letter", 3)]) (g := gName 3) (tt := tYes) rfl sc_long_blocks.nd (itRg B (bLen K B (pv 0))) (blkOk_by (N := n_long_blocks) (sc := defScope st_long_blocks) (by decide +kernel)) (fun _ _ _ _ _ => pg_name (i := 3) sc_long_blocks.nd rfl (Or.inl rfl)) (fun _ _ _ _ _ => pts_nil) (fun _ _ _ _ _ => pe_tup (pa_cons (pv 3) pa_nil))))
    (pss_cons (ps_while PassesOwn.never (pt_cmpR op_lt (bMin K B (pe_lc (own := [("one", 4)]) (g := gName 4) (tt := tYes) rfl sc_long_blocks.nd (itL K (pv 2)) (blkOk_by (N := n_long_blocks) (sc := defScope st_long_blocks) (by decide +kernel)) (fun _ _ _ _ _ => pg_name (i := 4) sc_long_blocks.nd rfl (Or.inl rfl)) (fun _ _ _ _ _ => pts_nil) (fun _ _ _ _ _ => bLen K B (pv 4)))) (pv 1) (by rfl)) (pss_one (ps_set (i := 2) sc_long_blocks.nd rfl (Or.inr rfl) (pe_lc (own := [("block", 5)]) (g := gName 5) (tt := tYes) rfl sc_long_blocks.nd (itT K (pv 0)) (blkOk_by (N := n_long_blocks) (sc := defScope st_long_blocks) (by decide +kernel)) (fun _ _ _ _ _ => pg_name (i := 5) sc_long_blocks.nd rfl (Or.inl rfl)) (fun _ _ _ _ _ => pts_nil) (fun _ _ _ _ _ => pe_cb c_joined_rows (hr.mono (by decide)) rfl (pa_cons (pv 2) (pa_cons (pv 5) pa_nil)))))))
    (pss_one (ps_ret (pv 2)))), ?_⟩
  rintro ⟨r, least⟩ vs ⟨v1, r1, rfl, h1, v2, r2, rfl, h2, e⟩ ⟨g, hl⟩ Q k
  try dsimp only at *
  rw [show r2 = [] from e]
  have h4 := g.four
  have h0 := g.gr.pos
  obtain ⟨K0, hK0⟩ := len_unb g.gr least
  refine x_asg (P := vBlks r 0) (EN.e (en_lc1 (vs := [3]) (List.range r.length) _ (fun a => vD (eW (blk r 0 a))) (src0_range (a_cons ((e_cb (a_cons (e_var rfl h1) a_nil) r_lenT).weak fun v H3 _ p => (by
      rw [List.length_map] at p
      exact p)) a_nil) (by omega)).t.src (by rw [List.length_range]; omega) (fun _ _ => st_d _) (fun v => rfl) ?_)) fun v3 H3 e3 p3 => ?_
  · intro a ha v H4 e4 p
    exact e_tupD (ds := [eN a]) (a_cons (e_i (e_var rfl p)) a_nil) (by simp)
  refine x_while (fun m σ' H' => ∃ j u, m = K0 + 1 - j ∧ σ' = [some v1, some v2, some u, none, none, none] ∧ Ex H H' ∧ (vBlks r j).p u H' ∧ ∀ i, i < j → ∃ a, a < r.length ∧ (blk r i a).length < least) (K0 + 1) ⟨0, v3, rfl, rfl, e3, p3, fun i hi => by cases hi⟩ ?_
  rintro m σ' H' ⟨j, u, rfl, rfl, eH, pu, hbef⟩
  have hjK : j ≤ K0 := by
    rcases Nat.lt_or_ge K0 j with c | c
    · obtain ⟨a, ha, h⟩ := hbef K0 c
      have := hK0 K0 (Nat.le_refl _) a ha
      omega
    · exact c
  have hne : ((List.range r.length).map fun a => (blk r j a).length) ≠ [] := fun z => by
    have := List.map_eq_nil_iff.1 z
    rw [List.range_eq_nil] at this
    omega
  obtain ⟨m, hm, hle⟩ := least_nat _ hne
  have hmin : ∀ x y z, E (tCB (rMin K) (tCons (tLc (iList K (tVar 2)) (gName 4) tYes (tCB (rLenS K) (tCons (tVar 4) tNil)) (List.map (fun x => x.2) [(("one" : Str), 4)])) tNil)) [some v1, some v2, some u, x, y, z] H' (vI (m : Nat)) := fun x y z =>
    e_cb (a_cons (EN.e (en_lc1 (vs := [4]) (List.range r.length) _ (fun a => vI ((blk r j a).length : Nat)) (src_list (e_var rfl pu)) (by rw [List.length_range]; omega) (fun _ _ => st_v _) (fun v => rfl) (by
      intro a ha v H4 e4 p
      refine (e_cb (a_cons (e_var rfl p) a_nil) r_lenT).weak fun v H5 _ p => ?_
      rw [List.length_map] at p
      exact p))) a_nil) (by
      rw [show ((List.range r.length).map fun a => vI ((blk r j a).length : Nat)) = ((List.range r.length).map fun a => ((blk r j a).length : Int)).map vI by rw [List.map_map]; rfl]
      refine r_min (m := (m : Int)) (fun z => hne (by rw [List.map_eq_nil_iff] at z ⊢; exact z)) ?_ fun y hy => ?_
      · obtain ⟨a, ha, e⟩ := List.mem_map.1 hm
        exact List.mem_map.2 ⟨a, ha, by rw [← e]⟩
      · obtain ⟨a, ha, e⟩ := List.mem_map.1 hy
        have := hle _ (List.mem_map.2 ⟨a, ha, rfl⟩)
        omega)
  by_cases hlt : m < least
  · refine ⟨true, t_test (e_op (hmin _ _ _) (e_var rfl ((vI _).mono eH h2)) (o_cmp (by show V.bl _ = V.bl true; simp; omega))), fun _ H4 e4 N hN => ?_, (fun z => by cases z)⟩
    have hbef' : ∀ i, i < j + 1 → ∃ a, a < r.length ∧ (blk r i a).length < least := fun i hi => by
      rcases Nat.lt_or_ge i j with c | c
      · exact hbef i c
      · obtain ⟨a, ha, e⟩ := List.mem_map.1 hm
        exact ⟨a, List.mem_range.1 ha, by rw [show i = j by omega, e]; exact hlt⟩
    refine x_asg (P := vBlks r (j + 1)) ?_ fun u5 H5 e5 p5 => hN (K0 + 1 - (j + 1)) _ _ (by omega) ⟨j + 1, u5, rfl, rfl, (eH.trans e4).trans e5, p5, hbef'⟩
    unfold vBlks
    rw [range_getD r (fun b => vD (eW (b.flatMap fun a => ((List.range r.length).map (blk r j)).getD a []))) (fun a => vD (eW (blk r (j + 1) a))) fun a ha => by
      rw [blk_succ]
      congr 2
      refine flatMap_congr' fun c hc => ?_
      rw [range_map_getD (g.gr.lt a ha c hc)]]
    refine EN.e (en_lc1 (vs := [5]) r _ (fun b => vD (eW (b.flatMap fun a => ((List.range r.length).map (blk r j)).getD a []))) (src0_tupE r eW (e_var rfl ((vD _).mono (eH.trans e4) h1))).t.src (by omega) (fun _ _ => st_d _) (fun v => rfl) ?_)
    intro b hb v7 H7 e7 p7
    obtain ⟨a, ha, eab⟩ := mem_getD hb
    have hblt : ∀ c ∈ b, c < r.length := by rw [← eab]; exact g.gr.lt a ha
    have hsz : (b.flatMap fun a => ((List.range r.length).map (blk r j)).getD a []).length ≤ 1792 := by
      have : (b.flatMap fun a => ((List.range r.length).map (blk r j)).getD a []) = blk r (j + 1) a := by
        rw [blk_succ, eab]
        exact flatMap_congr' fun c hc => range_map_getD (hblt c hc)
      rw [this]
      exact blk_long g hl hbef' ha
    refine e_call' ((List.range r.length).map (blk r j), b) (a_cons (e_var rfl (P := vL (((List.range r.length).map (blk r j)).map fun u => vD (eW u))) ?_) (a_cons (e_var rfl p7) a_nil)) ⟨by
      dsimp only
      rw [List.length_map, List.length_range]
      exact hblt, by dsimp only; omega, by
      dsimp only
      have := g.blk4 a ha
      rw [eab] at this
      omega⟩
    have := (vBlks r j).mono (e4.trans e7) pu
    unfold vBlks at this
    rw [blks_map] at this
    exact this
  · refine ⟨false, t_test (e_op (hmin _ _ _) (e_var rfl ((vI _).mono eH h2)) (o_cmp (by show V.bl _ = V.bl false; simp; omega))), (fun z => by cases z), fun _ H4 e4 => ?_⟩
    exact x_ret (e_var rfl ((vBlks r j).mono e4 pu)) fun v H5 e5 p5 => k v H5 ((eH.trans e4).trans e5) ⟨j, ⟨fun a ha => Nat.le_trans (by omega) (hle _ (List.mem_map.2 ⟨a, List.mem_range.2 ha, rfl⟩)), hbef⟩, p5⟩

end
end K37
set_option Elab.async false
set_option linter.all false
set_option maxRecDepth 100000
set_option maxHeartbeats 2000000
/-! W10: all words of a length. -/
namespace K37
open PySem L2 Evl
section
variable {P : Program} {w : World} {K : PySem.W.Frag} {mg : Str → Option Value} {base : Heap}

/-- the window at off of two blocks -/
def win (r : List (List Nat)) (k l a b off : Nat) : List Nat := ((blk r k a ++ blk r k b).drop off).take l
theorem Lvl.bound {r : List (List Nat)} {least k : Nat} (L : Lvl r least k) (g : Good r) (hl : least ≤ 8) {a : Nat} (ha : a < r.length) : (blk r k a).length ≤ 1792 := blk_long g hl L.bef ha
theorem Lvl.uniq {r : List (List Nat)} {least k k' : Nat} (L : Lvl r least k) (L' : Lvl r least k') : k = k' := by
  rcases Nat.lt_trichotomy k k' with c | c | c
  · obtain ⟨a, ha, h⟩ := L'.bef k c
    have := L.all a ha
    omega
  · exact c
  · obtain ⟨a, ha, h⟩ := L.bef k' c
    have := L'.all a ha
    omega
theorem win_ok {r : List (List Nat)} {l k a b off : Nat} (g : Good r) (L : Lvl r (l - 1) k) (h : InL r [a, b]) (ho : off < (blk r k a).length) : InL r (win r k l a b off) ∧ (win r k l a b off).length = l := by
  refine ⟨window_inL h, ?_⟩
  have h1 := L.all b (h.pair_right g.gr)
  unfold win
  rw [List.length_take, List.length_drop, List.length_append]
  omega
theorem ws_window {r : List (List Nat)} {l k : Nat} (g : Good r) (hl : 0 < l) (L : Lvl r (l - 1) k) (u : List Nat) : u ∈ ws r l ↔ ∃ p ∈ ws r 2, ∃ a b, p = [a, b] ∧ ∃ off, off < (blk r k a).length ∧ u = win r k l a b off := by
  constructor
  · intro h
    obtain ⟨h1, h2⟩ := (mem_ws g.gr).1 h
    obtain ⟨a, b, off, h3, h4, h5⟩ := inL_window (k := k) g.gr (fun z => by rw [z] at h2; simp at h2; omega) h1 fun x hx => by have := L.all x hx; omega
    exact ⟨[a, b], (mem_ws g.gr).2 ⟨h3, rfl⟩, a, b, rfl, off, h4, by rw [h2] at h5; exact h5⟩
  · rintro ⟨p, hp, a, b, rfl, off, h1, rfl⟩
    exact (mem_ws g.gr).2 (win_ok g L ((mem_ws g.gr).1 hp).1 h1)
theorem words_few {r : List (List Nat)} {l : Nat} (g : Good r) (hl : l ≤ 9) {ks : List (List Nat)} (hn : ks.Nodup) (h : ∀ u ∈ ks, u ∈ ws r l) : ks.length ≤ 3852 :=
  Nat.le_trans (List.Nodup.length_le_of_subset hn h) (ws_le g hl)

theorem vL_B {Ps : List VP} {v : V} {H H' : Hp} {d : Addr} (h : (vL Ps).p v H) (hs : ∀ P ∈ Ps, St' P) (t : Tx H H') (b : ExB d H H') (hd : ∀ xs, H d ≠ some (.lst xs)) : (vL Ps).p v H' := by
  obtain ⟨a, vs, e, h1, h2⟩ := h
  exact ⟨a, vs, e, b a _ (fun z => by rw [z] at h1; exact hd _ h1) h1, allP_tx t hs h2⟩
theorem st_map {α : Type} (xs : List α) (f : α → Dv) : ∀ P ∈ xs.map fun x => vD (f x), St' P := fun P hP => by
  obtain ⟨x, _, rfl⟩ := List.mem_map.1 hP
  exact st_d _
theorem win_dv (row : List Nat) (s l : Nat) : (((row.map eN).drop s).take (s + l - s)) = ((row.drop s).take l).map eN := by
  rw [List.map_take, List.map_drop, show s + l - s = l by omega]
abbrev tagT (ks : List (List Nat)) : List (Dv × V) := (ks.map eW).map fun k => (k, V.bl true)

/-! words_by -/
def sp_words_by : Sp := spF (fun (x : List (List Nat) × Nat) => [vD (eR x.1), vI x.2]) (fun x => Good x.1 ∧ x.2 ≤ 8) (fun x => vL ((ws x.1 x.2).map fun u => vD (eW u)))
abbrev n_words_by : List Str := ["rule", "length", "blocks", "found", "one", "other", "row", "spot"]
theorem sc_words_by : FnScope n_words_by ["rule", "length"] (defScope st_words_by) := ⟨rfl, rfl, rfl, by decide +kernel, rfl, by decide +kernel, by decide +kernel⟩
theorem ok_words_by (F : Df K mg "words_by" st_words_by []) (B : Bi mg) (c_pairs_by : Cb P w K mg base "pairs_by" 1 ["rule"] [] sp_pairs_by) (c_long_blocks : Cb P w K mg base "long_blocks" 2 ["rule", "least"] [] sp_long_blocks) : Cb P w K mg base "words_by" 3 ["rule", "length"] [] sp_words_by := by
  refine F.ok sc_words_by (fun _ => rfl) (fun _ _ _ _ _ _ us hl => match us, hl with | [_, _], _ => rfl) fun f cdv A outer s H Ex' hr => ?_
  refine ⟨_, pss_cons (ps_if (pt_cmpR op_eq (pv 1) pe_int (by rfl)) (pss_one (ps_ret (pe_lst (pa_cons (pe_tup pa_nil) pa_nil)))) pss_nil)
    (pss_cons (ps_par (i := 2) (j := 3) rfl sc_words_by.nd rfl rfl (by decide) rfl rfl (pa_cons (pe_cb c_long_blocks (hr.mono (by decide)) rfl (pa_cons (pv 0) (pa_cons (pe_op op_sub (pv 1) pe_int) pa_nil))) (pa_cons pe_dk pa_nil)) rfl)
    (pss_cons (ps_for PassesOwn.never rfl (itL K (pe_cb c_pairs_by (hr.mono (by decide)) rfl (pa_cons (pv 0) pa_nil))) (pg_tup rfl (pgs_cons (pg_name (i := 4) sc_words_by.nd rfl (Or.inl rfl)) (pgs_cons (pg_name (i := 5) sc_words_by.nd rfl (Or.inl rfl)) pgs_nil))) (pss_cons (ps_set (i := 6) sc_words_by.nd rfl (Or.inl rfl) (pe_op op_catA (ixL K (pv 2) (pv 4)) (ixL K (pv 2) (pv 5))))
    (pss_one (ps_for PassesOwn.never rfl (itRg B (bLen K B (ixL K (pv 2) (pv 4)))) (pg_name (i := 7) sc_words_by.nd rfl (Or.inl rfl)) (pss_one (ps_asg pe_bl (pg_sub (pv 3) (slT K (pv 6) (po_some (pv 7)) (po_some (pe_op op_add (pv 7) (pv 1)))) (set_dk (room64 hr)))))))))
    (pss_one (ps_ret (bSortD P w B (room64 hr) (pv 3)))))), ?_⟩
  rintro ⟨r, l⟩ vs ⟨v1, r1, rfl, h1, v2, r2, rfl, h2, e⟩ ⟨g, hl⟩ Q k
  try dsimp only at *
  rw [show r2 = [] from e]
  have h4 := g.four
  by_cases hl0 : l = 0
  · subst hl0
    refine x_if (b := true) (t_test (e_op (e_var rfl h2) e_c (o_eq (by rfl)))) (fun _ H1 e1 => ?_) (fun z => by cases z)
    rw [ws_zero g.gr] at k
    exact x_ret (EN.e (en_lst (Ps := [vD (eW [])]) (a_cons (e_tupD (ds := []) a_nil (by simp)) a_nil) (by simp))) fun v H2 e2 p => k v H2 (e1.trans e2) p
  have hbf : decide (V.int (l : Nat) = V.int 0) = false := by
    rw [decide_eq_false_iff_not]
    intro z
    injection z with z
    omega
  refine x_if (b := decide (V.int (l : Nat) = V.int 0)) (t_test (e_op (e_var rfl h2) e_c (o_eq (by rfl)))) (fun z => by rw [hbf] at z; cases z) fun _ H1 e1 => ?_
  have hm1 : ((l : Int) - 1) = ((l - 1 : Nat) : Int) := by omega
  have hlb : E (tCall sp_long_blocks [] E0 (tCons (tVar 0) (tCons (tOp (rI0 fun i j => V.int (i - j)) (tVar 1) (tC (.int 1))) tNil))) (L2.start n_words_by [v1, v2]) H1 (vLvl r (l - 1)) :=
    e_call' (r, l - 1) (a_cons (e_var rfl ((vD _).mono e1 h1)) (a_cons ((e_op (e_var rfl ((vI _).mono e1 h2)) e_c o_I0).weak fun v H3 _ p => (show (vI ((l - 1 : Nat) : Int)).p v H3 by
      rw [← hm1]
      exact p)) a_nil)) ⟨g, by dsimp only; omega⟩
  refine hlb H1 (Ex.refl _) _ fun bv H2 e2 ⟨kk, L, pb⟩ => fun d hd0 hdk => ⟨bv, .ref d, rfl, ?_⟩
  have hdn : ∀ xs, (upd H2 d (dkOb P w d [])) d ≠ some (.lst xs) := fun xs z => by
    rw [upd_same] at z
    cases z
  have pb3 : (vBlks r kk).p bv (upd H2 d (dkOb P w d [])) := (vBlks r kk).mono (Ex.new hd0) pb
  have e3 : Ex H (upd H2 d (dkOb P w d [])) := (e1.trans e2).trans (Ex.new hd0)
  have hdH : H d = none := fresh_back (e1.trans e2) hd0
  have hext : ∃ φ, (upd H2 d (dkOb P w d [])) d = some (.ext φ) := ⟨_, upd_same⟩
  have hdk2 : Dk P w (upd H2 d (dkOb P w d [])) d [] := hdk
  clear hdk
  dsimp only
  show tFor _ _ _ _ _ (upd H2 d (dkOb P w d []))
  generalize upd H2 d (dkOb P w d []) = H3 at hdk2 hdn pb3 e3 hext
  have hpb : ∀ a b c e, E (tCall sp_pairs_by [] E0 (tCons (tVar 0) tNil)) [some v1, some v2, some bv, some (.ref d), a, b, c, e] H3 (vL ((ws r 2).map fun u => vD (eW u))) := fun a b c e => e_call' r (a_cons (e_var rfl ((vD _).mono e3 h1)) a_nil) g
  obtain ⟨φ, hext⟩ := hext
  refine x_forB hext (ws r 2) (fun u => vD (eW u)) (hpb _ _ _ _) (st_map _ _)
    (fun pre σ' H' => ∃ ks a b c e, σ' = [some v1, some v2, some bv, some (.ref d), a, b, c, e] ∧ Tx H3 H' ∧ ExB d H3 H' ∧ Dk P w H' d (tagT ks) ∧ ks.Nodup ∧ ∀ u, u ∈ ks ↔ ∃ p ∈ pre, ∃ a b, p = [a, b] ∧ ∃ off, off < (blk r kk a).length ∧ u = win r kk l a b off)
    (fun H4 e4 => ⟨[], none, none, none, none, rfl, Ex.tx e4, Ex.b e4, hdk2.ex e4, List.nodup_nil, fun u => by simp⟩) ?_ ?_
  · rintro pre x post hx v σ' H' pv ⟨ks, a1, a2, a3, a4, rfl, tx, xb, dk, nd, mem⟩ N hN
    have hxm : x ∈ ws r 2 := by rw [hx]; simp
    obtain ⟨hx1, hx2⟩ := (mem_ws g.gr).1 hxm
    obtain ⟨a, b, rfl⟩ : ∃ a b, x = [a, b] := by
      match x, hx2 with
      | [a, b], _ => exact ⟨a, b, rfl⟩
    have ha := hx1.pair_left g.gr
    have hb := hx1.pair_right g.gr
    have hA := L.bound g (by omega) ha
    have hB := L.bound g (by omega) hb
    have few : ∀ ks' : List (List Nat), ks'.Nodup → (∀ u ∈ ks', (∃ p ∈ pre, ∃ a b, p = [a, b] ∧ ∃ off, off < (blk r kk a).length ∧ u = win r kk l a b off) ∨ ∃ off, off < (blk r kk a).length ∧ u = win r kk l a b off) → ks'.length ≤ 3852 := fun ks' n h => words_few g (by omega) n fun u hu => (ws_window g (by omega) L u).2 (by
      rcases h u hu with ⟨p, hp, z⟩ | z
      · exact ⟨p, by rw [hx]; simp [hp], z⟩
      · exact ⟨[a, b], hxm, a, b, rfl, z⟩)
    refine g_two pv ?_
    dsimp only
    have pbk : ∀ {H5 : Hp}, Ex H' H5 → (vL ((List.range r.length).map fun a => vD (eW (blk r kk a)))).p bv H5 := fun e5 => vL_B pb3 (st_map _ _) (tx.trans (Ex.tx e5)) (xb.trans (Ex.b e5)) hdn
    have get : ∀ {c : Nat}, c < r.length → atI ((List.range r.length).map fun a => vD (eW (blk r kk a))) (c : Int) = some (vD (eW (blk r kk c))) := fun {c} hc => by
      refine atI_nat ?_
      rw [List.getElem?_map, List.getElem?_range hc]
      rfl
    refine x_asg (P := vD (eW (blk r kk a ++ blk r kk b))) ((e_op (e_op (e_var rfl (pbk (Ex.refl _))) (e_var rfl rfl) (o_ixL (get ha))) (e_op (e_var rfl (pbk (Ex.refl _))) (e_var rfl rfl) (o_ixL (get hb))) (o_catT (by rw [List.length_map, List.length_map]; omega))).weak fun v H5 _ p => (by
      show Is H5 (eW (blk r kk a ++ blk r kk b)) v
      unfold eW
      rw [List.map_append]
      exact p)) fun row H5 e5 prow => ?_
    dsimp only
    have tx5 := tx.trans (Ex.tx e5)
    have xb5 := xb.trans (Ex.b e5)
    obtain ⟨φ5, hd5⟩ : ∃ φ, H5 d = some (.ext φ) := (dk.ex e5).obj
    refine x_forN (List.range (blk r kk a).length) (fun i => vI (i : Nat)) (src0_range (n := (blk r kk a).length) (a_cons ((e_cb (a_cons (e_op (e_var rfl (pbk e5)) (e_var rfl rfl) (o_ixL (get ha))) a_nil) r_lenT).weak fun v H6 _ p => (by
      rw [List.length_map] at p
      exact p)) a_nil) (by omega)) (fun pre2 σ' H'' => ∃ ks' c, σ' = [some v1, some v2, some bv, some (.ref d), some (.int a), some (.int b), some row, c] ∧ Tx H5 H'' ∧ ExB d H5 H'' ∧ Dk P w H'' d (tagT ks') ∧ ks'.Nodup ∧
        ∀ u, u ∈ ks' ↔ u ∈ ks ∨ ∃ off ∈ pre2, u = win r kk l a b off) (fun H6 e6 => ⟨ks, a4, rfl, Ex.tx e6, Ex.b e6, (dk.ex e5).ex e6, nd, fun u => by simp⟩) ?_ ?_
    · rintro pre2 off post2 hsp v σ' H6 pv6 ⟨ks', c, rfl, t6, x6, dk6, nd6, mem6⟩ N2 hN2
      have hoff : off < (blk r kk a).length := by
        have : off ∈ List.range (blk r kk a).length := by rw [hsp]; simp
        exact List.mem_range.1 this
      have hk6 : ks'.length ≤ 3852 := few ks' nd6 fun u hu => by
        rcases (mem6 u).1 hu with z | ⟨o, ho, z⟩
        · exact .inl ((mem u).1 z)
        · have : o ∈ List.range (blk r kk a).length := by rw [hsp]; simp [ho]
          exact .inr ⟨o, List.mem_range.1 this, z⟩
      have hrow : Is H6 (eW (blk r kk a ++ blk r kk b)) row := Is.mono t6 _ _ prow
      have hsl : E (tSl (rSlA K) (tVar 6) (tPart (tVar 7)) (tPart (tOp (rI0 fun i j => V.int (i + j)) (tVar 7) (tVar 1)))) [some v1, some v2, some bv, some (.ref d), some (.int a), some (.int b), some row, some v] H6 (vD (eW (win r kk l a b off))) := by
        have := e_sl_ab (K := K) (k := off) (m := off + l) (e_var (σ := [some v1, some v2, some bv, some (.ref d), some (.int a), some (.int b), some row, some v]) (i := 6) rfl (show (vD (.t ((blk r kk a ++ blk r kk b).map eN))).p row H6 from hrow)) (e_var (i := 7) rfl pv6) ((e_op (e_var (i := 7) rfl pv6) (e_var (i := 1) rfl (show (vI (l : Nat)).p v2 H6 from h2)) (o_I0 (g := fun i j => V.int (i + j)))).weak fun v H7 _ p => (show (vI ((off + l : Nat) : Int)).p v H7 by
          rw [Int.natCast_add]
          exact p))
        rw [win_dv] at this
        exact this
      refine x_putT (P := P) (w := w) (d := d) (ks := ks'.map eW) e_c (e_var rfl rfl) hsl (dep8 _) dk6 (by rw [List.length_map]; omega) fun H7 ks7 t7 x7 d7 hor => ?_
      have nk : NewK H5 H6 H7 := ExB.newK hd5 x7
      have hu7 : Dv.t ((win r kk l a b off).map eN) = eW (win r kk l a b off) := rfl
      rw [hu7] at hor
      rcases hor with ⟨hno, rfl⟩ | ⟨hyes, rfl⟩
      · have hno' : win r kk l a b off ∉ ks' := fun z => hno (mem_map_eW.2 z)
        refine hN2 _ _ t7 nk ⟨ks' ++ [win r kk l a b off], _, rfl, t6.trans t7, x6.trans x7, ?_, nd_snoc nd6 hno', fun u => ?_⟩
        · unfold tagT
          rw [List.map_append]
          exact d7
        · rw [List.mem_append, mem6, List.mem_singleton]
          constructor
          · rintro ((z | ⟨o, ho, z⟩) | z)
            · exact .inl z
            · exact .inr ⟨o, List.mem_append_left _ ho, z⟩
            · exact .inr ⟨off, by simp, z⟩
          · rintro (z | ⟨o, ho, z⟩)
            · exact .inl (.inl z)
            · rcases List.mem_append.1 ho with ho | ho
              · exact .inl (.inr ⟨o, ho, z⟩)
              · rw [List.mem_singleton.1 ho] at z
                exact .inr z
      · have hyes' : win r kk l a b off ∈ ks' := mem_map_eW.1 hyes
        refine hN2 _ _ t7 nk ⟨ks', _, rfl, t6.trans t7, x6.trans x7, d7, nd6, fun u => ?_⟩
        constructor
        · intro hu
          rcases (mem6 u).1 hu with z | ⟨o, ho, z⟩
          · exact .inl z
          · exact .inr ⟨o, List.mem_append_left _ ho, z⟩
        · rintro (z | ⟨o, ho, z⟩)
          · exact (mem6 u).2 (.inl z)
          · rcases List.mem_append.1 ho with ho | ho
            · exact (mem6 u).2 (.inr ⟨o, ho, z⟩)
            · rw [List.mem_singleton.1 ho] at z
              rw [z]
              exact hyes'
    · rintro σ' H6 ⟨ks', c, rfl, t6, x6, dk6, nd6, mem6⟩
      refine hN _ _ ((Ex.tx e5).trans t6) ((Ex.b e5).trans x6) ⟨ks', _, _, _, _, rfl, tx5.trans t6, xb5.trans x6, dk6, nd6, fun u => ?_⟩
      rw [mem6, mem]
      constructor
      · rintro (⟨p, hp, z⟩ | ⟨o, ho, z⟩)
        · exact ⟨p, List.mem_append_left _ hp, z⟩
        · exact ⟨[a, b], by simp, a, b, rfl, o, List.mem_range.1 ho, z⟩
      · rintro ⟨p, hp, a', b', rfl, o, ho, z⟩
        rcases List.mem_append.1 hp with hp | hp
        · exact .inl ⟨_, hp, a', b', rfl, o, ho, z⟩
        · have := List.mem_singleton.1 hp
          injection this with q1 q2
          injection q2 with q2 _
          subst q1 q2
          exact .inr ⟨o, List.mem_range.2 ho, z⟩
  · rintro σ' H' ⟨ks, a1, a2, a3, a4, rfl, tx, xb, dk, nd, mem⟩
    have hmem : ∀ u, u ∈ ws r l ↔ u ∈ ks := fun u => (ws_window g (by omega) L u).trans (mem u).symm
    have hws : ws r l = canon ltW ks := canon_eq soW (ws_ok g.gr l).1 hmem
    have hne : Ce ks := .inl fun b hb z => by
      have := ((mem_ws g.gr).1 ((hmem b).2 hb)).2
      rw [z] at this
      simp at this
      omega
    have hfew := words_few (l := l) g (by omega) nd fun u hu => (hmem u).2 hu
    refine x_ret (e_cb (a_cons (e_var rfl (show (vDk P w _).p (.ref d) H' from ⟨d, rfl, dk⟩)) a_nil) (r_sortD hne (map_keys ks) nd (by omega))) fun v H5 e5 p5 => k v H5 (fun c o h => e5 _ _ (xb c o (ne_of_none h hdH) (e3 _ _ h))) ?_
    rw [← hws] at p5
    exact p5

end
end K37
set_option Elab.async false
set_option linter.all false
set_option maxRecDepth 100000
set_option maxHeartbeats 1000000
/-! E13: texts of words: figures with dots. -/
namespace K37
open PySem L2 Evl
def txtL (w : List Nat) : List Nat := w.flatMap fun a => [48 + a, 46]
def txt (w : List Nat) : Str := ⟨(txtL w).toArray⟩
def dig (a : Nat) : Str := ⟨#[48 + a, 46]⟩
def dot : Str := "."
theorem dot_cps : dot.cps = #[46] := by decide +kernel
def Dl' (w : List Nat) : List Nat := 46 :: txtL w
theorem Dl_len (w : List Nat) : (Dl' w).length = 2 * w.length + 1 := by
  unfold Dl' txtL
  rw [List.length_cons]
  congr 1
  induction w with
  | nil => rfl
  | cons a w ih => rw [List.flatMap_cons, List.length_append, ih, List.length_cons]; simp; omega
theorem Dl_odd : ∀ (w : List Nat) (k : Nat), (Dl' w)[2 * k + 1]? = (w[k]?).map (48 + ·)
  | [], k => by simp [Dl', txtL]
  | a :: w, 0 => by simp [Dl', txtL]
  | a :: w, k + 1 => by
    have := Dl_odd w k
    rw [List.getElem?_cons_succ, ← this]
    show (46 :: (48 + a) :: 46 :: txtL w)[2 * (k + 1) + 1]? = (46 :: txtL w)[2 * k + 1]?
    rw [show 2 * (k + 1) + 1 = 2 * k + 1 + 1 + 1 by omega, List.getElem?_cons_succ, List.getElem?_cons_succ]
theorem Dl_append (s u : List Nat) : Dl' (s ++ u) = (s.flatMap fun a => [46, 48 + a]) ++ Dl' u := by
  induction s with
  | nil => rfl
  | cons a s ih =>
    rw [List.cons_append, List.flatMap_cons, List.append_assoc, ← ih]
    rfl
theorem Dl_infix (w v : List Nat) : (∃ i, i + (Dl' w).length ≤ (Dl' v).length ∧ ((Dl' v).drop i).take (Dl' w).length = Dl' w) ↔ w <:+: v := by
  constructor
  · rintro ⟨i, h1, h2⟩
    rw [Dl_len, Dl_len] at h1
    have at_ : ∀ j, j < (Dl' w).length → (Dl' v)[i + j]? = (Dl' w)[j]? := fun j hj => by
      rw [← h2, List.getElem?_take_of_lt hj, List.getElem?_drop]
    have ev : ∃ k, i = 2 * k := by
      rcases Nat.mod_two_eq_zero_or_one i with c | c
      · exact ⟨i / 2, by omega⟩
      · exfalso
        have := at_ 0 (by rw [Dl_len]; omega)
        rw [show i + 0 = 2 * (i / 2) + 1 by omega, Dl_odd] at this
        have h0 : (Dl' w)[0]? = some 46 := rfl
        rw [h0] at this
        obtain ⟨x, _, hx⟩ := Option.map_eq_some_iff.1 this
        have hx : 48 + x = 46 := hx
        omega
    obtain ⟨k, rfl⟩ := ev
    have hw : w = (v.drop k).take w.length := by
      refine List.ext_getElem? fun t => ?_
      by_cases ht : t < w.length
      · have := at_ (2 * t + 1) (by rw [Dl_len]; omega)
        rw [show 2 * k + (2 * t + 1) = 2 * (k + t) + 1 by omega, Dl_odd, Dl_odd] at this
        rw [List.getElem?_take_of_lt ht, List.getElem?_drop]
        rw [List.getElem?_eq_getElem ht] at this ⊢
        obtain ⟨x, hx, e⟩ := Option.map_eq_some_iff.1 this
        have e : 48 + x = 48 + w[t] := e
        rw [hx, show x = w[t] by omega]
      · rw [List.getElem?_eq_none (by omega), List.getElem?_eq_none (by rw [List.length_take]; omega)]
    rw [hw]
    exact (List.take_prefix _ _).isInfix.trans (List.drop_suffix _ _).isInfix
  · rintro ⟨s, t, rfl⟩
    refine ⟨2 * s.length, by rw [Dl_len, Dl_len]; simp; omega, ?_⟩
    rw [List.append_assoc, Dl_append, List.drop_left' (by
      induction s with
      | nil => rfl
      | cons a s ih => rw [List.flatMap_cons, List.length_append, ih, List.length_cons]; simp; omega)]
    rw [show Dl' (w ++ t) = Dl' w ++ txtL t by unfold Dl' txtL; rw [List.flatMap_append]; rfl, List.take_left' rfl]
theorem dot_txt (w : List Nat) : (dot ++ txt w).cps.toList = Dl' w := by
  show (dot.cps ++ (txt w).cps).toList = _
  rw [dot_cps, Array.toList_append]
  rfl
theorem dot_two (x y : List Nat) : (dot ++ txt x ++ txt y).cps.toList = Dl' (x ++ y) := by
  show ((dot ++ txt x).cps ++ (txt y).cps).toList = _
  rw [Array.toList_append, dot_txt]
  unfold Dl' txt txtL
  rw [List.flatMap_append]
  rfl
theorem len_cps (s : Str) : s.length = s.cps.toList.length := rfl
theorem found_dots (w x y : List Nat) : (!(Builtin.Str.occurrences (dot ++ txt x ++ txt y) (dot ++ txt w) 0 (dot ++ txt x ++ txt y).length 1).isEmpty) = true ↔ w <:+: x ++ y := by
  rw [StrLaws.found_iff, ← Dl_infix]
  simp only [StrLaws.subAt_eq, len_cps, dot_txt, dot_two, beq_iff_eq]
theorem fold_cat : ∀ (l : List Str) (acc : Array Nat), (l.foldl (fun acc p => acc ++ (#[] : Array Nat) ++ p.cps) acc).toList = acc.toList ++ l.flatMap fun p => p.cps.toList
  | [], acc => by simp
  | p :: l, acc => by
    rw [List.foldl_cons, fold_cat l, List.flatMap_cons]
    simp
theorem join_dig (w : List Nat) : Txt.join ⟨#[]⟩ (w.map dig) = txt w := by
  have h : (Txt.join ⟨#[]⟩ (w.map dig)).cps.toList = txtL w := by
    cases w with
    | nil => rfl
    | cons a w =>
      show (((w.map dig).foldl (fun acc p => acc ++ (#[] : Array Nat) ++ p.cps) (dig a).cps)).toList = _
      rw [fold_cat]
      unfold txtL
      rw [List.flatMap_cons, List.flatMap_map]
      rfl
  unfold txt
  cases hj : Txt.join ⟨#[]⟩ (w.map dig) with
  | mk cps =>
    rw [hj] at h
    congr 1
    rw [← h]
theorem digit (a : Nat) (h : a < 10) : (Str.ofString (toString (a : Int)) ++ dot) = dig a := by
  have : a = 0 ∨ a = 1 ∨ a = 2 ∨ a = 3 ∨ a = 4 ∨ a = 5 ∨ a = 6 ∨ a = 7 ∨ a = 8 ∨ a = 9 := by omega
  rcases this with e | e | e | e | e | e | e | e | e | e <;> subst e <;> decide +kernel
theorem txt_len (w : List Nat) : (txt w).length = 2 * w.length := by
  have := Dl_len w
  unfold Dl' at this
  rw [List.length_cons] at this
  show (txtL w).toArray.size = _
  rw [List.size_toArray]
  omega
def rAddS : R2 := fun x y H Q => ∃ i j : Str, x = .str i ∧ y = .str j ∧ i.length + j.length ≤ sizeLine ∧ Q (.str (i ++ j)) H
def rInStr : R2 := fun x y H Q => ∃ i j : Str, x = .str i ∧ y = .str j ∧ Q (.bl (!(Builtin.Str.occurrences j i 0 j.length 1).isEmpty)) H
def rStrI : List V → Hp → VK → Prop := fun xs H Q => ∃ i : Int, xs = [.int i] ∧ i.natAbs.log2 < 1920 ∧ Q (.str (toString i)) H
def rJoin (K : PySem.W.Frag) : V → List V → Hp → VK → Prop := fun x xs H Q => ∃ a p, ∃ ys : List Str, x = .str a ∧ xs = [.ref p] ∧ (SqL K H p (ys.map V.str) ∨ SqT K H p (ys.map V.str)) ∧ (ys.map (·.length)).sum + ys.length * a.length ≤ 16777216 ∧ Q (.str (Txt.join a ys)) H
theorem opAddS {X : Cx} : OpR X (binaryOp .Add) rAddS := op_add_str
theorem opInStr {X : Cx} : OpR X (compareOp .In) rInStr := op_in_str
section
variable {K : PySem.W.Frag} {σ : L2.St} {H : Hp} {to te : TE}
theorem o_addS {i j : Str} (h : i.length + j.length ≤ 10000000) : O rAddS (vV (.str i)) (vV (.str j)) (vV (.str (i ++ j))) := o_val fun _ _ q => ⟨i, j, rfl, rfl, szM h, q⟩
theorem o_inStr {i j : Str} : O rInStr (vV (.str i)) (vV (.str j)) (vB (!(Builtin.Str.occurrences j i 0 j.length 1).isEmpty)) := o_val fun _ _ q => ⟨i, j, rfl, rfl, q⟩
theorem r_strI {a : Nat} (h : a < 10) : R rStrI [vI a] (vV (.str (Str.ofString (toString (a : Int))))) := fun vs H h1 Q q => by
  obtain ⟨v, r, e, e1, e2⟩ := h1
  rw [show v = .int a from e1, show r = [] from e2] at e
  refine ⟨a, e, ?_, q _ H (Ex.refl H) rfl⟩
  have : (a : Int).natAbs = a := by omega
  rw [this]
  have : a.log2 ≤ a := Nat.log2_le_self a
  omega
theorem e_join {a : Str} {ys : List Str} (ho : E to σ H (vV (.str a))) (h : E te σ H (vL (ys.map fun y => vV (.str y)))) (hz : (ys.map (·.length)).sum + ys.length * a.length ≤ 16777216) : E (tM1 (rJoin K) to te) σ H (vV (.str (Txt.join a ys))) := fun H1 e Q q =>
  ho H1 e _ fun x H2 e2 p2 => ⟨⟨a, p2⟩, h H2 (e.trans e2) _ fun y H3 e3 ⟨p, vs, e4, h4, h5⟩ => ⟨a, p, ys, p2, by rw [e4], .inl (by
    rw [allP_vals.1 h5] at h4
    exact sq_of h4), hz, q _ H3 (e2.trans e3) rfl⟩⟩
end
section
variable (K : PySem.W.Frag) {mg : Str → Option Value} {X : Cx} {a o e : Expr} {ta to te : TE} {pos p : Pos}
theorem bStr (B : Bi mg) (ha : PE X a ta) (hM : X.mg = mg := by rfl) (hg : Gl X "str" := by rfl) (he : starEach [a] X.env = (false, eval a X.env) :: starEach [] X.env := by rfl) (hpl : (backTo pos (starEach [] X.env)).any (·.1) = false := by rfl) :
    PE X (.Call (.Name "str" p) [a] [] pos) (tCB rStrI (tCons ta tNil)) := by
  subst hM
  exact pe_callTy call_str_int hg B.g PyProof.Rows.boot_str (pa_cons ha pa_nil he) (he := he) (hpl := hpl)
theorem bJoin {apos : Pos} (ho : PE X o to) (he : PE X e te) (hK : X.K = K := by rfl) (hs : starEach [e] X.env = [(false, eval e X.env)] := by rfl) (hbase : attributeBase o "join" X.env (eval o X.env) = eval o X.env := by rfl) (hline : (apos.endLine == pos.line) = true := by rfl) :
    PE X (.Call (.Attribute o "join" apos) [e] [] pos) (tM1 (rJoin K) to te) := by
  subst hK
  exact pe_join ho he hs hbase hline
end
end K37
set_option Elab.async false
set_option linter.all false
set_option maxRecDepth 100000
set_option maxHeartbeats 2000000
/-! W11: is it a word. -/
namespace K37
open PySem L2 Evl
section
variable {P : Program} {w : World} {K : PySem.W.Frag} {mg : Str → Option Value} {base : Heap}

theorem bInD (K : PySem.W.Frag) {X : Cx} {a b : Expr} {ta tb : TE} {pos : Pos} (hu : X.A.units + 65 < cLine) (ha : PE X a ta) (hb : PE X b tb) (hK : X.K = K := by rfl) (hm : behindInMarks .In b = false := by rfl) : PE X (.Compare a [.In] [b] pos) (tOp (rInD K) ta tb) := by
  subst hK
  exact pe_cmpR (op_inD hu) ha hb hm
theorem dep60 (w : List Nat) : (eW w).dep ≤ 60 := Nat.le_trans (dep_eW w) (by omega)
theorem deps60 (ws : List (List Nat)) : Dv.deps (ws.map eW) ≤ 60 := Nat.le_trans (deps_map (n := 1) dep_eW ws) (by omega)
theorem lvl_ex {r : List (List Nat)} {N : Nat} (g : GR r N) (least : Nat) : ∃ k, Lvl r least k := by
  obtain ⟨K0, hK0⟩ := len_unb g least
  have key : ∀ n, (∀ a, a < r.length → least ≤ (blk r n a).length) → ∃ k, Lvl r least k := by
    intro n
    induction n using Nat.strongRecOn with
    | ind n ih =>
      intro h
      by_cases c : ∃ j, j < n ∧ ∀ a, a < r.length → least ≤ (blk r j a).length
      · obtain ⟨j, hj, h2⟩ := c
        exact ih j hj h2
      · refine ⟨n, h, fun j hj => ?_⟩
        apply Classical.byContradiction
        intro z
        refine c ⟨j, hj, fun a ha => ?_⟩
        apply Classical.byContradiction
        intro y
        exact z ⟨a, ha, by omega⟩
  exact key K0 fun a ha => hK0 K0 (Nat.le_refl _) a ha
theorem et_yes {σ : L2.St} {H : Hp} : EvT tYes σ H true := fun H1 _ Q q => t_yes (q H1 (Ex.refl _))
theorem inLb_pairs {r : List (List Nat)} {w : List Nat} (g : Good r) (h : inLb r w = true) : ∀ p ∈ adjW w, p ∈ ws r 2 := fun p hp => by
  obtain ⟨a, b, e, hi⟩ := (mem_adjW w p).1 hp
  refine (mem_ws g.gr).2 ⟨?_, by rw [e]; rfl⟩
  rw [e]
  exact ((inLb_iff w).1 h).infix hi

/-! text_by -/
def sp_text_by : Sp := spF (fun (w : List Nat) => [vD (eW w)]) (fun w => w.length ≤ 100000 ∧ ∀ a ∈ w, a < 10) (fun w => vV (.str (txt w)))
abbrev n_text_by : List Str := ["word", "letter"]
theorem sc_text_by : FnScope n_text_by ["word"] (defScope st_text_by) := ⟨rfl, rfl, rfl, by decide +kernel, rfl, by decide +kernel, by decide +kernel⟩
theorem ok_text_by (F : Df K mg "text_by" st_text_by []) (B : Bi mg) : Cb P w K mg base "text_by" 1 ["word"] [] sp_text_by := by
  refine F.ok sc_text_by (fun _ => rfl) (fun _ _ _ _ _ _ us hl => match us, hl with | [_], _ => rfl) fun f cdv A outer s H Ex' hr => ?_
  refine ⟨_, pss_one (ps_ret (bJoin K pe_str (pe_lc (own := [("letter", 1)]) (g := gName 1) (tt := tYes) rfl sc_text_by.nd (itT K (pv 0)) (blkOk_by (N := n_text_by) (sc := defScope st_text_by) (by decide +kernel)) (fun _ _ _ _ _ => pg_name (i := 1) sc_text_by.nd rfl (Or.inl rfl)) (fun _ _ _ _ _ => pts_nil) (fun _ _ _ _ _ => pe_op opAddS (bStr B (pv 1)) pe_str)))), ?_⟩
  rintro wd vs ⟨v1, r1, rfl, h1, e⟩ ⟨hl, hlt⟩ Q k
  try dsimp only at *
  rw [show r1 = [] from e]
  rw [← join_dig] at k
  refine x_ret (e_join (a := ⟨#[]⟩) (ys := wd.map dig) (e_c.weak fun v H1 _ p => (by rw [show v = _ from p]; show V.str _ = V.str _; congr 1)) (EN.e ?_) ?_) k
  · have := en_lc1 (σ := [some v1, none]) (H := H) (te := tOp rAddS (tCB rStrI (tCons (tVar 1) tNil)) (tC (.str dot))) (vs := [1]) (j := 1) wd _ (fun a => vV (.str (dig a))) (src0_tupE (K := K) wd eN (e_var (i := 0) rfl h1)).t.src (by omega) (fun _ _ => st_v _) (fun v => rfl) (by
      intro a ha v H2 e2 p
      have hd := digit a (hlt a ha)
      rw [← hd]
      exact e_op (e_cb (a_cons (e_n (e_var rfl p)) a_nil) (r_strI (hlt a ha))) e_c (o_addS (by
        have h1 : (Str.ofString (toString (a : Int)) ++ dot).length = 2 := by rw [hd]; rfl
        have h2 : (Str.ofString (toString (a : Int)) ++ dot).length = (Str.ofString (toString (a : Int))).length + dot.length := Array.size_append
        omega)))
    rw [List.map_map]
    exact this
  · rw [List.map_map, List.length_map]
    have : (wd.map (Str.length ∘ dig)).sum = 2 * wd.length := by
      clear hl hlt h1 k
      induction wd with
      | nil => rfl
      | cons a w ih => rw [List.map_cons, List.sum_cons, ih, List.length_cons]; show 2 + _ = _; omega
    show (wd.map (Str.length ∘ dig)).sum + wd.length * 0 ≤ _
    omega

/-! is_word_by -/
def sp_is_word_by : Sp := spF (fun (x : List (List Nat) × List Nat) => [vD (eR x.1), vD (eW x.2)]) (fun x => Good x.1 ∧ x.2.length ≤ 9 ∧ ∀ a ∈ x.2, a < x.1.length) (fun x => vB (inLb x.1 x.2))
abbrev n_is_word_by : List Str := ["rule", "word", "pairs", "texts", "told", "pair", "one", "other"]
theorem sc_is_word_by : FnScope n_is_word_by ["rule", "word"] (defScope st_is_word_by) := ⟨rfl, rfl, rfl, by decide +kernel, rfl, by decide +kernel, by decide +kernel⟩
theorem ok_is_word_by (F : Df K mg "is_word_by" st_is_word_by []) (B : Bi mg) (c_pairs_by : Cb P w K mg base "pairs_by" 1 ["rule"] [] sp_pairs_by) (c_long_blocks : Cb P w K mg base "long_blocks" 2 ["rule", "least"] [] sp_long_blocks) (c_text_by : Cb P w K mg base "text_by" 1 ["word"] [] sp_text_by) : Cb P w K mg base "is_word_by" 3 ["rule", "word"] [] sp_is_word_by := by
  refine F.ok sc_is_word_by (fun _ => rfl) (fun _ _ _ _ _ _ us hl => match us, hl with | [_, _], _ => rfl) fun f cdv A outer s H Ex' hr => ?_
  refine ⟨_, pss_cons (ps_set (i := 2) sc_is_word_by.nd rfl (Or.inr rfl) (pe_cb c_pairs_by (hr.mono (by decide)) rfl (pa_cons (pv 0) pa_nil)))
    (pss_cons (ps_if (PW.pt (pw_or (pt_cmpR op_lt (bLen K B (pv 1)) pe_int (by rfl)) (pw_or1 (pt_not (pt_val (bAll K B (pe_lc (own := [("pair", 5)]) (g := gName 5) (tt := tYes) rfl sc_is_word_by.nd (pi_zipN K B (pa_cons (pv 1) (pa_cons (slT K (pv 1) (po_some pe_int) po_none) pa_nil))) (blkOk_by (N := n_is_word_by) (sc := defScope st_is_word_by) (by decide +kernel)) (fun _ _ _ _ _ => pg_name (i := 5) sc_is_word_by.nd rfl (Or.inl rfl)) (fun _ _ _ _ _ => pts_nil) (fun _ _ _ _ _ => bInD K (room65 hr) (pv 5) (pv 2))))))))) (pss_one (ps_ret (pe_or (pe_cmpR op_lt (bLen K B (pv 1)) pe_int (by rfl)) (pe_one (bInD K (room65 hr) (pv 1) (pv 2)))))) pss_nil)
    (pss_cons (ps_set (i := 3) sc_is_word_by.nd rfl (Or.inr rfl) (pe_lc (own := [("one", 6)]) (g := gName 6) (tt := tYes) rfl sc_is_word_by.nd (itL K (pe_cb c_long_blocks (hr.mono (by decide)) rfl (pa_cons (pv 0) (pa_cons (pe_op op_sub (bLen K B (pv 1)) pe_int) pa_nil)))) (blkOk_by (N := n_is_word_by) (sc := defScope st_is_word_by) (by decide +kernel)) (fun _ _ _ _ _ => pg_name (i := 6) sc_is_word_by.nd rfl (Or.inl rfl)) (fun _ _ _ _ _ => pts_nil) (fun _ _ _ _ _ => pe_cb c_text_by (hr.mono (by decide)) rfl (pa_cons (pv 6) pa_nil))))
    (pss_cons (ps_set (i := 4) sc_is_word_by.nd rfl (Or.inr rfl) (pe_op opAddS pe_str (pe_cb c_text_by (hr.mono (by decide)) rfl (pa_cons (pv 1) pa_nil))))
    (pss_one (ps_ret (bAny K B (pe_lc (own := [("one", 6), ("other", 7)]) (g := gTup K 2 (gCons (gName 6) (gCons (gName 7) gNil))) (tt := tYes) rfl sc_is_word_by.nd (itL K (pv 2)) (blkOk_by (N := n_is_word_by) (sc := defScope st_is_word_by) (by decide +kernel)) (fun _ _ _ _ _ => pg_tup rfl (pgs_cons (pg_name (i := 6) sc_is_word_by.nd rfl (Or.inl rfl)) (pgs_cons (pg_name (i := 7) sc_is_word_by.nd rfl (Or.inl rfl)) pgs_nil))) (fun _ _ _ _ _ => pts_nil) (fun _ _ _ _ _ => pe_cmpR opInStr (pv 4) (pe_op opAddS (pe_op opAddS pe_str (ixL K (pv 3) (pv 6))) (ixL K (pv 3) (pv 7))) (by rfl))))))))), ?_⟩
  rintro ⟨r, wd⟩ vs ⟨v1, r1, rfl, h1, v2, r2, rfl, h2, e⟩ ⟨g, hl, hlt⟩ Q k
  try dsimp only at *
  rw [show r2 = [] from e]
  have h4 := g.four
  have h0 := g.gr.pos
  have hws : ∀ {H' : Hp} {v : V}, (vL ((ws r 2).map fun u => vD (eW u))).p v H' → (vDs ((ws r 2).map eW)).p v H' := fun {H' v} p => by
    unfold vDs
    rw [map_vD]
    exact p
  have hlen : ∀ {σ' : L2.St} {H' : Hp}, σ'[1]? = some (some v2) → Ex H H' → E (tCB (rLenS K) (tCons (tVar 1) tNil)) σ' H' (vI (wd.length : Nat)) := fun {σ' H'} hs e => (e_cb (a_cons (e_var hs ((vD _).mono e h2)) a_nil) r_lenT).weak fun v H1 _ p => (by
    rw [List.length_map] at p
    exact p)
  refine x_asg (P := vL ((ws r 2).map fun u => vD (eW u))) (e_call' r (a_cons (e_var rfl h1) a_nil) g) fun v3 H1 e1 p1 => ?_
  have hadj : ((List.range (wd.length - 1)).map fun i => decide ([wd.getD i 0, wd.getD (i + 1) 0] ∈ ws r 2)).all id = (adjW wd).all fun p => decide (p ∈ ws r 2) := by
    rw [adjW_range, List.all_map, List.all_map]
    rfl
  refine x_if (b := decide (wd.length < 3) || !((adjW wd).all fun p => decide (p ∈ ws r 2))) (t_or (t_test (e_op (hlen rfl e1) e_c (o_cmp (by show V.bl _ = V.bl _; congr 1; simp; omega)))) fun _ => t_not (t_b (e_cb (a_cons (EN.e (en_lc1 (vs := [5]) (List.range (wd.length - 1)) (fun i => vD (eW [wd.getD i 0, wd.getD (i + 1) 0])) (fun i => vB (decide ([wd.getD i 0, wd.getD (i + 1) 0] ∈ ws r 2))) ?_ (by rw [List.length_range]; omega) (fun _ _ => st_v _) (fun v => rfl) ?_)) a_nil) (by
    rw [show ((List.range (wd.length - 1)).map fun i => vB (decide ([wd.getD i 0, wd.getD (i + 1) 0] ∈ ws r 2))) = ((List.range (wd.length - 1)).map fun i => decide ([wd.getD i 0, wd.getD (i + 1) 0] ∈ ws r 2)).map vB by rw [List.map_map]; rfl, ← hadj]
    exact r_all)))) (fun hb H2 e2 => ?_) (fun hb H2 e2 => ?_)
  · refine SrcT.src (srcT_zip (fun i => eW [wd.getD i 0, wd.getD (i + 1) 0]) (a_cons (e_var rfl ((vD _).mono e1 h2)) (a_cons (e_sl_from (K := K) (k := 1) (e_var rfl ((vD _).mono e1 h2)) e_c) a_nil)) (by simp) fun i hi => ?_)
    refine ⟨eN (wd.getD i 0), eN (wd.getD (i + 1) 0), ?_, ?_, rfl⟩
    · rw [List.getElem?_map, getD_some (d := 0) (by omega)]
      rfl
    · rw [List.getElem?_drop, List.getElem?_map, Nat.add_comm 1 i, getD_some (d := 0) (by omega)]
      rfl
  · intro i hi v H3 e3 p
    exact e_op (e_var rfl p) (e_var rfl (hws ((vL _).mono e3 p1))) (o_inL (dep60 _) (deps60 _) (by rw [decide_eq_true_iff]; exact mem_map_eW.symm))
  · have e12 := e1.trans e2
    have hin : ¬ wd.length < 2 → (inLb r wd = true ↔ eW wd ∈ (ws r 2).map eW) := fun h2 => by
      rw [mem_map_eW, inLb_iff]
      constructor
      · intro hi
        refine (mem_ws g.gr).2 ⟨hi, ?_⟩
        rcases Bool.or_eq_true _ _ ▸ hb with c | c
        · have := of_decide_eq_true c
          omega
        · exfalso
          rw [Bool.not_eq_true', List.all_eq_false] at c
          obtain ⟨p, hp, hn⟩ := c
          exact hn (decide_eq_true (inLb_pairs g ((inLb_iff wd).2 hi) p hp))
      · intro h
        exact ((mem_ws g.gr).1 h).1
    have hval : (decide (wd.length < 2) || inLb r wd) = inLb r wd := by
      by_cases c : wd.length < 2
      · have : inLb r wd = true := (inLb_iff wd).2 (by
          match wd, c with
          | [], _ => exact inL_nil g.gr
          | [a], _ => exact inL_one (hlt a (by simp)))
        rw [this]
        simp
      · simp [c]
    rw [← hval] at k
    refine x_ret (e_orV (a := decide (wd.length < 2)) (b := inLb r wd) (e_op (hlen rfl e12) e_c (o_cmp (by show V.bl _ = V.bl _; congr 1; simp; omega))) fun hf => e_op (e_var rfl ((vD _).mono e12 h2)) (e_var rfl (hws ((vL _).mono e2 p1))) (o_inL (dep60 _) (deps60 _) (hin (of_decide_eq_false hf)))) fun v H3 e3 p3 => k v H3 (e12.trans e3) p3
  · have e12 := e1.trans e2
    have hb' := Bool.or_eq_false_iff.1 hb
    have hn3 : ¬ wd.length < 3 := of_decide_eq_false hb'.1
    obtain ⟨kk, L⟩ := lvl_ex g.gr (wd.length - 1)
    have hm1 : ((wd.length : Int) - 1) = ((wd.length - 1 : Nat) : Int) := by omega
    have hlb : ∀ x y, E (tCall sp_long_blocks [] E0 (tCons (tVar 0) (tCons (tOp (rI0 fun i j => V.int (i - j)) (tCB (rLenS K) (tCons (tVar 1) tNil)) (tC (.int 1))) tNil))) [some v1, some v2, some v3, none, none, x, y, none] H2 (vBlks r kk) := fun x y =>
      (show E _ _ _ (vLvl r (wd.length - 1)) from e_call' (r, wd.length - 1) (a_cons (e_var rfl ((vD _).mono e12 h1)) (a_cons ((e_op (hlen rfl e12) e_c o_I0).weak fun v H3 _ p => (show (vI ((wd.length - 1 : Nat) : Int)).p v H3 by
        rw [← hm1]
        exact p)) a_nil)) ⟨g, by dsimp only; omega⟩).weak fun v H3 _ ⟨k', L', p⟩ => by
          rw [L.uniq L']
          exact p
    have ten : ∀ {u : List Nat}, (∀ a ∈ u, a < r.length) → ∀ a ∈ u, a < 10 := fun h a ha => by have := h a ha; omega
    refine x_asg (P := vL ((List.range r.length).map fun a => vV (.str (txt (blk r kk a))))) (EN.e (en_lc1 (vs := [6]) (List.range r.length) _ (fun a => vV (.str (txt (blk r kk a)))) (src_list (hlb _ _)) (by rw [List.length_range]; omega) (fun _ _ => st_v _) (fun v => rfl) ?_)) fun v4 H4 e4 p4 => ?_
    · intro a ha v H3 e3 p
      have ha := List.mem_range.1 ha
      exact e_call' (blk r kk a) (a_cons (e_var rfl p) a_nil) ⟨by have := L.bound g (by omega) ha; omega, ten (blk_lt g.gr kk ha)⟩
    have e14 := e12.trans e4
    have d1 : dot.length = 1 := by unfold Str.length; rw [dot_cps]; rfl
    have htx : E (tCall sp_text_by [] E0 (tCons (tVar 1) tNil)) [some v1, some v2, some v3, some v4, none, none, none, none] H4 (vV (.str (txt wd))) := e_call' wd (a_cons (e_var rfl ((vD _).mono e14 h2)) a_nil) ⟨by omega, ten hlt⟩
    refine x_asg (P := vV (.str (dot ++ txt wd))) (e_op e_c htx (o_addS (by rw [txt_len, d1]; omega))) fun v5 H5 e5 p5 => ?_
    have e15 := e14.trans e5
    have p1' : (vL ((ws r 2).map fun u => vD (eW u))).p v3 H5 := (vL _).mono ((e2.trans e4).trans e5) p1
    have p4' := (vL _).mono e5 p4
    have hfin : ((ws r 2).map fun u => !(Builtin.Str.occurrences (dot ++ txt (blk r kk (u.getD 0 0)) ++ txt (blk r kk (u.getD 1 0))) (dot ++ txt wd) 0 (dot ++ txt (blk r kk (u.getD 0 0)) ++ txt (blk r kk (u.getD 1 0))).length 1).isEmpty).any id = inLb r wd := by
      refine Bool.eq_iff_iff.2 ?_
      rw [List.any_map, List.any_eq_true, inLb_iff, inL_pairs_iff (k := kk) g.gr (fun z => by rw [z] at hn3; exact hn3 (by decide)) fun a ha => by have := L.all a ha; omega]
      constructor
      · rintro ⟨u, hu, h⟩
        obtain ⟨h1, h2⟩ := (mem_ws g.gr).1 hu
        obtain ⟨a, b, rfl⟩ : ∃ a b, u = [a, b] := by
          match u, h2 with
          | [a, b], _ => exact ⟨a, b, rfl⟩
        exact ⟨a, b, h1, (found_dots _ _ _).1 h⟩
      · rintro ⟨a, b, h1, h2⟩
        exact ⟨[a, b], (mem_ws g.gr).2 ⟨h1, rfl⟩, (found_dots _ _ _).2 h2⟩
    obtain ⟨f, hf, hfin⟩ : ∃ f : List Nat → Bool, (∀ a b, f [a, b] = !(Builtin.Str.occurrences (dot ++ txt (blk r kk a) ++ txt (blk r kk b)) (dot ++ txt wd) 0 (dot ++ txt (blk r kk a) ++ txt (blk r kk b)).length 1).isEmpty) ∧ ((ws r 2).map f).any id = inLb r wd := ⟨_, fun _ _ => rfl, hfin⟩
    rw [← hfin] at k
    dsimp only
    refine x_ret (P := vB (((ws r 2).map f).any id)) ?_ fun v H6 e6 p6 => k v H6 (e15.trans e6) p6
    refine e_cb (a_cons (EN.e ?_) a_nil) (r_any (bs := (ws r 2).map f))
    have hc := en_lc (vs := [6, 7]) (g := gTup K 2 (gCons (gName 6) (gCons (gName 7) gNil))) (t := tYes) (te := tOp rInStr (tVar 4) (tOp rAddS (tOp rAddS (tC (.str dot)) (tOp (rIxL K) (tVar 3) (tVar 6))) (tOp (rIxL K) (tVar 3) (tVar 7)))) (σ := [some v1, some v2, some v3, some v4, some v5, none, none, none]) (H := H5) (ws r 2) (fun u => vD (eW u))
      (fun u => vB (f u)) (fun _ => true) (src_list (K := K) (e_var (i := 2) rfl p1')) (by have := ws_le g (k := 2) (by omega); omega) (fun _ _ => st_v _) (by
      intro u hu v H7 e7 pu Q2 hQ2
      obtain ⟨h1, h2⟩ := (mem_ws g.gr).1 hu
      obtain ⟨a, b, rfl⟩ : ∃ a b, u = [a, b] := by
        match u, h2 with
        | [a, b], _ => exact ⟨a, b, rfl⟩
      have ha := h1.pair_left g.gr
      have hb := h1.pair_right g.gr
      have hA := L.bound g (by omega) ha
      have hB := L.bound g (by omega) hb
      have d1 : dot.length = 1 := by unfold Str.length; rw [dot_cps]; rfl
      have get : ∀ {c : Nat}, c < r.length → atI ((List.range r.length).map fun a => vV (.str (txt (blk r kk a)))) (c : Int) = some (vV (.str (txt (blk r kk c)))) := fun {c} hc => by
        refine atI_nat ?_
        rw [List.getElem?_map, List.getElem?_range hc]
        rfl
      rw [hf] at hQ2
      refine g_two pu (hQ2 _ rfl et_yes fun _ => ?_)
      have d2 : (dot ++ txt (blk r kk a)).length = 1 + 2 * (blk r kk a).length := by
        have : (dot ++ txt (blk r kk a)).length = dot.length + (txt (blk r kk a)).length := Array.size_append
        rw [this, d1, txt_len]
      exact e_op (e_var rfl ((vV _).mono e7 p5)) (e_op (e_op e_c (e_op (e_var rfl ((vL _).mono e7 p4')) (e_var rfl rfl) (o_ixL (get ha))) (o_addS (by rw [d1, txt_len]; omega))) (e_op (e_var rfl ((vL _).mono e7 p4')) (e_var rfl rfl) (o_ixL (get hb))) (o_addS (by rw [d2, txt_len]; omega))) o_inStr)
    rw [List.filter_eq_self.2 fun _ _ => rfl] at hc
    rw [List.map_map]
    exact hc

end
end K37
set_option Elab.async false
set_option linter.all false
set_option maxRecDepth 100000
set_option maxHeartbeats 1000000
/-! E14: promises of a new list. -/
namespace K37
open PySem L2 Evl
def spN {α : Type} (args : α → List VP) (cond : α → Prop) (res : α → List VP) : Sp := fun vs H Q _ => ∃ x, AllP (args x) vs H ∧ cond x ∧ ∀ p us H', H p = none → Ex H H' → H' p = some (.lst us) → AllP (res x) us H' → Q (.ref p) H'
section
variable {P : Program} {w : World} {K : PySem.W.Frag} {mg : Str → Option Value} {base : Heap}
theorem Df.okN {x : Str} {st : Stmt} {N ps : List Str} {k : Nat} {α : Type} {args : α → List VP} {cond : α → Prop} {res : α → List VP} (F : Df K mg x st []) (S : FnScope N ps (defScope st)) (hl : ∀ a, (args a).length = ps.length)
    (hb : ∀ (kV doc pm : Value) (an : Option Addr) (cdv ct : Value) (us : List Value), us.length = ps.length → bindArgs (PySem.W.fnOf x x (defArgs st) (defBody st) (defScope st) .none kV doc pm an cdv ct) ⟨us, []⟩ = pure (ps.zip us))
    (hbody : ∀ (f : Addr) (cdv : Value) (A : Around) (outer : List Env) (s : Shared) (H : Hp) (Ex' : XK), Room k (A.deeper (PyProof.Rows.envOfC x (defScope st) s.heap.objs.size f cdv)) →
      ∃ t, PSs (cxOf CX0 P w K mg base N x (defScope st) f cdv A outer s H Ex').nox (defBody st) t ∧ ∀ a vs, AllP (args a) vs H → cond a → ∀ Q : VK, (∀ p us H', H p = none → Ex H H' → H' p = some (.lst us) → AllP (res a) us H' → Q (.ref p) H') → t { nx := fun _ H' => Q .non H', rt := Q } (start N vs) H) : Cb P w K mg base x (k + 1) ps [] (spN args cond res) := by
  obtain ⟨f, fd, F, hm⟩ := F
  refine ⟨f, fd, [], FunD.ok F S (fun vs H Q E h => ?_) (fun cdv A outer s H vs Q E hr h => ?_), hm, F.kp, FunD.bindsN F hb, .nil⟩
  · obtain ⟨a, h1, _⟩ := h
    rw [h1.length, hl]
  · obtain ⟨t, h1, h2⟩ := hbody f cdv A outer s H E hr
    obtain ⟨a, h3, h4, h5⟩ := h
    exact ⟨t, PSs.nox h1, h2 a vs h3 h4 Q h5⟩
end
section
variable {σ : L2.St} {H : Hp} {te : TE} {D : Ends} {Ps : List VP}
theorem e_callN {α : Type} {args : α → List VP} {cond : α → Prop} {res : α → List VP} {Ex' : XK} {ta : TA} (x : α) (h : A ta σ H (args x)) (hc : cond x) : EN (tCall (spN args cond res) [] Ex' ta) σ H (res x) := fun H1 e Q q =>
  h H1 e _ fun vs H2 e2 ps => ⟨x, by
    rw [List.append_nil]
    exact ps, hc, fun p us H3 hp e3 h3 hall => q p us H3 (fresh_back e2 hp) (e2.trans e3) h3 hall⟩
theorem x_retN (h : EN te σ H Ps) (k : ∀ p us H1, H p = none → Ex H H1 → H1 p = some (.lst us) → AllP Ps us H1 → D.rt (.ref p) H1) : tRet te D σ H := h H (Ex.refl H) _ k
end
end K37
set_option Elab.async false
set_option linter.all false
set_option maxRecDepth 100000
set_option maxHeartbeats 2000000
/-! W12: the settling walk. -/
namespace K37
open PySem L2 Evl
section
variable {P : Program} {w : World} {K : PySem.W.Frag} {mg : Str → Option Value} {base : Heap}

theorem pa_starK (K : PySem.W.Frag) {X : Cx} {e : Expr} {es : List Expr} {te : TE} {t : TA} {p : Pos} (he : PE X e te) (hr : PA X es t) (hK : X.K = K := by rfl) (hs : starEach (.Starred e p :: es) X.env = (true, eval e X.env) :: starEach es X.env := by rfl) : PA X (.Starred e p :: es) (StX.tStar K te t) := by
  subst hK
  exact StX.pa_star he hr hs
theorem bCatT (K : PySem.W.Frag) {X : Cx} {a b : Expr} {ta tb : TE} {pos : Pos} (ha : PE X a ta) (hb : PE X b tb) (hK : X.K = K := by rfl) : PE X (.BinOp a .Add b pos) (tOp (rCatA K) ta tb) := by
  subst hK
  exact pe_op op_catA ha hb
theorem tNotInD (K : PySem.W.Frag) {X : Cx} {a b : Expr} {ta tb : TE} {pos : Pos} (hu : X.A.units + 65 < cLine) (ha : PE X a ta) (hb : PE X b tb) (hK : X.K = K := by rfl) (hm : behindInMarks .NotIn b = false := by rfl) : PT X (.Compare a [.NotIn] [b] pos) (tTest (tOp (rNotInD K) ta tb)) := by
  subst hK
  exact pt_cmpR (op_notInD hu) ha hb hm
theorem O.as {r : R2} {P1 P2 : VP} {b c : Bool} (h : O r P1 P2 (vB b)) (e : b = c) : O r P1 P2 (vB c) := by rw [← e]; exact h
theorem o_isN_word {H0 : Hp} {u : List Nat} : O rIsN (vD (eW u)) (vV .non) (vB false) := fun x y H hx hy Q q => by
  obtain ⟨a, vs, e, _⟩ := is_t.1 hx
  refine ⟨hy, ?_⟩
  rw [e]
  exact q _ H (Ex.refl H) rfl
theorem isAll_allP {H : Hp} {ds : List Dv} {vs : List V} (h : IsAll H ds vs) : AllP (ds.map vD) vs H := allP_isAll.2 h
theorem a_star {σ : L2.St} {H : Hp} {te : TE} {t : TA} {ds es : List Dv} (h : E te σ H (vD (.t ds))) (ht : K37.A t σ H (es.map vD)) : K37.A (StX.tStar K te t) σ H ((ds ++ es).map vD) := fun H1 e1 Q q =>
  h H1 e1 _ fun v H2 e2 p => by
    obtain ⟨a, vs, ev, ha, hall⟩ := is_t.1 p
    exact ⟨a, vs, ev, .inl (st_of ha), ht H2 (e1.trans e2) _ fun us H3 e3 hus => q _ H3 (e2.trans e3) (isAll_allP ((IsAll.mono (Ex.tx e3) _ _ hall).append (allP_isAll.1 hus)))⟩
theorem x_asgG {σ : L2.St} {H : Hp} {te : TE} {g : TG} {D : Ends} {P : VP} (h : E te σ H P) (k : ∀ v H1, Ex H H1 → P.p v H1 → g v σ H1 D.nx) : tAsg te g D σ H := h H (Ex.refl H) _ k
theorem g_four {σ : L2.St} {H : Hp} {i j k l : Nat} {v : V} {P1 P2 P3 P4 : VP} {Q : L2.St → Hp → Prop} (h : (vT [P1, P2, P3, P4]).p v H) (hk : ∀ a b c d, P1.p a H → P2.p b H → P3.p c H → P4.p d H → Q ((((σ.set i (some a)).set j (some b)).set k (some c)).set l (some d)) H) :
    gTup K 4 (gCons (gName i) (gCons (gName j) (gCons (gName k) (gCons (gName l) gNil)))) v σ H Q := by
  obtain ⟨a, vs, e, ha, u1, r1, e1, p1, u2, r2, e2, p2, u3, r3, e3, p3, u4, r4, e4, p4, e5⟩ := h
  rw [show r4 = [] from e5] at e4
  refine ⟨a, vs, e, st_of ha, by rw [e1, e2, e3, e4]; rfl, u1, _, by rw [e1, e2, e3, e4], u2, _, rfl, u3, _, rfl, u4, _, rfl, rfl, hk _ _ _ _ p1 p2 p3 p4⟩

/-! followers_by -/
def sp_followers_by : Sp := spN (fun (x : List (List Nat) × List Nat) => [vD (eR x.1), vD (eW x.2)]) (fun x => Good x.1 ∧ x.2.length ≤ 8 ∧ ∀ a ∈ x.2, a < x.1.length) (fun x => (folw x.1 x.2).map fun a => vD (eN a))
abbrev n_followers_by : List Str := ["rule", "word", "letter"]
theorem sc_followers_by : FnScope n_followers_by ["rule", "word"] (defScope st_followers_by) := ⟨rfl, rfl, rfl, by decide +kernel, rfl, by decide +kernel, by decide +kernel⟩
theorem ok_followers_by (F : Df K mg "followers_by" st_followers_by []) (B : Bi mg) (c_is_word_by : Cb P w K mg base "is_word_by" 3 ["rule", "word"] [] sp_is_word_by) : Cb P w K mg base "followers_by" 4 ["rule", "word"] [] sp_followers_by := by
  refine F.okN sc_followers_by (fun _ => rfl) (fun _ _ _ _ _ _ us hl => match us, hl with | [_, _], _ => rfl) fun f cdv A outer s H Ex' hr => ?_
  refine ⟨_, pss_one (ps_ret (pe_lc (own := [("letter", 2)]) (g := gName 2) rfl sc_followers_by.nd (itRg B (bLen K B (pv 0))) (blkOk_by (N := n_followers_by) (sc := defScope st_followers_by) (by decide +kernel)) (fun _ _ _ _ _ => pg_name (i := 2) sc_followers_by.nd rfl (Or.inl rfl)) (fun _ _ _ _ _ => pts_one (pt_val (pe_cb c_is_word_by (hr.mono (by decide)) rfl (pa_cons (pv 0) (pa_cons (bCatT K (pv 1) (pe_tup (pa_cons (pv 2) pa_nil))) pa_nil))))) (fun _ _ _ _ _ => pv 2))), ?_⟩
  rintro ⟨r, wd⟩ vs ⟨v1, r1, rfl, h1, v2, r2, rfl, h2, e⟩ ⟨g, hl, hlt⟩ Q k
  try dsimp only at *
  rw [show r2 = [] from e]
  have h4 := g.four
  refine x_retN (en_lcIf (vs := [2]) (List.range r.length) _ (fun a => vD (eN a)) (fun a => inLb r (wd ++ [a])) (src0_range (a_cons ((e_cb (a_cons (e_var rfl h1) a_nil) r_lenT).weak fun v H3 _ p => (by
      rw [List.length_map] at p
      exact p)) a_nil) (by omega)).t.src (by rw [List.length_range]; omega) (fun _ _ => st_d _) (fun v => rfl) ?_ ?_) k
  · intro a ha v H1 e1 p
    have ha := List.mem_range.1 ha
    refine t_b (e_call' (r, wd ++ [a]) (a_cons (e_var rfl ((vD _).mono e1 h1)) (a_cons ((e_op (e_var rfl ((vD _).mono e1 h2)) (e_tupD (ds := [eN a]) (a_cons (e_i (e_var rfl p)) a_nil) (by simp)) (o_catT (by rw [List.length_map]; simp; omega))).weak fun v H3 _ p => (by
      show Is H3 (eW (wd ++ [a])) v
      unfold eW
      rw [List.map_append]
      exact p)) a_nil)) ⟨g, by dsimp only; rw [List.length_append]; simp; omega, fun b hb => ?_⟩)
    rcases List.mem_append.1 hb with hb | hb
    · exact hlt b hb
    · rw [List.mem_singleton.1 hb]; exact ha
  · intro a ha v H1 e1 p _
    exact e_i (e_var rfl p)

/-! settling_walk -/
def sp_settling_walk : Sp := spF (fun (x : List (List Nat) × Mach) => [vD (eR x.1), vD (eM x.2)]) (fun x => Good x.1 ∧ Sz x.1 x.2 ∧ ∃ mem d, Mem x.1 x.2 mem ∧ Dl x.1 x.2 mem d ∧ d ≤ 8) (fun x => vEx (fun (y : List Nat × Nat × Nat) => Mem x.1 x.2 y.2.2 ∧ Fw x.1 x.2 y.2.2 y.1 ∧ Dl x.1 x.2 y.2.2 y.2.1) fun y => vT [vD (eW y.1), vI y.2.1])
abbrev n_settling_walk : List Str := ["rule", "machine", "memory", "left", "length", "found", "words", "word", "letter", "settled"]
theorem sc_settling_walk : FnScope n_settling_walk ["rule", "machine"] (defScope st_settling_walk) := ⟨rfl, rfl, rfl, by decide +kernel, rfl, by decide +kernel, by decide +kernel⟩
theorem ok_settling_walk (F : Df K mg "settling_walk" st_settling_walk []) (B : Bi mg) (c_memory_by : Cb P w K mg base "memory_by" 5 ["rule", "machine"] [] sp_memory_by) (c_followers_by : Cb P w K mg base "followers_by" 4 ["rule", "word"] [] sp_followers_by) (c_is_settled : Cb P w K mg base "is_settled" 3 ["machine", "memory", "word"] [] sp_is_settled) : Cb P w K mg base "settling_walk" 6 ["rule", "machine"] [] sp_settling_walk := by
  refine F.ok sc_settling_walk (fun _ => rfl) (fun _ _ _ _ _ _ us hl => match us, hl with | [_, _], _ => rfl) fun f cdv A outer s H Ex' hr => ?_
  refine ⟨_, pss_cons (ps_asg (pe_tup (pa_cons (pe_cb c_memory_by (hr.mono (by decide)) rfl (pa_cons (pv 0) (pa_cons (pv 1) pa_nil))) (pa_cons (pe_lst (pa_cons (pe_tup pa_nil) pa_nil)) (pa_cons pe_int (pa_cons pe_non pa_nil))))) (pg_tup rfl (pgs_cons (pg_name (i := 2) sc_settling_walk.nd rfl (Or.inr rfl)) (pgs_cons (pg_name (i := 3) sc_settling_walk.nd rfl (Or.inl rfl)) (pgs_cons (pg_name (i := 4) sc_settling_walk.nd rfl (Or.inl rfl)) (pgs_cons (pg_name (i := 5) sc_settling_walk.nd rfl (Or.inl rfl)) pgs_nil))))))
    (pss_cons (ps_if (pt_cmpR op_eq (bLen K B (pv 1)) (pv 2) (by rfl)) (pss_one (ps_ret (pe_tup (pa_cons (pe_tup pa_nil) (pa_cons pe_int pa_nil))))) pss_nil)
    (pss_cons (ps_while PassesOwn.never (pt_cmpR op_gt (bLen K B (pv 3)) pe_int (by rfl)) (pss_cons (ps_setLc2 (i := 6) (own := [("word", 7), ("letter", 8)]) (vs1 := [8]) (g := gName 7) (g1 := gName 8) (tt := tYes) (tt1 := tYes) rfl sc_settling_walk.nd rfl rfl (sw_true rfl rfl rfl rfl) (itL K (pv 3)) (blkOk_by (N := n_settling_walk) (sc := defScope st_settling_walk) (by decide +kernel)) (by decide) (fun _ _ _ _ _ => pg_name (i := 7) sc_settling_walk.nd rfl (Or.inl rfl)) (fun _ _ _ _ _ => pts_nil) (fun _ _ _ _ _ => itL K (pe_cb c_followers_by (hr.mono (by decide)) rfl (pa_cons (pv 0) (pa_cons (pv 7) pa_nil)))) (fun _ _ _ _ _ => pg_name (i := 8) sc_settling_walk.nd rfl (Or.inl rfl)) (fun _ _ _ _ _ => pts_nil) (fun _ _ _ _ _ => pe_tup (pa_starK K (pv 7) (pa_cons (pv 8) pa_nil))))
    (pss_cons (ps_set (i := 9) sc_settling_walk.nd rfl (Or.inr rfl) (pe_lc (own := [("word", 7)]) (g := gName 7) rfl sc_settling_walk.nd (itL K (pv 6)) (blkOk_by (N := n_settling_walk) (sc := defScope st_settling_walk) (by decide +kernel)) (fun _ _ _ _ _ => pg_name (i := 7) sc_settling_walk.nd rfl (Or.inl rfl)) (fun _ _ _ _ _ => pts_one (pt_val (pe_cb c_is_settled (hr.mono (by decide)) rfl (pa_cons (pv 1) (pa_cons (pv 2) (pa_cons (pv 7) pa_nil)))))) (fun _ _ _ _ _ => pv 7)))
    (pss_cons (ps_setLc (i := 3) (own := [("word", 7)]) (g := gName 7) rfl sc_settling_walk.nd rfl rfl (sw_true rfl rfl rfl rfl) (itL K (pv 6)) (blkOk_by (N := n_settling_walk) (sc := defScope st_settling_walk) (by decide +kernel)) (fun _ _ _ _ _ => pg_name (i := 7) sc_settling_walk.nd rfl (Or.inl rfl)) (fun _ _ _ _ _ => pts_one (tNotInD K (room65 hr) (pv 7) (pv 9))) (fun _ _ _ _ _ => pv 7))
    (pss_cons (ps_set (i := 4) sc_settling_walk.nd rfl (Or.inl rfl) (pe_op op_add (pv 4) pe_int))
    (pss_one (ps_if (PW.pt (pw_and (pt_cmpR op_isN1 (pv 5) pe_non (by rfl)) (pw_and1 (pt_cmpR op_gt (bLen K B (pv 9)) pe_int (by rfl))))) (pss_one (ps_set (i := 5) sc_settling_walk.nd rfl (Or.inl rfl) (ixL K (pv 9) pe_int))) pss_nil)))))))
    (pss_one (ps_ret (pe_tup (pa_cons (pv 5) (pa_cons (pv 4) pa_nil))))))), ?_⟩
  rintro ⟨r, M⟩ vs ⟨v1, r1, rfl, h1, v2, r2, rfl, h2, e⟩ ⟨g, z, mem, d, hm, hd, hd8⟩ Q k
  try dsimp only at *
  rw [show r2 = [] from e]
  have h4 := g.four
  have gm := z.gm
  have h3 := z.three
  have hmemE : E (tCall sp_memory_by [] E0 (tCons (tVar 0) (tCons (tVar 1) tNil))) (L2.start n_settling_walk [v1, v2]) H (vI (mem : Nat)) := (show E _ _ _ (vMem r M) from e_call' (r, M) (a_cons (e_var rfl h1) (a_cons (e_var rfl h2) a_nil)) z).weak fun v H1 _ ⟨m', hm', p⟩ => by
    rw [hm.uniq hm']
    exact p
  refine x_asgG (e_tup (Ps := [vI (mem : Nat), vL [vD (eW [])], vI 0, vV .non]) (a_cons hmemE (a_cons (EN.e (en_lst (Ps := [vD (eW [])]) (a_cons (e_tupD (ds := []) a_nil (by simp)) a_nil) (by simp))) (a_cons e_c (a_cons e_c a_nil)))) (by simp)) fun v H1 e1 p => g_four p fun a b c f4 pa pb pc pd => ?_
  dsimp only
  have hMl : ∀ {σ' : L2.St} {H' : Hp}, σ'[1]? = some (some v2) → Ex H H' → E (tCB (rLenS K) (tCons (tVar 1) tNil)) σ' H' (vI (M.length : Nat)) := fun {σ' H'} hs e => (e_cb (a_cons (e_var hs ((vD _).mono e h2)) a_nil) r_lenT).weak fun v H1 _ p => (by
    rw [List.length_map] at p
    exact p)
  by_cases hM : M.length = mem
  · refine x_if (b := true) (t_test (e_op (hMl rfl e1) (e_var rfl pa) ((o_eq (by rfl)).as (by rw [hM]; simp)))) (fun _ H2 e2 => ?_) (fun z => by cases z)
    have hd0 := (hd.zero g.gr).2 hM.symm
    exact x_ret (e_tup (Ps := [vD (eW []), vI 0]) (a_cons (e_tupD (ds := []) a_nil (by simp)) (a_cons e_c a_nil)) (by simp)) fun v H3 e3 p3 => k v H3 ((e1.trans e2).trans e3) ⟨([], 0, mem), ⟨hm, fw_nil g.gr hM.symm, by rw [hd0] at hd; exact hd⟩, p3⟩
  refine x_if (b := false) (t_test (e_op (hMl rfl e1) (e_var rfl pa) ((o_eq (by rfl)).as (by
    rw [decide_eq_false_iff_not]
    intro y
    injection y with y
    exact hM (by omega))))) (fun z => by cases z) fun _ H2 e2 => ?_
  have hrk0 : rk M [] ≠ mem := by rw [rk_nil]; exact hM
  have hu0 : uns M mem (ws r 0) = [[]] := by
    rw [ws_zero g.gr]
    unfold uns
    simp [hrk0]
  have hs0 : stl M mem (ws r 0) = [] := by
    rw [ws_zero g.gr]
    unfold stl
    simp [hrk0]
  have p0 : (vL ((uns M mem (ws r 0)).map fun u => vD (eW u))).p b H2 := by
    rw [hu0]
    exact (vL _).mono e2 pb
  refine x_while (fun m σ' H' => ∃ j lv fv x y zz q, m = d + 1 - j ∧ j ≤ d ∧ σ' = [some v1, some v2, some a, some lv, some (.int (j : Nat)), some fv, x, y, zz, q] ∧ Ex H H' ∧ (vL ((uns M mem (ws r j)).map fun u => vD (eW u))).p lv H' ∧
    ((fv = .non ∧ ∀ i, i ≤ j → stl M mem (ws r i) = []) ∨ ∃ u, Fw r M mem u ∧ Is H' (eW u) fv)) (d + 1) ⟨0, b, f4, _, _, _, _, rfl, Nat.zero_le _, by rw [show c = .int 0 from pc]; rfl, e1.trans e2, p0, .inl ⟨pd, fun i hi => by rw [show i = 0 by omega]; exact hs0⟩⟩ ?_
  rintro m σ' H' ⟨j, lv, fv, x, y, zz, q, rfl, hj, rfl, eH, pl, hf⟩
  have hleft : ∀ u ∈ uns M mem (ws r j), InL r u ∧ u.length = j := fun u hu => (mem_ws g.gr).1 (mem_uns.1 hu).1
  have hll : (uns M mem (ws r j)).length ≤ 3852 := Nat.le_trans (List.length_filter_le _ _) (ws_le g (by omega))
  by_cases hn : uns M mem (ws r j) = []
  · refine ⟨false, t_test (e_op (e_cb (a_cons (e_var rfl pl) a_nil) r_lenL) e_c (o_cmp (by rw [hn]; rfl))), (fun z => by cases z), fun _ H4 e4 => ?_⟩
    have hjd : j = d := by
      rcases Nat.lt_or_ge j d with cc | cc
      · obtain ⟨u, u1, u2, u3⟩ := hd.ex j cc
        exact absurd ((uns_nil_iff g.gr).1 hn u u1 u2) u3
      · omega
    subst hjd
    obtain ⟨u, hu, pu⟩ : ∃ u, Fw r M mem u ∧ Is H' (eW u) fv := by
      rcases hf with ⟨_, hno⟩ | hf
      · exfalso
        have hne := WS.ne g.gr (ws_ok g.gr j)
        obtain ⟨u, hu⟩ := List.exists_mem_of_ne_nil _ hne
        have hst : u ∈ stl M mem (ws r j) := mem_stl.2 ⟨hu, hd.all u ((mem_ws g.gr).1 hu).1 ((mem_ws g.gr).1 hu).2⟩
        rw [hno j (Nat.le_refl _)] at hst
        cases hst
      · exact hf
    exact x_ret (e_tup (Ps := [vD (eW u), vI (j : Nat)]) (a_cons (e_var rfl (Is.mono (Ex.tx e4) _ _ pu)) (a_cons (e_var rfl rfl) a_nil)) (by simp)) fun v H5 e5 p5 => k v H5 ((eH.trans e4).trans e5) ⟨(u, j, mem), ⟨hm, hu, hd⟩, p5⟩
  have hjd : j < d := by
    rcases Nat.lt_or_ge j d with cc | cc
    · exact cc
    · exfalso
      have : j = d := by omega
      subst this
      exact hn ((uns_nil_iff g.gr).2 fun u u1 u2 => hd.all u u1 u2)
  refine ⟨true, t_test (e_op (e_cb (a_cons (e_var rfl pl) a_nil) r_lenL) e_c (o_cmp (by
    have := List.length_pos_iff.2 hn
    show V.bl _ = V.bl true
    rw [List.length_map]
    simp
    omega))), fun _ H4 e4 N hN => ?_, (fun z => by cases z)⟩
  have hrec : ∀ u, (∀ a ∈ u, a < r.length) → (folw r u).length ≤ 4 := fun u _ => Nat.le_trans (List.length_filter_le _ _) (by rw [List.length_range]; exact h4)
  have hext : extw r (uns M mem (ws r j)) = (uns M mem (ws r j)).flatMap fun u => (folw r u).map fun a => u ++ [a] := rfl
  have hwl : ∀ u ∈ extw r (uns M mem (ws r j)), InL r u ∧ u.length = j + 1 := fun u hu => by
    obtain ⟨u0, h0, a0, e0, hi⟩ := (mem_extw g.gr).1 hu
    refine ⟨hi, ?_⟩
    rw [e0, List.length_append, (hleft u0 h0).2]
    rfl
  have e04 := eH.trans e4
  refine x_asg (P := vL ((extw r (uns M mem (ws r j))).map fun u => vD (eW u))) ?_ fun wv H5 e5 p5 => ?_
  · rw [hext, List.map_flatMap]
    simp only [List.map_map]
    refine EN.e (en_lc2 (vs := [7, 8]) (vs1 := [8]) (uns M mem (ws r j)) _ (fun u => folw r u) (fun _ a => vD (eN a)) (fun u a => vD (eW (u ++ [a]))) (src_list (e_var rfl ((vL _).mono e4 pl))) (by
      refine Nat.le_trans (len_flatW _ 4 _ fun u hu => hrec u ((hleft u hu).1.letters g.gr)) ?_
      omega) (fun _ _ _ _ => st_d _) ?_)
    intro u hu v5 H5 e5 pu Q1 hQ1
    refine hQ1 _ rfl (src0_new (e_callN (r, u) (a_cons (e_var rfl ((vD _).mono (e04.trans e5) h1)) (a_cons (e_var rfl pu) a_nil)) ⟨g, by dsimp only; rw [(hleft u hu).2]; omega, (hleft u hu).1.letters g.gr⟩) fun P hP => by
      obtain ⟨_, _, rfl⟩ := List.mem_map.1 hP
      exact st_d _).t ?_
    intro aa haa v6 H6 e6 p6 Q2 hQ2
    refine hQ2 _ rfl (e_Td (e_tup (Ps := ((u.map eN) ++ [eN aa]).map vD) (a_star (es := [eN aa]) (e_var rfl (e6.2 _ _ (st_d _) pu)) (a_cons (e_var rfl p6) a_nil)) (by simp; have := (hleft u hu).2; omega)) |>.weak fun v H7 _ p => (by
      show Is H7 (eW (u ++ [aa])) v
      unfold eW
      rw [List.map_append]
      exact p))
  have e05 := e04.trans e5
  have hwlen : (extw r (uns M mem (ws r j))).length ≤ 16000 := by
    rw [hext]
    refine Nat.le_trans (len_flatW _ 4 _ fun u hu => ?_) (by omega)
    rw [List.length_map]
    exact hrec u ((hleft u hu).1.letters g.gr)
  dsimp only
  refine x_asg (P := vL ((stl M mem (extw r (uns M mem (ws r j)))).map fun u => vD (eW u))) (EN.e (en_lcIf (vs := [7]) (extw r (uns M mem (ws r j))) (fun u => vD (eW u)) (fun u => vD (eW u)) (fun u => rk M u == mem) (src_list (e_var rfl p5)) (by omega) (fun _ _ => st_d _) (fun v => rfl) ?_ ?_)) fun sv H6 e6 p6 => ?_
  · intro u hu v7 H7 e7 p7
    exact t_b (e_call' ((M, mem), u) (a_cons (e_var rfl ((vD _).mono (e05.trans e7) h2)) (a_cons (e_var rfl pa) (a_cons (e_var rfl p7) a_nil))) ⟨h3, by dsimp only; rw [(hwl u hu).2]; omega, r.length, gm, (hwl u hu).1.letters g.gr⟩)
  · intro u hu v7 H7 e7 p7 _
    exact e_var rfl p7
  dsimp only
  have hdvs : ∀ {H7 : Hp}, Ex H6 H7 → (vDs ((stl M mem (extw r (uns M mem (ws r j)))).map eW)).p sv H7 := fun e7 => by
    unfold vDs
    rw [map_vD]
    exact (vL _).mono e7 p6
  refine x_asg (P := vL ((uns M mem (ws r (j + 1))).map fun u => vD (eW u))) ?_ fun lv' H7 e7 p7 => ?_
  · rw [← left_step g.gr hm j]
    have hfil : (extw r (uns M mem (ws r j))).filter (fun u => !decide (u ∈ stl M mem (extw r (uns M mem (ws r j))))) = uns M mem (extw r (uns M mem (ws r j))) := by
      unfold uns
      refine List.filter_congr fun u hu => ?_
      congr 1
      refine Bool.eq_iff_iff.2 ?_
      rw [decide_eq_true_iff]
      rw [beq_iff_eq]
      exact ⟨fun h => (mem_stl.1 h).2, fun h => mem_stl.2 ⟨hu, h⟩⟩
    rw [← hfil]
    refine EN.e (en_lcIf (vs := [7]) (extw r (uns M mem (ws r j))) (fun u => vD (eW u)) (fun u => vD (eW u)) (fun u => !decide (u ∈ stl M mem (extw r (uns M mem (ws r j))))) (src_list (e_var rfl ((vL _).mono e6 p5))) (by omega) (fun _ _ => st_d _) (fun v => rfl) ?_ ?_)
    · intro u hu v8 H8 e8 p8
      exact t_test (e_op (e_var rfl p8) (e_var rfl (hdvs e8)) (o_notInL (dep60 _) (deps60 _) (by rw [decide_eq_true_iff]; exact mem_map_eW.symm)))
    · intro u hu v8 H8 e8 p8 _
      exact e_var rfl p8
  dsimp only
  refine x_asg (P := vI ((j + 1 : Nat) : Int)) ((e_op (e_var rfl rfl) e_c (o_I0 (g := fun i j => V.int (i + j)))).weak fun v H8 _ p => (by
    rw [Int.natCast_add]
    exact p)) fun cv H8 e8 p8 => ?_
  rw [show cv = .int ((j + 1 : Nat) : Int) from p8]
  dsimp only
  have e68 := (e7.trans e8)
  have e08 := (e05.trans e6).trans e68
  have pl8 := (vL _).mono e8 p7
  have ps8 := (vL _).mono e68 p6
  have next : ∀ fv' H9, Ex H8 H9 → ((fv' = .non ∧ ∀ i, i ≤ j + 1 → stl M mem (ws r i) = []) ∨ ∃ u, Fw r M mem u ∧ Is H9 (eW u) fv') → N [some v1, some v2, some a, some lv', some (.int ((j + 1 : Nat) : Int)), some fv', some wv, y, zz, some sv] H9 := fun fv' H9 e9 hf' =>
    hN (d + 1 - (j + 1)) _ _ (by omega) ⟨j + 1, lv', fv', _, _, _, _, rfl, hjd, rfl, e08.trans e9, (vL _).mono e9 pl8, hf'⟩
  rcases hf with ⟨rfl, hno⟩ | ⟨u, hu, pu⟩
  · have hall : extw r (uns M mem (ws r j)) = ws r (j + 1) := words_all g.gr (uns_of_stl_nil (hno j (Nat.le_refl _)))
    rw [hall] at ps8
    by_cases hst : stl M mem (ws r (j + 1)) = []
    · refine x_if (b := false) (t_and (a := true) (b := false) (t_test (e_op (e_var rfl rfl) e_c o_isN_non)) fun _ => t_test (e_op (e_cb (a_cons (e_var rfl ps8) a_nil) r_lenL) e_c (o_cmp (by rw [hst]; rfl)))) (fun z => by cases z) fun _ H9 e9 => next _ _ e9 (.inl ⟨rfl, fun i hi => ?_⟩)
      rcases Nat.lt_or_ge i (j + 1) with cc | cc
      · exact hno i (by omega)
      · rw [show i = j + 1 by omega]; exact hst
    · obtain ⟨u, t, hut⟩ := List.exists_cons_of_ne_nil hst
      have hfw : Fw r M mem u := fw_head g.gr (fun i hi => hno i (by omega)) hut
      refine x_if (b := true) (t_and (a := true) (b := true) (t_test (e_op (e_var rfl rfl) e_c o_isN_non)) fun _ => t_test (e_op (e_cb (a_cons (e_var rfl ps8) a_nil) r_lenL) e_c (o_cmp (by rw [hut]; show V.bl _ = V.bl true; simp)))) (fun _ H9 e9 => ?_) (fun z => by cases z)
      refine x_asg (P := vD (eW u)) (e_op (e_var rfl ((vL _).mono e9 ps8)) e_c (o_ixL (atI_nat (j := 0) (by rw [hut]; rfl)))) fun fv' H10 e10 p10 => next fv' H10 (e9.trans e10) (.inr ⟨u, hfw, p10⟩)
  · have pu8 : Is H8 (eW u) fv := Is.mono (Ex.tx (((e4.trans e5).trans e6).trans e68)) _ _ pu
    refine x_if (b := false) (t_and (a := false) (b := false) (t_test (e_op (e_var rfl (show (vD (eW u)).p fv H8 from pu8)) e_c (o_isN_word (H0 := H)))) fun z => by cases z) (fun z => by cases z) fun _ H9 e9 => next _ _ e9 (.inr ⟨u, hu, Is.mono (Ex.tx e9) _ _ pu8⟩)

end
end K37
set_option Elab.async false
set_option linter.all false
set_option maxRecDepth 100000
set_option maxHeartbeats 1000000
/-! E22: calls by keywords alone, in the parameters' order turned about. -/
namespace K37
open PySem L2 Evl
/-- nothing by position: the keywords' values turned about -/
def gRev {α : Type} (us ws : List α) : List α := match us with
  | [] => ws.reverse
  | _ :: _ => []
theorem vals_rev : ∀ {vs : List V} {us : List Value}, Vals vs us → Vals vs.reverse us.reverse
  | _, _, .nil => .nil
  | _, _, .cons h r => by
    rw [List.reverse_cons, List.reverse_cons]
    exact (vals_rev r).append (.cons h .nil)
section
variable (P : Program) (w : World) (K : PySem.W.Frag) (mg : Str → Option Value) (base : Heap)
/-- a def that may be called by keywords, its last parameter first -/
def Ck (x : Str) (k : Nat) (ps : List Str) (sp : Sp) : Prop := ∃ f fd, FnOk P w K mg base CX0 k f fd ps sp ∧ mg x = some (.ref f) ∧ PySem.W.keepIn K (.ref f) = true ∧ KBinds K fd ps ps.reverse gRev gRev
end
section
variable {P : Program} {w : World} {K : PySem.W.Frag} {mg : Str → Option Value} {base : Heap}
theorem kb_rev {x : Str} {st : Stmt} {ps : List Str} {f : Addr} {fd : FuncData} (F : FnP K x st [] f fd) (hp : ps ≠ [])
    (hk : ∀ (kV doc pm : Value) (an : Option Addr) (cdv ct : Value) (ws : List Value), ws.length = ps.length → bindArgs (PySem.W.fnOf x x (defArgs st) (defBody st) (defScope st) .none kV doc pm an cdv ct) ⟨[], ps.reverse.zip ws⟩ = pure (ps.zip ws.reverse)) : KBinds K fd ps ps.reverse gRev gRev := by
  refine ⟨fun s us ws X hl => ?_, fun {vs us zs ws} r1 r2 => ?_⟩
  · obtain ⟨oc, od, dV, kV, doc, pm, an, cdv, ct, osl, rfl, lk, hcd, hD, hK⟩ := F.ex
    rcases hD with ⟨_, rfl⟩ | ⟨e, _⟩
    · cases us with
      | nil =>
        have hl' : ws.length = ps.length := by
          have h2 : (ws.reverse).length = ps.length := hl
          rwa [List.length_reverse] at h2
        exact .of_eq (hk kV doc pm an cdv ct ws hl')
      | cons u us =>
        have h2 : ([] : List Value).length = ps.length := hl
        exact absurd (List.eq_nil_of_length_eq_zero h2.symm) hp
    · exact absurd rfl e
  · cases r1 with
    | nil => exact vals_rev r2
    | cons _ _ => exact .nil
theorem Df.ok2 {x : Str} {st : Stmt} {N ps : List Str} {k : Nat} {α : Type} {args : α → List VP} {cond : α → Prop} {res : α → VP} (F : Df K mg x st []) (S : FnScope N ps (defScope st)) (hl : ∀ a, (args a).length = ps.length) (hp : ps ≠ [])
    (hb : ∀ (kV doc pm : Value) (an : Option Addr) (cdv ct : Value) (us : List Value), us.length = ps.length → bindArgs (PySem.W.fnOf x x (defArgs st) (defBody st) (defScope st) .none kV doc pm an cdv ct) ⟨us, []⟩ = pure (ps.zip us))
    (hk : ∀ (kV doc pm : Value) (an : Option Addr) (cdv ct : Value) (ws : List Value), ws.length = ps.length → bindArgs (PySem.W.fnOf x x (defArgs st) (defBody st) (defScope st) .none kV doc pm an cdv ct) ⟨[], ps.reverse.zip ws⟩ = pure (ps.zip ws.reverse))
    (hbody : ∀ (f : Addr) (cdv : Value) (A : Around) (outer : List Env) (s : Shared) (H : Hp) (Ex' : XK), Room k (A.deeper (PyProof.Rows.envOfC x (defScope st) s.heap.objs.size f cdv)) →
      ∃ t, PSs (cxOf CX0 P w K mg base N x (defScope st) f cdv A outer s H Ex').nox (defBody st) t ∧ ∀ a vs, AllP (args a) vs H → cond a → ∀ Q : VK, (∀ v H', Ex H H' → (res a).p v H' → Q v H') → t { nx := fun _ H' => Q .non H', rt := Q } (start N vs) H) :
    Cb P w K mg base x (k + 1) ps [] (spF args cond res) ∧ Ck P w K mg base x (k + 1) ps (spF args cond res) := by
  obtain ⟨f, fd, F, hm⟩ := F
  have key : FnOk P w K mg base CX0 (k + 1) f fd ps (spF args cond res) := FunD.ok F S (fun vs H Q E h => by
    obtain ⟨a, h1, _⟩ := h
    rw [h1.length, hl]) fun cdv A outer s H vs Q E hr h => by
    obtain ⟨t, h1, h2⟩ := hbody f cdv A outer s H E hr
    obtain ⟨a, h3, h4, h5⟩ := h
    exact ⟨t, PSs.nox h1, h2 a vs h3 h4 Q h5⟩
  exact ⟨⟨f, fd, [], key, hm, F.kp, FunD.bindsN F hb, .nil⟩, ⟨f, fd, key, hm, F.kp, kb_rev F hp hk⟩⟩
def tKw (sp : Sp) (tk : TA) : TE := fun σ H Q => tk σ H fun zs H2 => sp zs.reverse H2 Q E0
theorem pe_kw {X : Cx} {x : Str} {k : Nat} {ps : List Str} {sp : Sp} {p pos : Pos} {kws : List Keyword} {tk : TA} (C : Ck X.prog X.w X.K X.mg X.base x k ps sp) (hr : Room k X.A) (hg : Gl X x) (hkw : PK X kws tk) (hall : (backToKw pos (keywordEach kws X.env)).all (·.1.isSome) = true := by rfl)
    (hks : (backToKw pos (keywordEach kws X.env)).filterMap (·.1) = ps.reverse := by rfl) (hdb : (x == ("__debug__" : Str)) = false := by decide)
    (hpl : ((backTo pos (starEach [] X.env)).any (·.1) || (backToKw pos (keywordEach kws X.env)).any (·.1.isNone)) = false := by rfl) : PE X (.Call (.Name x p) [] kws pos) (tKw sp tk) := by
  obtain ⟨f, fd, F, hm, hk, hb⟩ := C
  exact ⟨fun pins s σ H Q I h => wpAny_Call_Name_kw (ld_glob I hg hm (PySem.W.callWith_KW0 (h₀ := X.base) I.ok.mod.kin hk hall (thn (hkw.run pos pins s σ H _ I h) fun ws s2 ⟨zs, H2, I2, rz, q2⟩ => ⟨I2.kIn, by
    rw [hks]
    exact run_fnk (us := []) (vs := []) F hr hb pass0 I2 .nil rz q2⟩) hpl) hdb)⟩
theorem e_kw {σ : L2.St} {H : Hp} {α : Type} {args : α → List VP} {cond : α → Prop} {res : α → VP} {tk : TA} {P1 P2 : VP} (x : α) (h : A tk σ H [P2, P1]) (ex : args x = [P1, P2]) (hc : cond x) : E (tKw (spF args cond res) tk) σ H (res x) := fun H1 e Q q =>
  h H1 e _ fun vs H2 e2 ⟨v, r, a1, a2, u, r2, b1, b2, b3⟩ => by
    have b3' : r2 = [] := b3
    subst b3'
    subst b1
    subst a1
    exact ⟨x, by rw [ex]; exact ⟨u, [v], rfl, b2, v, [], rfl, a2, rfl⟩, hc, fun v H3 e3 p => q v H3 (e2.trans e3) p⟩
end
end K37
set_option Elab.async false
set_option linter.all false
set_option maxRecDepth 100000
set_option maxHeartbeats 2000000
/-! W13: the answers. -/
namespace K37
open PySem L2 Evl
section
variable {P : Program} {w : World} {K : PySem.W.Frag} {mg : Str → Option Value} {base : Heap}

structure Wld (r : List (List Nat)) (M : Mach) : Prop where
  good : Good r
  sz : Sz r M
  ex : ∃ mem d, Mem r M mem ∧ Dl r M mem d ∧ d ≤ 8

def vAny : VP := ⟨fun _ _ => True, fun _ _ => trivial⟩
theorem o_ixTEx {K : PySem.W.Frag} {ι : Type} {c : ι → Prop} {Ps : ι → List VP} {P : ι → VP} {i : Int} (h : ∀ y, atI (Ps y) i = some (P y)) : O (rIxT K) (vEx c fun y => vT (Ps y)) (vI i) (vEx c P) := fun x y H ⟨j, hc, hx⟩ hy Q q =>
  o_ixTP (h j) x y H hx hy Q fun v H2 e p => q v H2 e ⟨j, hc, p⟩
theorem Wld.fit {r : List (List Nat)} {M : Mach} (W : Wld r M) : Good r ∧ GM r.length M ∧ M.length ≤ 3 := ⟨W.good, W.sz.gm, W.sz.three⟩

/-! delay_by -/
def sp_delay_by : Sp := spF (fun (x : List (List Nat) × Mach) => [vD (eR x.1), vD (eM x.2)]) (fun x => Wld x.1 x.2) (fun x => vEx (fun (y : Nat × Nat) => Mem x.1 x.2 y.2 ∧ Dl x.1 x.2 y.2 y.1) fun y => vI y.1)
abbrev n_delay_by : List Str := ["rule", "machine"]
theorem sc_delay_by : FnScope n_delay_by ["rule", "machine"] (defScope st_delay_by) := ⟨rfl, rfl, rfl, by decide +kernel, rfl, by decide +kernel, by decide +kernel⟩
theorem ok_delay_by (F : Df K mg "delay_by" st_delay_by []) (B : Bi mg) (c_settling_walk : Cb P w K mg base "settling_walk" 6 ["rule", "machine"] [] sp_settling_walk) : Cb P w K mg base "delay_by" 7 ["rule", "machine"] [] sp_delay_by := by
  refine F.ok sc_delay_by (fun _ => rfl) (fun _ _ _ _ _ _ us hl => match us, hl with | [_, _], _ => rfl) fun f cdv A outer s H Ex' hr => ?_
  refine ⟨_, pss_one (ps_ret (ixT K (pe_cb c_settling_walk (hr.mono (by decide)) rfl (pa_cons (pv 0) (pa_cons (pv 1) pa_nil))) pe_int)), ?_⟩
  rintro ⟨r, M⟩ vs ⟨v1, r1, rfl, h1, v2, r2, rfl, h2, e⟩ W Q k
  try dsimp only at *
  rw [show r2 = [] from e]
  have W' := W
  obtain ⟨g, z, mem, d, hm, hd, hd8⟩ := W'
  have hs : E (tCall sp_settling_walk [] E0 (tCons (tVar 0) (tCons (tVar 1) tNil))) (L2.start n_delay_by [v1, v2]) H (vEx (fun (y : List Nat × Nat × Nat) => Mem r M y.2.2 ∧ Fw r M y.2.2 y.1 ∧ Dl r M y.2.2 y.2.1) fun y => vT [vD (eW y.1), vI y.2.1]) :=
    e_call' (r, M) (a_cons (e_var rfl h1) (a_cons (e_var rfl h2) a_nil)) ⟨g, z, mem, d, hm, hd, hd8⟩
  have hs2 : E (tCall sp_settling_walk [] E0 (tCons (tVar 0) (tCons (tVar 1) tNil))) (L2.start n_delay_by [v1, v2]) H (vT [vAny, vI (d : Nat)]) := hs.weak fun v H1 _ ⟨y, ⟨m1, _, m3⟩, p⟩ => by
    have e1 := hm.uniq m1
    rw [← e1] at m3
    rw [hd.uniq m3]
    obtain ⟨a, vs, ev, ha, u1, r1, e1, p1, u2, r2, e2, p2, e3⟩ := p
    exact ⟨a, vs, ev, ha, u1, r1, e1, trivial, u2, r2, e2, p2, e3⟩
  exact x_ret (e_op hs2 e_c (o_ixTP (atI_nat (j := 1) rfl))) fun v H1 e1 p => k v H1 e1 ⟨(d, mem), ⟨hm, hd⟩, p⟩

/-! sets_by -/
def sp_sets_by : Sp := spF (fun (x : List (List Nat) × Mach) => [vD (eR x.1), vD (eM x.2)]) (fun x => Wld x.1 x.2) (fun x => vEx (fun (y : Nat × Nat) => Mem x.1 x.2 y.2 ∧ Dl x.1 x.2 y.2 y.1) fun y => vD (eR (setsOf x.1 x.2 y.1)))
abbrev n_sets_by : List Str := ["rule", "machine", "words", "word"]
theorem sc_sets_by : FnScope n_sets_by ["rule", "machine"] (defScope st_sets_by) := ⟨rfl, rfl, rfl, by decide +kernel, rfl, by decide +kernel, by decide +kernel⟩
theorem ok_sets_by (F : Df K mg "sets_by" st_sets_by []) (B : Bi mg) (c_words_by : Cb P w K mg base "words_by" 3 ["rule", "length"] [] sp_words_by) (c_delay_by : Cb P w K mg base "delay_by" 7 ["rule", "machine"] [] sp_delay_by) (c_image_of : Cb P w K mg base "image_of" 2 ["lead"] [] sp_image_of) (c_map_by : Cb P w K mg base "map_by" 2 ["machine", "word"] [] spMapBy) : Cb P w K mg base "sets_by" 8 ["rule", "machine"] [] sp_sets_by := by
  refine F.ok sc_sets_by (fun _ => rfl) (fun _ _ _ _ _ _ us hl => match us, hl with | [_, _], _ => rfl) fun f cdv A outer s H Ex' hr => ?_
  refine ⟨_, pss_cons (ps_set (i := 2) sc_sets_by.nd rfl (Or.inl rfl) (pe_cb c_words_by (hr.mono (by decide)) rfl (pa_cons (pv 0) (pa_cons (pe_cb c_delay_by (hr.mono (by decide)) rfl (pa_cons (pv 0) (pa_cons (pv 1) pa_nil))) pa_nil))))
    (pss_one (ps_ret (bTup K B (bSortS P w B (room64 hr) (bSetW K P w B (room64 hr) (pe_lc (own := [("word", 3)]) (g := gName 3) (tt := tYes) rfl sc_sets_by.nd (itL K (pv 2)) (blkOk_by (N := n_sets_by) (sc := defScope st_sets_by) (by decide +kernel)) (fun _ _ _ _ _ => pg_name (i := 3) sc_sets_by.nd rfl (Or.inl rfl)) (fun _ _ _ _ _ => pts_nil) (fun _ _ _ _ _ => pe_cb c_image_of (hr.mono (by decide)) rfl (pa_cons (pe_cb c_map_by (hr.mono (by decide)) rfl (pa_cons (pv 1) (pa_cons (pv 3) pa_nil))) pa_nil)))))))), ?_⟩
  rintro ⟨r, M⟩ vs ⟨v1, r1, rfl, h1, v2, r2, rfl, h2, e⟩ W Q k
  try dsimp only at *
  rw [show r2 = [] from e]
  have W' := W
  obtain ⟨g, z, mem, d, hm, hd, hd8⟩ := W'
  have h4 := g.four
  have h3 := z.three
  have hdl : E (tCall sp_delay_by [] E0 (tCons (tVar 0) (tCons (tVar 1) tNil))) (L2.start n_sets_by [v1, v2]) H (vI (d : Nat)) := (show E _ _ _ (vEx (fun (y : Nat × Nat) => Mem r M y.2 ∧ Dl r M y.2 y.1) fun y => vI y.1) from
    e_call' (r, M) (a_cons (e_var rfl h1) (a_cons (e_var rfl h2) a_nil)) W).weak fun v H1 _ ⟨y, ⟨m1, m3⟩, p⟩ => by
      have e1 := hm.uniq m1
      rw [← e1] at m3
      rw [hd.uniq m3]
      exact p
  refine x_asg (P := vL ((ws r d).map fun u => vD (eW u))) (e_call' (r, d) (a_cons (e_var rfl h1) (a_cons hdl a_nil)) ⟨g, hd8⟩) fun v3 H1 e1 p1 => ?_
  have hwl := ws_le g (k := d) (by omega)
  have hlet : ∀ u ∈ ws r d, ∀ a ∈ u, a < r.length := fun u hu => ((mem_ws g.gr).1 hu).1.letters g.gr
  have hlc : E (tLc (iList K (tVar 2)) (gName 3) tYes (tCall sp_image_of [] E0 (tCons (tCall spMapBy [] E0 (tCons (tVar 1) (tCons (tVar 3) tNil))) tNil)) (List.map (fun x => x.2) [(("word" : Str), 3)])) [some v1, some v2, some v3, none] H1 (vL (((ws r d).map (img M)).map fun u => vD (eW u))) := by
    rw [List.map_map]
    refine EN.e (en_lc1 (vs := [3]) (ws r d) _ (fun u => vD (eW (img M u))) (src_list (e_var rfl p1)) (by omega) (fun _ _ => st_d _) (fun v => rfl) ?_)
    intro u hu v H2 e2 p
    have hul := ((mem_ws g.gr).1 hu).2
    exact e_call' (mp M u) (a_cons (e_call' (M, u) (a_cons (e_var rfl ((vD _).mono (e1.trans e2) h2)) (a_cons (e_var rfl p) a_nil)) ⟨by dsimp only; omega, by dsimp only; omega, r.length, z.gm, hlet u hu⟩) a_nil) (by rw [mp_len]; omega)
  refine x_ret (e_cb (a_cons (e_cb (a_cons (e_cb (a_cons hlc a_nil) (r_setW (by rw [List.length_map]; omega))) a_nil) (r_sortS (.inl fun b hb hz => ?_))) a_nil) (r_tupE (setsOf r M d) eW)) fun v H2 e2 p => k v H2 (e1.trans e2) ⟨(d, mem), ⟨hm, hd⟩, p⟩
  obtain ⟨u, _, rfl⟩ := List.mem_map.1 hb
  have := rk_pos z.gm u
  unfold rk at this
  rw [hz] at this
  cases this

/-! settling_word -/
def sp_settling_word : Sp := spF (fun (x : List (List Nat) × Mach) => [vD (eR x.1), vD (eM x.2)]) (fun x => Wld x.1 x.2) (fun x => vEx (fun (y : List Nat × Nat) => Mem x.1 x.2 y.2 ∧ Fw x.1 x.2 y.2 y.1) fun y => vD (eW y.1))
abbrev n_settling_word : List Str := ["rule", "machine"]
theorem sc_settling_word : FnScope n_settling_word ["rule", "machine"] (defScope st_settling_word) := ⟨rfl, rfl, rfl, by decide +kernel, rfl, by decide +kernel, by decide +kernel⟩
theorem ok_settling_word (F : Df K mg "settling_word" st_settling_word []) (B : Bi mg) (c_want_world : Cb P w K mg base "want_world" 7 ["rule", "machine"] [] sp_want_world) (c_settling_walk : Cb P w K mg base "settling_walk" 6 ["rule", "machine"] [] sp_settling_walk) : Cb P w K mg base "settling_word" 8 ["rule", "machine"] [] sp_settling_word ∧ Ck P w K mg base "settling_word" 8 ["rule", "machine"] sp_settling_word := by
  refine F.ok2 sc_settling_word (fun _ => rfl) (by decide) (fun _ _ _ _ _ _ us hl => match us, hl with | [_, _], _ => rfl) (fun _ _ _ _ _ _ us hl => match us, hl with | [_, _], _ => rfl) fun f cdv A outer s H Ex' hr => ?_
  refine ⟨_, pss_cons (ps_expr (pe_cb c_want_world (hr.mono (by decide)) rfl (pa_cons (pv 0) (pa_cons (pv 1) pa_nil))))
    (pss_one (ps_ret (ixT K (pe_cb c_settling_walk (hr.mono (by decide)) rfl (pa_cons (pv 0) (pa_cons (pv 1) pa_nil))) pe_int))), ?_⟩
  rintro ⟨r, M⟩ vs ⟨v1, r1, rfl, h1, v2, r2, rfl, h2, e⟩ W Q k
  try dsimp only at *
  rw [show r2 = [] from e]
  have W' := W
  obtain ⟨g, z, mem, d, hm, hd, hd8⟩ := W'
  refine x_drop (P := vV .non) (e_call' (r, M) (a_cons (e_var rfl h1) (a_cons (e_var rfl h2) a_nil)) W.fit) fun _ H1 e1 _ => ?_
  try dsimp only
  have hs : E (tCall sp_settling_walk [] E0 (tCons (tVar 0) (tCons (tVar 1) tNil))) (L2.start n_settling_word [v1, v2]) H1 (vEx (fun (y : List Nat × Nat × Nat) => Mem r M y.2.2 ∧ Fw r M y.2.2 y.1 ∧ Dl r M y.2.2 y.2.1) fun y => vT [vD (eW y.1), vI y.2.1]) :=
    e_call' (r, M) (a_cons (e_var rfl ((vD _).mono e1 h1)) (a_cons (e_var rfl ((vD _).mono e1 h2)) a_nil)) ⟨g, z, mem, d, hm, hd, hd8⟩
  exact x_ret (e_op hs e_c (o_ixTEx (P := fun y => vD (eW y.1)) fun y => atI_nat (j := 0) rfl)) fun v H2 e2 ⟨y, ⟨m1, m2, _⟩, p⟩ => k v H2 (e1.trans e2) ⟨(y.1, y.2.2), ⟨m1, m2⟩, p⟩

/-! delay_of -/
def sp_delay_of : Sp := spF (fun (x : List (List Nat) × Mach) => [vD (eR x.1), vD (eM x.2)]) (fun x => Wld x.1 x.2) (fun x => vEx (fun (y : Nat × Nat) => Mem x.1 x.2 y.2 ∧ Dl x.1 x.2 y.2 y.1) fun y => vI y.1)
abbrev n_delay_of : List Str := ["rule", "machine"]
theorem sc_delay_of : FnScope n_delay_of ["rule", "machine"] (defScope st_delay_of) := ⟨rfl, rfl, rfl, by decide +kernel, rfl, by decide +kernel, by decide +kernel⟩
theorem ok_delay_of (F : Df K mg "delay_of" st_delay_of []) (B : Bi mg) (c_want_world : Cb P w K mg base "want_world" 7 ["rule", "machine"] [] sp_want_world) (c_delay_by : Cb P w K mg base "delay_by" 7 ["rule", "machine"] [] sp_delay_by) : Cb P w K mg base "delay_of" 8 ["rule", "machine"] [] sp_delay_of ∧ Ck P w K mg base "delay_of" 8 ["rule", "machine"] sp_delay_of := by
  refine F.ok2 sc_delay_of (fun _ => rfl) (by decide) (fun _ _ _ _ _ _ us hl => match us, hl with | [_, _], _ => rfl) (fun _ _ _ _ _ _ us hl => match us, hl with | [_, _], _ => rfl) fun f cdv A outer s H Ex' hr => ?_
  refine ⟨_, pss_cons (ps_expr (pe_cb c_want_world (hr.mono (by decide)) rfl (pa_cons (pv 0) (pa_cons (pv 1) pa_nil))))
    (pss_one (ps_ret (pe_cb c_delay_by (hr.mono (by decide)) rfl (pa_cons (pv 0) (pa_cons (pv 1) pa_nil))))), ?_⟩
  rintro ⟨r, M⟩ vs ⟨v1, r1, rfl, h1, v2, r2, rfl, h2, e⟩ W Q k
  try dsimp only at *
  rw [show r2 = [] from e]
  have W' := W
  obtain ⟨g, z, mem, d, hm, hd, hd8⟩ := W'
  refine x_drop (P := vV .non) (e_call' (r, M) (a_cons (e_var rfl h1) (a_cons (e_var rfl h2) a_nil)) W.fit) fun _ H1 e1 _ => ?_
  try dsimp only
  exact x_ret (e_call' (r, M) (a_cons (e_var rfl ((vD _).mono e1 h1)) (a_cons (e_var rfl ((vD _).mono e1 h2)) a_nil)) W) fun v H2 e2 p => k v H2 (e1.trans e2) p

/-! sets_behind -/
def sp_sets_behind : Sp := spF (fun (x : List (List Nat) × Mach) => [vD (eR x.1), vD (eM x.2)]) (fun x => Wld x.1 x.2) (fun x => vEx (fun (y : Nat × Nat) => Mem x.1 x.2 y.2 ∧ Dl x.1 x.2 y.2 y.1) fun y => vD (eR (setsOf x.1 x.2 y.1)))
abbrev n_sets_behind : List Str := ["rule", "machine"]
theorem sc_sets_behind : FnScope n_sets_behind ["rule", "machine"] (defScope st_sets_behind) := ⟨rfl, rfl, rfl, by decide +kernel, rfl, by decide +kernel, by decide +kernel⟩
theorem ok_sets_behind (F : Df K mg "sets_behind" st_sets_behind []) (B : Bi mg) (c_want_world : Cb P w K mg base "want_world" 7 ["rule", "machine"] [] sp_want_world) (c_sets_by : Cb P w K mg base "sets_by" 8 ["rule", "machine"] [] sp_sets_by) : Cb P w K mg base "sets_behind" 9 ["rule", "machine"] [] sp_sets_behind ∧ Ck P w K mg base "sets_behind" 9 ["rule", "machine"] sp_sets_behind := by
  refine F.ok2 sc_sets_behind (fun _ => rfl) (by decide) (fun _ _ _ _ _ _ us hl => match us, hl with | [_, _], _ => rfl) (fun _ _ _ _ _ _ us hl => match us, hl with | [_, _], _ => rfl) fun f cdv A outer s H Ex' hr => ?_
  refine ⟨_, pss_cons (ps_expr (pe_cb c_want_world (hr.mono (by decide)) rfl (pa_cons (pv 0) (pa_cons (pv 1) pa_nil))))
    (pss_one (ps_ret (pe_cb c_sets_by (hr.mono (by decide)) rfl (pa_cons (pv 0) (pa_cons (pv 1) pa_nil))))), ?_⟩
  rintro ⟨r, M⟩ vs ⟨v1, r1, rfl, h1, v2, r2, rfl, h2, e⟩ W Q k
  try dsimp only at *
  rw [show r2 = [] from e]
  have W' := W
  obtain ⟨g, z, mem, d, hm, hd, hd8⟩ := W'
  refine x_drop (P := vV .non) (e_call' (r, M) (a_cons (e_var rfl h1) (a_cons (e_var rfl h2) a_nil)) W.fit) fun _ H1 e1 _ => ?_
  try dsimp only
  exact x_ret (e_call' (r, M) (a_cons (e_var rfl ((vD _).mono e1 h1)) (a_cons (e_var rfl ((vD _).mono e1 h2)) a_nil)) W) fun v H2 e2 p => k v H2 (e1.trans e2) p

/-! is_word_in_world -/
def sp_is_word_in_world : Sp := spF (fun (x : List (List Nat) × List Nat) => [vD (eR x.1), vD (eW x.2)]) (fun x => Good x.1 ∧ x.2.length ≤ 9 ∧ InL x.1 x.2) (fun x => vB true)
abbrev n_is_word_in_world : List Str := ["rule", "thing"]
theorem sc_is_word_in_world : FnScope n_is_word_in_world ["rule", "thing"] (defScope st_is_word_in_world) := ⟨rfl, rfl, rfl, by decide +kernel, rfl, by decide +kernel, by decide +kernel⟩
theorem ok_is_word_in_world (F : Df K mg "is_word_in_world" st_is_word_in_world []) (B : Bi mg) (c_is_word : Cb P w K mg base "is_word" 6 ["rule", "thing"] [] sp_is_word) (c_is_word_by : Cb P w K mg base "is_word_by" 3 ["rule", "word"] [] sp_is_word_by) : Cb P w K mg base "is_word_in_world" 7 ["rule", "thing"] [] sp_is_word_in_world := by
  refine F.ok sc_is_word_in_world (fun _ => rfl) (fun _ _ _ _ _ _ us hl => match us, hl with | [_, _], _ => rfl) fun f cdv A outer s H Ex' hr => ?_
  refine ⟨_, pss_one (ps_ret (pe_and (pe_cb c_is_word (hr.mono (by decide)) rfl (pa_cons (pv 0) (pa_cons (pv 1) pa_nil))) (pe_one (pe_cb c_is_word_by (hr.mono (by decide)) rfl (pa_cons (pv 0) (pa_cons (pv 1) pa_nil)))))), ?_⟩
  rintro ⟨r, wd⟩ vs ⟨v1, r1, rfl, h1, v2, r2, rfl, h2, e⟩ ⟨g, hl, hin⟩ Q k
  try dsimp only at *
  rw [show r2 = [] from e]
  have h4 := g.four
  have h0 := g.gr.pos
  have hlet := hin.letters g.gr
  have hb : inLb r wd = true := (inLb_iff wd).2 hin
  refine x_ret (e_andV (a := true) (b := true) (e_call' (r, wd) (a_cons (e_var rfl h1) (a_cons (e_var rfl h2) a_nil)) ⟨⟨by dsimp only; omega, (fun z => (by dsimp only at z; rw [z] at h0; cases h0)), fun b hb => ?_⟩, by dsimp only; omega, hlet⟩) fun _ => ?_) k
  · obtain ⟨a, ha, ea⟩ := mem_getD (r := r) hb
    rw [← ea]
    have := g.blk4 a ha
    dsimp only
    exact ⟨g.gr.ne a ha, by omega, g.gr.lt a ha⟩
  · rw [← hb]
    exact e_call' (r, wd) (a_cons (e_var rfl h1) (a_cons (e_var rfl h2) a_nil)) ⟨g, hl, hlet⟩

/-! want_word_behind -/
def sp_want_word_behind : Sp := spF (fun (x : (List (List Nat) × Mach) × List Nat) => [vD (eR x.1.1), vD (eM x.1.2), vD (eW x.2)]) (fun x => Wld x.1.1 x.1.2 ∧ x.2.length ≤ 9 ∧ InL x.1.1 x.2) (fun x => vV .non)
abbrev n_want_word_behind : List Str := ["rule", "machine", "word"]
theorem sc_want_word_behind : FnScope n_want_word_behind ["rule", "machine", "word"] (defScope st_want_word_behind) := ⟨rfl, rfl, rfl, by decide +kernel, rfl, by decide +kernel, by decide +kernel⟩
theorem ok_want_word_behind (F : Df K mg "want_word_behind" st_want_word_behind []) (B : Bi mg) (c_want_world : Cb P w K mg base "want_world" 7 ["rule", "machine"] [] sp_want_world) (c_want : Cb P w K mg base "want" 1 ["holds", "word", "at"] [.int (-1)] sp_want) (c_is_word_in_world : Cb P w K mg base "is_word_in_world" 7 ["rule", "thing"] [] sp_is_word_in_world) : Cb P w K mg base "want_word_behind" 8 ["rule", "machine", "word"] [] sp_want_word_behind := by
  refine F.ok sc_want_word_behind (fun _ => rfl) (fun _ _ _ _ _ _ us hl => match us, hl with | [_, _, _], _ => rfl) fun f cdv A outer s H Ex' hr => ?_
  refine ⟨_, pss_cons (ps_expr (pe_cb c_want_world (hr.mono (by decide)) rfl (pa_cons (pv 0) (pa_cons (pv 1) pa_nil))))
    (pss_one (ps_expr (pe_cb c_want (hr.mono (by decide)) rfl (pa_cons (pe_cb c_is_word_in_world (hr.mono (by decide)) rfl (pa_cons (pv 0) (pa_cons (pv 2) pa_nil))) (pa_cons (pe_str) pa_nil))))), ?_⟩
  rintro ⟨⟨r, M⟩, wd⟩ vs ⟨v1, r1, rfl, h1, v2, r2, rfl, h2, v3, r3, rfl, h3, e⟩ ⟨W, hl, hin⟩ Q k
  try dsimp only at *
  rw [show r3 = [] from e]
  have W' := W
  obtain ⟨g, z, mem, d, hm, hd, hd8⟩ := W'
  refine x_drop (P := vV .non) (e_call' (r, M) (a_cons (e_var rfl h1) (a_cons (e_var rfl h2) a_nil)) W.fit) fun _ H1 e1 _ => ?_
  try dsimp only
  exact x_drop (e_want (x := "word") (a_cons (e_call' (r, wd) (a_cons (e_var rfl ((vD _).mono e1 h1)) (a_cons (e_var rfl ((vD _).mono e1 h3)) a_nil)) ⟨g, hl, hin⟩) (a_cons e_c a_nil))) fun v H2 e2 _ => k _ H2 (e1.trans e2) rfl

/-! settles -/
def sp_settles : Sp := spF (fun (x : (List (List Nat) × Mach) × List Nat) => [vD (eR x.1.1), vD (eM x.1.2), vD (eW x.2)]) (fun x => Wld x.1.1 x.1.2 ∧ x.2.length ≤ 9 ∧ InL x.1.1 x.2) (fun x => vEx (fun (y : Nat) => Mem x.1.1 x.1.2 y) fun y => vB (rk x.1.2 x.2 == y))
abbrev n_settles : List Str := ["rule", "machine", "word"]
theorem sc_settles : FnScope n_settles ["rule", "machine", "word"] (defScope st_settles) := ⟨rfl, rfl, rfl, by decide +kernel, rfl, by decide +kernel, by decide +kernel⟩
theorem ok_settles (F : Df K mg "settles" st_settles []) (B : Bi mg) (c_want_word_behind : Cb P w K mg base "want_word_behind" 8 ["rule", "machine", "word"] [] sp_want_word_behind) (c_is_settled : Cb P w K mg base "is_settled" 3 ["machine", "memory", "word"] [] sp_is_settled) (c_memory_by : Cb P w K mg base "memory_by" 5 ["rule", "machine"] [] sp_memory_by) : Cb P w K mg base "settles" 9 ["rule", "machine", "word"] [] sp_settles := by
  refine F.ok sc_settles (fun _ => rfl) (fun _ _ _ _ _ _ us hl => match us, hl with | [_, _, _], _ => rfl) fun f cdv A outer s H Ex' hr => ?_
  refine ⟨_, pss_cons (ps_expr (pe_cb c_want_word_behind (hr.mono (by decide)) rfl (pa_cons (pv 0) (pa_cons (pv 1) (pa_cons (pv 2) pa_nil)))))
    (pss_one (ps_ret (pe_cb c_is_settled (hr.mono (by decide)) rfl (pa_cons (pv 1) (pa_cons (pe_cb c_memory_by (hr.mono (by decide)) rfl (pa_cons (pv 0) (pa_cons (pv 1) pa_nil))) (pa_cons (pv 2) pa_nil)))))), ?_⟩
  rintro ⟨⟨r, M⟩, wd⟩ vs ⟨v1, r1, rfl, h1, v2, r2, rfl, h2, v3, r3, rfl, h3, e⟩ ⟨W, hl, hin⟩ Q k
  try dsimp only at *
  rw [show r3 = [] from e]
  have W' := W
  obtain ⟨g, z, mem, d, hm, hd, hd8⟩ := W'
  refine x_drop (P := vV .non) (e_call' ((r, M), wd) (a_cons (e_var rfl h1) (a_cons (e_var rfl h2) (a_cons (e_var rfl h3) a_nil))) ⟨W, hl, hin⟩) fun _ H1 e1 _ => ?_
  try dsimp only
  have hmE : E (tCall sp_memory_by [] E0 (tCons (tVar 0) (tCons (tVar 1) tNil))) (L2.start n_settles [v1, v2, v3]) H1 (vI (mem : Nat)) := (show E _ _ _ (vMem r M) from e_call' (r, M) (a_cons (e_var rfl ((vD _).mono e1 h1)) (a_cons (e_var rfl ((vD _).mono e1 h2)) a_nil)) z).weak fun v H1 _ ⟨m', hm', p⟩ => by
    rw [hm.uniq hm']
    exact p
  exact x_ret (e_call' ((M, mem), wd) (a_cons (e_var rfl ((vD _).mono e1 h2)) (a_cons hmE (a_cons (e_var rfl ((vD _).mono e1 h3)) a_nil))) ⟨z.three, by dsimp only; omega, r.length, z.gm, hin.letters g.gr⟩) fun v H2 e2 p => k v H2 (e1.trans e2) ⟨mem, hm, p⟩

/-! behind -/
def sp_behind : Sp := spF (fun (x : (List (List Nat) × Mach) × List Nat) => [vD (eR x.1.1), vD (eM x.1.2), vD (eW x.2)]) (fun x => Wld x.1.1 x.1.2 ∧ x.2.length ≤ 9 ∧ InL x.1.1 x.2) (fun x => vD (eW (img x.1.2 x.2)))
abbrev n_behind : List Str := ["rule", "machine", "word"]
theorem sc_behind : FnScope n_behind ["rule", "machine", "word"] (defScope st_behind) := ⟨rfl, rfl, rfl, by decide +kernel, rfl, by decide +kernel, by decide +kernel⟩
theorem ok_behind (F : Df K mg "behind" st_behind []) (B : Bi mg) (c_want_word_behind : Cb P w K mg base "want_word_behind" 8 ["rule", "machine", "word"] [] sp_want_word_behind) (c_image_of : Cb P w K mg base "image_of" 2 ["lead"] [] sp_image_of) (c_map_by : Cb P w K mg base "map_by" 2 ["machine", "word"] [] spMapBy) : Cb P w K mg base "behind" 9 ["rule", "machine", "word"] [] sp_behind := by
  refine F.ok sc_behind (fun _ => rfl) (fun _ _ _ _ _ _ us hl => match us, hl with | [_, _, _], _ => rfl) fun f cdv A outer s H Ex' hr => ?_
  refine ⟨_, pss_cons (ps_expr (pe_cb c_want_word_behind (hr.mono (by decide)) rfl (pa_cons (pv 0) (pa_cons (pv 1) (pa_cons (pv 2) pa_nil)))))
    (pss_one (ps_ret (pe_cb c_image_of (hr.mono (by decide)) rfl (pa_cons (pe_cb c_map_by (hr.mono (by decide)) rfl (pa_cons (pv 1) (pa_cons (pv 2) pa_nil))) pa_nil)))), ?_⟩
  rintro ⟨⟨r, M⟩, wd⟩ vs ⟨v1, r1, rfl, h1, v2, r2, rfl, h2, v3, r3, rfl, h3, e⟩ ⟨W, hl, hin⟩ Q k
  try dsimp only at *
  rw [show r3 = [] from e]
  have W' := W
  obtain ⟨g, z, mem, d, hm, hd, hd8⟩ := W'
  refine x_drop (P := vV .non) (e_call' ((r, M), wd) (a_cons (e_var rfl h1) (a_cons (e_var rfl h2) (a_cons (e_var rfl h3) a_nil))) ⟨W, hl, hin⟩) fun _ H1 e1 _ => ?_
  try dsimp only
  have h3' := z.three
  exact x_ret (e_call' (mp M wd) (a_cons (e_call' (M, wd) (a_cons (e_var rfl ((vD _).mono e1 h2)) (a_cons (e_var rfl ((vD _).mono e1 h3)) a_nil)) ⟨by dsimp only; omega, by dsimp only; omega, r.length, z.gm, hin.letters g.gr⟩) a_nil) (by rw [mp_len]; omega)) fun v H2 e2 p => k v H2 (e1.trans e2) p

end
end K37
set_option Elab.async false
set_option linter.all false
set_option maxRecDepth 100000
set_option maxHeartbeats 2000000
/-! W14: the law, small defs. -/
namespace K37
open PySem L2 Evl
section
variable {P : Program} {w : World} {K : PySem.W.Frag} {mg : Str → Option Value} {base : Heap}

/-! _law_led -/
def sp_law_led : Sp := spF (fun (x : List (List Nat) × List Nat) => [vD (eR x.1), vD (eW x.2)]) (fun x => (∀ a ∈ x.2, a < x.1.length) ∧ x.2.length ≤ 1000 ∧ ∀ a, a < x.1.length → (x.1.getD a []).length ≤ 4) (fun x => vD (eW (up x.1 x.2)))
abbrev n_law_led : List Str := ["_law_lead", "_law_text", "_law_found", "_law_a"]
theorem sc_law_led : FnScope n_law_led ["_law_lead", "_law_text"] (defScope st_law_led) := ⟨rfl, rfl, rfl, by decide +kernel, rfl, by decide +kernel, by decide +kernel⟩
theorem ok_law_led (F : Df K mg "_law_led" st_law_led []) (B : Bi mg) : Cb P w K mg base "_law_led" 1 ["_law_lead", "_law_text"] [] sp_law_led := by
  refine F.ok sc_law_led (fun _ => rfl) (fun _ _ _ _ _ _ us hl => match us, hl with | [_, _], _ => rfl) fun f cdv A outer s H Ex' hr => ?_
  refine ⟨_, pss_cons (ps_set (i := 2) sc_law_led.nd rfl (Or.inl rfl) (pe_tup pa_nil))
    (pss_cons (ps_for PassesOwn.never rfl (itT K (pv 1)) (pg_name (i := 3) sc_law_led.nd rfl (Or.inl rfl)) (pss_one (ps_set (i := 2) sc_law_led.nd rfl (Or.inl rfl) (bCatT K (pv 2) (ixT K (pv 0) (pv 3))))))
    (pss_one (ps_ret (pv 2)))), ?_⟩
  rintro ⟨r, wd⟩ vs ⟨v1, r1, rfl, h1, v2, r2, rfl, h2, e⟩ ⟨hlt, hl, h4⟩ Q k
  try dsimp only at *
  rw [show r2 = [] from e]
  refine x_asg (P := vD (eW [])) (e_tupD (ds := []) a_nil (by simp)) fun fv H1 e1 p1 => ?_
  refine x_forN (j := 3) wd _ (src0_tupE wd eN (e_var rfl ((vD _).mono e1 h2))) (fun pre σ' H' => ∃ fv l, σ' = [some v1, some v2, some fv, l] ∧ Ex H H' ∧ Is H' (eW (up r pre)) fv ∧ (up r pre).length ≤ 4 * pre.length)
    (fun H2 e2 => ⟨fv, none, rfl, e1.trans e2, Is.mono (Ex.tx e2) _ _ p1, by simp [up]⟩) ?_ ?_
  · rintro pre a post hsp v σ' H' pa ⟨gv, l, rfl, e2, pg, hz⟩ N hN
    have ha : a < r.length := hlt a (by rw [hsp]; simp)
    have h4a := h4 a ha
    have hpl : pre.length + 1 ≤ wd.length := by rw [hsp]; simp
    refine x_asg (P := vD (eW (up r (pre ++ [a])))) ((e_op (e_var rfl (show (vD (eW (up r pre))).p gv H' from pg)) (e_op (e_var rfl ((vD _).mono e2 h1)) (e_n (e_var rfl pa)) (o_ixT (atI_E (d := []) ha))) (o_catT (by rw [List.length_map, List.length_map]; omega))).weak fun v H3 _ p => (by
      show Is H3 (eW (up r (pre ++ [a]))) v
      rw [up_append, up_one]
      unfold eW
      rw [List.map_append]
      exact p)) fun gv' H3 e3 p3 => hN _ _ (Ex.tx e3) (Ex.nk e3) ⟨gv', _, rfl, e2.trans e3, p3, by rw [up_append, up_one, List.length_append, List.length_append, List.length_singleton]; omega⟩
  · rintro σ' H' ⟨gv, l, rfl, e2, pg, _⟩
    exact x_ret (e_var rfl (show (vD (eW (up r wd))).p gv H' from pg)) fun v H3 e3 p3 => k v H3 (e2.trans e3) p3

/-! _law_joined -/
def sp_law_joined : Sp := spF (fun (x : List Nat × List Nat) => [vD (eW x.1), vD (eW x.2)]) (fun x => x.1.length ≤ 1000 ∧ ∀ s ∈ x.1, s < x.2.length) (fun x => vD (eW (chained x.1 x.2)))
abbrev n_law_joined : List Str := ["_law_one", "_law_two", "_law_s"]
theorem sc_law_joined : FnScope n_law_joined ["_law_one", "_law_two"] (defScope st_law_joined) := ⟨rfl, rfl, rfl, by decide +kernel, rfl, by decide +kernel, by decide +kernel⟩
theorem ok_law_joined (F : Df K mg "_law_joined" st_law_joined []) (B : Bi mg) : Cb P w K mg base "_law_joined" 1 ["_law_one", "_law_two"] [] sp_law_joined := by
  refine F.ok sc_law_joined (fun _ => rfl) (fun _ _ _ _ _ _ us hl => match us, hl with | [_, _], _ => rfl) fun f cdv A outer s H Ex' hr => ?_
  refine ⟨_, pss_one (ps_ret (bTup K B (pe_lc (own := [("_law_s", 2)]) (g := gName 2) (tt := tYes) rfl sc_law_joined.nd (itT K (pv 0)) (blkOk_by (N := n_law_joined) (sc := defScope st_law_joined) (by decide +kernel)) (fun _ _ _ _ _ => pg_name (i := 2) sc_law_joined.nd rfl (Or.inl rfl)) (fun _ _ _ _ _ => pts_nil) (fun _ _ _ _ _ => ixT K (pv 1) (pv 2))))), ?_⟩
  rintro ⟨a, b⟩ vs ⟨v1, r1, rfl, h1, v2, r2, rfl, h2, e⟩ ⟨hc, hlt⟩ Q k
  dsimp only at *
  rw [show r2 = [] from e]
  refine x_ret (e_cb (a_cons (EN.e (en_lc1 (vs := [2]) a _ (fun s => vD (eN (b.getD s 0))) (src0_tupE a eN (e_var rfl h1)).t.src (by omega) (fun _ _ => st_d _) (fun v => rfl) ?_)) a_nil) (r_tupE a fun s => eN (b.getD s 0))) (by
    unfold chained eW at k
    rw [List.map_map] at k
    exact k)
  intro x hx v H1 e1 p
  exact e_op (e_var rfl ((vD _).mono e1 h2)) (e_n (e_var rfl p)) (o_ixT (atI_E (hlt x hx)))

/-! _law_map -/
def sp_law_map : Sp := spF (fun (x : Mach × List Nat) => [vD (eM x.1), vD (eW x.2)]) (fun x => x.1.length ≤ 1000 ∧ x.2.length ≤ 1000000 ∧ ∃ n, GM n x.1 ∧ ∀ a ∈ x.2, a < n) (fun x => vD (eW (mp x.1 x.2)))
abbrev n_law_map : List Str := ["_law_mech", "_law_text", "_law_found", "_law_a", "_law_s"]
theorem sc_law_map : FnScope n_law_map ["_law_mech", "_law_text"] (defScope st_law_map) := ⟨rfl, rfl, rfl, by decide +kernel, rfl, by decide +kernel, by decide +kernel⟩
theorem ok_law_map (F : Df K mg "_law_map" st_law_map []) (B : Bi mg) : Cb P w K mg base "_law_map" 1 ["_law_mech", "_law_text"] [] sp_law_map := by
  refine F.ok sc_law_map (fun _ => rfl) (fun _ _ _ _ _ _ us hl => match us, hl with | [_, _], _ => rfl) fun f cdv A outer s H Ex' hr => ?_
  refine ⟨_, pss_cons (ps_set (i := 2) sc_law_map.nd rfl (Or.inl rfl) (bTupRg B (bLen K B (pv 0))))
    (pss_cons (ps_for PassesOwn.never rfl (itT K (pv 1)) (pg_name (i := 3) sc_law_map.nd rfl (Or.inr rfl)) (pss_one (ps_set (i := 2) sc_law_map.nd rfl (Or.inl rfl) (bTup K B (pe_lc (own := [("_law_s", 4)]) (g := gName 4) (tt := tYes) rfl sc_law_map.nd (itT K (pv 2)) (blkOk_by (N := n_law_map) (sc := defScope st_law_map) (by decide +kernel)) (fun _ _ _ _ _ => pg_name (i := 4) sc_law_map.nd rfl (Or.inl rfl)) (fun _ _ _ _ _ => pts_nil) (fun _ _ _ _ _ => ixT K (ixT K (ixT K (pv 0) (pv 4)) (pv 3)) pe_int))))))
    (pss_one (ps_ret (pv 2)))), ?_⟩
  rintro ⟨M, u⟩ vs ⟨v1, r1, rfl, h1, v2, r2, rfl, h2, e⟩ ⟨hc, hu, n, gm, hlt⟩ Q k
  dsimp only at *
  rw [show r2 = [] from e]
  refine x_asg (P := vD (eW (List.range M.length))) (e_tupRg ((e_cb (a_cons (e_var rfl h1) a_nil) r_lenT).weak fun v H1 _ p => (by
    rw [List.length_map] at p
    exact p)) (by omega)) fun fv H1 e1 p1 => ?_
  refine x_forN (j := 3) u _ (src0_tupE u eN (e_var rfl ((vD _).mono e1 h2))) (fun pre σ' H' => ∃ fv l, σ' = [some v1, some v2, some fv, l, none] ∧ Ex H H' ∧ Is H' (eW (mp M pre)) fv)
    (fun H2 e2 => ⟨fv, none, rfl, e1.trans e2, Is.mono (Ex.tx e2) _ _ p1⟩) ?_ ?_
  · rintro pre a post hsp v σ' H' pa ⟨gv, l, rfl, e2, pg⟩ N hN
    have ha : a < n := hlt a (by rw [hsp]; simp)
    have hpre : ∀ b ∈ pre, b < n := fun b hb => hlt b (by rw [hsp]; simp [hb])
    refine x_asg (e_cb (a_cons (EN.e (en_lc1 (vs := [4]) (mp M pre) _ (fun s => vD (eN (nx M s a))) (src0_tupE (mp M pre) eN (e_var rfl pg)).t.src (by rw [mp_len]; omega) (fun _ _ => st_d _) (fun v => rfl) ?_)) a_nil) (r_tupE (mp M pre) fun s => eN (nx M s a))) fun gv' H3 e3 p3 => ?_
    · intro x hx y H3 e3 py
      have hx' := mp_lt gm hpre x hx
      refine e_op (e_op (e_op (e_var rfl ((vD _).mono (e2.trans e3) h1)) (e_n (e_var rfl py)) (o_ixT (atI_E (d := []) hx'))) (e_n (e_var rfl ((vD _).mono e3 pa))) (o_ixT (atI_E (d := (0, 0)) ?_))) e_c (o_ixT (atI_pair0 _))
      rw [gm.row x hx']
      exact ha
    · refine hN _ _ (Ex.tx e3) (Ex.nk e3) ⟨gv', some v, rfl, e2.trans e3, ?_⟩
      have hm : mp M (pre ++ [a]) = (mp M pre).map fun s => nx M s a := by
        unfold mp
        rw [List.foldl_append]
        rfl
      rw [hm]
      unfold eW
      rw [List.map_map]
      exact p3
  · rintro σ' H' ⟨gv, l, rfl, e2, pg⟩
    exact x_ret (e_var rfl (show (vD (eW (mp M u))).p gv H' from pg)) fun v H3 e3 p3 => k v H3 (e2.trans e3) p3

/-! _law_rank -/
def sp_law_rank : Sp := spF (fun (x : List Nat) => [vD (eW x)]) (fun x => x.length < 60) (fun x => vI (canon ltN x).length)
abbrev n_law_rank : List Str := ["_law_own"]
theorem sc_law_rank : FnScope n_law_rank ["_law_own"] (defScope st_law_rank) := ⟨rfl, rfl, rfl, by decide +kernel, rfl, by decide +kernel, by decide +kernel⟩
theorem ok_law_rank (F : Df K mg "_law_rank" st_law_rank []) (B : Bi mg) : Cb P w K mg base "_law_rank" 1 ["_law_own"] [] sp_law_rank := by
  refine F.ok sc_law_rank (fun _ => rfl) (fun _ _ _ _ _ _ us hl => match us, hl with | [_], _ => rfl) fun f cdv A outer s H Ex' hr => ?_
  refine ⟨_, pss_one (ps_ret (bLenSI w B (bSetI K w B (pv 0)))), ?_⟩
  rintro x vs ⟨v1, r1, rfl, h1, e⟩ hl Q k
  try dsimp only at *
  rw [show r1 = [] from e]
  exact x_ret (e_cb (a_cons (e_cb (a_cons (e_var rfl h1) a_nil) (r_setIT (by omega))) a_nil) r_lenSI) k

/-! _law_short -/
def sp_law_short : Sp := spF (fun (x : List (List Nat) × Nat) => [vL (x.1.map fun u => vD (eW u)), vI x.2]) (fun x => x.1.length < 4096 ∧ Ce (x.1.map fun u => u.take x.2)) (fun x => vL ((canon ltW (x.1.map fun u => u.take x.2)).map fun u => vD (eW u)))
abbrev n_law_short : List Str := ["_law_texts", "_law_size", "_law_text"]
theorem sc_law_short : FnScope n_law_short ["_law_texts", "_law_size"] (defScope st_law_short) := ⟨rfl, rfl, rfl, by decide +kernel, rfl, by decide +kernel, by decide +kernel⟩
theorem ok_law_short (F : Df K mg "_law_short" st_law_short []) (B : Bi mg) : Cb P w K mg base "_law_short" 1 ["_law_texts", "_law_size"] [] sp_law_short := by
  refine F.ok sc_law_short (fun _ => rfl) (fun _ _ _ _ _ _ us hl => match us, hl with | [_, _], _ => rfl) fun f cdv A outer s H Ex' hr => ?_
  refine ⟨_, pss_one (ps_ret (bSortS P w B (room64 hr) (bSetW K P w B (room64 hr) (pe_lc (own := [("_law_text", 2)]) (g := gName 2) (tt := tYes) rfl sc_law_short.nd (itL K (pv 0)) (blkOk_by (N := n_law_short) (sc := defScope st_law_short) (by decide +kernel)) (fun _ _ _ _ _ => pg_name (i := 2) sc_law_short.nd rfl (Or.inl rfl)) (fun _ _ _ _ _ => pts_nil) (fun _ _ _ _ _ => slT K (pv 2) po_none (po_some (pv 1))))))), ?_⟩
  rintro ⟨ts, sz⟩ vs ⟨v1, r1, rfl, h1, v2, r2, rfl, h2, e⟩ ⟨hl, hc⟩ Q k
  try dsimp only at *
  rw [show r2 = [] from e]
  have hlc : E (tLc (iList K (tVar 0)) (gName 2) tYes (tSl (rSlA K) (tVar 2) tNoPart (tPart (tVar 1))) (List.map (fun x => x.2) [(("_law_text" : Str), 2)])) (L2.start n_law_short [v1, v2]) H (vL ((ts.map fun u => u.take sz).map fun u => vD (eW u))) := by
    rw [List.map_map]
    refine EN.e (en_lc1 (vs := [2]) ts _ (fun u => vD (eW (u.take sz))) (src_list (e_var rfl h1)) (by omega) (fun _ _ => st_d _) (fun v => rfl) ?_)
    intro u hu v H2 e2 p
    have := e_sl_to (K := K) (k := sz) (tb := tVar 1) (e_var (i := 2) (σ := (wipe (L2.start n_law_short [v1, v2]) [2]).set 2 (some v)) rfl (show (vD (.t (u.map eN))).p v H2 from p)) (e_var (i := 1) rfl ((vI _).mono e2 h2))
    rw [← List.map_take] at this
    exact this
  exact x_ret (e_cb (a_cons (e_cb (a_cons hlc a_nil) (r_setW (by rw [List.length_map]; exact hl))) a_nil) (r_sortS hc)) k

end
end K37
set_option Elab.async false
set_option linter.all false
set_option maxRecDepth 100000
set_option maxHeartbeats 1000000
/-! E15: lists put together, lists said again, index. -/
namespace K37
open PySem L2 Evl
theorem AllP.append {H : Hp} : ∀ {Ps Qs : List VP} {vs us : List V}, AllP Ps vs H → AllP Qs us H → AllP (Ps ++ Qs) (vs ++ us) H
  | [], _, _, _, h, k => by rw [show _ = [] from h]; exact k
  | P :: Ps, _, _, _, ⟨v, r, e, h1, h2⟩, k => ⟨v, r ++ _, by rw [e]; rfl, h1, h2.append k⟩
theorem allP_rep {H : Hp} {Ps : List VP} {vs : List V} (h : AllP Ps vs H) : ∀ k : Nat, AllP (List.replicate k Ps).flatten (List.replicate k vs).flatten H
  | 0 => rfl
  | k + 1 => by
    rw [List.replicate_succ, List.replicate_succ, List.flatten_cons, List.flatten_cons]
    exact h.append (allP_rep h k)
section
variable {K : PySem.W.Frag} {σ : L2.St} {H : Hp} {ta tb te : TE} {P1 P2 : List VP}
theorem en_cat (ha : E ta σ H (vL P1)) (hb : E tb σ H (vL P2)) (hl : P1.length + P2.length ≤ 10000000) : EN (tOp rCat ta tb) σ H (P1 ++ P2) := fun H1 e Q q =>
  ha H1 e _ fun x H2 e2 p1 => hb H2 (e.trans e2) _ fun y H3 e3 ⟨b, us, y1, y2, y3⟩ => by
    obtain ⟨a, vs, x1, x2, x3⟩ := (vL P1).mono e3 p1
    have l1 := x3.length
    have l2 := y3.length
    exact ⟨a, b, vs, us, x1, y1, x2, y2, szM (by omega), fun p hp => q p (vs ++ us) _ (fresh_back (e2.trans e3) hp) ((e2.trans e3).trans (Ex.new hp)) upd_same (AllP.mono (Ex.new hp) (x3.append y3))⟩
theorem en_rep {k : Nat} (ha : E ta σ H (vL P1)) (hb : E tb σ H (vI k)) (hl : P1.length * k ≤ 10000000) (hk : k ≤ 1000000) : EN (tOp rRep ta tb) σ H (List.replicate k P1).flatten := fun H1 e Q q =>
  ha H1 e _ fun x H2 e2 p1 => hb H2 (e.trans e2) _ fun y H3 e3 py => by
    obtain ⟨a, vs, x1, x2, x3⟩ := (vL P1).mono e3 p1
    have l1 := x3.length
    refine ⟨a, k, vs, x1, py, x2, by omega, by omega, ?_, fun p hp => ?_⟩
    · rw [l1]
      exact szM (by simpa using hl)
    · have ek : ((k : Int)).toNat = k := by simp
      rw [ek]
      exact q p _ _ (fresh_back (e2.trans e3) hp) ((e2.trans e3).trans (Ex.new hp)) upd_same (AllP.mono (Ex.new hp) (allP_rep x3 k))
theorem e_index {ds : List Dv} {d : Dv} {j : Nat} (ha : E ta σ H (vDs ds)) (h : E te σ H (vD d)) (hs : Dv.deps ds ≤ 60) (hd : d.dep ≤ 60) (hj : ds[j]? = some d) (hno : ∀ m, m < j → ds[m]? ≠ some d) : E (tBM K "list" (rIndexD K) ta (tCons te tNil)) σ H (vI j) := fun H1 e Q q =>
  ha H1 e _ fun x H2 e2 p1 => by
    have p1' := p1
    obtain ⟨a, vs, x1, x2, x3⟩ := p1'
    rw [x1]
    refine ⟨Or.inl ⟨rfl, vs, sq_of x2⟩, h H2 (e.trans e2) _ fun y H3 e3 py => ?_⟩
    have p3 : (vDs ds).p (.ref a) H3 := by
      rw [← x1]
      exact (vDs ds).mono e3 p1
    refine ⟨a, y, d.py, Dv.pys ds, j, d.py, rfl, rfl, vL_dp p3, Is.dp d y py, shaped_l hs, shaped_t hd, ?_, (eqv_py d d).2 rfl, fun m z' hm hz => ?_, q _ H3 (e2.trans e3) rfl⟩
    · rw [pys_map, List.getElem?_map, hj]
      rfl
    · rw [pys_map, List.getElem?_map] at hz
      obtain ⟨d', hd', rfl⟩ := Option.map_eq_some_iff.1 hz
      cases hb : PyData.eqv d'.py d.py with
      | false => rfl
      | true => exact absurd ((eqv_py d' d).1 hb ▸ hd') (hno m hm)
end
end K37
set_option Elab.async false
set_option linter.all false
set_option maxRecDepth 100000
set_option maxHeartbeats 2000000
/-! W15: the law, levels and lengths. -/
namespace K37
open PySem L2 Evl
section
variable {P : Program} {w : World} {K : PySem.W.Frag} {mg : Str → Option Value} {base : Heap}

theorem head9 {r : List (List Nat)} (g : Good r) : ∃ u t, ws r 9 = u :: t ∧ u.length = 9 := by
  obtain ⟨u, t, e⟩ := List.exists_cons_of_ne_nil (WS.ne g.gr (ws_ok g.gr 9))
  exact ⟨u, t, e, ((mem_ws g.gr).1 (by rw [e]; exact List.mem_cons_self)).2⟩
theorem tk_ce {r : List (List Nat)} (g : Good r) {k : Nat} (hk : k ≤ 9) : Ce ((ws r 9).map fun u => u.take k) := by
  rcases Nat.eq_zero_or_pos k with c | c
  · right
    intro b hb
    obtain ⟨u, _, rfl⟩ := List.mem_map.1 hb
    rw [c, List.take_zero]
  · left
    intro b hb hz
    obtain ⟨u, hu, rfl⟩ := List.mem_map.1 hb
    have := congrArg List.length hz
    have h9 := ((mem_ws g.gr).1 hu).2
    rw [List.length_take, h9] at this
    simp at this
    omega
theorem e_short {K : PySem.W.Frag} {r : List (List Nat)} (g : Good r) {k : Nat} (hk : k ≤ 9) {σ : L2.St} {H : Hp} {ta : TA} {Ex' : XK} (h : K37.A ta σ H [vL ((ws r 9).map fun u => vD (eW u)), vI (k : Nat)]) : E (tCall sp_law_short [] Ex' ta) σ H (vL ((ws r k).map fun u => vD (eW u))) := by
  have := ws_le g (k := 9) (by omega)
  rw [← ws_short g.gr hk]
  exact e_call' (ws r 9, k) h ⟨by dsimp only; omega, tk_ce g hk⟩

/-! _law_all -/
def sp_law_all : Sp := spF (fun (r : List (List Nat)) => [vL ((ws r 9).map fun u => vD (eW u))]) Good (fun r => vL (((List.range 10).flatMap fun k => ws r k).map fun u => vD (eW u)))
abbrev n_law_all : List Str := ["_law_texts", "_law_found", "_law_size"]
theorem sc_law_all : FnScope n_law_all ["_law_texts"] (defScope st_law_all) := ⟨rfl, rfl, rfl, by decide +kernel, rfl, by decide +kernel, by decide +kernel⟩
theorem ok_law_all (F : Df K mg "_law_all" st_law_all []) (B : Bi mg) (c_law_short : Cb P w K mg base "_law_short" 1 ["_law_texts", "_law_size"] [] sp_law_short) : Cb P w K mg base "_law_all" 2 ["_law_texts"] [] sp_law_all := by
  refine F.ok sc_law_all (fun _ => rfl) (fun _ _ _ _ _ _ us hl => match us, hl with | [_], _ => rfl) fun f cdv A outer s H Ex' hr => ?_
  refine ⟨_, pss_cons (ps_set (i := 1) sc_law_all.nd rfl (Or.inl rfl) (pe_lst pa_nil))
    (pss_cons (ps_for PassesOwn.never rfl (itRg B (pe_op op_add (bLen K B (ixL K (pv 0) pe_int)) pe_int)) (pg_name (i := 2) sc_law_all.nd rfl (Or.inl rfl)) (pss_one (ps_set (i := 1) sc_law_all.nd rfl (Or.inl rfl) (pe_op op_cat (pv 1) (pe_cb c_law_short (hr.mono (by decide)) rfl (pa_cons (pv 0) (pa_cons (pv 2) pa_nil)))))))
    (pss_one (ps_ret (pv 1)))), ?_⟩
  rintro r vs ⟨v1, r1, rfl, h1, e⟩ g Q k
  try dsimp only at *
  rw [show r1 = [] from e]
  obtain ⟨u0, t0, e9, hu0⟩ := head9 g
  refine x_asg (P := vL (([] : List (List Nat)).map fun u => vD (eW u))) (EN.e (en_lst (Ps := []) a_nil (by simp))) fun fv H1 e1 p1 => ?_
  refine x_forN (j := 2) (List.range 10) (fun i => vI (i : Nat)) (src0_range (n := 10) (a_cons ((e_op (e_cb (a_cons (e_op (e_var rfl ((vL _).mono e1 h1)) e_c (o_ixL (atI_nat (j := 0) (by rw [e9]; rfl)))) a_nil) r_lenT) e_c (o_I0 (g := fun i j => V.int (i + j)))).weak fun v H2 _ p => (by
    rw [List.length_map, hu0] at p
    exact p)) a_nil) (by decide)) (fun pre σ' H' => ∃ fv x, σ' = [some v1, some fv, x] ∧ Ex H H' ∧ (vL ((pre.flatMap fun k => ws r k).map fun u => vD (eW u))).p fv H')
    (fun H2 e2 => ⟨fv, none, rfl, e1.trans e2, (vL _).mono e2 p1⟩) ?_ ?_
  · rintro pre i post hx v σ' H' pv ⟨gv, x, rfl, eH, pg⟩ N hN
    obtain ⟨ei, hi⟩ := range_split hx
    have hsz : (pre.flatMap fun k => ws r k).length ≤ pre.length * 3852 := len_flatW _ 3852 pre fun k hk => ws_le g (by
      have : k ∈ List.range 10 := by rw [hx]; simp [hk]
      have := List.mem_range.1 this
      omega)
    have hi9 := ws_le g (k := i) (by omega)
    refine x_asg (P := vL (((pre ++ [i]).flatMap fun k => ws r k).map fun u => vD (eW u))) ((EN.e (en_cat (e_var rfl pg) (e_short (K := K) g (by omega) (a_cons (e_var rfl ((vL _).mono eH h1)) (a_cons (e_var rfl pv) a_nil))) (by rw [List.length_map, List.length_map]; omega))).weak fun v H3 _ p => (by
      rw [List.flatMap_append, List.map_append, List.flatMap_singleton]
      exact p)) fun gv' H3 e3 p3 => hN _ _ (Ex.tx e3) (Ex.nk e3) ⟨gv', _, rfl, eH.trans e3, p3⟩
  · rintro σ' H' ⟨gv, x, rfl, eH, pg⟩
    exact x_ret (e_var rfl pg) fun v H3 e3 p3 => k v H3 (eH.trans e3) p3

/-! _law_delay -/
def sp_law_delay : Sp := spF (fun (x : (List (List Nat) × Mach) × Nat) => [vD (eM x.1.2), vL ((ws x.1.1 9).map fun u => vD (eW u)), vI x.2]) (fun x => Good x.1.1 ∧ GM x.1.1.length x.1.2 ∧ x.1.2.length ≤ 3) (fun x => vEx (fun (i : Int) => (i = -1 ∧ ∀ j, j < 9 → ∃ w, InL x.1.1 w ∧ w.length = j ∧ rk x.1.2 w ≠ x.2) ∨ ∃ d : Nat, i = d ∧ d ≤ 8 ∧ Dl x.1.1 x.1.2 x.2 d) fun i => vI i)
abbrev n_law_delay : List Str := ["_law_mech", "_law_texts", "_law_least_here", "_law_size", "_law_text"]
theorem sc_law_delay : FnScope n_law_delay ["_law_mech", "_law_texts", "_law_least_here"] (defScope st_law_delay) := ⟨rfl, rfl, rfl, by decide +kernel, rfl, by decide +kernel, by decide +kernel⟩
theorem ok_law_delay (F : Df K mg "_law_delay" st_law_delay []) (B : Bi mg) (c_law_short : Cb P w K mg base "_law_short" 1 ["_law_texts", "_law_size"] [] sp_law_short) (c_law_rank : Cb P w K mg base "_law_rank" 1 ["_law_own"] [] sp_law_rank) (c_law_map : Cb P w K mg base "_law_map" 1 ["_law_mech", "_law_text"] [] sp_law_map) : Cb P w K mg base "_law_delay" 2 ["_law_mech", "_law_texts", "_law_least_here"] [] sp_law_delay := by
  refine F.ok sc_law_delay (fun _ => rfl) (fun _ _ _ _ _ _ us hl => match us, hl with | [_, _, _], _ => rfl) fun f cdv A outer s H Ex' hr => ?_
  refine ⟨_, pss_cons (ps_for PassesOwn.never rfl (itRg B (bLen K B (ixL K (pv 1) pe_int))) (pg_name (i := 3) sc_law_delay.nd rfl (Or.inl rfl)) (pss_one (ps_if (pt_cmpR (op_eqD (room64 hr)) (pe_lc (own := [("_law_text", 4)]) (g := gName 4) rfl sc_law_delay.nd (itL K (pe_cb c_law_short (hr.mono (by decide)) rfl (pa_cons (pv 1) (pa_cons (pv 3) pa_nil)))) (blkOk_by (N := n_law_delay) (sc := defScope st_law_delay) (by decide +kernel)) (fun _ _ _ _ _ => pg_name (i := 4) sc_law_delay.nd rfl (Or.inl rfl)) (fun _ _ _ _ _ => pts_one (pt_cmpR op_ne (pe_cb c_law_rank (hr.mono (by decide)) rfl (pa_cons (pe_cb c_law_map (hr.mono (by decide)) rfl (pa_cons (pv 0) (pa_cons (pv 4) pa_nil))) pa_nil)) (pv 2) (by rfl))) (fun _ _ _ _ _ => pe_int)) (pe_lst pa_nil) (by rfl)) (pss_one (ps_ret (pv 3))) pss_nil)))
    (pss_one (ps_ret (pe_op op_sub pe_int pe_int))), ?_⟩
  rintro ⟨⟨r, M⟩, lst⟩ vs ⟨v1, r1, rfl, h1, v2, r2, rfl, h2, v3, r3, rfl, h3, e⟩ ⟨g, gm, hM⟩ Q k
  try dsimp only at *
  rw [show r3 = [] from e]
  obtain ⟨u0, t0, e9, hu0⟩ := head9 g
  refine x_forN (j := 3) (List.range 9) (fun i => vI (i : Nat)) (src0_range (n := 9) (a_cons ((e_cb (a_cons (e_op (e_var rfl h2) e_c (o_ixL (atI_nat (j := 0) (by rw [e9]; rfl)))) a_nil) r_lenT).weak fun v H2 _ p => (by
    rw [List.length_map, hu0] at p
    exact p)) a_nil) (by decide)) (fun pre σ' H' => ∃ x, σ' = [some v1, some v2, some v3, x, none] ∧ Ex H H' ∧ ∀ j, j < pre.length → ∃ w, InL r w ∧ w.length = j ∧ rk M w ≠ lst)
    (fun H2 e2 => ⟨none, rfl, e2, fun j hj => by cases hj⟩) ?_ ?_
  · rintro pre i post hx v σ' H' pv ⟨x, rfl, eH, hno⟩ N hN
    obtain ⟨ei, hi⟩ := range_split hx
    have hi9 := ws_le g (k := i) (by omega)
    have hlc : E (tLc (iList K (tCall sp_law_short [] E0 (tCons (tVar 1) (tCons (tVar 3) tNil)))) (gName 4) (tTest (tOp rNe (tCall sp_law_rank [] E0 (tCons (tCall sp_law_map [] E0 (tCons (tVar 0) (tCons (tVar 4) tNil))) tNil)) (tVar 2))) (tC (.int 1)) (List.map (fun x => x.2) [(("_law_text" : Str), 4)])) [some v1, some v2, some v3, some v, none] H' (vDs (((ws r i).filter fun u => !decide (V.int (rk M u : Nat) = V.int (lst : Nat))).map fun _ => Dv.n 1)) := by
      unfold vDs
      rw [List.map_map]
      refine EN.e (en_lcIf (vs := [4]) (ws r i) (fun u => vD (eW u)) (fun _ => vD (.n 1)) (fun u => !decide (V.int (rk M u : Nat) = V.int (lst : Nat))) (src_list (e_short (K := K) g (by omega) (a_cons (e_var rfl ((vL _).mono eH h2)) (a_cons (e_var rfl pv) a_nil)))) (by omega) (fun _ _ => st_d _) (fun v => rfl) ?_ ?_)
      · intro u hu v4 H4 e4 p4
        obtain ⟨u1, u2⟩ := (mem_ws g.gr).1 hu
        exact t_test (e_op (e_call' (mp M u) (a_cons (e_call' (M, u) (a_cons (e_var rfl ((vD _).mono (eH.trans e4) h1)) (a_cons (e_var rfl p4) a_nil)) ⟨by dsimp only; omega, by dsimp only; omega, r.length, gm, u1.letters g.gr⟩) a_nil) (by rw [mp_len]; omega)) (e_var rfl h3) (o_ne (by rfl)))
      · intro u hu v4 H4 e4 p4 _
        exact e_cn
    have hfil : ((ws r i).filter fun u => !decide (V.int (rk M u : Nat) = V.int (lst : Nat))) = [] ↔ ∀ w, InL r w → w.length = i → rk M w = lst := by
      rw [List.filter_eq_nil_iff]
      constructor
      · intro h w w1 w2
        have := h w ((mem_ws g.gr).2 ⟨w1, w2⟩)
        simp at this
        omega
      · intro h u hu
        obtain ⟨u1, u2⟩ := (mem_ws g.gr).1 hu
        rw [h u u1 u2]
        simp
    refine x_if (b := decide (((ws r i).filter fun u => !decide (V.int (rk M u : Nat) = V.int (lst : Nat))) = [])) (t_test (e_op hlc ((EN.e (en_lst (Ps := []) a_nil (by simp))).weak fun v H3 _ p => (show (vDs []).p v H3 from p)) (o_eqL (Nat.le_trans (deps_map (n := 0) (fun _ => by rw [Dv.dep]; omega) _) (by omega)) (by rw [Dv.deps]; omega) (by rw [decide_eq_true_iff, List.map_eq_nil_iff])))) (fun hb H3 e3 => ?_) (fun hb H3 e3 => ?_)
    · have hall := hfil.1 (of_decide_eq_true hb)
      exact x_ret (e_var rfl ((vI _).mono e3 pv)) fun v5 H5 e5 p5 => k v5 H5 (eH.trans (e3.trans e5)) ⟨(i : Int), .inr ⟨i, rfl, by omega, hall, fun d' hd' => hno d' (by omega)⟩, p5⟩
    · refine hN _ _ (Ex.tx e3) (Ex.nk e3) ⟨_, rfl, eH.trans e3, fun j hj => ?_⟩
      rw [List.length_append, List.length_singleton] at hj
      rcases Nat.lt_or_ge j pre.length with c | c
      · exact hno j c
      · rw [show j = i by omega]
        apply Classical.byContradiction
        intro z
        have h2 := of_decide_eq_false hb
        refine h2 (hfil.2 fun w w1 w2 => ?_)
        apply Classical.byContradiction
        intro y
        exact z ⟨w, w1, w2, y⟩
  · rintro σ' H' ⟨x, rfl, eH, hno⟩
    exact x_ret (σ := [some v1, some v2, some v3, x, none]) (e_op e_c e_c (o_I0 (g := fun i j => V.int (i - j)))) fun v3 H3 e3 p3 => k v3 H3 (eH.trans e3) ⟨-1, .inl ⟨rfl, fun j hj => hno j (by rw [List.length_range]; exact hj)⟩, p3⟩

/-! _law_least -/
def sp_law_least : Sp := spF (fun (x : (List (List Nat) × Mach) × Nat) => [vFams x.1.1 x.1.2 x.2]) (fun x => Sz x.1.1 x.1.2) (fun x => vEx (fun (y : Nat) => (∀ k, k < x.2 → ∀ a, a < x.1.1.length → y ≤ rk x.1.2 (blk x.1.1 k a)) ∧ (y = 99 ∨ ∃ k a, k < x.2 ∧ a < x.1.1.length ∧ rk x.1.2 (blk x.1.1 k a) = y)) fun y => vI y)
abbrev n_law_least : List Str := ["_law_levels_here", "_law_found", "_law_family", "_law_own"]
theorem sc_law_least : FnScope n_law_least ["_law_levels_here"] (defScope st_law_least) := ⟨rfl, rfl, rfl, by decide +kernel, rfl, by decide +kernel, by decide +kernel⟩
theorem ok_law_least (F : Df K mg "_law_least" st_law_least []) (B : Bi mg) (c_law_rank : Cb P w K mg base "_law_rank" 1 ["_law_own"] [] sp_law_rank) : Cb P w K mg base "_law_least" 2 ["_law_levels_here"] [] sp_law_least := by
  refine F.ok sc_law_least (fun _ => rfl) (fun _ _ _ _ _ _ us hl => match us, hl with | [_], _ => rfl) fun f cdv A outer s H Ex' hr => ?_
  refine ⟨_, pss_cons (ps_set (i := 1) sc_law_least.nd rfl (Or.inl rfl) (pe_int))
    (pss_cons (ps_for PassesOwn.never rfl (itL K (pv 0)) (pg_name (i := 2) sc_law_least.nd rfl (Or.inl rfl)) (pss_one (ps_set (i := 1) sc_law_least.nd rfl (Or.inl rfl) (bMin K B (pe_op op_cat (pe_lst (pa_cons (pv 1) pa_nil)) (pe_lc (own := [("_law_own", 3)]) (g := gName 3) (tt := tYes) rfl sc_law_least.nd (itT K (pv 2)) (blkOk_by (N := n_law_least) (sc := defScope st_law_least) (by decide +kernel)) (fun _ _ _ _ _ => pg_name (i := 3) sc_law_least.nd rfl (Or.inl rfl)) (fun _ _ _ _ _ => pts_nil) (fun _ _ _ _ _ => pe_cb c_law_rank (hr.mono (by decide)) rfl (pa_cons (pv 3) pa_nil))))))))
    (pss_one (ps_ret (pv 1)))), ?_⟩
  rintro ⟨⟨r, M⟩, m⟩ vs ⟨v1, r1, rfl, h1, e⟩ z Q k
  try dsimp only at *
  rw [show r1 = [] from e]
  have z3 := z.three
  have z4 := z.four
  refine x_asg (P := vI ((99 : Nat) : Int)) e_c fun fv H1 e1 p1 => ?_
  refine x_forP (List.range m) (fun i => vD (eR (fam r M i))) (e_var rfl ((vFams r M m).mono e1 h1)) (fun pre σ' H' => ∃ fv x, ∃ y : Nat, σ' = [some v1, some fv, x, none] ∧ Ex H H' ∧ (vI (y : Nat)).p fv H' ∧ (∀ k, k < pre.length → ∀ a, a < r.length → y ≤ rk M (blk r k a)) ∧ (y = 99 ∨ ∃ k a, k < pre.length ∧ a < r.length ∧ rk M (blk r k a) = y))
    (fun H2 e2 => ⟨fv, none, 99, rfl, e1.trans e2, p1, (fun k hk => by cases hk), .inl rfl⟩) ?_ ?_
  · rintro pre i post hx v σ' H' pv ⟨gv, x, y, rfl, eH, pg, hle, hat⟩ N hN
    obtain ⟨ei, hi⟩ := range_split hx
    have hne : (y :: (fam r M i).map fun f => (canon ltN f).length) ≠ [] := by simp
    obtain ⟨q, hq, hql⟩ := least_nat _ hne
    have hlist : E (tOp rCat (tLst (tCons (tVar 1) tNil)) (tLc (iTup K (tVar 2)) (gName 3) tYes (tCall sp_law_rank [] E0 (tCons (tVar 3) tNil)) (List.map (fun x => x.2) [(("_law_own" : Str), 3)]))) [some v1, some gv, some v, none] H' (vL (((y :: (fam r M i).map fun f => (canon ltN f).length).map fun (a : Nat) => (a : Int)).map vI)) := by
      have h0 := EN.e (en_cat (ta := tLst (tCons (tVar 1) tNil)) (EN.e (en_lst (Ps := [vI (y : Nat)]) (a_cons (e_var (σ := [some v1, some gv, some v, none]) (i := 1) rfl pg) a_nil) (by simp))) (EN.e (en_lc1 (te := tCall sp_law_rank [] E0 (tCons (tVar 3) tNil)) (j := 3) (vs := [3]) (fam r M i) (fun f => vD (eW f)) (fun f => vI ((canon ltN f).length : Nat)) (src0_tupE (K := K) (fam r M i) eW (e_var (i := 2) rfl pv)).t.src (by rw [fam_len]; omega) (fun _ _ => st_v _) (fun v => rfl) (by
        intro f hf u H2 e2 p2
        have := (fam_mem_ok z i f hf).1
        exact e_call' f (a_cons (e_var rfl p2) a_nil) (by omega)))) (by rw [List.length_map, fam_len]; simp; omega))
      have e2 : (((fam r M i).map fun f => (canon ltN f).length).map fun (a : Nat) => (a : Int)).map vI = (fam r M i).map fun f => vI ((canon ltN f).length : Nat) := by
        rw [List.map_map, List.map_map]
        rfl
      show E _ _ _ (vL (vI (y : Nat) :: (((fam r M i).map fun f => (canon ltN f).length).map fun (a : Nat) => (a : Int)).map vI))
      rw [e2]
      exact h0
    refine x_asg (P := vI (q : Nat)) (e_cb (a_cons hlist a_nil) (r_min (m := (q : Int)) (by simp) (List.mem_map.2 ⟨q, hq, rfl⟩) fun w hw => ?_)) fun gv' H3 e3 p3 => hN _ _ e3 ⟨gv', _, q, rfl, eH.trans e3, p3, fun k hk a ha => ?_, ?_⟩
    · obtain ⟨a, ha, rfl⟩ := List.mem_map.1 hw
      have := hql a ha
      omega
    · rw [List.length_append, List.length_singleton] at hk
      rcases Nat.lt_or_ge k pre.length with c | c
      · exact Nat.le_trans (hql y List.mem_cons_self) (hle k c a ha)
      · rw [show k = i by omega]
        exact hql _ (List.mem_cons_of_mem _ (List.mem_map.2 ⟨_, List.mem_map.2 ⟨a, List.mem_range.2 ha, rfl⟩, rfl⟩))
    · rw [List.length_append, List.length_singleton]
      rcases List.mem_cons.1 hq with hq | hq
      · rcases hat with h | ⟨k, a, h1, h2, h3⟩
        · exact .inl (by omega)
        · exact .inr ⟨k, a, by omega, h2, by omega⟩
      · obtain ⟨f, hf, ef⟩ := List.mem_map.1 hq
        obtain ⟨a, ha, ea⟩ := List.mem_map.1 hf
        rw [← ea] at ef
        exact .inr ⟨i, a, by omega, List.mem_range.1 ha, ef⟩
  · rintro σ' H' ⟨gv, x, y, rfl, eH, pg, hle, hat⟩
    rw [List.length_range] at hle hat
    exact x_ret (e_var rfl pg) fun v H3 e3 p3 => k v H3 (eH.trans e3) ⟨y, ⟨hle, hat⟩, p3⟩

end
end K37
set_option Elab.async false
set_option linter.all false
set_option maxRecDepth 100000
set_option maxHeartbeats 1000000
/-! E16: a display with one key that is a tuple. -/
namespace K37
open PySem PySem.Spec PyProof.Rows L2 Evl
section
variable {X : Cx} {k v : Expr} {tk tv : TE} {pos : Pos}
def tDk1 (P : Program) (w : World) (tk tv : TE) : TE := fun σ H Q => ∀ p, H p = none → tPairs [(tk, tv)] σ (upd H p (dkOb P w p [])) fun ps H2 => ∃ x y, ps = [(x, y)] ∧ H2 p = some (dkOb P w p []) ∧ ∃ ds, Is H2 (.t ds) x ∧ (Dv.t ds).dep ≤ 8 ∧
  ∀ H3, (∀ a, a ≠ p → H3 a = H2 a) → Dk P w H3 p [(.t ds, y)] → Q (.ref p) H3
theorem pe_dk1 (hu : X.A.units + 64 < cLine) (hk : PE X k tk) (hv : PE X v tv) : PE X (.Dict [some k] [v] pos) (tDk1 X.prog X.w tk tv) := by
  refine ⟨fun pins s σ H Q I q => ?_⟩
  have hn : H s.heap.objs.size = none := I.hok.fresh (Nat.le_refl _)
  have hsys : (s.heap.objs.size == sysModules) = false := beq_eq_false_iff_ne.mpr (Ne.symm (Nat.ne_of_lt I.big))
  have I1 := I.laid (a := s.heap.objs.size) (o := dkOb X.prog X.w s.heap.objs.size []) (h' := s.heap.push { cls := .type "dict", data := .dict #[] }) (t' := s.toks) (fun _ _ q => Heap.get?_push_of_some _ q) (Nat.le_refl _)
    (dkOb_ok hsys (Nat.zero_le _) (Heap.DictOfH.new s.heap))
  rw [arm_eval_Dict, zip_pairTrees [some k] [v] X.env pos rfl rfl, dictDisplay_pairs (pairTrees [some k] [v] X.env pos) (by simp [pairTrees]) (by simp [pairTrees])]
  refine wpAny_bind (wpAny_standAt (wpAny_bind (wpAny_subDictH (knd := nestedKind X.prog X.w) (Q := fun d s' => wpAny (model X.prog X.w) X.A (pure (Value.ref d)) _ _ s') ?_ (by simp [pairTrees]) ?_)))
  · show X.A.units + 8 < cLine
    omega
  have hp : PPs X pos [some k] [v] [(tk, tv)] := pps_cons hk hv pps_nil
  refine thn (hp.run pins _ σ _ _ I1 (q _ hn)) fun ws s2 ⟨ps, H2, I2, rel, x, y, ep, hat, ds, hx, hdep, fin⟩ => ?_
  subst ep
  cases rel with
  | @cons _ q _ qs h t =>
    cases t
    obtain ⟨q1, q2⟩ := q
    obtain ⟨rx, ry⟩ := h
    obtain ⟨a, rfl⟩ := is_ref hx
    obtain rfl : q1 = Value.ref a := rx
    obtain ⟨⟨_, _, o, es, ep, b1, b2, b3, b4, b5⟩, _, _⟩ := (show ObjOk X.prog X.w H2 s2.heap s.heap.objs.size (dkOb X.prog X.w s.heap.objs.size []) from I2.hok _ _ hat)
    refine ⟨[((Dv.t ds).key, a, q2)], ⟨rfl, rfl, ⟨Is.nested I2 _ _ _ hx rfl, by rw [key_dep]; exact hdep⟩, trivial⟩, ⟨o, es, ep, b1, b2, b3, b4, fun x hx => (by cases hx), b5⟩, fun h' tk' hd' hs => wpAny_pure ?_⟩
    have mu : Mut (H2 s.heap.objs.size) := by rw [hat]; exact True.intro
    have he : ∃ q, h'.get? s.heap.objs.size = some q := let ⟨q, _, _, hq, _⟩ := hd'; ⟨q, hq⟩
    have tx : Tx H2 (upd H2 s.heap.objs.size (dkOb X.prog X.w s.heap.objs.size [((Dv.t ds).key, a, q2)])) := Tx.upd fun u z => by
      rw [hat] at z
      cases z
      exact not_imm_ext
    exact ⟨.ref s.heap.objs.size, _, d_write (t' := tk') I2 mu hs he (dkOb_ok hsys (by rw [sizeLine_eq]; show 1 ≤ _; omega) hd'), rfl, fin _ (fun b hb => upd_ne hb) ⟨_, upd_same, .cons ⟨rfl, hdep, Is.mono tx _ _ hx, ry⟩ .nil⟩⟩
end
end K37
set_option Elab.async false
set_option linter.all false
set_option maxRecDepth 100000
set_option maxHeartbeats 2000000
/-! W16: the law, all words of nine letters. -/
namespace K37
open PySem L2 Evl
section
variable {P : Program} {w : World} {K : PySem.W.Frag} {mg : Str → Option Value} {base : Heap}

/-- found so far, left to be looked at, v under way -/
structure LW (r : List (List Nat)) (u : List Nat) (ks ls : List (List Nat)) : Prop where
  nd : ks.Nodup
  ini : u ∈ ks
  cw : ∀ p ∈ ks, CW r u p
  sub : ∀ p ∈ ls, p ∈ ks
  step : ∀ p ∈ ks, p ∉ ls → ∀ q ∈ facs u.length (up r p), q ∈ ks
structure LWi (r : List (List Nat)) (u v : List Nat) (pre : List Nat) (ks ls : List (List Nat)) : Prop where
  nd : ks.Nodup
  ini : u ∈ ks
  cw : ∀ p ∈ ks, CW r u p
  sub : ∀ p ∈ ls, p ∈ ks
  now : v ∈ ks
  step : ∀ p ∈ ks, p ∉ ls → p ≠ v → ∀ q ∈ facs u.length (up r p), q ∈ ks
  cur : ∀ k ∈ pre, ((up r v).drop k).take u.length ∈ ks
theorem LW.pop {r : List (List Nat)} {u v : List Nat} {ks ls : List (List Nat)} (h : LW r u ks (ls ++ [v])) : LWi r u v [] ks ls :=
  ⟨h.nd, h.ini, h.cw, fun p hp => h.sub p (List.mem_append_left _ hp), h.sub v (by simp), fun p hp hl hv => h.step p hp (fun z => (List.mem_append.1 z).elim hl fun y => hv (List.mem_singleton.1 y)), fun k hk => by cases hk⟩
theorem LWi.old {r : List (List Nat)} {u v : List Nat} {pre : List Nat} {k : Nat} {ks ls : List (List Nat)} (h : LWi r u v pre ks ls) (hq : ((up r v).drop k).take u.length ∈ ks) : LWi r u v (pre ++ [k]) ks ls :=
  ⟨h.nd, h.ini, h.cw, h.sub, h.now, h.step, fun j hj => by
    rcases List.mem_append.1 hj with hj | hj
    · exact h.cur j hj
    · rw [List.mem_singleton.1 hj]; exact hq⟩
theorem LWi.new {r : List (List Nat)} {u v : List Nat} {pre : List Nat} {k : Nat} {ks ls : List (List Nat)} (h : LWi r u v pre ks ls) (hk : k < (up r v).length + 1 - u.length) (hq : ((up r v).drop k).take u.length ∉ ks) :
    LWi r u v (pre ++ [k]) (ks ++ [((up r v).drop k).take u.length]) (ls ++ [((up r v).drop k).take u.length]) := by
  refine ⟨nd_snoc h.nd hq, List.mem_append_left _ h.ini, fun p hp => ?_, fun p hp => ?_, List.mem_append_left _ h.now, fun p hp hl hv q hqf => ?_, fun j hj => ?_⟩
  · rcases List.mem_append.1 hp with hp | hp
    · exact h.cw p hp
    · rw [List.mem_singleton.1 hp]
      exact (h.cw v h.now).step (List.mem_map.2 ⟨k, List.mem_range.2 hk, rfl⟩)
  · rcases List.mem_append.1 hp with hp | hp
    · exact List.mem_append_left _ (h.sub p hp)
    · exact List.mem_append_right _ hp
  · rcases List.mem_append.1 hp with hp | hp
    · exact List.mem_append_left _ (h.step p hp (fun z => hl (List.mem_append_left _ z)) hv q hqf)
    · exact absurd (List.mem_append_right _ hp) hl
  · rcases List.mem_append.1 hj with hj | hj
    · exact List.mem_append_left _ (h.cur j hj)
    · rw [List.mem_singleton.1 hj]; simp
theorem LWi.done {r : List (List Nat)} {u v : List Nat} {ks ls : List (List Nat)} (h : LWi r u v (List.range ((up r v).length + 1 - u.length)) ks ls) : LW r u ks ls :=
  ⟨h.nd, h.ini, h.cw, h.sub, fun p hp hl q hq => by
    by_cases e : p = v
    · subst e
      obtain ⟨k, hk, rfl⟩ := List.mem_map.1 hq
      exact h.cur k hk
    · exact h.step p hp hl e q hq⟩
theorem LW.all {r : List (List Nat)} {u : List Nat} {ks : List (List Nat)} (h : LW r u ks []) (p : List Nat) : p ∈ ks ↔ CW r u p := by
  refine ⟨h.cw p, fun hp => ?_⟩
  induction hp with
  | base => exact h.ini
  | step _ hq ih => exact h.step _ ih (fun z => by cases z) _ hq
theorem LWi.few {r : List (List Nat)} {u v : List Nat} {pre : List Nat} {ks ls : List (List Nat)} (g : Good r) (hu : InL r u) (h9 : u.length = 9) (h : LWi r u v pre ks ls) : ks.length ≤ 3852 :=
  words_few (l := 9) g (by omega) h.nd fun p hp => (mem_ws g.gr).2 (by
    have := cw_inL g.gr hu (h.cw p hp)
    rw [h9] at this
    exact this)

/-! _law_words -/
def sp_law_words : Sp := spF (fun (r : List (List Nat)) => [vD (eR r), vI ((9 : Nat) : Int)]) Good (fun r => vL ((ws r 9).map fun u => vD (eW u)))
abbrev n_law_words : List Str := ["_law_lead", "_law_most", "_law_first", "_law_lap", "_law_found", "_law_left", "_law_longer", "_law_k", "_law_text"]
theorem sc_law_words : FnScope n_law_words ["_law_lead", "_law_most"] (defScope st_law_words) := ⟨rfl, rfl, rfl, by decide +kernel, rfl, by decide +kernel, by decide +kernel⟩
theorem ok_law_words (F : Df K mg "_law_words" st_law_words []) (B : Bi mg) (c_law_led : Cb P w K mg base "_law_led" 1 ["_law_lead", "_law_text"] [] sp_law_led) : Cb P w K mg base "_law_words" 2 ["_law_lead", "_law_most"] [] sp_law_words := by
  refine F.ok sc_law_words (fun _ => rfl) (fun _ _ _ _ _ _ us hl => match us, hl with | [_, _], _ => rfl) fun f cdv A outer s H Ex' hr => ?_
  refine ⟨_, pss_cons (ps_set (i := 2) sc_law_words.nd rfl (Or.inl rfl) (pe_tup (pa_cons pe_int pa_nil)))
    (pss_cons (ps_for PassesOwn.never rfl (itRg B pe_int) (pg_name (i := 3) sc_law_words.nd rfl (Or.inl rfl)) (pss_one (ps_if (pt_cmpR op_lt (bLen K B (pv 2)) (pv 1) (by rfl)) (pss_one (ps_set (i := 2) sc_law_words.nd rfl (Or.inl rfl) (pe_cb c_law_led (hr.mono (by decide)) rfl (pa_cons (pv 0) (pa_cons (pv 2) pa_nil))))) pss_nil)))
    (pss_cons (ps_par (i := 4) (j := 5) rfl sc_law_words.nd rfl rfl (by decide) rfl rfl (pa_cons (pe_dk1 (room64 hr) (slT K (pv 2) po_none (po_some (pv 1))) pe_bl) (pa_cons (pe_lst (pa_cons (slT K (pv 2) po_none (po_some (pv 1))) pa_nil)) pa_nil)) rfl)
    (pss_cons (ps_while PassesOwn.never (pt_cmpR (op_neD (room64 hr)) (pv 5) (pe_lst pa_nil) (by rfl)) (pss_cons (ps_set (i := 6) sc_law_words.nd rfl (Or.inl rfl) (pe_cb c_law_led (hr.mono (by decide)) rfl (pa_cons (pv 0) (pa_cons (pe_bm0 PySem.F.plainAttrs_list PySem.F.slot_list_pop PySem.F.type_list_pop mt_pop (pv 5)) pa_nil))))
    (pss_one (ps_for PassesOwn.never rfl (itRg B (pe_op op_add (pe_op op_sub (bLen K B (pv 6)) (pv 1)) pe_int)) (pg_name (i := 7) sc_law_words.nd rfl (Or.inl rfl)) (pss_cons (ps_set (i := 8) sc_law_words.nd rfl (Or.inl rfl) (slT K (pv 6) (po_some (pv 7)) (po_some (pe_op op_add (pv 7) (pv 1)))))
    (pss_one (ps_if (pt_cmpR (op_dkNotIn (room64 hr)) (pv 8) (pv 4) (by rfl)) (pss_cons (ps_asg pe_bl (pg_sub (pv 4) (pv 8) (set_dk (room64 hr))))
    (pss_one (ps_expr (pe_bm PySem.F.plainAttrs_list PySem.F.slot_list_append PySem.F.type_list_append mt_append (pv 5) (pa_cons (pv 8) pa_nil))))) pss_nil)))))))
    (pss_one (ps_ret (bSortD P w B (room64 hr) (pv 4))))))), ?_⟩
  rintro r vs ⟨v1, r1, rfl, h1, v2, r2, rfl, h2, e⟩ g Q k
  try dsimp only at *
  rw [show r2 = [] from e]
  have h4 := g.four
  have h0 := g.gr.pos
  refine x_asg (P := vD (eW [0])) (e_tupD (ds := [eN 0]) (a_cons e_cn a_nil) (by simp)) fun fv H1 e1 p1 => ?_
  refine x_forN (j := 3) (List.range 60) (fun i => vI (i : Nat)) (src0_range (n := 60) (a_cons e_c a_nil) (by decide)) (fun pre σ' H' => ∃ fv lp j, σ' = [some v1, some v2, some fv, lp, none, none, none, none, none] ∧ Ex H H' ∧ Is H' (eW (blk r j 0)) fv ∧ (blk r j 0).length ≤ 32 ∧ (9 ≤ (blk r j 0).length ∨ j = pre.length))
    (fun H2 e2 => ⟨fv, none, 0, rfl, e1.trans e2, Is.mono (Ex.tx e2) _ _ p1, by rw [blk_zero]; simp, .inr rfl⟩) ?_ ?_
  · rintro pre i post hx v σ' H' pv ⟨gv, lp, j, rfl, eH, pg, hz, hj⟩ N hN
    have hlen : E (tCB (rLenS K) (tCons (tVar 2) tNil)) [some v1, some v2, some gv, some v, none, none, none, none, none] H' (vI ((blk r j 0).length : Nat)) := (e_cb (a_cons (e_var rfl (show (vD (eW (blk r j 0))).p gv H' from pg)) a_nil) r_lenT).weak fun v H2 _ p => (by
      rw [List.length_map] at p
      exact p)
    refine x_if (b := decide ((blk r j 0).length < 9)) (t_test (e_op hlen (e_var rfl h2) (o_cmp (by show V.bl _ = V.bl _; congr 1; simp; omega)))) (fun hb H2 e2 => ?_) (fun hb H2 e2 => ?_)
    · have h9 := of_decide_eq_true hb
      have hup : up r (blk r j 0) = blk r (j + 1) 0 := (blk_succ' r j 0).symm
      refine x_asg (P := vD (eW (blk r (j + 1) 0))) (by
        rw [← hup]
        exact e_call' (r, blk r j 0) (a_cons (e_var rfl ((vD _).mono (eH.trans e2) h1)) (a_cons (e_var rfl (show (vD (eW (blk r j 0))).p gv H2 from Is.mono (Ex.tx e2) _ _ pg)) a_nil)) ⟨blk_lt g.gr j h0, by dsimp only; omega, g.blk4⟩) fun gv' H3 e3 p3 => hN _ _ (Ex.tx (e2.trans e3)) (Ex.nk (e2.trans e3)) ⟨gv', _, j + 1, rfl, eH.trans (e2.trans e3), p3, ?_, ?_⟩
      · rw [← hup]
        exact Nat.le_trans (len_flat_le _ 4 _ fun a ha => g.blk4 a (blk_lt g.gr j h0 a ha)) (by omega)
      · rw [List.length_append, List.length_singleton]
        exact .inr (by omega)
    · have h9 := of_decide_eq_false hb
      exact hN _ _ (Ex.tx e2) (Ex.nk e2) ⟨gv, _, j, rfl, eH.trans e2, Is.mono (Ex.tx e2) _ _ pg, hz, .inl (by omega)⟩
  rintro σ' H2 ⟨gv, lp, j, rfl, e2, pg, hz, hj⟩
  have h9 : 9 ≤ (blk r j 0).length := by
    rcases hj with h | h
    · exact h
    · rw [List.length_range] at h
      exact g.long (by omega)
  obtain ⟨u, hu⟩ : ∃ u, (blk r j 0).take 9 = u := ⟨_, rfl⟩
  have hul : u.length = 9 := by rw [← hu, List.length_take]; omega
  have hui : InL r u := (inL_blk h0 j).infix (by rw [← hu]; exact (List.take_prefix _ _).isInfix)
  have hsl : ∀ {H3 : Hp}, Tx H2 H3 → E (tSl (rSlA K) (tVar 2) tNoPart (tPart (tVar 1))) [some v1, some v2, some gv, lp, none, none, none, none, none] H3 (vD (eW u)) := fun {H3} t3 => by
    have := e_sl_to (K := K) (k := 9) (tb := tVar 1) (e_var (i := 2) (σ := [some v1, some v2, some gv, lp, none, none, none, none, none]) rfl (show (vD (.t ((blk r j 0).map eN))).p gv H3 from Is.mono t3 _ _ pg)) (e_var (i := 1) rfl (show (vI ((9 : Nat) : Int)).p v2 H3 from h2))
    rw [← List.map_take, hu] at this
    exact this
  refine fun p hp => hsl (Ex.tx (Ex.new hp)) _ (Ex.refl _) _ fun xv H3 e3 px => ⟨xv, .bl true, rfl, e3 _ _ upd_same, u.map eN, px, dep8 u, fun H4 hsame hdk => ?_⟩
  have t23 : Tx H2 H3 := Ex.tx ((Ex.new hp).trans e3)
  have x34 : ExB p H3 H4 := exb_of hsame
  have t34 : Tx H3 H4 := fun a o i h => by
    rw [hsame a fun z => by rw [z, e3 _ _ upd_same] at h; cases h; exact not_imm_ext i]
    exact h
  have hpH : H p = none := fresh_back e2 hp
  have e4 : Ex H H4 := fun a o h => x34 a o (ne_of_none h hpH) (e3 _ _ ((Ex.new hp) _ _ (e2 _ _ h)))
  have hp4 : ∃ φ, H4 p = some (.ext φ) := hdk.obj
  refine en_lst (Ps := [vD (eW u)]) (a_cons (hsl (t23.trans t34)) a_nil) (by simp) H4 (Ex.refl _) _ fun l us H5 hl0 e5 hl5 hus => ⟨.ref p, .ref l, rfl, ?_⟩
  dsimp only
  have e05 := e4.trans e5
  have hlH : H l = none := fresh_back e4 hl0
  have hdk5 : Dk P w H5 p [(eW u, V.bl true)] := hdk.ex e5
  obtain ⟨φ5, hp5⟩ := hdk5.obj
  have hlp : l ≠ p := fun z => by rw [z, hp5] at hl5; cases hl5
  refine x_while (fun m σ' H' => ∃ ks lw fv a b c d, m = 2 * (4000 - ks.length) + lw.length ∧ LW r u ks lw ∧ lw.length ≤ ks.length ∧ σ' = [some v1, some v2, fv, a, some (.ref p), some (.ref l), b, c, d] ∧ Ex H H' ∧ Dk P w H' p (tagT ks) ∧ Wl H' l lw) (2 * (4000 - 1) + 1)
    (⟨[u], [u], some gv, lp, none, none, none, rfl, ⟨by simp, by simp, fun q hq => by rw [List.mem_singleton.1 hq]; exact .base, fun q hq => hq, fun q hq hn => absurd hq hn⟩, by simp, rfl, e05, hdk5, us, hl5, allP_isAll.1 hus⟩) ?_
  rintro m σ' H' ⟨ks, lw, fv', a, b, c, d, rfl, lwv, hlw, rfl, eH, hdk', us', hus', hall⟩
  have hlenv : (vDs (lw.map eW)).p (.ref l) H' := ⟨l, us', rfl, hus', allP_isAll.2 hall⟩
  have htest : EvT (tTest (tOp (rNeD K) (tVar 5) (tLst tNil))) [some v1, some v2, fv', a, some (.ref p), some (.ref l), b, c, d] H' (!decide (lw = [])) :=
    t_test (e_op (e_var rfl hlenv) ((EN.e (en_lst (Ps := []) a_nil (by simp))).weak fun v H3 _ p => (show (vDs []).p v H3 from p)) (o_neL (deps60 _) (by rw [Dv.deps]; omega) (by rw [decide_eq_true_iff, List.map_eq_nil_iff])))
  rcases List.eq_nil_or_concat lw with hnil | ⟨lw', v0, hsn⟩
  · refine ⟨!decide (lw = []), htest, (fun y => by rw [hnil] at y; cases y), fun _ H6 e6 => ?_⟩
    rw [hnil] at lwv
    have hmem : ∀ w, w ∈ ws r 9 ↔ w ∈ ks := fun w => by
      rw [lwv.all, cw_iff g.gr (fun y => by rw [y] at hul; cases hul) hui, mem_ws g.gr, hul]
    have hws : ws r 9 = canon ltW ks := canon_eq soW (ws_ok g.gr 9).1 hmem
    have hfew := words_few (l := 9) g (by omega) lwv.nd fun w hw => (hmem w).2 hw
    refine x_ret (e_cb (a_cons (e_var rfl (show (vDk P w _).p (.ref p) H6 from ⟨p, rfl, hdk'.ex e6⟩)) a_nil) (r_sortD (.inl fun w hw y => ?_) (map_keys ks) lwv.nd (by omega))) fun v H7 e7 p7 => k v H7 ((eH.trans e6).trans e7) ?_
    · have := ((mem_ws g.gr).1 ((hmem w).2 hw)).2
      rw [y] at this
      cases this
    · rw [← hws] at p7
      exact p7
  rw [List.concat_eq_append] at hsn
  subst hsn
  refine ⟨!decide (lw' ++ [v0] = []), htest, fun _ H6 e6 N hN => ?_, (fun y => by simp at y)⟩
  rw [List.map_append] at hall
  obtain ⟨us2, pv, rfl, hall2, hpv⟩ := isAll_snoc hall
  have hl6 : H6 l = some (.lst (us2 ++ [pv])) := e6 _ _ hus'
  have lwi := lwv.pop
  have hcw := cw_inL g.gr hui (lwv.cw v0 (lwv.sub v0 (by simp)))
  rw [hul] at hcw
  have hv0 := hcw.1.letters g.gr
  have t67 : Tx H6 (upd H6 l (.lst us2)) := Tx.updL hl6
  have e07 : Ex H (upd H6 l (.lst us2)) := Ex.mut (eH.trans e6) hlH
  refine ⟨v1, rfl, .ref l, rfl, Or.inl ⟨rfl, _, sq_of hl6⟩, l, us2 ++ [pv], pv, rfl, rfl, hl6, by simp, ?_⟩
  rw [List.dropLast_concat]
  refine ⟨(r, v0), ⟨v1, _, rfl, (vD _).mono e07 h1, pv, _, rfl, Is.mono (Tx.trans (Ex.tx e6) t67) _ _ hpv, rfl⟩, ⟨hv0, by dsimp only; omega, g.blk4⟩, fun lv H8 e8 p8 => ?_⟩
  have p8 : (vD (eW (up r v0))).p lv H8 := p8
  have hdk8 : Dk P w H8 p (tagT ks) := ((hdk'.ex e6).mono t67 (upd_ne (Ne.symm hlp))).ex e8
  have hl8 : H8 l = some (.lst us2) := e8 _ _ upd_same
  have hall8 : IsAll H8 (lw'.map eW) us2 := IsAll.mono (Tx.trans (Tx.trans (Ex.tx e6) t67) (Ex.tx e8)) _ _ hall2
  have e08 : Ex H H8 := e07.trans e8
  have hge : 9 ≤ (up r v0).length := by
    have := len_up_ge g.gr hv0
    omega
  rw [List.length_append, List.length_singleton] at hlw hN
  have hsrc : E (tOp (rI0 fun i j => V.int (i + j)) (tOp (rI0 fun i j => V.int (i - j)) (tCB (rLenS K) (tCons (tVar 6) tNil)) (tVar 1)) (tC (.int 1))) [some v1, some v2, fv', a, some (.ref p), some (.ref l), some lv, c, d] H8 (vI (((up r v0).length + 1 - u.length : Nat) : Int)) := (e_op (e_op (e_cb (a_cons (e_var rfl p8) a_nil) r_lenT) (e_var rfl (show (vI ((9 : Nat) : Int)).p v2 H8 from h2)) (o_I0 (g := fun i j => V.int (i - j)))) e_c (o_I0 (g := fun i j => V.int (i + j)))).weak fun v H9 _ pp => by
    rw [show v = _ from pp]
    show V.int _ = V.int _
    congr 1
    simp only [List.length_map]
    omega
  have hpne : ∀ (c : Addr) (o : HO), H8 c = none → c ≠ p ∧ c ≠ l := fun c o h => by
    refine ⟨fun y => ?_, fun y => ?_⟩
    · obtain ⟨φ, hφ⟩ := hdk8.obj
      rw [y, hφ] at h
      cases h
    · rw [y, hl8] at h
      cases h
  dsimp only
  refine x_forN (j := 7) (List.range ((up r v0).length + 1 - u.length)) (fun i => vI (i : Nat)) (src0_range (a_cons hsrc a_nil) (by
    have := len_flat_le (fun c => r.getD c []) 4 v0 fun c hc => g.blk4 c (hv0 c hc)
    have e : up r v0 = v0.flatMap fun c => r.getD c [] := rfl
    rw [← e] at this
    omega)) (fun pre2 σ' H'' => ∃ ks2 lw2 x y us3, σ' = [some v1, some v2, fv', a, some (.ref p), some (.ref l), some lv, x, y] ∧ Ex H H'' ∧ Tx H8 H'' ∧ Dk P w H'' p (tagT ks2) ∧ H'' l = some (.lst us3) ∧ IsAll H'' (lw2.map eW) us3 ∧ LWi r u v0 pre2 ks2 lw2 ∧ lw2.length + ks.length = lw'.length + ks2.length ∧ ks.length ≤ ks2.length)
    (fun H9 e9 => ⟨ks, lw', _, _, us2, rfl, e08.trans e9, Ex.tx e9, hdk8.ex e9, e9 _ _ hl8, IsAll.mono (Ex.tx e9) _ _ hall8, lwi, rfl, Nat.le_refl _⟩) ?_ ?_
  · rintro pre2 i post2 hsp v σ' H9 pv9 ⟨ks2, lw2, x, y, us3, rfl, e09, t89, dk9, hl9, hall9, lwi9, heq, hle⟩ N2 hN2
    obtain ⟨ei, hi⟩ := range_split hsp
    have hfew := lwi9.few g hui hul
    have hq : (((up r v0).drop i).take u.length).length ≤ 9 := by rw [List.length_take]; omega
    have hslq : E (tSl (rSlA K) (tVar 6) (tPart (tVar 7)) (tPart (tOp (rI0 fun i j => V.int (i + j)) (tVar 7) (tVar 1)))) [some v1, some v2, fv', a, some (.ref p), some (.ref l), some lv, some v, y] H9 (vD (eW (((up r v0).drop i).take u.length))) := by
      have := e_sl_ab (K := K) (k := i) (m := i + 9) (e_var (σ := [some v1, some v2, fv', a, some (.ref p), some (.ref l), some lv, some v, y]) (i := 6) rfl (show (vD (.t ((up r v0).map eN))).p lv H9 from Is.mono t89 _ _ p8)) (e_var (i := 7) rfl pv9) ((e_op (e_var (i := 7) rfl pv9) (e_var (i := 1) rfl (show (vI ((9 : Nat) : Int)).p v2 H9 from h2)) (o_I0 (g := fun i j => V.int (i + j)))).weak fun v H7 _ p => (show (vI ((i + 9 : Nat) : Int)).p v H7 by
        rw [Int.natCast_add]
        exact p))
      rw [win_dv, ← hul] at this
      exact this
    refine x_asg (P := vD (eW (((up r v0).drop i).take u.length))) hslq fun tv H10 e10 p10 => ?_
    obtain ⟨q, hqe⟩ : ∃ q, ((up r v0).drop i).take u.length = q := ⟨_, rfl⟩
    rw [hqe] at p10
    have dk10 := dk9.ex e10
    dsimp only
    refine x_if (b := !decide (q ∈ ks2)) (t_test (e_op (e_var rfl p10) (e_var rfl (show (vDk P w _).p (.ref p) H10 from ⟨p, rfl, dk10⟩)) (o_dkNotIn (b := decide (q ∈ ks2)) (dep8 q) (by rw [map_keys, decide_eq_true_iff]; exact mem_map_eW.symm)))) (fun hb H11 e11 => ?_) (fun hb H11 e11 => ?_)
    · have hqn : q ∉ ks2 := by simpa using hb
      have lwn2 : LWi r u v0 (pre2 ++ [i]) (ks2 ++ [q]) (lw2 ++ [q]) := by
        have := lwi9.new (k := i) (by omega) (by rw [hqe]; exact hqn)
        rw [hqe] at this
        exact this
      have hfew2 := lwn2.few g hui hul
      rw [List.length_append, List.length_singleton] at hfew2
      refine x_put (P := P) (w := w) (d := p) (v := .bl true) e_c (e_var rfl rfl) (e_var rfl (show (vD (eW q)).p tv H11 from Is.mono (Ex.tx e11) _ _ p10)) (dep8 _) (dk10.ex e11) (by rw [List.length_map, List.length_map]; omega) (by
        rw [map_keys]
        exact fun z => hqn (mem_map_eW.1 z)) fun H12 t12 x12 d12 => ?_
      have hl12 : H12 l = some (.lst us3) := x12 _ _ hlp (e11 _ _ (e10 _ _ hl9))
      refine x_app (Pv := vD (eW q)) hl12 (e_var rfl rfl) (e_var rfl (show (vD (eW q)).p tv H12 from Is.mono t12 _ _ (Is.mono (Ex.tx e11) _ _ p10))) (by rw [hall9.length, List.length_map]; omega) fun v13 H13 e13 p13 => ?_
      dsimp only
      have t13 : Tx H12 (upd H13 l (.lst (us3 ++ [v13]))) := Tx.trans (Ex.tx e13) (Tx.updL (e13 _ _ hl12))
      have tAll : Tx H9 (upd H13 l (.lst (us3 ++ [v13]))) := Tx.trans (Ex.tx (e10.trans e11)) (Tx.trans t12 t13)
      have keep : ∀ c o, c ≠ p → c ≠ l → H9 c = some o → (upd H13 l (.lst (us3 ++ [v13]))) c = some o := fun c o h1 h2 h => by
        rw [upd_ne h2]
        exact e13 _ _ (x12 _ _ h1 (e11 _ _ (e10 _ _ h)))
      refine hN2 _ _ tAll (fun c o h1 h2 => keep c o (hpne c o h1).1 (hpne c o h1).2 h2) ⟨ks2 ++ [q], lw2 ++ [q], _, _, us3 ++ [v13], rfl, fun c o h => keep c o (ne_of_none h hpH) (ne_of_none h hlH) (e09 _ _ h), Tx.trans t89 tAll, ?_, upd_same, ?_, lwn2, by rw [List.length_append, List.length_append]; simp; omega, by rw [List.length_append]; omega⟩
      · unfold tagT
        rw [tag_snoc]
        exact (d12.ex e13).mono (Tx.updL (e13 _ _ hl12)) (upd_ne (Ne.symm hlp))
      · rw [List.map_append]
        exact (IsAll.mono tAll _ _ hall9).append (IsAll.one (Is.mono (Tx.updL (e13 _ _ hl12)) _ _ p13))
    · have hqi : q ∈ ks2 := by simpa using hb
      have e911 := e10.trans e11
      exact hN2 _ _ (Ex.tx e911) (Ex.nk e911) ⟨ks2, lw2, _, _, us3, rfl, e09.trans e911, Tx.trans t89 (Ex.tx e911), dk9.ex e911, e911 _ _ hl9, IsAll.mono (Ex.tx e911) _ _ hall9, lwi9.old (by rw [hqe]; exact hqi), heq, hle⟩
  · rintro σ' H9 ⟨ks2, lw2, x, y, us3, rfl, e09, t89, dk9, hl9, hall9, lwi9, heq, hle⟩
    have hfew := lwi9.few g hui hul
    exact hN (2 * (4000 - ks2.length) + lw2.length) _ _ (by omega) ⟨ks2, lw2, _, _, _, _, _, rfl, lwi9.done, by omega, rfl, e09, dk9, us3, hl9, hall9⟩

end
end K37
set_option Elab.async false
set_option linter.all false
set_option maxRecDepth 100000
set_option maxHeartbeats 2000000
/-! W17: the law, families. -/
namespace K37
open PySem L2 Evl
section
variable {P : Program} {w : World} {K : PySem.W.Frag} {mg : Str → Option Value} {base : Heap}

def vLev (r : List (List Nat)) (M : Mach) : VP := vEx (fun (y : Nat × Int) => (∃ t : Nat, y.2 = t ∧ Rnd r M y.1 t) ∨ (y.2 = -1 ∧ ∀ i j, i < j → j < 60 → fam r M i ≠ fam r M j)) fun y => vT [vFams r M y.1, vI y.2]

/-! _law_levels -/
def sp_law_levels : Sp := spF (fun (x : List (List Nat) × Mach) => [vD (eR x.1), vD (eM x.2)]) (fun x => Sz x.1 x.2) (fun x => vLev x.1 x.2)
abbrev n_law_levels : List Str := ["_law_lead", "_law_mech", "_law_now", "_law_found", "_law_a", "_law_row", "_law_lap", "_law_late", "_law_own", "_law_some"]
theorem sc_law_levels : FnScope n_law_levels ["_law_lead", "_law_mech"] (defScope st_law_levels) := ⟨rfl, rfl, rfl, by decide +kernel, rfl, by decide +kernel, by decide +kernel⟩
theorem ok_law_levels (F : Df K mg "_law_levels" st_law_levels []) (B : Bi mg) (c_law_joined : Cb P w K mg base "_law_joined" 1 ["_law_one", "_law_two"] [] sp_law_joined) : Cb P w K mg base "_law_levels" 2 ["_law_lead", "_law_mech"] [] sp_law_levels := by
  refine F.ok sc_law_levels (fun _ => rfl) (fun _ _ _ _ _ _ us hl => match us, hl with | [_, _], _ => rfl) fun f cdv A outer s H Ex' hr => ?_
  refine ⟨_, pss_cons (ps_par (i := 2) (j := 3) rfl sc_law_levels.nd rfl rfl (by decide) rfl rfl (pa_cons (bTup K B (pe_lc (own := [("_law_a", 4)]) (g := gName 4) (tt := tYes) rfl sc_law_levels.nd (itRg B (bLen K B (pv 0))) (blkOk_by (N := n_law_levels) (sc := defScope st_law_levels) (by decide +kernel)) (fun _ _ _ _ _ => pg_name (i := 4) sc_law_levels.nd rfl (Or.inr rfl)) (fun _ _ _ _ _ => pts_nil) (fun _ _ _ _ _ => bTup K B (pe_lc (own := [("_law_row", 5)]) (g := gName 5) (tt := tYes) rfl sc_law_levels.nd (itT K (pv 1)) (blkOk_by (N := n_law_levels) (sc := { kind := .function, names := [(".0", .local), ("_law_a", .cell), ("tuple", .globalImplicit), ("_law_mech", .cell)], isGenerator := false, isCoroutine := false }) (by decide +kernel)) (fun _ _ _ _ _ => pg_name (i := 5) sc_law_levels.nd rfl (Or.inl rfl)) (fun _ _ _ _ _ => pts_nil) (fun _ _ _ _ _ => ixT K (ixT K (pv 5) (pv 4)) pe_int))))) (pa_cons (pe_lst pa_nil) pa_nil)) rfl)
    (pss_cons (ps_for PassesOwn.never rfl (itRg B pe_int) (pg_name (i := 6) sc_law_levels.nd rfl (Or.inl rfl)) (pss_cons (ps_if (pt_cmpR (op_inD (room65 hr)) (pv 2) (pv 3) (by rfl)) (pss_one (ps_ret (pe_tup (pa_cons (pv 3) (pa_cons (pe_bm PySem.F.plainAttrs_list PySem.F.slot_list_index PySem.F.type_list_index (mt_indexD (room65 hr)) (pv 3) (pa_cons (pv 2) pa_nil)) pa_nil))))) pss_nil)
    (pss_cons (ps_expr (pe_bm PySem.F.plainAttrs_list PySem.F.slot_list_append PySem.F.type_list_append mt_append (pv 3) (pa_cons (pv 2) pa_nil)))
    (pss_cons (ps_set (i := 7) sc_law_levels.nd rfl (Or.inl rfl) (pe_lst pa_nil))
    (pss_cons (ps_for PassesOwn.never rfl (itT K (pv 0)) (pg_name (i := 8) sc_law_levels.nd rfl (Or.inl rfl)) (pss_cons (ps_set (i := 9) sc_law_levels.nd rfl (Or.inl rfl) (bTupRg B (bLen K B (pv 1))))
    (pss_cons (ps_for PassesOwn.never rfl (itT K (pv 8)) (pg_name (i := 4) sc_law_levels.nd rfl (Or.inl rfl)) (pss_one (ps_set (i := 9) sc_law_levels.nd rfl (Or.inl rfl) (pe_cb c_law_joined (hr.mono (by decide)) rfl (pa_cons (pv 9) (pa_cons (ixT K (pv 2) (pv 4)) pa_nil))))))
    (pss_one (ps_expr (pe_bm PySem.F.plainAttrs_list PySem.F.slot_list_append PySem.F.type_list_append mt_append (pv 7) (pa_cons (pv 9) pa_nil)))))))
    (pss_one (ps_set (i := 2) sc_law_levels.nd rfl (Or.inl rfl) (bTup K B (pv 7)))))))))
    (pss_one (ps_ret (pe_tup (pa_cons (pv 3) (pa_cons (pe_op op_sub pe_int pe_int) pa_nil)))))), ?_⟩
  rintro ⟨r, M⟩ vs ⟨v1, r1, rfl, h1, v2, r2, rfl, h2, e⟩ z Q k
  try dsimp only at *
  rw [show r2 = [] from e]
  have z' := z
  obtain ⟨⟨N0, gr⟩, gm, h4, hblk, h3⟩ := z'
  have hrow := (mach_row' gm).2
  have hfirst : E (tCB (rTupOf K) (tCons (tLc (iRng1 (tCons (tCB (rLenS K) (tCons (tVar 0) tNil)) tNil)) (gName 4) tYes (tCB (rTupOf K) (tCons (tLc (iTup K (tVar 1)) (gName 5) tYes (tOp (rIxT K) (tOp (rIxT K) (tVar 5) (tVar 4)) (tC (.int 0))) [5]) tNil)) [4]) tNil)) [some v1, some v2, none, none, none, none, none, none, none, none] H (vD (eR (fam r M 0))) := by
    have h := e_cb (a_cons (EN.e (en_lc1 (te := tCB (rTupOf K) (tCons (tLc (iTup K (tVar 1)) (gName 5) tYes (tOp (rIxT K) (tOp (rIxT K) (tVar 5) (tVar 4)) (tC (.int 0))) [5]) tNil)) (j := 4) (vs := [4]) (List.range r.length) _ (fun a => vD (eW (mp M [a]))) (src0_range (a_cons ((e_cb (σ := [some v1, some v2, none, none, none, none, none, none, none, none]) (a_cons (e_var (i := 0) rfl h1) a_nil) (r_lenT (K := K))).weak fun v H3 _ p => (by
      rw [List.length_map] at p
      exact p)) a_nil) (by omega)).t.src (by rw [List.length_range]; omega) (fun _ _ => st_d _) (fun v => rfl) (by
        intro a ha v H1 e1 p
        have ha := List.mem_range.1 ha
        have g := e_cb (a_cons (EN.e (en_lc1 (te := tOp (rIxT K) (tOp (rIxT K) (tVar 5) (tVar 4)) (tC (.int 0))) (j := 5) (vs := [5]) M _ (fun row => vD (eN (row.getD a (0, 0)).1)) (src0_tupE (K := K) M _ (e_var (σ := [some v1, some v2, none, none, some v, none, none, none, none, none]) (i := 1) rfl ((vD _).mono e1 h2))).t.src (by omega) (fun _ _ => st_d _) (fun v => rfl) (by
          intro x hx u H2 e2 p2
          exact e_op (e_op (e_var rfl p2) (e_n (e_var rfl ((vD _).mono e2 p))) (o_ixT (atI_E (d := (0, 0)) (by rw [hrow x hx]; exact ha)))) e_c (o_ixT (atI_pair0 _))))) a_nil) (r_tupE (K := K) M fun row => eN (row.getD a (0, 0)).1)
        rw [mp_one]
        unfold eW
        rw [List.map_map]
        exact g))) a_nil) (r_tupE (K := K) (List.range r.length) fun a => eW (mp M [a]))
    rw [fam_zero]
    unfold eR
    rw [List.map_map]
    exact h
  refine hfirst H (Ex.refl _) _ fun fv H1 e1 p1 => ?_
  refine en_lst (Ps := []) a_nil (by simp) H1 (Ex.refl _) _ fun l ls H2 hl0 e2 hl hls => ⟨fv, .ref l, rfl, ?_⟩
  rw [show ls = [] from hls] at hl
  have hlH : H l = none := fresh_back e1 hl0
  dsimp only
  refine x_forN (j := 6) (List.range 60) (fun i => vI (i : Nat)) (src0_range (n := 60) (a_cons e_c a_nil) (by decide)) (fun pre σ' H' => ∃ fv us a b c d e, σ' = [some v1, some v2, some fv, some (.ref l), a, none, b, c, d, e] ∧ Ex H H' ∧ Is H' (eR (fam r M pre.length)) fv ∧ H' l = some (.lst us) ∧
    IsAll H' ((List.range pre.length).map fun i => eR (fam r M i)) us ∧ ∀ i j, i < j → j < pre.length → fam r M i ≠ fam r M j)
    (fun H3 e3 => ⟨fv, [], none, none, none, none, none, rfl, e1.trans (e2.trans e3), Is.mono (Ex.tx (e2.trans e3)) _ _ p1, e3 _ _ hl, all_nil.2 rfl, fun i j _ h => (by cases h)⟩) ?_ ?_
  · rintro pre i post hx v σ' H' pv ⟨gv, us, a, b, c, d, e', rfl, eH, pg, hus, hall, hne⟩ N hN
    obtain ⟨k0, hk0⟩ : ∃ k0, pre.length = k0 := ⟨_, rfl⟩
    rw [hk0] at pg hall hne
    have hwl : us.length = k0 := by rw [hall.length]; simp
    have hk60 : k0 < 60 := by
      have := congrArg List.length hx
      rw [List.length_range, List.length_append, List.length_cons] at this
      omega
    have hfound : (vFams r M k0).p (.ref l) H' := ⟨l, us, rfl, hus, by
      have := allP_isAll.2 hall
      rw [List.map_map] at this
      exact this⟩
    have hfd : (vDs ((List.range k0).map fun i => eR (fam r M i))).p (.ref l) H' := ⟨l, us, rfl, hus, allP_isAll.2 hall⟩
    have hdeps : Dv.deps ((List.range k0).map fun i => eR (fam r M i)) ≤ 60 := Nat.le_trans (deps_map (n := 2) (fun i => dep_eR _) _) (by omega)
    have hdep : (eR (fam r M k0)).dep ≤ 60 := Nat.le_trans (dep_eR _) (by omega)
    have hmem : fam r M k0 ∈ (List.range k0).map (fam r M) ↔ eR (fam r M k0) ∈ (List.range k0).map fun i => eR (fam r M i) := by
      rw [mem_range_map, mem_range_map]
      exact ⟨fun ⟨i, hi, e⟩ => ⟨i, hi, by rw [e]⟩, fun ⟨i, hi, e⟩ => ⟨i, hi, eR_inj.1 e⟩⟩
    refine x_if (b := decide (fam r M k0 ∈ (List.range k0).map (fam r M))) (t_test (e_op (e_var rfl (show (vD (eR (fam r M k0))).p gv H' from pg)) (e_var rfl hfd) (o_inL hdep hdeps (by rw [decide_eq_true_iff]; exact hmem)))) (fun hb H3 e3 => ?_) (fun hb H3 e3 => ?_)
    · have hb := of_decide_eq_true hb
      obtain ⟨t, ht, et⟩ := mem_range_map.1 hb
      refine x_ret (e_tup (a_cons (e_var (P := vFams r M k0) rfl ((vFams r M k0).mono e3 hfound)) (a_cons (e_index (K := K) (j := t) (e_var rfl ((vDs _).mono e3 hfd)) (e_var rfl ((vD _).mono e3 (show (vD (eR (fam r M k0))).p gv H' from pg))) hdeps hdep ?_ ?_) a_nil)) (by simp)) fun u H4 e4 p4 => k u H4 (eH.trans (e3.trans e4)) ⟨(k0, (t : Int)), .inl ⟨t, rfl, ht, et.symm, hne⟩, p4⟩
      · rw [List.getElem?_map, List.getElem?_range ht, ← et]
        rfl
      · intro m hm hz
        rw [List.getElem?_map, List.getElem?_range (by omega)] at hz
        injection hz with hz
        exact hne m t hm ht ((eR_inj.1 hz).trans et.symm)
    · have hb := of_decide_eq_false hb
      unfold tNext
      dsimp only
      have hl3 : H3 l = some (.lst us) := e3 _ _ hus
      refine x_app hl3 (e_var rfl rfl) (e_var rfl ((vD _).mono e3 (show (vD (eR (fam r M k0))).p gv H' from pg))) (by omega) fun v4 H4 e4 p4 => ?_
      have hl4 : H4 l = some (.lst us) := e4 _ _ hl3
      obtain ⟨H5, h5⟩ : ∃ H5, upd H4 l (.lst (us ++ [v4])) = H5 := ⟨_, rfl⟩
      have t45 : Tx H4 H5 := by rw [← h5]; exact Tx.updL hl4
      have tx5 : Tx H' H5 := Tx.trans (Ex.tx (e3.trans e4)) t45
      have ex5 : Ex H H5 := by rw [← h5]; exact Ex.mut ((eH.trans e3).trans e4) hlH
      have hl5 : H5 l = some (.lst (us ++ [v4])) := by rw [← h5]; exact upd_same
      have nk5 : NewK H2 H' H5 := fun x o hx0 hx1 => by
        rw [← h5, upd_ne (fun y => by rw [y, hl] at hx0; cases hx0)]
        exact e4 _ _ (e3 _ _ hx1)
      have pg5 : Is H5 (eR (fam r M k0)) gv := Is.mono tx5 _ _ pg
      have hall5 : IsAll H5 ((List.range (k0 + 1)).map fun i => eR (fam r M i)) (us ++ [v4]) := by
        rw [range_map_succ]
        exact (IsAll.mono tx5 _ _ hall).append (IsAll.one (Is.mono t45 _ _ p4))
      have hne5 : ∀ i j, i < j → j < k0 + 1 → fam r M i ≠ fam r M j := fun i j hij hj => by
        rcases Nat.lt_or_ge j k0 with zz | zz
        · exact hne i j hij zz
        · have : j = k0 := by omega
          rw [this] at hij ⊢
          exact fun e => hb (mem_range_map.2 ⟨i, hij, e⟩)
      rw [h5]
      dsimp only
      refine x_asgN (en_lst (Ps := []) a_nil (by simp)) fun q qs H6 hq0 e6 hq hqs => ?_
      rw [show qs = [] from hqs] at hq
      try dsimp only
      refine x_forN (j := 8) r (fun b => vD (eW b)) (src0_tupE (K := K) r eW (e_var rfl ((vD _).mono (ex5.trans e6) h1))) (fun pre2 σ' H' => ∃ ws a d e, σ' = [some v1, some v2, some gv, some (.ref l), a, none, some v, some (.ref q), d, e] ∧ Ex H5 H' ∧ H' q = some (.lst ws) ∧ IsAll H' (pre2.map fun b => eW (mp M (b.flatMap (blk r k0)))) ws)
        (fun H7 e7 => ⟨[], a, d, e', rfl, e6.trans e7, e7 _ _ hq, all_nil.2 rfl⟩) ?_ ?_
      · rintro pre2 own post2 hx2 ov σ' H7 pov ⟨ws, a, d, e', rfl, e57, hq7, hall7⟩ N2 hN2
        obtain ⟨cc, hcc, ecc⟩ := mem_getD (show own ∈ r by rw [hx2]; simp)
        have hown : ∀ a ∈ own, a < r.length := by rw [← ecc]; exact gr.lt cc hcc
        have pg7 := Is.mono (Ex.tx e57) _ _ pg5
        have h1' := (vD (eR r)).mono (ex5.trans e57) h1
        have h2' := (vD (eM M)).mono (ex5.trans e57) h2
        refine x_asg (P := vD (eW (List.range M.length))) (e_tupRg ((e_cb (a_cons (e_var rfl h2') a_nil) r_lenT).weak fun v H3 _ p => (by
          rw [List.length_map] at p
          exact p)) (by omega)) fun sv H8 e8 p8 => ?_
        refine x_forN (j := 4) own (fun c => vD (eN c)) (src0_tupE (K := K) own eN (e_var rfl ((vD _).mono e8 pov))) (fun pre3 σ' H' => ∃ a e, σ' = [some v1, some v2, some gv, some (.ref l), a, none, some v, some (.ref q), some ov, some e] ∧ Ex H7 H' ∧ Is H' (eW (mp M (pre3.flatMap (blk r k0)))) e)
          (fun H9 e9 => ⟨a, sv, rfl, e8.trans e9, Is.mono (Ex.tx e9) _ _ p8⟩) ?_ ?_
        · rintro pre3 ch post3 hx3 cv σ' H9 pcv ⟨a, ev, rfl, e79, pev⟩ N3 hN3
          have hch : ch < r.length := hown ch (by rw [hx3]; simp)
          have hpre3 : ∀ a ∈ pre3, a < r.length := fun a ha => hown a (by rw [hx3]; simp [ha])
          have hcF : (fam r M k0).getD ch [] = mp M (blk r k0 ch) := fam_get k0 hch
          refine x_asg (e_call' (mp M (pre3.flatMap (blk r k0)), (fam r M k0).getD ch []) (a_cons (e_var rfl pev) (a_cons (e_op (e_var rfl (show (vD (eR (fam r M k0))).p gv H9 from Is.mono (Ex.tx e79) _ _ pg7)) (e_n (e_var rfl pcv)) (o_ixT (atI_E (d := []) (by rw [fam_len]; exact hch)))) a_nil)) ⟨by dsimp only; rw [mp_len]; omega, by
            dsimp only
            rw [hcF, mp_len]
            exact mp_lt gm (flat_lt gr k0 hpre3)⟩) fun ev' H10 e10 p10 => ?_
          refine hN3 _ _ (Ex.tx e10) (Ex.nk e10) ⟨_, ev', rfl, e79.trans e10, ?_⟩
          rw [List.flatMap_append, List.flatMap_singleton, mp_chained gm (flat_lt gr k0 hpre3), ← hcF]
          exact p10
        · rintro σ' H9 ⟨a, ev, rfl, e79, pev⟩
          dsimp only
          have hq9 : H9 q = some (.lst ws) := e79 _ _ hq7
          refine x_app (Pv := vD (eW (mp M (own.flatMap (blk r k0))))) hq9 (e_var rfl rfl) (e_var rfl pev) (by
            have h7 := hall7.length
            rw [List.length_map] at h7
            have := congrArg List.length hx2
            rw [List.length_append, List.length_cons] at this
            omega) fun v10 H10 e10 p10 => ?_
          have hq10 := e10 _ _ hq9
          have t710 : Tx H7 (upd H10 q (.lst (ws ++ [v10]))) := Tx.trans (Ex.tx (e79.trans e10)) (Tx.updL hq10)
          refine hN2 _ _ t710 (fun x o hx0 hx1 => ?_) ⟨ws ++ [v10], _, _, _, rfl, Ex.mut ((e57.trans e79).trans e10) hq0, upd_same, ?_⟩
          · rw [upd_ne (fun y => by rw [y, hq] at hx0; cases hx0)]
            exact e10 _ _ (e79 _ _ hx1)
          · rw [List.map_append]
            exact (IsAll.mono t710 _ _ hall7).append (IsAll.one (Is.mono (Tx.updL hq10) _ _ p10))
      · rintro σ' H7 ⟨ws, a, d, e', rfl, e57, hq7, hall7⟩
        dsimp only
        have hlate : (vL (r.map fun b => vD (eW (mp M (b.flatMap (blk r k0)))))).p (.ref q) H7 := ⟨q, ws, rfl, hq7, by
          have := allP_isAll.2 hall7
          rw [List.map_map] at this
          exact this⟩
        have hnext : fam r M (k0 + 1) = r.map fun b => mp M (b.flatMap (blk r k0)) := by
          rw [fam_succ gr gm]
          refine List.map_congr_left fun b hb => ?_
          obtain ⟨cc, hcc, ecc⟩ := mem_getD hb
          exact chainB_fam gr gm k0 (by rw [← ecc]; exact gr.ne cc hcc) (by rw [← ecc]; exact gr.lt cc hcc)
        refine x_asg (e_cb (a_cons (e_var rfl hlate) a_nil) (r_tupE r fun b => eW (mp M (b.flatMap (blk r k0))))) fun gv' H8 e8 p8 => ?_
        have ex58 := e57.trans e8
        refine hN _ _ (Tx.trans tx5 (Ex.tx ex58)) (nk5.trans (fun x o hx0 hx1 => ex58 _ _ hx1)) ⟨gv', us ++ [v4], _, _, _, _, _, rfl, ex5.trans ex58, ?_, ex58 _ _ hl5, ?_, ?_⟩
        · rw [List.length_append, List.length_singleton, hk0, hnext]
          unfold eR
          rw [List.map_map]
          exact p8
        · rw [List.length_append, List.length_singleton, hk0]
          exact IsAll.mono (Ex.tx ex58) _ _ hall5
        · rw [List.length_append, List.length_singleton, hk0]
          exact hne5
  · rintro σ' H' ⟨gv, us, a, b, c, d, e', rfl, eH, pg, hus, hall, hne⟩
    rw [List.length_range] at pg hall hne
    have hfound : (vFams r M 60).p (.ref l) H' := ⟨l, us, rfl, hus, by
      have := allP_isAll.2 hall
      rw [List.map_map] at this
      exact this⟩
    exact x_ret (e_tup (a_cons (e_var (P := vFams r M 60) rfl hfound) (a_cons (e_op (P := vI (-1)) e_c e_c (o_I0 (g := fun i j => V.int (i - j)))) a_nil)) (by simp)) fun u H4 e4 p4 => k u H4 (eH.trans e4) ⟨(60, -1), .inr ⟨rfl, hne⟩, p4⟩

end
end K37
set_option Elab.async false
set_option linter.all false
set_option maxRecDepth 100000
set_option maxHeartbeats 2000000
/-! E17: list(x) of a tuple or a list. -/
namespace K37
open PySem L2 Evl
section
variable {P : Program} {w : World} {mg : Str → Option Value} {X : Cx} {a : Expr} {ta : TE} {pos p : Pos}
def rLstOf (K : PySem.W.Frag) : List V → Hp → VK → Prop := fun xs H Q => ∃ p ys, xs = [.ref p] ∧ (SqL K H p ys ∨ SqT K H p ys) ∧ ∀ l, H l = none → Q (.ref l) (upd H l (.lst ys))
theorem bLst (K : PySem.W.Frag) (B : Bi mg) (ha : PE X a ta) (hK : X.K = K := by rfl) (hM : X.mg = mg := by rfl) (hg : Gl X "list" := by rfl) (he : starEach [a] X.env = (false, eval a X.env) :: starEach [] X.env := by rfl) (hpl : (backTo pos (starEach [] X.env)).any (·.1) = false := by rfl) :
    PE X (.Call (.Name "list" p) [a] [] pos) (tCB (rLstOf K) (tCons ta tNil)) := by
  subst hK hM
  exact pe_callTy call_list_of hg B.g (by decide +kernel) (pa_cons ha pa_nil he) (he := he) (hpl := hpl)
end
section
variable {K : PySem.W.Frag} {σ : L2.St} {H : Hp}
theorem r_lstL (Ps : List VP) : R (rLstOf K) [vL Ps] (vL Ps) := fun vs H h Q q => by
  obtain ⟨v, r, e, ⟨a, us, e1, h3, h4⟩, h2⟩ := h
  rw [show r = [] from h2] at e
  exact ⟨a, us, by rw [e, e1], .inl (sq_of h3), fun b hb => q _ _ (Ex.new hb) ⟨b, us, rfl, upd_same, AllP.mono (Ex.new hb) h4⟩⟩
theorem r_lstT {α : Type} (xs : List α) (f : α → Dv) : R (rLstOf K) [vD (.t (xs.map f))] (vL (xs.map fun x => vD (f x))) := fun vs H h Q q => by
  obtain ⟨v, r, e, h1, h2⟩ := h
  rw [show r = [] from h2] at e
  obtain ⟨a, us, e1, h3, h4⟩ := is_t.1 h1
  refine ⟨a, us, by rw [e, e1], .inr (st_of h3), fun b hb => q _ _ (Ex.new hb) ⟨b, us, rfl, upd_same, ?_⟩⟩
  have := allP_isAll.2 h4
  rw [List.map_map] at this
  exact AllP.mono (Ex.new hb) this
end
end K37
set_option Elab.async false
set_option linter.all false
set_option maxRecDepth 100000
set_option maxHeartbeats 2000000
/-! W18: the law, does a rule grow. -/
namespace K37
open PySem L2 Evl
section
variable {P : Program} {w : World} {K : PySem.W.Frag} {mg : Str → Option Value} {base : Heap}

theorem tNeD (K : PySem.W.Frag) {X : Cx} {a b : Expr} {ta tb : TE} {pos : Pos} (hu : X.A.units + 64 < cLine) (ha : PE X a ta) (hb : PE X b tb) (hK : X.K = K := by rfl) (hm : behindInMarks .NotEq b = false := by rfl) : PT X (.Compare a [.NotEq] [b] pos) (tTest (tOp (rNeD K) ta tb)) := by
  subst hK
  exact pt_cmpR (op_neD hu) ha hb hm
structure Ru (r : List (List Nat)) : Prop where
  pos : 0 < r.length
  four : r.length ≤ 4
  ne : ∀ a, a < r.length → r.getD a [] ≠ []
  lt : ∀ a, a < r.length → ∀ b ∈ r.getD a [], b < r.length
  blk4 : ∀ a, a < r.length → (r.getD a []).length ≤ 4
theorem blk_lt' {r : List (List Nat)} (g : Ru r) : ∀ (k : Nat) {a : Nat}, a < r.length → ∀ b ∈ blk r k a, b < r.length
  | 0, a, ha => by
    rw [blk_zero]
    intro b hb
    rw [List.mem_singleton.1 hb]
    exact ha
  | k + 1, a, ha => by
    rw [blk_succ]
    intro b hb
    obtain ⟨c, hc, h⟩ := List.mem_flatMap.1 hb
    exact blk_lt' g k (g.lt a ha c hc) b h
theorem canon_len4 {r : List (List Nat)} (g : Ru r) (k : Nat) {a : Nat} (ha : a < r.length) : (canon ltN (blk r k a)).length ≤ r.length := by
  have h := List.Nodup.length_le_of_subset ((asc_canon soN (blk r k a)).nodup soN) (l₂ := List.range r.length) fun x hx => List.mem_range.2 (blk_lt' g k ha x ((mem_canon soN x _).1 hx))
  rwa [List.length_range] at h
theorem canon_whole {r : List (List Nat)} (g : Ru r) (k : Nat) {a : Nat} (ha : a < r.length) : canon ltN (blk r k a) = List.range r.length ↔ ∀ b, b < r.length → b ∈ blk r k a := by
  constructor
  · intro e b hb
    have : b ∈ canon ltN (blk r k a) := by rw [e]; exact List.mem_range.2 hb
    exact (mem_canon soN b _).1 this
  · intro h
    exact (canon_eq soN (asc_range _) fun x => ⟨fun hx => h x (List.mem_range.1 hx), fun hx => List.mem_range.2 (blk_lt' g k ha x hx)⟩).symm
theorem canon_next (r : List (List Nat)) (k a : Nat) : canon ltN ((r.getD a []).flatMap fun c => canon ltN (blk r k c)) = canon ltN (blk r (k + 1) a) := by
  refine canon_congr soN fun x => ?_
  rw [blk_succ, List.mem_flatMap, List.mem_flatMap]
  exact ⟨fun ⟨c, hc, h⟩ => ⟨c, hc, (mem_canon soN x _).1 h⟩, fun ⟨c, hc, h⟩ => ⟨c, hc, (mem_canon soN x _).2 h⟩⟩

/-! _law_grown -/
def sp_law_grown : Sp := spF (fun (r : List (List Nat)) => [vD (eR r)]) Ru (fun r => vEx (fun (b : Bool) => b = true → Good r) fun b => vB b)
abbrev n_law_grown : List Str := ["_law_lead", "_law_whole", "_law_held", "_law_lap", "_law_late", "_law_own", "_law_some", "_law_a"]
theorem sc_law_grown : FnScope n_law_grown ["_law_lead"] (defScope st_law_grown) := ⟨rfl, rfl, rfl, by decide +kernel, rfl, by decide +kernel, by decide +kernel⟩
theorem ok_law_grown (F : Df K mg "_law_grown" st_law_grown []) (B : Bi mg) : Cb P w K mg base "_law_grown" 1 ["_law_lead"] [] sp_law_grown := by
  refine F.ok sc_law_grown (fun _ => rfl) (fun _ _ _ _ _ _ us hl => match us, hl with | [_], _ => rfl) fun f cdv A outer s H Ex' hr => ?_
  refine ⟨_, pss_cons (ps_set (i := 1) sc_law_grown.nd rfl (Or.inr rfl) (bTupRg B (bLen K B (pv 0))))
    (pss_cons (ps_setLc (i := 2) (own := [("_law_a", 7)]) (g := gName 7) (tt := tYes) rfl sc_law_grown.nd rfl rfl (sw_true rfl rfl rfl rfl) (itT K (pv 1)) (blkOk_by (N := n_law_grown) (sc := defScope st_law_grown) (by decide +kernel)) (fun _ _ _ _ _ => pg_name (i := 7) sc_law_grown.nd rfl (Or.inl rfl)) (fun _ _ _ _ _ => pts_nil) (fun _ _ _ _ _ => pe_tup (pa_cons (pv 7) pa_nil)))
    (pss_cons (ps_for PassesOwn.never rfl (itRg B (pe_op op_add (pe_op op_mul (bLen K B (pv 0)) (bLen K B (pv 0))) pe_int)) (pg_name (i := 3) sc_law_grown.nd rfl (Or.inl rfl)) (pss_cons (ps_if (pt_cmpR (op_eqD (room64 hr)) (pe_lc (own := [("_law_some", 6)]) (g := gName 6) rfl sc_law_grown.nd (itL K (pv 2)) (blkOk_by (N := n_law_grown) (sc := defScope st_law_grown) (by decide +kernel)) (fun _ _ _ _ _ => pg_name (i := 6) sc_law_grown.nd rfl (Or.inl rfl)) (fun _ _ _ _ _ => pts_one (tNeD K (room64 hr) (pv 6) (pv 1))) (fun _ _ _ _ _ => pe_int)) (pe_lst pa_nil) (by rfl)) (pss_one (ps_ret (pe_cmpR (op_neD (room64 hr)) (pe_lc (own := [("_law_own", 5)]) (g := gName 5) rfl sc_law_grown.nd (itT K (pv 0)) (blkOk_by (N := n_law_grown) (sc := defScope st_law_grown) (by decide +kernel)) (fun _ _ _ _ _ => pg_name (i := 5) sc_law_grown.nd rfl (Or.inl rfl)) (fun _ _ _ _ _ => pts_one (pt_cmpR op_gt (bLen K B (pv 5)) pe_int (by rfl))) (fun _ _ _ _ _ => pe_int)) (pe_lst pa_nil) (by rfl)))) pss_nil)
    (pss_cons (ps_set (i := 4) sc_law_grown.nd rfl (Or.inl rfl) (pe_lst pa_nil))
    (pss_cons (ps_for PassesOwn.never rfl (itT K (pv 0)) (pg_name (i := 5) sc_law_grown.nd rfl (Or.inl rfl)) (pss_cons (ps_set (i := 6) sc_law_grown.nd rfl (Or.inl rfl) (pe_lst pa_nil))
    (pss_cons (ps_for PassesOwn.never rfl (itT K (pv 5)) (pg_name (i := 7) sc_law_grown.nd rfl (Or.inl rfl)) (pss_one (ps_set (i := 6) sc_law_grown.nd rfl (Or.inl rfl) (pe_op op_cat (pv 6) (bLst K B (ixL K (pv 2) (pv 7)))))))
    (pss_one (ps_expr (pe_bm PySem.F.plainAttrs_list PySem.F.slot_list_append PySem.F.type_list_append mt_append (pv 4) (pa_cons (bTup K B (bSortI w B (bSetI K w B (pv 6)))) pa_nil)))))))
    (pss_one (ps_set (i := 2) sc_law_grown.nd rfl (Or.inl rfl) (pv 4)))))))
    (pss_one (ps_ret pe_bl)))), ?_⟩
  rintro r vs ⟨v1, r1, rfl, h1, e⟩ g Q k
  try dsimp only at *
  rw [show r1 = [] from e]
  have h4 := g.four
  have h0 := g.pos
  have hlen : ∀ {σ : L2.St} {H1 : Hp}, σ[0]? = some (some v1) → Ex H H1 → E (tCB (rLenS K) (tCons (tVar 0) tNil)) σ H1 (vI (r.length : Nat)) := fun {σ H1} hs e1 => (e_cb (a_cons (e_var hs ((vD _).mono e1 h1)) a_nil) (r_lenT (K := K))).weak fun v H3 _ p => (by
    rw [List.length_map] at p
    exact p)
  refine x_asg (P := vD (eW (List.range r.length))) (e_tupRg (hlen rfl (Ex.refl H)) (by omega)) fun wv H1 e1 p1 => ?_
  refine x_asg (P := vL ((List.range r.length).map fun a => vD (eW (canon ltN (blk r 0 a))))) (EN.e (en_lc1 (vs := [7]) (List.range r.length) _ (fun a => vD (eW (canon ltN (blk r 0 a)))) (src0_tupE (List.range r.length) eN (e_var rfl p1)).t.src (by rw [List.length_range]; omega) (fun _ _ => st_d _) (fun v => rfl) ?_)) fun hv H2 e2 p2 => ?_
  · intro a ha v H2 e2 p
    exact e_tupD (ds := [eN a]) (a_cons (e_var rfl p) a_nil) (by simp)
  have e12 := e1.trans e2
  refine x_forN (j := 3) (List.range (r.length * r.length + 2)) (fun i => vI (i : Nat)) (src0_range (n := r.length * r.length + 2) (a_cons ((e_op (e_op (hlen rfl e12) (hlen rfl e12) (o_I (cmul4 h4 h4))) e_c o_I0).weak fun v H4 _ p => p) a_nil) (by
    have : r.length * r.length ≤ 4 * 4 := Nat.mul_le_mul h4 h4
    omega)) (fun pre σ' H' => ∃ hv b c d e f, σ' = [some v1, some wv, some hv, b, c, d, e, f] ∧ Ex H1 H' ∧ (vL ((List.range r.length).map fun a => vD (eW (canon ltN (blk r pre.length a))))).p hv H')
    (fun H3 e3 => ⟨hv, none, none, none, none, none, rfl, e2.trans e3, (vL _).mono e3 p2⟩) ?_ ?_
  · rintro pre i post hx v σ' H' pv ⟨hv, b, c, d, e', f', rfl, eH1, ph⟩ N hN
    obtain ⟨ei, hi⟩ := range_split hx
    obtain ⟨k0, hk0⟩ : ∃ k0, pre.length = k0 := ⟨_, rfl⟩
    rw [hk0] at ph hi
    have eH := e1.trans eH1
    have hlc : E (tLc (iList K (tVar 2)) (gName 6) (tTest (tOp (rNeD K) (tVar 6) (tVar 1))) (tC (.int 1)) (List.map (fun x => x.2) [(("_law_some" : Str), 6)])) [some v1, some wv, some hv, some v, c, d, e', f'] H' (vDs (((List.range r.length).filter fun a => !decide (canon ltN (blk r k0 a) = List.range r.length)).map fun _ => Dv.n 1)) := by
      unfold vDs
      rw [List.map_map]
      refine EN.e (en_lcIf (vs := [6]) (List.range r.length) (fun a => vD (eW (canon ltN (blk r k0 a)))) (fun _ => vD (.n 1)) (fun a => !decide (canon ltN (blk r k0 a) = List.range r.length)) (src_list (e_var rfl ph)) (by rw [List.length_range]; omega) (fun _ _ => st_d _) (fun v => rfl) ?_ ?_)
      · intro a ha v4 H4 e4 p4
        exact t_test (e_op (e_var rfl p4) (e_var rfl ((vD (eW (List.range r.length))).mono (eH1.trans e4) p1)) (o_neD (dep60 _) (dep60 _) (by rw [decide_eq_true_iff]; exact eW_inj.symm)))
      · intro a ha v4 H4 e4 p4 _
        exact e_cn
    have hfil : ((List.range r.length).filter fun a => !decide (canon ltN (blk r k0 a) = List.range r.length)) = [] ↔ FullAt r k0 := by
      rw [List.filter_eq_nil_iff]
      constructor
      · intro h a ha
        have := h a (List.mem_range.2 ha)
        simp at this
        exact (canon_whole g k0 ha).1 this
      · intro h a ha
        have ha := List.mem_range.1 ha
        rw [(canon_whole g k0 ha).2 (h a ha)]
        simp
    refine x_if (b := decide (((List.range r.length).filter fun a => !decide (canon ltN (blk r k0 a) = List.range r.length)) = [])) (t_test (e_op hlc ((EN.e (en_lst (Ps := []) a_nil (by simp))).weak fun v H3 _ p => (show (vDs []).p v H3 from p)) (o_eqL (Nat.le_trans (deps_map (n := 0) (fun _ => by rw [Dv.dep]; omega) _) (by omega)) (by rw [Dv.deps]; omega) (by rw [decide_eq_true_iff, List.map_eq_nil_iff])))) (fun hb H3 e3 => ?_) (fun hb H3 e3 => ?_)
    · have hfull := hfil.1 (of_decide_eq_true hb)
      have hlc2 : E (tLc (iTup K (tVar 0)) (gName 5) (tTest (tOp rGt (tCB (rLenS K) (tCons (tVar 5) tNil)) (tC (.int 1)))) (tC (.int 1)) (List.map (fun x => x.2) [(("_law_own" : Str), 5)])) [some v1, some wv, some hv, some v, c, d, e', f'] H3 (vDs ((r.filter fun b => decide (1 < b.length)).map fun _ => Dv.n 1)) := by
        unfold vDs
        rw [List.map_map]
        refine EN.e (en_lcIf (vs := [5]) r (fun b => vD (eW b)) (fun _ => vD (.n 1)) (fun b => decide (1 < b.length)) (src0_tupE (K := K) r eW (e_var rfl ((vD _).mono (eH.trans e3) h1))).t.src (by omega) (fun _ _ => st_d _) (fun v => rfl) ?_ ?_)
        · intro b hb v4 H4 e4 p4
          exact t_test (e_op ((e_cb (a_cons (e_var rfl p4) a_nil) (r_lenT (K := K))).weak fun v H3 _ p => (show (vI (b.length : Nat)).p v H3 by
            rw [List.length_map] at p
            exact p)) e_c (o_cmp (by show V.bl _ = V.bl _; congr 1; simp; omega)))
        · intro a ha v4 H4 e4 p4 _
          exact e_cn
      refine x_ret (e_op hlc2 ((EN.e (en_lst (Ps := []) a_nil (by simp))).weak fun v H3 _ p => (show (vDs []).p v H3 from p)) (o_neL (b := decide ((r.filter fun b => decide (1 < b.length)) = [])) (Nat.le_trans (deps_map (n := 0) (fun _ => by rw [Dv.dep]; omega) _) (by omega)) (by rw [Dv.deps]; omega) (by rw [decide_eq_true_iff, List.map_eq_nil_iff]))) fun v5 H5 e5 p5 => k v5 H5 (eH.trans (e3.trans e5)) ⟨_, (fun hb2 => ?_), p5⟩
      refine good_of g.ne g.lt h0 h4 g.blk4 ?_ (k := k0) (by omega) hfull
      apply Classical.byContradiction
      intro hno
      have : (r.filter fun b => decide (1 < b.length)) = [] := by
        rw [List.filter_eq_nil_iff]
        intro b hb hl
        obtain ⟨c, hc, ec⟩ := mem_getD hb
        exact hno ⟨c, hc, by rw [ec]; exact of_decide_eq_true hl⟩
      rw [this] at hb2
      simp at hb2
    · try unfold tNext
      try dsimp only
      refine x_asgN (en_lst (Ps := []) a_nil (by simp)) fun q qs H6 hq0 e6 hq hqs => ?_
      rw [show qs = [] from hqs] at hq
      try dsimp only
      have eH3 := eH.trans e3
      refine x_forN (j := 5) r (fun b => vD (eW b)) (src0_tupE (K := K) r eW (e_var rfl ((vD _).mono (eH3.trans e6) h1))) (fun pre2 σ' H' => ∃ ws d e f, σ' = [some v1, some wv, some hv, some v, some (.ref q), d, e, f] ∧ Ex H3 H' ∧ H' q = some (.lst ws) ∧ IsAll H' (pre2.map fun b => eW (canon ltN (b.flatMap fun c => canon ltN (blk r k0 c)))) ws)
        (fun H7 e7 => ⟨[], d, e', f', rfl, e6.trans e7, e7 _ _ hq, all_nil.2 rfl⟩) ?_ ?_
      · rintro pre2 own post2 hx2 ov σ' H7 pov ⟨ws, d, e', f', rfl, e37, hq7, hall7⟩ N2 hN2
        obtain ⟨cc, hcc, ecc⟩ := mem_getD (show own ∈ r by rw [hx2]; simp)
        have hown : ∀ a ∈ own, a < r.length := by rw [← ecc]; exact g.lt cc hcc
        have hown4 : own.length ≤ 4 := by rw [← ecc]; exact g.blk4 cc hcc
        have hfl : ∀ l : List Nat, l.length ≤ 4 → (∀ a ∈ l, a < r.length) → (l.flatMap fun c => canon ltN (blk r k0 c)).length ≤ 16 := fun l hl hlt => by
          refine Nat.le_trans (len_flatW _ 4 l fun b hb => Nat.le_trans (canon_len4 g k0 (hlt b hb)) h4) (by omega)
        have ph7 := (vL _).mono (e3.trans e37) ph
        refine x_asg (P := vL (([] : List Nat).map fun n => vD (eN n))) (EN.e (en_lst (Ps := []) a_nil (by simp))) fun sv H8 e8 p8 => ?_
        refine x_forN (j := 7) own (fun c => vD (eN c)) (src0_tupE (K := K) own eN (e_var rfl ((vD _).mono e8 pov))) (fun pre3 σ' H' => ∃ e f, σ' = [some v1, some wv, some hv, some v, some (.ref q), some ov, some e, f] ∧ Ex H7 H' ∧ (vL ((pre3.flatMap fun c => canon ltN (blk r k0 c)).map fun n => vD (eN n))).p e H')
          (fun H9 e9 => ⟨sv, f', rfl, e8.trans e9, (vL _).mono e9 p8⟩) ?_ ?_
        · rintro pre3 ch post3 hx3 cv σ' H9 pcv ⟨ev, f', rfl, e79, pev⟩ N3 hN3
          have hch : ch < r.length := hown ch (by rw [hx3]; simp)
          have hl3 := congrArg List.length hx3
          rw [List.length_append, List.length_cons] at hl3
          have hpre3 := hfl pre3 (by omega) fun a ha => hown a (by rw [hx3]; simp [ha])
          have hc4 := canon_len4 g k0 hch
          refine x_asg (P := vL (((pre3 ++ [ch]).flatMap fun c => canon ltN (blk r k0 c)).map fun n => vD (eN n))) ((EN.e (en_cat (e_var rfl pev) (e_cb (a_cons (e_op (e_var rfl ((vL _).mono e79 ph7)) (e_i (e_var rfl pcv)) (o_ixL (P := vD (eW (canon ltN (blk r k0 ch)))) (atI_nat (j := ch) (by rw [List.getElem?_map, List.getElem?_range hch]; rfl)))) a_nil) (r_lstT (K := K) (canon ltN (blk r k0 ch)) eN)) (by rw [List.length_map, List.length_map]; omega))).weak fun v H3 _ p => (by
            rw [List.flatMap_append, List.map_append, List.flatMap_singleton]
            exact p)) fun ev' H10 e10 p10 => hN3 _ _ (Ex.tx e10) (Ex.nk e10) ⟨ev', _, rfl, e79.trans e10, p10⟩
        · rintro σ' H9 ⟨ev, f', rfl, e79, pev⟩
          try dsimp only
          have hq9 : H9 q = some (.lst ws) := e79 _ _ hq7
          have h16 := hfl own hown4 hown
          have hc16 := canon_len_le soN (own.flatMap fun c => canon ltN (blk r k0 c))
          refine x_app (Pv := vD (eW (canon ltN (own.flatMap fun c => canon ltN (blk r k0 c))))) hq9 (e_var rfl rfl) (e_cb (a_cons (e_cb (a_cons (e_cb (a_cons (e_var rfl pev) a_nil) (r_setIL (by omega))) a_nil) (r_sortSI (by omega))) a_nil) (r_tupE (canon ltN (own.flatMap fun c => canon ltN (blk r k0 c))) eN)) (by
            have h7 := hall7.length
            rw [List.length_map] at h7
            have := congrArg List.length hx2
            rw [List.length_append, List.length_cons] at this
            omega) fun v10 H10 e10 p10 => ?_
          have hq10 := e10 _ _ hq9
          have t710 : Tx H7 (upd H10 q (.lst (ws ++ [v10]))) := Tx.trans (Ex.tx (e79.trans e10)) (Tx.updL hq10)
          refine hN2 _ _ t710 (fun x o hx0 hx1 => ?_) ⟨ws ++ [v10], _, _, _, rfl, Ex.mut ((e37.trans e79).trans e10) hq0, upd_same, ?_⟩
          · rw [upd_ne (fun y => by rw [y, hq] at hx0; cases hx0)]
            exact e10 _ _ (e79 _ _ hx1)
          · rw [List.map_append]
            exact (IsAll.mono t710 _ _ hall7).append (IsAll.one (Is.mono (Tx.updL hq10) _ _ p10))
      · rintro σ' H7 ⟨ws, d, e', f', rfl, e37, hq7, hall7⟩
        try dsimp only
        have hnext : ((List.range r.length).map fun a => canon ltN (blk r (k0 + 1) a)) = r.map fun b => canon ltN (b.flatMap fun c => canon ltN (blk r k0 c)) := by
          rw [map_range_getD]
          exact List.map_congr_left fun a _ => (canon_next r k0 a).symm
        have hlate : (vL ((List.range r.length).map fun a => vD (eW (canon ltN (blk r (k0 + 1) a))))).p (.ref q) H7 := ⟨q, ws, rfl, hq7, by
          have h := allP_isAll.2 hall7
          rw [List.map_map] at h
          have e2 : ((List.range r.length).map fun a => vD (eW (canon ltN (blk r (k0 + 1) a)))) = (r.map fun b => canon ltN (b.flatMap fun c => canon ltN (blk r k0 c))).map fun u => vD (eW u) := by
            rw [← hnext, List.map_map]
            rfl
          rw [e2, List.map_map]
          exact h⟩
        refine x_asg (e_var rfl hlate) fun gv' H8 e8 p8 => hN _ _ (Ex.tx ((e3.trans e37).trans e8)) (Ex.nk ((e3.trans e37).trans e8)) ⟨gv', _, _, _, _, _, rfl, eH1.trans ((e3.trans e37).trans e8), ?_⟩
        rw [List.length_append, List.length_singleton, hk0]
        exact p8
  · rintro σ' H' ⟨hv, b, c, d, e', f', rfl, eH1, ph⟩
    try dsimp only
    refine x_ret (P := vB false) e_c fun v H3 e3 p3 => ?_
    exact k v H3 ((e1.trans eH1).trans e3) ⟨false, (fun z => (by cases z)), p3⟩

end
end K37
set_option Elab.async false
set_option linter.all false
set_option maxRecDepth 100000
set_option maxHeartbeats 2000000
/-! W19: the law, what is due. -/
namespace K37
open PySem L2 Evl
section
variable {P : Program} {w : World} {K : PySem.W.Frag} {mg : Str → Option Value} {base : Heap}

def before (u v : List Nat) : Prop := u.length < v.length ∨ (u.length = v.length ∧ ltW u v = true)
theorem fw_headA {r : List (List Nat)} {M : Mach} (g : Good r) {mem : Nat} {u : List Nat} {t : List (List Nat)} (h : (((List.range 10).flatMap fun k => ws r k).filter fun u => decide (V.int (rk M u : Nat) = V.int (mem : Nat))) = u :: t) : Fw r M mem u := by
  have hrk : ∀ v : List Nat, decide (V.int (rk M v : Nat) = V.int (mem : Nat)) = true ↔ rk M v = mem := fun v => by
    rw [decide_eq_true_iff]
    constructor
    · intro e; injection e with e; omega
    · intro e; rw [e]
  have hin : ∀ v, v ∈ (((List.range 10).flatMap fun k => ws r k).filter fun u => decide (V.int (rk M u : Nat) = V.int (mem : Nat))) ↔ (InL r v ∧ v.length ≤ 9) ∧ rk M v = mem := fun v => by
    rw [List.mem_filter, hrk, List.mem_flatMap]
    constructor
    · rintro ⟨⟨k, hk, hv⟩, e⟩
      obtain ⟨h1, h2⟩ := (mem_ws g.gr).1 hv
      have := List.mem_range.1 hk
      exact ⟨⟨h1, by omega⟩, e⟩
    · rintro ⟨⟨h1, h2⟩, e⟩
      exact ⟨⟨v.length, List.mem_range.2 (by omega), (mem_ws g.gr).2 ⟨h1, rfl⟩⟩, e⟩
  have hp : (((List.range 10).flatMap fun k => ws r k).filter fun u => decide (V.int (rk M u : Nat) = V.int (mem : Nat))).Pairwise before := by
    refine List.Pairwise.filter _ (List.pairwise_flatMap.2 ⟨fun k _ => ?_, ?_⟩)
    · refine List.Pairwise.imp_of_mem ?_ (ws_ok g.gr k).1
      intro a b ha hb hab
      have h1 := ((mem_ws g.gr).1 ha).2
      have h2 := ((mem_ws g.gr).1 hb).2
      exact .inr ⟨by omega, hab⟩
    · refine List.Pairwise.imp ?_ (List.pairwise_lt_range (n := 10))
      intro i j hij a ha b hb
      have h1 := ((mem_ws g.gr).1 ha).2
      have h2 := ((mem_ws g.gr).1 hb).2
      exact .inl (by omega)
  rw [h] at hin hp
  obtain ⟨⟨u1, u2⟩, u3⟩ := (hin u).1 List.mem_cons_self
  have key : ∀ v, InL r v → rk M v = mem → v.length ≤ 9 → v = u ∨ before u v := fun v h1 h2 h3 => by
    rcases List.mem_cons.1 ((hin v).2 ⟨⟨h1, h3⟩, h2⟩) with e | e
    · exact .inl e
    · exact .inr ((List.pairwise_cons.1 hp).1 v e)
  refine ⟨u1, u3, fun v h1 h2 => ?_, fun v h1 h2 h3 => ?_⟩
  · rcases Nat.le_total v.length 9 with c | c
    · rcases key v h1 h2 c with e | e | e
      · rw [e]; exact Nat.le_refl _
      · omega
      · omega
    · omega
  · rcases key v h1 h2 (by omega) with e | e | e
    · exact .inl e
    · omega
    · exact .inr e.2

/-! _law_due -/
def sp_law_due : Sp := spF (fun (x : (List (List Nat) × Mach) × Nat × Nat) => [vD (eM x.1.2), vL ((ws x.1.1 9).map fun u => vD (eW u)), vI x.2.1, vI x.2.2]) (fun x => Good x.1.1 ∧ GM x.1.1.length x.1.2 ∧ x.1.2.length ≤ 3 ∧ Mem x.1.1 x.1.2 x.2.1 ∧ Dl x.1.1 x.1.2 x.2.1 x.2.2 ∧ x.2.2 ≤ 8) (fun x => vEx (fun (u : List Nat) => Fw x.1.1 x.1.2 x.2.1 u) fun u => vT [vD (eW u), vD (eR (setsOf x.1.1 x.1.2 x.2.2))])
abbrev n_law_due : List Str := ["_law_mech", "_law_texts", "_law_least_here", "_law_delay_here", "_law_first", "_law_text", "_law_sets"]
theorem sc_law_due : FnScope n_law_due ["_law_mech", "_law_texts", "_law_least_here", "_law_delay_here"] (defScope st_law_due) := ⟨rfl, rfl, rfl, by decide +kernel, rfl, by decide +kernel, by decide +kernel⟩
theorem ok_law_due (F : Df K mg "_law_due" st_law_due []) (B : Bi mg) (c_law_all : Cb P w K mg base "_law_all" 2 ["_law_texts"] [] sp_law_all) (c_law_rank : Cb P w K mg base "_law_rank" 1 ["_law_own"] [] sp_law_rank) (c_law_map : Cb P w K mg base "_law_map" 1 ["_law_mech", "_law_text"] [] sp_law_map) (c_law_short : Cb P w K mg base "_law_short" 1 ["_law_texts", "_law_size"] [] sp_law_short) : Cb P w K mg base "_law_due" 3 ["_law_mech", "_law_texts", "_law_least_here", "_law_delay_here"] [] sp_law_due := by
  refine F.ok sc_law_due (fun _ => rfl) (fun _ _ _ _ _ _ us hl => match us, hl with | [_, _, _, _], _ => rfl) fun f cdv A outer s H Ex' hr => ?_
  refine ⟨_, pss_cons (ps_set (i := 4) sc_law_due.nd rfl (Or.inl rfl) (ixL K (pe_lc (own := [("_law_text", 5)]) (g := gName 5) rfl sc_law_due.nd (itL K (pe_cb c_law_all (hr.mono (by decide)) rfl (pa_cons (pv 1) pa_nil))) (blkOk_by (N := n_law_due) (sc := defScope st_law_due) (by decide +kernel)) (fun _ _ _ _ _ => pg_name (i := 5) sc_law_due.nd rfl (Or.inl rfl)) (fun _ _ _ _ _ => pts_one (pt_cmpR op_eq (pe_cb c_law_rank (hr.mono (by decide)) rfl (pa_cons (pe_cb c_law_map (hr.mono (by decide)) rfl (pa_cons (pv 0) (pa_cons (pv 5) pa_nil))) pa_nil)) (pv 2) (by rfl))) (fun _ _ _ _ _ => pv 5)) pe_int))
    (pss_cons (ps_setLc (i := 6) (own := [("_law_text", 5)]) (g := gName 5) (tt := tYes) rfl sc_law_due.nd rfl rfl (sw_true rfl rfl rfl rfl) (itL K (pe_cb c_law_short (hr.mono (by decide)) rfl (pa_cons (pv 1) (pa_cons (pv 3) pa_nil)))) (blkOk_by (N := n_law_due) (sc := defScope st_law_due) (by decide +kernel)) (fun _ _ _ _ _ => pg_name (i := 5) sc_law_due.nd rfl (Or.inl rfl)) (fun _ _ _ _ _ => pts_nil) (fun _ _ _ _ _ => bTup K B (bSortI w B (bSetI K w B (pe_cb c_law_map (hr.mono (by decide)) rfl (pa_cons (pv 0) (pa_cons (pv 5) pa_nil)))))))
    (pss_one (ps_ret (pe_tup (pa_cons (pv 4) (pa_cons (bTup K B (bSortS P w B (room64 hr) (bSetW K P w B (room64 hr) (pv 6)))) pa_nil)))))), ?_⟩
  rintro ⟨⟨r, M⟩, lst, d⟩ vs ⟨v1, r1, rfl, h1, v2, r2, rfl, h2, v3, r3, rfl, h3, v4, r4, rfl, h4, e⟩ ⟨g, gm, hM, hm, hd, hd8⟩ Q k
  try dsimp only at *
  rw [show r4 = [] from e]
  obtain ⟨L, hL⟩ : ∃ L, (List.range 10).flatMap (fun k => ws r k) = L := ⟨_, rfl⟩
  have hLin : ∀ u ∈ L, InL r u ∧ u.length ≤ 9 := fun u hu => by
    rw [← hL] at hu
    obtain ⟨k, hk, hv⟩ := List.mem_flatMap.1 hu
    obtain ⟨a1, a2⟩ := (mem_ws g.gr).1 hv
    have := List.mem_range.1 hk
    exact ⟨a1, by omega⟩
  have hLlen : L.length ≤ 10 * 3852 := by
    rw [← hL]
    have := len_flatW (fun k => ws r k) 3852 (List.range 10) fun k hk => ws_le g (k := k) (by have := List.mem_range.1 hk; omega)
    rwa [List.length_range] at this
  obtain ⟨u, t, hut⟩ : ∃ u t, (L.filter fun u => decide (V.int (rk M u : Nat) = V.int (lst : Nat))) = u :: t := by
    obtain ⟨v, hv, hv2⟩ := (inL_nil g.gr).rightN g.gr d
    have hmem : v ∈ L.filter fun u => decide (V.int (rk M u : Nat) = V.int (lst : Nat)) := by
      rw [List.mem_filter]
      refine ⟨?_, by rw [hd.all v hv2 hv]; simp⟩
      rw [← hL]
      exact List.mem_flatMap.2 ⟨d, List.mem_range.2 (by omega), (mem_ws g.gr).2 ⟨hv2, hv⟩⟩
    cases hc : (L.filter fun u => decide (V.int (rk M u : Nat) = V.int (lst : Nat))) with
    | nil => rw [hc] at hmem; cases hmem
    | cons u t => exact ⟨u, t, rfl⟩
  have hfw : Fw r M lst u := fw_headA g (t := t) (by rw [hL]; exact hut)
  have hmp : ∀ {σ : L2.St} {H1 : Hp} {v : V} {u : List Nat} (_ : σ[0]? = some (some v1)) (_ : σ[5]? = some (some v)) (_ : Ex H H1) (_ : (vD (eW u)).p v H1) (_ : InL r u) (_ : u.length ≤ 9), E (tCall sp_law_map [] E0 (tCons (tVar 0) (tCons (tVar 5) tNil))) σ H1 (vD (eW (mp M u))) := fun {σ H1 v u} s0 s5 e1 p hu hl => e_call' (M, u) (a_cons (e_var s0 ((vD _).mono e1 h1)) (a_cons (e_var s5 p) a_nil)) ⟨by dsimp only; omega, by dsimp only; omega, r.length, gm, hu.letters g.gr⟩
  have hlc : E (tLc (iList K (tCall sp_law_all [] E0 (tCons (tVar 1) tNil))) (gName 5) (tTest (tOp rEq (tCall sp_law_rank [] E0 (tCons (tCall sp_law_map [] E0 (tCons (tVar 0) (tCons (tVar 5) tNil))) tNil)) (tVar 2))) (tVar 5) (List.map (fun x => x.2) [(("_law_text" : Str), 5)])) [some v1, some v2, some v3, some v4, none, none, none] H (vL ((u :: t).map fun u => vD (eW u))) := by
    rw [← hut]
    refine EN.e (en_lcIf (vs := [5]) L (fun u => vD (eW u)) (fun u => vD (eW u)) (fun u => decide (V.int (rk M u : Nat) = V.int (lst : Nat))) (src_list (K := K) (by
      rw [← hL]
      exact e_call' r (a_cons (e_var rfl h2) a_nil) g)) (by omega) (fun _ _ => st_d _) (fun v => rfl) ?_ ?_)
    · intro u hu v5 H5 e5 p5
      obtain ⟨u1, u2⟩ := hLin u hu
      exact t_test (e_op (e_call' (mp M u) (a_cons (hmp rfl rfl e5 p5 u1 u2) a_nil) (by rw [mp_len]; omega)) (e_var rfl h3) (o_eq (by rfl)))
    · intro u hu v5 H5 e5 p5 _
      exact e_var rfl p5
  refine x_asg (P := vD (eW u)) (e_op hlc e_c (o_ixL (atI_nat (j := 0) rfl))) fun fv H1 e1 p1 => ?_
  have hwl := ws_le g (k := d) (by omega)
  have hsets : E (tLc (iList K (tCall sp_law_short [] E0 (tCons (tVar 1) (tCons (tVar 3) tNil)))) (gName 5) tYes (tCB (rTupOf K) (tCons (tCB (rSortedSet w) (tCons (tCB (rSetI K w) (tCons (tCall sp_law_map [] E0 (tCons (tVar 0) (tCons (tVar 5) tNil))) tNil)) tNil)) tNil)) (List.map (fun x => x.2) [(("_law_text" : Str), 5)])) [some v1, some v2, some v3, some v4, some fv, none, none] H1 (vL (((ws r d).map (img M)).map fun u => vD (eW u))) := by
    rw [List.map_map]
    refine EN.e (en_lc1 (vs := [5]) (ws r d) _ (fun u => vD (eW (img M u))) (src_list (e_short (K := K) g (by omega) (a_cons (e_var rfl ((vL _).mono e1 h2)) (a_cons (e_var rfl h4) a_nil)))) (by omega) (fun _ _ => st_d _) (fun v => rfl) ?_)
    intro u hu v H2 e2 p
    obtain ⟨u1, u2⟩ := (mem_ws g.gr).1 hu
    have hc := canon_len_le soN (mp M u)
    rw [mp_len] at hc
    exact e_cb (a_cons (e_cb (a_cons (e_cb (a_cons (hmp rfl rfl (e1.trans e2) p u1 (by omega)) a_nil) (r_setIT (by rw [mp_len]; omega))) a_nil) (r_sortSI (by omega))) a_nil) (r_tupE (canon ltN (mp M u)) eN)
  refine x_asg hsets fun sv H2 e2 p2 => ?_
  refine x_ret (e_tup (Ps := [vD (eW u), vD (eR (setsOf r M d))]) (a_cons (e_var rfl ((vD _).mono e2 p1)) (a_cons (e_cb (a_cons (e_cb (a_cons (e_cb (a_cons (e_var rfl p2) a_nil) (r_setW (by rw [List.length_map]; omega))) a_nil) (r_sortS (.inl fun b hb hz => ?_))) a_nil) (r_tupE (setsOf r M d) eW)) a_nil)) (by simp)) fun v H3 e3 p => k v H3 ((e1.trans e2).trans e3) ⟨u, hfw, p⟩
  obtain ⟨u, _, rfl⟩ := List.mem_map.1 hb
  have := rk_pos gm u
  unfold rk at this
  rw [hz] at this
  cases this

end
end K37
set_option Elab.async false
set_option linter.all false
set_option maxRecDepth 100000
set_option maxHeartbeats 2000000
/-! W20: the law, longer words are right. -/
namespace K37
open PySem L2 Evl
section
variable {P : Program} {w : World} {K : PySem.W.Frag} {mg : Str → Option Value} {base : Heap}

/-! _law_are_longer_right -/
def sp_law_are_longer_right : Sp := spF (fun (x : (List (List Nat) × Mach) × Nat × Nat) => [vD (eM x.1.2), vL ((ws x.1.1 9).map fun u => vD (eW u)), vI x.2.1, vD (eR (setsOf x.1.1 x.1.2 x.2.2))]) (fun x => Good x.1.1 ∧ GM x.1.1.length x.1.2 ∧ x.1.2.length ≤ 3 ∧ Mem x.1.1 x.1.2 x.2.1 ∧ Dl x.1.1 x.1.2 x.2.1 x.2.2 ∧ x.2.2 ≤ 8) (fun x => vB true)
abbrev n_law_are_longer_right : List Str := ["_law_mech", "_law_texts", "_law_least_here", "_law_sets", "_law_text", "_law_own"]
theorem sc_law_are_longer_right : FnScope n_law_are_longer_right ["_law_mech", "_law_texts", "_law_least_here", "_law_sets"] (defScope st_law_are_longer_right) := ⟨rfl, rfl, rfl, by decide +kernel, rfl, by decide +kernel, by decide +kernel⟩
theorem ok_law_are_longer_right (F : Df K mg "_law_are_longer_right" st_law_are_longer_right []) (B : Bi mg) (c_law_rank : Cb P w K mg base "_law_rank" 1 ["_law_own"] [] sp_law_rank) (c_law_map : Cb P w K mg base "_law_map" 1 ["_law_mech", "_law_text"] [] sp_law_map) (c_law_short : Cb P w K mg base "_law_short" 1 ["_law_texts", "_law_size"] [] sp_law_short) : Cb P w K mg base "_law_are_longer_right" 2 ["_law_mech", "_law_texts", "_law_least_here", "_law_sets"] [] sp_law_are_longer_right := by
  refine F.ok sc_law_are_longer_right (fun _ => rfl) (fun _ _ _ _ _ _ us hl => match us, hl with | [_, _, _, _], _ => rfl) fun f cdv A outer s H Ex' hr => ?_
  refine ⟨_, pss_cons (ps_for PassesOwn.never rfl (itL K (pe_op op_cat (pv 1) (pe_cb c_law_short (hr.mono (by decide)) rfl (pa_cons (pv 1) (pa_cons (pe_int) pa_nil))))) (pg_name (i := 4) sc_law_are_longer_right.nd rfl (Or.inl rfl)) (pss_cons (ps_set (i := 5) sc_law_are_longer_right.nd rfl (Or.inl rfl) (pe_cb c_law_map (hr.mono (by decide)) rfl (pa_cons (pv 0) (pa_cons (pv 4) pa_nil))))
    (pss_one (ps_if (PW.pt (pw_and (pt_cmpR op_eq (pe_cb c_law_rank (hr.mono (by decide)) rfl (pa_cons (pv 5) pa_nil)) (pv 2) (by rfl)) (pw_and1 (pt_cmpR (op_notInU (room65 hr)) (bTup K B (bSortI w B (bSetI K w B (pv 5)))) (pv 3) (by rfl))))) (pss_one (ps_ret pe_bl)) pss_nil))))
    (pss_one (ps_ret pe_bl)), ?_⟩
  rintro ⟨⟨r, M⟩, lst, d⟩ vs ⟨v1, r1, rfl, h1, v2, r2, rfl, h2, v3, r3, rfl, h3, v4, r4, rfl, h4, e⟩ ⟨g, gm, hM, hm, hd, hd8⟩ Q k
  try dsimp only at *
  rw [show r4 = [] from e]
  have hl9 := ws_le g (k := 9) (by omega)
  have hl5 := ws_le g (k := 5) (by omega)
  have hlist : E (tOp rCat (tVar 1) (tCall sp_law_short [] E0 (tCons (tVar 1) (tCons (tC (.int 5)) tNil)))) [some v1, some v2, some v3, some v4, none, none] H (vL ((ws r 9 ++ ws r 5).map fun u => vD (eW u))) := by
    rw [List.map_append]
    exact EN.e (en_cat (e_var rfl h2) (e_short (K := K) (k := 5) g (by omega) (a_cons (e_var rfl h2) (a_cons e_c a_nil))) (by rw [List.length_map, List.length_map]; omega))
  refine x_forP (ws r 9 ++ ws r 5) (fun u => vD (eW u)) hlist (fun pre σ' H' => ∃ a b, σ' = [some v1, some v2, some v3, some v4, a, b] ∧ Ex H H') (fun H1 e1 => ⟨none, none, rfl, e1⟩) ?_ ?_
  · rintro pre u post hx v σ' H' pv ⟨a, b, rfl, eH⟩ N hN
    have hu : InL r u ∧ u.length ≤ 9 := by
      have : u ∈ ws r 9 ++ ws r 5 := by rw [hx]; simp
      rcases List.mem_append.1 this with z | z
      · obtain ⟨u1, u2⟩ := (mem_ws g.gr).1 z
        exact ⟨u1, by omega⟩
      · obtain ⟨u1, u2⟩ := (mem_ws g.gr).1 z
        exact ⟨u1, by omega⟩
    refine x_asg (P := vD (eW (mp M u))) (e_call' (M, u) (a_cons (e_var rfl ((vD _).mono eH h1)) (a_cons (e_var rfl pv) a_nil)) ⟨by dsimp only; omega, by dsimp only; omega, r.length, gm, hu.1.letters g.gr⟩) fun ov H1 e1 p1 => ?_
    try unfold tNext
    try dsimp only
    have hc := canon_len_le soN (mp M u)
    rw [mp_len] at hc
    refine x_if (b := decide (V.int (rk M u : Nat) = V.int (lst : Nat)) && false) (t_and (b := false) (t_test (e_op (e_call' (mp M u) (a_cons (e_var rfl p1) a_nil) (by rw [mp_len]; omega)) (e_var rfl ((vI _).mono (eH.trans e1) h3)) (o_eq (by rfl)))) fun ha => t_test (e_op (e_cb (a_cons (e_cb (a_cons (e_cb (a_cons (e_var rfl p1) a_nil) (r_setIT (by rw [mp_len]; omega))) a_nil) (r_sortSI (by omega))) a_nil) (r_tupE (canon ltN (mp M u)) eN)) (e_var rfl ((vD _).mono (eH.trans e1) h4)) ?_)) (fun hb => ?_) (fun hb H2 e2 => hN _ _ (e1.trans e2) ⟨_, _, rfl, eH.trans (e1.trans e2)⟩)
    · have hrk : rk M u = lst := by
        have := of_decide_eq_true ha
        injection this with this
        omega
      have hmem := longer_right g.gr gm hm hd hu.1 hrk
      exact o_notInU (b := true) (d := eW (img M u)) (ds := (setsOf r M d).map eW) (dep60 _) ⟨fun _ => mem_map_eW.2 hmem, fun _ => rfl⟩
    · rw [Bool.and_false] at hb
      cases hb
  · rintro σ' H' ⟨a, b, rfl, eH⟩
    try dsimp only
    refine x_ret (P := vB true) e_c fun v H3 e3 p3 => ?_
    exact k v H3 (eH.trans e3) p3

end
end K37
set_option Elab.async false
set_option linter.all false
set_option maxRecDepth 100000
set_option maxHeartbeats 2000000
/-! E18: expressions that draw from the feed F, a list that changes: what is known is known of the heap without F. -/
namespace K37
open PySem L2 Evl
noncomputable section
open Classical
def hide (F : Addr) (H : Hp) : Hp := fun a => if a = F then none else H a
end
theorem hide_ne {F a : Addr} {H : Hp} (h : a ≠ F) : hide F H a = H a := by unfold hide; rw [if_neg h]
theorem hide_some {F a : Addr} {H : Hp} {o : HO} (h : hide F H a = some o) : a ≠ F ∧ H a = some o := by
  unfold hide at h
  by_cases c : a = F
  · rw [if_pos c] at h; cases h
  · rw [if_neg c] at h; exact ⟨c, h⟩
theorem hide_ex (F : Addr) (H : Hp) : Ex (hide F H) H := fun a o h => (hide_some h).2
theorem exh {F : Addr} {H H' : Hp} (e : Ex H H') : Ex (hide F H) (hide F H') := fun a o h => by
  obtain ⟨n, h1⟩ := hide_some h
  rw [hide_ne n]
  exact e a o h1
theorem hide_tx {F : Addr} {H : Hp} {xs : List V} (h : H F = some (.lst xs)) : Tx H (hide F H) := fun a o i h1 => by
  rw [hide_ne]
  · exact h1
  · intro z
    rw [z, h] at h1
    cases h1
    exact not_imm_lst i
/-- the feed: cells, the next one's place, what is left of a great one, how often it was asked -/
def Fd (F C : Addr) (m : Nat) (H : Hp) : Prop := ∃ (ns : List Int) (p g d : Int), H F = some (.lst [.ref C, .int p, .int g, .int d]) ∧ H C = some (.lst (ns.map V.int)) ∧ C ≠ F ∧ ns.length ≤ 63 ∧ 0 ≤ p ∧ p ≤ m ∧ 0 ≤ d ∧ d ≤ m
theorem Fd.ex {F C : Addr} {m : Nat} {H H' : Hp} (h : Fd F C m H) (e : Ex H H') : Fd F C m H' := by
  obtain ⟨ns, p, g, d, h1, h2, h3⟩ := h
  exact ⟨ns, p, g, d, e _ _ h1, e _ _ h2, h3⟩
theorem Fd.lst {F C : Addr} {m : Nat} {H : Hp} (h : Fd F C m H) : ∃ xs, H F = some (.lst xs) := by
  obtain ⟨ns, p, g, d, h1, _⟩ := h
  exact ⟨_, h1⟩
theorem Fd.tx {F C : Addr} {m : Nat} {H : Hp} (h : Fd F C m H) : Tx H (hide F H) := by
  obtain ⟨xs, h1⟩ := h.lst
  exact hide_tx h1
/-- te gives a value of P and asks the feed at most c times -/
def EF (F C : Addr) (c : Nat) (te : TE) (σ : L2.St) (H : Hp) (P : VP) : Prop := ∀ H1 m, Ex (hide F H) (hide F H1) → Fd F C m H1 → m + c ≤ 1000000 → ∀ Q : VK, (∀ v H2 m', Ex (hide F H1) (hide F H2) → Fd F C m' H2 → m' ≤ m + c → P.p v (hide F H2) → Q v H2) → te σ H1 Q
def AF (F C : Addr) (c : Nat) (ta : TA) (σ : L2.St) (H : Hp) (Ps : List VP) : Prop := ∀ H1 m, Ex (hide F H) (hide F H1) → Fd F C m H1 → m + c ≤ 1000000 → ∀ Q : List V → Hp → Prop, (∀ vs H2 m', Ex (hide F H1) (hide F H2) → Fd F C m' H2 → m' ≤ m + c → AllP Ps vs (hide F H2) → Q vs H2) → ta σ H1 Q
section
variable {F C : Addr} {c c1 c2 : Nat} {te ta tb : TE} {tr : TA} {σ : L2.St} {H : Hp} {P P1 P2 : VP} {Ps : List VP} {r : R2}
theorem ef_lift (h : E te σ (hide F H) P) (hs : St' P) : EF F C c te σ H P := fun H1 m e f _ Q q =>
  h H1 (e.trans (hide_ex F H1)) _ fun v H2 e2 p => q v H2 m (exh e2) (f.ex e2) (by omega) (hs _ _ _ (f.ex e2).tx p)
theorem ef_new (h : EN te σ (hide F H) Ps) (hs : ∀ P ∈ Ps, St' P) : EF F C c te σ H (vL Ps) := fun H1 m e f _ Q q =>
  h H1 (e.trans (hide_ex F H1)) _ fun p vs H2 hp e2 h2 h3 => q _ H2 m (exh e2) (f.ex e2) (by omega) ⟨p, vs, rfl, by
    obtain ⟨xs, hF⟩ := f.lst
    rw [hide_ne (fun z => by rw [z, hF] at hp; cases hp)]
    exact h2, allP_tx (f.ex e2).tx hs h3⟩
theorem ef_op (ha : EF F C c1 ta σ H P1) (hb : EF F C c2 tb σ H P2) (hr : O r P1 P2 P) (hs : St' P) : EF F C (c1 + c2) (tOp r ta tb) σ H P := fun H1 m e f hm Q q =>
  ha H1 m e f (by omega) _ fun x H2 m2 e2 f2 l2 p1 => hb H2 m2 (e.trans e2) f2 (by omega) _ fun y H3 m3 e3 f3 l3 p2 =>
    hr x y H3 (P1.mono (e3.trans (hide_ex F H3)) p1) (P2.mono (hide_ex F H3) p2) Q fun v H4 e4 p => q v H4 m3 ((e2.trans e3).trans (exh e4)) (f3.ex e4) (by omega) (hs _ _ _ (f3.ex e4).tx p)
theorem af_nil : AF F C c tNil σ H [] := fun H1 m e f _ Q q => q [] H1 m (Ex.refl _) f (by omega) rfl
theorem af_cons (h : EF F C c1 ta σ H P) (hr : AF F C c2 tr σ H Ps) : AF F C (c1 + c2) (tCons ta tr) σ H (P :: Ps) := fun H1 m e f hm Q q =>
  h H1 m e f (by omega) _ fun v H2 m2 e2 f2 l2 p => hr H2 m2 (e.trans e2) f2 (by omega) _ fun vs H3 m3 e3 f3 l3 ps => q _ H3 m3 (e2.trans e3) f3 (by omega) ⟨v, vs, rfl, P.mono e3 p, ps⟩
theorem ef_cb {rr : List V → Hp → VK → Prop} {ta : TA} (h : AF F C c ta σ H Ps) (hr : R rr Ps P) (hs : St' P) : EF F C c (tCB rr ta) σ H P := fun H1 m e f hm Q q =>
  h H1 m e f hm _ fun vs H2 m2 e2 f2 l2 ps => hr vs H2 (AllP.mono (hide_ex F H2) ps) Q fun v H3 e3 p => q v H3 m2 (e2.trans (exh e3)) (f2.ex e3) l2 (hs _ _ _ (f2.ex e3).tx p)
theorem ef_var {i : Nat} {v : V} (hi : σ[i]? = some (some v)) (p : P.p v (hide F H)) : EF F C c (tVar i) σ H P := fun H1 m e f _ Q q =>
  e_var (P := vV v) hi rfl H1 (Ex.refl H1) Q fun u H2 e2 pu => q u H2 m (exh e2) (f.ex e2) (by omega) (by
    rw [show u = v from pu]
    exact P.mono (e.trans (exh e2)) p)
theorem EF.le (h : EF F C c1 te σ H P) (hc : c1 ≤ c2) : EF F C c2 te σ H P := fun H1 m e f hm Q q => h H1 m e f (by omega) Q fun v H2 m2 e2 f2 l2 p => q v H2 m2 e2 f2 (by omega) p
theorem EF.ex {H' : Hp} (h : EF F C c te σ H P) (e : Ex (hide F H) (hide F H')) : EF F C c te σ H' P := fun H1 m e1 => h H1 m (e.trans e1)
end
theorem hide_upd {F a : Addr} {H : Hp} {o : HO} (h : a ≠ F) : hide F (L2.upd H a o) = L2.upd (hide F H) a o := by
  funext x
  by_cases c : x = F
  · rw [c, upd_ne (Ne.symm h)]
    unfold hide
    rw [if_pos rfl, if_pos rfl]
  · rw [hide_ne c]
    by_cases d : x = a
    · rw [d, upd_same, upd_same]
    · rw [upd_ne d, upd_ne d, hide_ne c]
theorem hide_none {F a : Addr} {H : Hp} (h : H a = none) : hide F H a = none := by
  unfold hide
  rw [h]
  exact ite_self _
theorem Fd.upd {F C a : Addr} {m : Nat} {H : Hp} {o : HO} (h : Fd F C m H) (h1 : a ≠ F) (h2 : a ≠ C) : Fd F C m (L2.upd H a o) := by
  obtain ⟨ns, p, g, d, k1, k2, k3⟩ := h
  exact ⟨ns, p, g, d, by rw [upd_ne (Ne.symm h1)]; exact k1, by rw [upd_ne (Ne.symm h2)]; exact k2, k3⟩
theorem Fd.cell {F C : Addr} {m : Nat} {H : Hp} (h : Fd F C m H) : ∃ xs, H C = some (.lst xs) := by
  obtain ⟨ns, p, g, d, k1, k2, k3⟩ := h
  exact ⟨_, k2⟩
/-- the same of a new list -/
def EFN (F C : Addr) (c : Nat) (te : TE) (σ : L2.St) (H : Hp) (Ps : List VP) : Prop := ∀ H1 m, Ex (hide F H) (hide F H1) → Fd F C m H1 → m + c ≤ 1000000 → ∀ Q : VK, (∀ p vs H2 m', hide F H1 p = none → p ≠ F → Ex (hide F H1) (hide F H2) → Fd F C m' H2 → m' ≤ m + c → hide F H2 p = some (.lst vs) → AllP Ps vs (hide F H2) → Q (.ref p) H2) → te σ H1 Q
theorem EFN.e {F C : Addr} {c : Nat} {te : TE} {σ : L2.St} {H : Hp} {Ps : List VP} (h : EFN F C c te σ H Ps) : EF F C c te σ H (vL Ps) := fun H1 m e f hm Q q => h H1 m e f hm Q fun p vs H2 m' _ _ e2 f2 l2 h2 h3 => q _ H2 m' e2 f2 l2 ⟨p, vs, rfl, h2, h3⟩
/-! sources -/
def YPF (F : Addr) (Ps : List VP) : Nat → Hp → V → Hp → Prop := fun i Ha x Hb => Hb = Ha ∧ ∃ P, Ps[i]? = some P ∧ P.p x (hide F Ha)
def SrcF (F C : Addr) (c : Nat) (wi : TI) (σ : L2.St) (H : Hp) (Ps : List VP) : Prop := ∀ H1 m, Ex (hide F H) (hide F H1) → Fd F C m H1 → m + c ≤ 1000000 → ∀ Rr : It → Hp → Prop,
  (∀ J H2 m' (G : Hp → Prop), Ex (hide F H1) (hide F H2) → Fd F C m' H2 → m' ≤ m + c → (∀ H', Ex (hide F H2) (hide F H') → G H') → Walk J Ps.length G (YPF F Ps) → Rr J H2) → wi σ H1 Rr
section
variable {K : PySem.W.Frag} {F C : Addr} {c c2 : Nat} {tl te : TE} {ta : TA} {σ : L2.St} {H : Hp} {Ps : List VP}
theorem srcF_range {n : Nat} (h : AF F C c ta σ H [vI n]) (hn : n ≤ 10000000) : SrcF F C c (iRng1 ta) σ H (rgP n) := fun H1 m e f hm Rr q => h H1 m e f hm _ fun vs H2 m2 e2 f2 l2 ⟨v, r, h1, h2, h3⟩ => by
  rw [show v = .int n from h2, show r = [] from h3] at h1
  refine ⟨(n : Int), h1, by omega, by omega, ?_⟩
  refine q _ H2 m2 (fun _ => True) e2 f2 l2 (fun _ _ => trivial) ?_
  have hl : (rgP n).length = (n : Int).toNat := by unfold rgP; simp
  rw [hl]
  refine (walk_range (lo := 0) (n := (n : Int).toNat)).mono (fun _ g => trivial) fun i Ha x Hb hi g y => ?_
  obtain ⟨y1, y2⟩ := y
  refine ⟨y1, vI (i : Nat), ?_, ?_⟩
  · unfold rgP
    rw [List.getElem?_map, List.getElem?_range (by omega)]
    rfl
  · show x = .int i
    rw [y2]
    show V.int (0 + (i : Int)) = V.int i
    rw [Int.zero_add]
theorem srcF_list (h : EF F C c tl σ H (vL Ps)) : SrcF F C c (iList K tl) σ H Ps := fun H1 m e f hm Rr q => h H1 m e f hm _ fun v H2 m2 e2 f2 l2 ⟨a, vs, h1, h2, h3⟩ => by
  refine ⟨a, h1, ⟨vs, sq_of (hide_some h2).2⟩, ?_⟩
  have hl := h3.length
  refine q _ H2 m2 (fun H' => SqL K H' a vs ∧ AllP Ps vs (hide F H')) e2 f2 l2 (fun H' e' => ⟨sq_of (hide_some (e' _ _ h2)).2, AllP.mono e' h3⟩) ?_
  rw [← hl]
  refine (walk_list (K := K) (a := a) (xs := vs)).mono (fun _ g => g.1) fun i Ha x Hb hi g y => ?_
  obtain ⟨y1, y2⟩ := y
  exact ⟨y1, allP_at g.2 y2⟩
/-- a comprehension -/
theorem efn_lc1 {α : Type} {wi : TI} {vs : List Nat} {j : Nat} (xs : List α) (P G : α → VP) (h : SrcF F C c wi σ H (xs.map P)) (hz : xs.length ≤ 10000000) (hG : ∀ x ∈ xs, St' (G x)) (hw : ∀ v, wipe ((wipe σ vs).set j (some v)) vs = wipe σ vs)
    (he : ∀ x ∈ xs, ∀ v H1, Ex (hide F H) (hide F H1) → (P x).p v (hide F H1) → EF F C c2 te ((wipe σ vs).set j (some v)) H1 (G x)) : EFN F C (c + xs.length * c2) (tLc wi (gName j) tYes te vs) σ H (xs.map G) := fun H0 m e0 f0 hm Q q =>
  h H0 m e0 f0 (by omega) _ fun J H1 m1 G1 e1 f1 l1 hG1 w => fun D hD => by
    obtain ⟨fs, hF⟩ := f1.lst
    have hDF : D ≠ F := fun z => by rw [z, hF] at hD; cases hD
    obtain ⟨cs, hC⟩ := f1.cell
    have hDC : D ≠ C := fun z => by rw [z, hC] at hD; cases hD
    refine lc_it w (Pv := fun i H' => ∃ m' acc, Ex (hide F H1) (hide F H') ∧ Fd F C m' H' ∧ m' ≤ m1 + i * c2 ∧ H' D = some (.lst acc) ∧ AllP ((xs.take i).map G) acc (hide F H')) ?_ (fun i H' _ pv => ?_) (fun i x Ha Hb hi pv y => ?_) fun H' pv => ?_
    · refine ⟨m1, [], exh (Ex.new hD), f1.ex (Ex.new hD), by omega, upd_same, rfl⟩
    · obtain ⟨m', acc, e2, _⟩ := pv
      exact hG1 H' e2
    · obtain ⟨y1, P0, y2, y3⟩ := y
      subst y1
      rw [List.getElem?_map] at y2
      obtain ⟨x0, hx0, rfl⟩ := Option.map_eq_some_iff.1 y2
      have hm0 : x0 ∈ xs := List.mem_of_getElem? hx0
      rw [List.length_map] at hi
      have hic : (i + 1) * c2 ≤ xs.length * c2 := Nat.mul_le_mul hi (Nat.le_refl _)
      rw [Nat.succ_mul] at hic
      obtain ⟨m', acc, e2, f2, l2, a1, a2⟩ := pv
      refine ⟨hw x, ?_⟩
      unfold tYes
      dsimp only
      rw [if_pos rfl]
      refine he x0 hm0 x _ (e0.trans (e1.trans e2)) y3 _ m' (Ex.refl _) f2 (by omega) _ fun y H4 m4 e4 f4 l4 p4 => ?_
      have h4 : hide F H4 D = some (.lst acc) := e4 _ _ (by rw [hide_ne hDF]; exact a1)
      have hl : acc.length = i := by rw [a2.length, List.length_map, List.length_take]; omega
      have hmut : Ex (hide F H1) (hide F (L2.upd H4 D (.lst (acc ++ [y])))) := by
        rw [hide_upd hDF]
        exact Ex.mut (e2.trans e4) (hide_none hD)
      refine ⟨acc, (hide_some h4).2, szMl (by omega), m4, acc ++ [y], hmut, f4.upd hDF hDC, by rw [Nat.succ_mul]; omega, upd_same, ?_⟩
      have tx : Tx (hide F H4) (hide F (L2.upd H4 D (.lst (acc ++ [y])))) := by
        rw [hide_upd hDF]
        exact Tx.updL h4
      have e5 : (xs.take (i + 1)).map G = (xs.take i).map G ++ [G x0] := by
        rw [List.take_add_one, hx0, List.map_append]
        rfl
      rw [e5]
      refine allP_snoc (allP_tx tx (fun P hP => ?_) (AllP.mono e4 a2)) (hG x0 hm0 _ _ _ tx p4)
      obtain ⟨z, hz, rfl⟩ := List.mem_map.1 hP
      exact hG z (List.mem_of_mem_take hz)
    · obtain ⟨m', acc, e2, f2, l2, a1, a2⟩ := pv
      rw [List.length_map] at l2 a2
      rw [List.take_length] at a2
      exact q D acc H' m' (fresh_back e1 (hide_none hD)) hDF (e1.trans e2) f2 (by omega) (by rw [hide_ne hDF]; exact a1) a2
theorem ef_lc1 {α : Type} {wi : TI} {vs : List Nat} {j : Nat} (xs : List α) (P G : α → VP) (h : SrcF F C c wi σ H (xs.map P)) (hz : xs.length ≤ 10000000) (hG : ∀ x ∈ xs, St' (G x)) (hw : ∀ v, wipe ((wipe σ vs).set j (some v)) vs = wipe σ vs)
    (he : ∀ x ∈ xs, ∀ v H1, Ex (hide F H) (hide F H1) → (P x).p v (hide F H1) → EF F C c2 te ((wipe σ vs).set j (some v)) H1 (G x)) : EF F C (c + xs.length * c2) (tLc wi (gName j) tYes te vs) σ H (vL (xs.map G)) := EFN.e (efn_lc1 xs P G h hz hG hw he)
end
end K37
set_option Elab.async false
set_option linter.all false
set_option maxRecDepth 100000
set_option maxHeartbeats 2000000
/-! E19: int(x), defs whose promise changes the feed, drawing. -/
namespace K37
open PySem L2 Evl
section
variable {P : Program} {w : World} {K : PySem.W.Frag} {mg : Str → Option Value} {base : Heap}
/-- the rule for a def with any promise -/
theorem Df.okS {x : Str} {st : Stmt} {N ps : List Str} {k : Nat} {sp : Sp} (F : Df K mg x st []) (S : FnScope N ps (defScope st)) (hl : ∀ vs H Q E, sp vs H Q E → vs.length = ps.length)
    (hb : ∀ (kV doc pm : Value) (an : Option Addr) (cdv ct : Value) (us : List Value), us.length = ps.length → bindArgs (PySem.W.fnOf x x (defArgs st) (defBody st) (defScope st) .none kV doc pm an cdv ct) ⟨us, []⟩ = pure (ps.zip us))
    (hbody : ∀ (f : Addr) (cdv : Value) (A : Around) (outer : List Env) (s : Shared) (H : Hp) (Ex' : XK), Room k (A.deeper (PyProof.Rows.envOfC x (defScope st) s.heap.objs.size f cdv)) →
      ∃ t, PSs (cxOf CX0 P w K mg base N x (defScope st) f cdv A outer s H Ex').nox (defBody st) t ∧ ∀ vs, ∀ Q : VK, sp vs H Q Ex' → t { nx := fun _ H' => Q .non H', rt := Q } (start N vs) H) : Cb P w K mg base x (k + 1) ps [] sp := by
  obtain ⟨f, fd, F, hm⟩ := F
  refine ⟨f, fd, [], FunD.ok F S (fun vs H Q E h => hl vs H Q E h) (fun cdv A outer s H vs Q E hr h => ?_), hm, F.kp, FunD.bindsN F hb, .nil⟩
  obtain ⟨t, h1, h2⟩ := hbody f cdv A outer s H E hr
  exact ⟨t, PSs.nox h1, h2 vs Q h⟩
end
section
variable {mg : Str → Option Value} {X : Cx} {a : Expr} {ta : TE} {pos p : Pos}
def rInt1 : List V → Hp → VK → Prop := fun xs H Q => (∃ i, xs = [.int i] ∧ Q (.int i) H) ∨ ∃ k, xs = [.bl k] ∧ Q (.int (if k then 1 else 0)) H
theorem bInt (B : Bi mg) (ha : PE X a ta) (hM : X.mg = mg := by rfl) (hg : Gl X "int" := by rfl) (he : starEach [a] X.env = (false, eval a X.env) :: starEach [] X.env := by rfl) (hpl : (backTo pos (starEach [] X.env)).any (·.1) = false := by rfl) :
    PE X (.Call (.Name "int" p) [a] [] pos) (tCB rInt1 (tCons ta tNil)) := by
  subst hM
  exact pe_callTy call_int1 hg B.g (by decide +kernel) (pa_cons ha pa_nil he) (he := he) (hpl := hpl)
theorem r_int1 {i : Int} : R rInt1 [vI i] (vI i) := fun vs H h Q q => by
  obtain ⟨v, r, e, h1, h2⟩ := h
  rw [show r = [] from h2, show v = .int i from h1] at e
  exact .inl ⟨i, e, q _ H (Ex.refl H) rfl⟩
end
section
variable {σ : L2.St} {H : Hp} {te to ti : TE} {P : VP} {D : Ends}
/-- xs[i] = v -/
theorem x_setL {p : Addr} {xs : List V} {i : Int} {j : Nat} (hp : H p = some (.lst xs)) (he : E te σ H P) (ho : E to σ H (vV (.ref p))) (hi : E ti σ H (vI i)) (hj : ixN xs.length i = some j)
    (k : ∀ v H1, Ex H H1 → P.p v H1 → D.nx σ (upd H1 p (.lst (xs.set j v)))) : tAsg te (gSub to ti rSetL) D σ H := he H (Ex.refl H) _ fun u H1 e1 p1 =>
  ho H1 e1 _ fun o H2 e2 p2 => hi H2 (e1.trans e2) _ fun y H3 e3 p3 => ⟨p, xs, i, j, p2, p3, (e1.trans (e2.trans e3)) _ _ hp, hj, k u H3 (e1.trans (e2.trans e3)) (P.mono (e2.trans e3) p1)⟩
end
/-- _law_pick: some figure below many -/
def sp_law_pick : Sp := fun vs H Q _ => ∃ (F C : Addr) (m many : Nat), vs = [.ref F, .int many] ∧ 1 ≤ many ∧ many ≤ 10 ∧ Fd F C m H ∧ m + 1 ≤ 1000000 ∧
  ∀ v H', Ex (hide F H) (hide F H') → Fd F C (m + 1) H' → (∃ i : Nat, v = .int i ∧ i < many) → Q v H'
section
variable {F C : Addr} {c : Nat} {te : TE} {ta : TA} {σ : L2.St} {H : Hp} {Ex' : XK}
def vBelow (n : Nat) : VP := vEx (fun (i : Nat) => i < n) fun i => vI i
theorem st_below (n : Nat) : St' (vBelow n) := fun _ _ _ _ ⟨i, h, p⟩ => ⟨i, h, p⟩
theorem ef_pick {many : Nat} (h : AF F C c ta σ H [vV (.ref F), vI many]) (h1 : 1 ≤ many) (h2 : many ≤ 10) : EF F C (c + 1) (tCall sp_law_pick [] Ex' ta) σ H (vBelow many) := fun H1 m e f hm Q q =>
  h H1 m e f (by omega) _ fun vs H2 m2 e2 f2 l2 ⟨v, r, a1, a2, u, r', b1, b2, b3⟩ => by
    rw [show r' = [] from b3, show u = .int many from b2] at b1
    rw [b1, show v = .ref F from a2] at a1
    refine ⟨F, C, m2, many, by rw [a1]; rfl, h1, h2, f2, by omega, fun v H3 e3 f3 ⟨i, k1, k2⟩ => q v H3 (m2 + 1) (e2.trans e3) f3 (by omega) ⟨i, k2, k1⟩⟩
end
end K37
set_option Elab.async false
set_option linter.all false
set_option maxRecDepth 100000
set_option maxHeartbeats 2000000
/-! W21: the law, drawing. -/
namespace K37
open PySem L2 Evl
section
variable {P : Program} {w : World} {K : PySem.W.Frag} {mg : Str → Option Value} {base : Heap}

abbrev n_law_pick : List Str := ["_law_feed_here", "_law_many", "_law_figure", "_law_at", "_law_cell", "_law_mixed"]
theorem sc_law_pick : FnScope n_law_pick ["_law_feed_here", "_law_many"] (defScope st_law_pick) := ⟨rfl, rfl, rfl, by decide +kernel, rfl, by decide +kernel, by decide +kernel⟩
theorem ok_law_pick (F : Df K mg "_law_pick" st_law_pick []) (B : Bi mg) : Cb P w K mg base "_law_pick" 1 ["_law_feed_here", "_law_many"] [] sp_law_pick := by
  refine F.okS sc_law_pick (fun vs H Q E h => by obtain ⟨F, C, m, many, e, _⟩ := h; rw [e]; rfl) (fun _ _ _ _ _ _ us hl => match us, hl with | [_, _], _ => rfl) fun f cdv A outer s H Ex' hr => ?_
  refine ⟨_, pss_cons (ps_asg (pe_op op_add (ixL K (pv 0) pe_int) pe_int) (pg_sub (pv 0) pe_int set_list))
    (pss_cons (ps_if (pt_cmpR op_gt (ixL K (pv 0) pe_int) pe_int (by rfl)) (pss_cons (ps_set (i := 2) sc_law_pick.nd rfl (Or.inl rfl) (pe_op op_mod (bInt B (ixL K (pv 0) pe_int)) (pv 1)))
    (pss_cons (ps_asg (pe_op op_fdiv (ixL K (pv 0) pe_int) (pv 1)) (pg_sub (pv 0) pe_int set_list))
    (pss_one (ps_ret (pv 2))))) pss_nil)
    (pss_cons (ps_set (i := 3) sc_law_pick.nd rfl (Or.inl rfl) (ixL K (pv 0) pe_int))
    (pss_cons (ps_asg (pe_op op_add (pv 3) pe_int) (pg_sub (pv 0) pe_int set_list))
    (pss_cons (ps_set (i := 4) sc_law_pick.nd rfl (Or.inl rfl) (pe_ifExp (pt_cmpR (op_neD (room64 hr)) (ixL K (pv 0) pe_int) (pe_lst pa_nil) (by rfl)) (ixL K (ixL K (pv 0) pe_int) (pe_op op_mod (bInt B (pv 3)) (bLen K B (ixL K (pv 0) pe_int)))) pe_int))
    (pss_cons (ps_if (PW.pt (pw_and (pt_cmpR op_ge (pv 4) (pe_op op_pow pe_int pe_int) (by rfl)) (pw_and1 (pt_cmpR op_lt (pv 3) (bLen K B (ixL K (pv 0) pe_int)) (by rfl))))) (pss_cons (ps_asg (pe_op op_fdiv (pv 4) (pv 1)) (pg_sub (pv 0) pe_int set_list))
    (pss_one (ps_ret (pe_op op_mod (bInt B (pv 4)) (pv 1))))) pss_nil)
    (pss_cons (ps_set (i := 5) sc_law_pick.nd rfl (Or.inl rfl) (pe_op op_mod (bInt B (pe_op op_pow (pe_op op_add (pe_op op_add (pe_op op_mod (bInt B (pv 4)) (pe_int)) (pe_op op_mul pe_int (ixL K (pv 0) pe_int))) pe_int) pe_int)) (pe_int)))
    (pss_cons (ps_set (i := 5) sc_law_pick.nd rfl (Or.inl rfl) (pe_op op_mod (bInt B (pe_op op_pow (pe_op op_add (pe_op op_add (pv 5) (pe_op op_mul (pe_op op_mul pe_int (ixL K (pv 0) pe_int)) (ixL K (pv 0) pe_int))) (pe_op op_mul pe_int (pv 3))) pe_int)) (pe_int)))
    (pss_one (ps_ret (pe_op op_mod (bInt B (pe_op op_fdiv (pv 5) pe_int)) (pv 1))))))))))), ?_⟩
  rintro vs Q ⟨F, C, m, many, rfl, hm1, hm2, ⟨ns, p, g, d, k1, k2, hCF, hns, p0, pm, d0, dm⟩, hm, k⟩
  obtain ⟨St, hSt⟩ : ∃ St : Int → Int → Int → Hp → Prop, St = fun p g d H' => H' F = some (.lst [.ref C, .int p, .int g, .int d]) ∧ H' C = some (.lst (ns.map V.int)) ∧ Ex (hide F H) (hide F H') := ⟨_, rfl⟩
  have stk : ∀ {p g d H1 H2}, St p g d H1 → Ex H1 H2 → St p g d H2 := fun {p g d H1 H2} h e => by
    rw [hSt] at h ⊢
    exact ⟨e _ _ h.1, e _ _ h.2.1, h.2.2.trans (exh e)⟩
  have fin : ∀ {p g d H1 v}, St p g d H1 → 0 ≤ p → p ≤ ((m + 1 : Nat) : Int) → 0 ≤ d → d ≤ ((m + 1 : Nat) : Int) → (∃ i : Nat, v = V.int i ∧ i < many) → Q v H1 := fun {p g d H1 v} h a b c d' hv => by
    rw [hSt] at h
    exact k v H1 h.2.2 ⟨ns, p, g, d, h.1, h.2.1, hCF, hns, a, b, c, d'⟩ hv
  have hv : ∀ {p g d H1}, St p g d H1 → (vL [vDs (ns.map Dv.n), vI p, vI g, vI d]).p (.ref F) H1 := fun {p g d H1} h => by
    rw [hSt] at h
    exact ⟨F, _, rfl, h.1, _, _, rfl, ⟨C, _, rfl, h.2.1, allP_isAll.2 (IsAll.of_ints ns)⟩, _, _, rfl, rfl, _, _, rfl, rfl, _, _, rfl, rfl, rfl⟩
  have put : ∀ {p g d p' g' d' H1} {i v : Int} {j : Nat}, St p g d H1 → ([V.ref C, .int p, .int g, .int d].set j (.int v)) = [V.ref C, .int p', .int g', .int d'] → St p' g' d' (L2.upd H1 F (.lst ([V.ref C, .int p, .int g, .int d].set j (.int v)))) := fun {p g d p' g' d' H1 i v j} h e => by
    rw [e]
    rw [hSt] at h ⊢
    refine ⟨upd_same, by rw [upd_ne hCF]; exact h.2.1, fun a o ha => ?_⟩
    obtain ⟨n1, n2⟩ := hide_some ha
    rw [hide_ne n1, upd_ne n1]
    have := h.2.2 a o ha
    rwa [hide_ne n1] at this
  have st0 : St p g d H := by rw [hSt]; exact ⟨k1, k2, Ex.refl _⟩
  refine x_setL (p := F) (i := 3) (j := 3) k1 (e_op (e_op (e_var rfl (hv st0)) e_c (o_ixL (P := vI d) (atI_nat (j := 3) rfl))) e_c (o_I0 (g := fun i j => V.int (i + j)))) (e_var rfl rfl) e_c rfl fun v1 H1 e1 p1 => ?_
  rw [show v1 = V.int (d + 1) from p1]
  have st1 := put (i := 3) (v := d + 1) (j := 3) (p' := p) (g' := g) (d' := d + 1) (stk st0 e1) rfl
  obtain ⟨H2, h2⟩ : ∃ H2, L2.upd H1 F (.lst ([V.ref C, .int p, .int g, .int d].set 3 (.int (d + 1)))) = H2 := ⟨_, rfl⟩
  rw [h2] at st1 ⊢
  try dsimp only
  refine x_if (b := decide (0 < g)) (t_test (e_op (e_op (e_var rfl (hv st1)) e_c (o_ixL (P := vI g) (atI_nat (j := 2) rfl))) e_c (o_cmp (by rfl)))) (fun hb H3 e3 => ?_) (fun hb H3 e3 => ?_)
  · have st3 := stk st1 e3
    have k3 : H3 F = some (.lst [.ref C, .int p, .int g, .int (d + 1)]) := by rw [hSt] at st3; exact st3.1
    refine x_asg (P := vI (g % (many : Int))) (e_op (e_cb (a_cons (e_op (e_var rfl (hv st3)) e_c (o_ixL (P := vI g) (atI_nat (j := 2) rfl))) a_nil) r_int1) (e_var (P := vI (many : Nat)) rfl rfl) (o_I (g := fun i j => V.int (i % j)) (by omega))) fun fv H4 e4 p4 => ?_
    have st4 := stk st3 e4
    refine x_setL (p := F) (i := 2) (j := 2) (e4 _ _ k3) (e_op (e_op (e_var rfl (hv st4)) e_c (o_ixL (P := vI g) (atI_nat (j := 2) rfl))) (e_var (P := vI (many : Nat)) rfl rfl) (o_I (g := fun i j => V.int (i / j)) ⟨by omega, by omega⟩)) (e_var rfl rfl) e_c rfl fun v5 H5 e5 p5 => ?_
    rw [show v5 = V.int (g / (many : Int)) from p5]
    have st5 := put (i := 2) (v := g / (many : Int)) (j := 2) (p' := p) (g' := g / (many : Int)) (d' := d + 1) (stk st4 e5) rfl
    try dsimp only
    refine x_ret (P := vI (g % (many : Int))) (e_var rfl p4) fun v6 H6 e6 p6 => ?_
    have hq0 := Int.emod_nonneg g (b := (many : Int)) (by omega)
    have hq1 := Int.emod_lt_of_pos g (b := (many : Int)) (by omega)
    exact fin (stk st5 e6) p0 (by omega) (by omega) (by omega) ⟨(g % (many : Int)).toNat, by rw [show v6 = V.int (g % (many : Int)) from p6, Int.toNat_of_nonneg hq0], by omega⟩
  · have st3 := stk st1 e3
    have k3 : H3 F = some (.lst [.ref C, .int p, .int g, .int (d + 1)]) := by rw [hSt] at st3; exact st3.1
    refine x_asg (P := vI p) (e_op (e_var rfl (hv st3)) e_c (o_ixL (P := vI p) (atI_nat (j := 1) rfl))) fun av H4 e4 p4 => ?_
    have st4 := stk st3 e4
    refine x_setL (p := F) (i := 1) (j := 1) (e4 _ _ k3) (e_op (e_var (P := vI p) rfl p4) e_c (o_I0 (g := fun i j => V.int (i + j)))) (e_var rfl rfl) e_c rfl fun v5 H5 e5 p5 => ?_
    rw [show v5 = V.int (p + 1) from p5]
    have st5 := put (i := 1) (v := p + 1) (j := 1) (p' := p + 1) (g' := g) (d' := d + 1) (stk st4 e5) rfl
    obtain ⟨H6, h6⟩ : ∃ H6, L2.upd H5 F (.lst ([V.ref C, .int p, .int g, .int (d + 1)].set 1 (.int (p + 1)))) = H6 := ⟨_, rfl⟩
    rw [h6] at st5 ⊢
    try dsimp only
    have hcell : ∀ {H7 σ}, St (p + 1) g (d + 1) H7 → σ[0]? = some (some (V.ref F)) → E (tOp (rIxL K) (tVar 0) (tC (.int 0))) σ H7 (vDs (ns.map Dv.n)) := fun {H7 σ} h hs => e_op (e_var hs (hv h)) e_c (o_ixL (P := vDs (ns.map Dv.n)) (atI_nat (j := 0) rfl))
    have hdn : Dv.deps (ns.map Dv.n) ≤ 60 := Nat.le_trans (deps_map (n := 0) (fun _ => by rw [Dv.dep]; omega) _) (by omega)
    refine x_asg (P := vEx (fun (_ : Int) => True) fun c => vI c) (e_if (b := !decide (ns = [])) (t_test (e_op (hcell st5 rfl) ((EN.e (en_lst (Ps := []) a_nil (by simp))).weak fun v H3 _ p => (show (vDs []).p v H3 from p)) (o_neL hdn (by rw [Dv.deps]; omega) (by rw [decide_eq_true_iff, List.map_eq_nil_iff])))) (fun hb => ?_) (fun hb => (e_c (v := .int 29)).weak fun v H7 _ p => ⟨29, trivial, p⟩)) fun cv H7 e7 ⟨cell, _, p7⟩ => ?_
    · have hne : ns ≠ [] := fun z => by rw [z] at hb; simp at hb
      have hl0 : 0 < ns.length := List.length_pos_iff.2 hne
      have q0 := Int.emod_nonneg p (b := (ns.length : Int)) (by omega)
      have q1 := Int.emod_lt_of_pos p (b := (ns.length : Int)) (by omega)
      obtain ⟨j, hj⟩ : ∃ j : Nat, p % (ns.length : Int) = (j : Int) := ⟨(p % (ns.length : Int)).toNat, by rw [Int.toNat_of_nonneg q0]⟩
      have hjl : j < ns.length := by omega
      have hidx := e_op (e_cb (a_cons (e_var (σ := [some (.ref F), some (.int many), none, some av, none, none]) (H := H6) (i := 3) (P := vI p) rfl p4) a_nil) r_int1) ((e_cb (a_cons (hcell (σ := [some (.ref F), some (.int many), none, some av, none, none]) st5 rfl) a_nil) (r_lenL (K := K))).weak fun v H8 _ p => (show (vI (ns.length : Int)).p v H8 by
        rw [List.length_map, List.length_map] at p
        exact p)) (o_I (C := fun _ j => 0 < j) (g := fun i j => V.int (i % j)) (by omega))
      exact (e_op (hcell st5 rfl) hidx (by
        rw [hj]
        exact o_ixL (P := vD (.n ns[j])) (atI_nat (j := j) (by rw [List.getElem?_map, List.getElem?_map, List.getElem?_eq_getElem hjl]; rfl)))).weak fun v H8 _ p => ⟨ns[j], trivial, (by rw [vD] at p; exact p)⟩
    · have st7 := stk st5 e7
      have k7 : H7 F = some (.lst [.ref C, .int (p + 1), .int g, .int (d + 1)]) := by rw [hSt] at st7; exact st7.1
      have hlen : ∀ {H8 σ}, St (p + 1) g (d + 1) H8 → σ[0]? = some (some (V.ref F)) → E (tCB (rLenS K) (tCons (tOp (rIxL K) (tVar 0) (tC (.int 0))) tNil)) σ H8 (vI (ns.length : Int)) := fun {H8 σ} h hs => (e_cb (a_cons (hcell h hs) a_nil) (r_lenL (K := K))).weak fun v H9 _ p => (by
        rw [List.length_map, List.length_map] at p
        exact p)
      try dsimp only
      have pa : (vI p).p av H7 := p4
      refine x_if (b := decide ((10:Int) ^ ((18:Int).toNat) ≤ cell) && decide (p < (ns.length : Int))) (t_and (t_test (e_op (e_var (P := vI cell) rfl p7) (e_op e_c e_c (o_I (C := CPow) (g := fun i j => V.int (i ^ j.toNat)) ⟨by decide, by decide, by decide⟩)) (o_cmp (by rfl)))) fun _ => t_test (e_op (e_var (P := vI p) rfl pa) (hlen st7 rfl) (o_cmp (by rfl)))) (fun hb H8 e8 => ?_) (fun hb H8 e8 => ?_)
      · have st8 := stk st7 e8
        refine x_setL (p := F) (i := 2) (j := 2) (e8 _ _ k7) (e_op (e_var (P := vI cell) rfl p7) (e_var (P := vI (many : Nat)) rfl rfl) (o_I (g := fun i j => V.int (i / j)) ⟨by omega, by omega⟩)) (e_var rfl rfl) e_c rfl fun v9 H9 e9 p9 => ?_
        rw [show v9 = V.int (cell / (many : Int)) from p9]
        have st9 := put (i := 2) (v := cell / (many : Int)) (j := 2) (p' := p + 1) (g' := cell / (many : Int)) (d' := d + 1) (stk st8 e9) rfl
        try dsimp only
        refine x_ret (P := vI (cell % (many : Int))) (e_op (e_cb (a_cons (e_var (P := vI cell) rfl p7) a_nil) r_int1) (e_var (P := vI (many : Nat)) rfl rfl) (o_I (g := fun i j => V.int (i % j)) (by omega))) fun v10 H10 e10 p10 => ?_
        have hq0 := Int.emod_nonneg cell (b := (many : Int)) (by omega)
        have hq1 := Int.emod_lt_of_pos cell (b := (many : Int)) (by omega)
        exact fin (stk st9 e10) (by omega) (by omega) (by omega) (by omega) ⟨(cell % (many : Int)).toNat, by rw [show v10 = V.int (cell % (many : Int)) from p10, Int.toNat_of_nonneg hq0], by omega⟩
      · have st8 := stk st7 e8
        have hd' : ∀ {H9 σ}, St (p + 1) g (d + 1) H9 → σ[0]? = some (some (V.ref F)) → E (tOp (rIxL K) (tVar 0) (tC (.int 3))) σ H9 (vI (d + 1)) := fun {H9 σ} h hs => e_op (e_var hs (hv h)) e_c (o_ixL (P := vI (d + 1)) (atI_nat (j := 3) rfl))
        have m0 := Int.emod_nonneg cell (b := (2147483647 : Int)) (by omega)
        have m1 := Int.emod_lt_of_pos cell (b := (2147483647 : Int)) (by omega)
        have p8 : (vI cell).p cv H8 := p7
        refine x_asg (P := vEx (fun (z : Int) => 0 ≤ z ∧ z < 2147483549) fun z => vI z) ((e_op (e_cb (a_cons (e_op (e_op (e_op (e_op (e_cb (a_cons (e_var (P := vI cell) rfl p8) a_nil) r_int1) e_c (o_I (C := fun _ j => 0 < j) (g := fun i j => V.int (i % j)) (by omega))) (e_op e_c (hd' st8 rfl) (o_I (C := CMul) (g := fun i j => V.int (i * j)) (.inl ⟨by omega, by omega⟩))) (o_I0 (g := fun i j => V.int (i + j)))) e_c (o_I0 (g := fun i j => V.int (i + j)))) e_c (o_I (C := CPow) (g := fun i j => V.int (i ^ j.toNat)) ⟨by omega, by omega, by omega⟩)) a_nil) r_int1) e_c (o_I (C := fun _ j => 0 < j) (g := fun i j => V.int (i % j)) (by omega))).weak fun v H9 _ pz => ⟨_, ⟨Int.emod_nonneg _ (by omega), Int.emod_lt_of_pos _ (by omega)⟩, pz⟩) fun v1 H9 e9 ⟨z1, ⟨z10, z11⟩, pz1⟩ => ?_
        have st9 := stk st8 e9
        try dsimp only
        have hdd : (d + 1) * (d + 1) ≤ 1000000 * 1000000 := Int.mul_le_mul (by omega) (by omega) (by omega) (by omega)
        have hdd0 : 0 ≤ (d + 1) * (d + 1) := Int.mul_nonneg (by omega) (by omega)
        have hdd2 : 70327 * (d + 1) * (d + 1) = 70327 * ((d + 1) * (d + 1)) := Int.mul_assoc _ _ _
        have pa9 : (vI p).p av H9 := pa
        refine x_asg (P := vEx (fun (z : Int) => 0 ≤ z ∧ z < 2147483563) fun z => vI z) ((e_op (e_cb (a_cons (e_op (e_op (e_op (e_var (P := vI z1) rfl pz1) (e_op (e_op e_c (hd' st9 rfl) (o_I (C := CMul) (g := fun i j => V.int (i * j)) (.inl ⟨by omega, by omega⟩))) (hd' st9 rfl) (o_I (C := CMul) (g := fun i j => V.int (i * j)) (.inr ⟨by omega, by omega⟩))) (o_I0 (g := fun i j => V.int (i + j)))) (e_op e_c (e_var (P := vI p) rfl pa9) (o_I (C := CMul) (g := fun i j => V.int (i * j)) (.inl ⟨by omega, by omega⟩))) (o_I0 (g := fun i j => V.int (i + j)))) e_c (o_I (C := CPow) (g := fun i j => V.int (i ^ j.toNat)) ⟨by omega, by omega, by omega⟩)) a_nil) r_int1) e_c (o_I (C := fun _ j => 0 < j) (g := fun i j => V.int (i % j)) (by omega))).weak fun v H9 _ pz => ⟨_, ⟨Int.emod_nonneg _ (by omega), Int.emod_lt_of_pos _ (by omega)⟩, pz⟩) fun v2 H10 e10 ⟨z2, ⟨z20, z21⟩, pz2⟩ => ?_
        try dsimp only
        refine x_ret (P := vI ((z2 / 43) % (many : Int))) (e_op (e_cb (a_cons (e_op (e_var (P := vI z2) rfl pz2) e_c (o_I (C := CDiv) (g := fun i j => V.int (i / j)) ⟨by omega, by omega⟩)) a_nil) r_int1) (e_var (P := vI (many : Nat)) rfl rfl) (o_I (C := fun _ j => 0 < j) (g := fun i j => V.int (i % j)) (by omega))) fun v11 H11 e11 p11 => ?_
        have hq0 := Int.emod_nonneg (z2 / 43) (b := (many : Int)) (by omega)
        have hq1 := Int.emod_lt_of_pos (z2 / 43) (b := (many : Int)) (by omega)
        exact fin (stk (stk st9 e10) e11) (by omega) (by omega) (by omega) (by omega) ⟨((z2 / 43) % (many : Int)).toNat, by rw [show v11 = V.int ((z2 / 43) % (many : Int)) from p11, Int.toNat_of_nonneg hq0], by omega⟩

end
end K37
set_option Elab.async false
set_option linter.all false
set_option maxRecDepth 100000
set_option maxHeartbeats 2000000
/-! E20: more of expressions that draw from the feed; statements over them. -/
namespace K37
open PySem L2 Evl
theorem Fd.up {F C : Addr} {m m' : Nat} {H : Hp} (h : Fd F C m H) (hm : m ≤ m') : Fd F C m' H := by
  obtain ⟨ns, p, g, d, h1, h2, h3, h4, h5, h6, h7, h8⟩ := h
  exact ⟨ns, p, g, d, h1, h2, h3, h4, h5, by omega, h7, by omega⟩
theorem Fd.ne {F C : Addr} {m : Nat} {H : Hp} (h : Fd F C m H) : C ≠ F := by
  obtain ⟨ns, p, g, d, h1, h2, h3, h4⟩ := h
  exact h3
theorem Fd.tx2 {F C : Addr} {m : Nat} {H H1 : Hp} (h : Fd F C m H) (e : Ex (hide F H) (hide F H1)) : Tx H H1 := fun a o i h1 => hide_ex F H1 a o (e a o (h.tx a o i h1))
/-- what is new since H (the feed stood there, and D) is kept -/
theorem nk_hide {F : Addr} {H H' H1 : Hp} {u : HO} (hF : H F = some u) (e : Ex (hide F H') (hide F H1)) : NewK H H' H1 := fun a o h1 h2 => by
  have n : a ≠ F := fun z => by rw [z, hF] at h1; cases h1
  have := e a o (by rw [hide_ne n]; exact h2)
  rwa [hide_ne n] at this
theorem nk_upd {H H' H1 : Hp} {l : Addr} {u o : HO} (hl : H l = some u) (k : NewK H H' H1) : NewK H H' (L2.upd H1 l o) := fun a o' h1 h2 => by
  rw [upd_ne]
  · exact k a o' h1 h2
  · intro z
    rw [z, hl] at h1
    cases h1
theorem hide_same {l : Addr} {H : Hp} {o : HO} : hide l (L2.upd H l o) = hide l H := by
  funext x
  by_cases c : x = l
  · unfold hide
    rw [if_pos c, if_pos c]
  · rw [hide_ne c, hide_ne c, upd_ne c]
section
variable {K : PySem.W.Frag} {F C : Addr} {c c1 c2 m : Nat} {te ta tb : TE} {tr : TA} {σ : L2.St} {H : Hp} {P P1 P2 : VP} {Ps : List VP} {D : Ends} {tu tw : TS}
theorem EF.weak {P' : VP} (h : EF F C c te σ H P) (w : ∀ v H1, P.p v H1 → P'.p v H1) : EF F C c te σ H P' := fun H1 m e f hm Q q => h H1 m e f hm Q fun v H2 m2 e2 f2 l2 p => q v H2 m2 e2 f2 l2 (w _ _ p)
theorem ef_tup (h : AF F C c tr σ H Ps) (hl : Ps.length ≤ 100000) : EF F C c (tTup tr) σ H (vT Ps) := fun H1 m e f hm Q q =>
  h H1 m e f hm _ fun vs H2 m2 e2 f2 l2 ps => ⟨sz_of (by rw [ps.length]; exact hl), fun p hp => by
    obtain ⟨xs, hF⟩ := f2.lst
    have hpF : p ≠ F := fun z => by rw [z, hF] at hp; cases hp
    exact q _ _ m2 (e2.trans (exh (Ex.new hp))) (f2.ex (Ex.new hp)) l2 ⟨p, vs, rfl, by rw [hide_ne hpF]; exact upd_same, AllP.mono (exh (Ex.new hp)) ps⟩⟩
/-- a comprehension over range(n), n drawn -/
theorem ef_lcR {lo B : Nat} {vs : List Nat} {j : Nat} {G : VP} (h : EF F C c ta σ H (vEx (fun (n : Nat) => lo ≤ n ∧ n ≤ B) fun n => vI n)) (hB : B ≤ 1000) (hG : St' G) (hw : ∀ v, wipe ((wipe σ vs).set j (some v)) vs = wipe σ vs)
    (he : ∀ v H1, Ex (hide F H) (hide F H1) → EF F C c2 te ((wipe σ vs).set j (some v)) H1 G) : EF F C (c + B * c2) (tLc (iRng1 (tCons ta tNil)) (gName j) tYes te vs) σ H (vEx (fun (n : Nat) => lo ≤ n ∧ n ≤ B) fun n => vL (List.replicate n G)) := fun H0 m e0 f0 hm Q q =>
  h H0 m e0 f0 (by omega) _ fun v H1 m1 e1 f1 l1 ⟨n, hn, pn⟩ => by
    have hnc : n * c2 ≤ B * c2 := Nat.mul_le_mul hn.2 (Nat.le_refl _)
    have src : SrcF F C 0 (iRng1 fun (_ : L2.St) H Q => Q [v] H) σ H1 (rgP n) := srcF_range (n := n) (fun H2 m2 e2 f2 hm2 Q2 q2 => q2 [v] H2 m2 (Ex.refl _) f2 (by omega) ⟨v, [], rfl, pn, rfl⟩) (by omega)
    have key := ef_lc1 (te := te) (c2 := c2) (j := j) (vs := vs) (List.range n) (fun (i : Nat) => vI (i : Int)) (fun _ => G) src (by rw [List.length_range]; omega) (fun _ _ => hG) hw fun x hx u H2 e2 _ => he u H2 (e0.trans (e1.trans e2))
    rw [List.length_range] at key
    have key2 := key H1 m1 (Ex.refl _) f1 (by omega) Q fun u H2 m2 e2 f2 l2 p => q u H2 m2 (e1.trans e2) f2 (by omega) ⟨n, hn, by
      have e : (List.range n).map (fun _ => G) = List.replicate n G := by
        rw [List.map_const']
        rw [List.length_range]
      rw [e] at p
      exact p⟩
    exact key2
theorem o_ixLB {n : Nat} (h : ∀ i, i < n → ∃ P1, Ps[i]? = some P1 ∧ ∀ v H, P1.p v H → P.p v H) : O (rIxL K) (vL Ps) (vBelow n) P := fun x y H hx ⟨i, hi, hy⟩ Q q => by
  obtain ⟨P1, e1, w1⟩ := h i hi
  exact o_ixL (P := P1) (atI_nat e1) x y H hx hy Q fun v H2 e2 p => q v H2 e2 (w1 _ _ p)
/-! statements -/
theorem x_asgF {i : Nat} (h : EF F C c te σ H P) (f : Fd F C m H) (hm : m + c ≤ 1000000) (k : ∀ v H1 m1, Ex (hide F H) (hide F H1) → Fd F C m1 H1 → m1 ≤ m + c → P.p v (hide F H1) → D.nx (σ.set i (some v)) H1) : tAsg te (gName i) D σ H := h H m (Ex.refl _) f hm _ k
theorem x_asgGF {g : TG} (h : EF F C c te σ H P) (f : Fd F C m H) (hm : m + c ≤ 1000000) (k : ∀ v H1 m1, Ex (hide F H) (hide F H1) → Fd F C m1 H1 → m1 ≤ m + c → P.p v (hide F H1) → g v σ H1 D.nx) : tAsg te g D σ H := h H m (Ex.refl _) f hm _ k
theorem x_retF (h : EF F C c te σ H P) (f : Fd F C m H) (hm : m + c ≤ 1000000) (k : ∀ v H1 m1, Ex (hide F H) (hide F H1) → Fd F C m1 H1 → m1 ≤ m + c → P.p v (hide F H1) → D.rt v H1) : tRet te D σ H := h H m (Ex.refl _) f hm _ k
theorem x_ifF (h : EF F C c te σ H (vEx (fun (_ : Bool) => True) fun b => vB b)) (f : Fd F C m H) (hm : m + c ≤ 1000000) (k : ∀ (b : Bool) H1 m1, Ex (hide F H) (hide F H1) → Fd F C m1 H1 → m1 ≤ m + c → (b = true → tu D σ H1) ∧ (b = false → tw D σ H1)) : tIfS (tTest te) tu tw D σ H :=
  h H m (Ex.refl _) f hm _ fun v H1 m1 e1 f1 l1 ⟨b, _, pb⟩ => ⟨b, pb, by
    obtain ⟨k1, k2⟩ := k b H1 m1 e1 f1 l1
    cases b with
    | true => exact k1 rfl
    | false => exact k2 rfl⟩
theorem x_appG {l : Addr} {vs : List V} (hl : hide F H l = some (.lst vs)) (ha : E ta σ H (vV (.ref l))) (h : EF F C c te σ H P) (hz : vs.length < 10000000) (f : Fd F C m H) (hm : m + c ≤ 1000000)
    (k : ∀ v H1 m1, Ex (hide F H) (hide F H1) → Fd F C m1 H1 → m1 ≤ m + c → P.p v (hide F H1) → D.nx σ (L2.upd H1 l (.lst (vs ++ [v])))) : tDrop (tBM K "list" rAppend ta (tCons te tNil)) D σ H :=
  ha H (Ex.refl H) _ fun a H1 e1 p1 => by
    rw [show a = .ref l from p1]
    have hl1 : hide F H1 l = some (.lst vs) := exh e1 _ _ hl
    exact ⟨Or.inl ⟨rfl, vs, sq_of (hide_some hl1).2⟩, h H1 m (exh e1) (f.ex e1) hm _ fun v H2 m2 e2 f2 l2 p2 => ⟨l, vs, v, rfl, rfl, (hide_some (e2 _ _ hl1)).2, szMl hz, k v H2 m2 ((exh e1).trans e2) f2 l2 p2⟩⟩
theorem x_appF {l : Addr} {vs : List V} {i : Nat} (hl : hide F H l = some (.lst vs)) (hi : σ[i]? = some (some (.ref l))) (h : EF F C c te σ H P) (hz : vs.length < 10000000) (f : Fd F C m H) (hm : m + c ≤ 1000000)
    (k : ∀ v H1 m1, Ex (hide F H) (hide F H1) → Fd F C m1 H1 → m1 ≤ m + c → P.p v (hide F H1) → D.nx σ (L2.upd H1 l (.lst (vs ++ [v])))) : tDrop (tBM K "list" rAppend (tVar i) (tCons te tNil)) D σ H := x_appG hl (e_var hi rfl) h hz f hm k
end
/-! lists of drawn numbers -/
theorem allP_below {H : Hp} {b : Nat} : ∀ {n : Nat} {vs : List V}, AllP (List.replicate n (vBelow b)) vs H → ∃ w : List Nat, w.length = n ∧ (∀ x ∈ w, x < b) ∧ vs = w.map (fun (x : Nat) => V.int x)
  | 0, vs, h => ⟨[], rfl, by simp, h⟩
  | n + 1, vs, h => by
    rw [List.replicate_succ] at h
    obtain ⟨v, r, e, ⟨i, hi, pv⟩, h2⟩ := h
    obtain ⟨w, h3, h4, h5⟩ := allP_below h2
    refine ⟨i :: w, by rw [List.length_cons, h3], fun x hx => ?_, by rw [e, h5, show v = V.int i from pv]; rfl⟩
    rcases List.mem_cons.1 hx with z | z
    · rw [z]; exact hi
    · exact h4 x z
theorem isAll_nat (H : Hp) (w : List Nat) : IsAll H (w.map eN) (w.map fun (x : Nat) => V.int x) := by
  have := IsAll.of_ints (H := H) (w.map fun (x : Nat) => (x : Int))
  rw [List.map_map, List.map_map] at this
  exact this
theorem allP_nat (H : Hp) (w : List Nat) : AllP (w.map fun x => vD (eN x)) (w.map fun (x : Nat) => V.int x) H := by
  have := allP_isAll.2 (isAll_nat H w)
  rwa [map_vD] at this
/-- tuple(numbers drawn) -/
def vWd (lo B b : Nat) : VP := vEx (fun (w : List Nat) => (lo ≤ w.length ∧ w.length ≤ B) ∧ ∀ x ∈ w, x < b) fun w => vD (eW w)
theorem st_wd (lo B b : Nat) : St' (vWd lo B b) := fun _ _ _ t ⟨w, h, p⟩ => ⟨w, h, st_d _ _ _ _ t p⟩
theorem r_tupB {K : PySem.W.Frag} {lo B b : Nat} : R (rTupOf K) [vEx (fun (n : Nat) => lo ≤ n ∧ n ≤ B) fun n => vL (List.replicate n (vBelow b))] (vWd lo B b) := fun vs H h Q q => by
  obtain ⟨v, r, e, ⟨n, hn, a, ws, h3, h4, h5⟩, h2⟩ := h
  rw [show r = [] from h2] at e
  obtain ⟨w, w1, w2, w3⟩ := allP_below h5
  refine ⟨a, ws, by rw [e, h3], .inl ⟨sq_of h4, fun l hl => q _ _ (Ex.new hl) ⟨w, ⟨by rw [w1]; exact hn, w2⟩, is_t.2 ⟨l, ws, rfl, upd_same, ?_⟩⟩⟩⟩
  rw [w3]
  exact isAll_nat _ w
section
variable {K : PySem.W.Frag} {F C : Addr} {c m : Nat} {te ta tb : TE} {tr : TA} {σ : L2.St} {H : Hp} {P P1 P2 : VP} {Ps : List VP} {D : Ends} {tu tw : TS} {Ex' : XK}
theorem e_cN (k : Nat) : E (tC (.int (k : Int))) σ H (vD (eN k)) := e_cn
theorem st_ints (ns : List Int) : ∀ P ∈ ns.map (fun i => vI i), St' P := fun P hP => by
  obtain ⟨r, _, rfl⟩ := List.mem_map.1 hP
  exact st_v _
/-- _law_pick(feed, n) -/
theorem ef_pickE {n : Nat} (hf : σ[0]? = some (some (.ref F))) (h : E te σ (hide F H) (vI n)) (h1 : 1 ≤ n) (h2 : n ≤ 10) : EF F C 1 (tCall sp_law_pick [] Ex' (tCons (tVar 0) (tCons te tNil))) σ H (vBelow n) :=
  ef_pick (c := 0) (af_cons (c1 := 0) (c2 := 0) (ef_var (P := vV (.ref F)) hf rfl) (af_cons (c1 := 0) (c2 := 0) (ef_lift h (st_v _)) af_nil)) h1 h2
theorem o_cmpB {g : Int → Int → V} {n : Nat} {j : Int} (h : ∀ i : Int, ∃ b, g i j = .bl b) : O (rI0 g) (vBelow n) (vI j) (vEx (fun (_ : Bool) => True) fun b => vB b) := fun x y H ⟨i, _, hx⟩ hy Q q => by
  obtain ⟨b, hb⟩ := h i
  exact ⟨i, j, hx, hy, q _ H (Ex.refl H) ⟨b, trivial, hb⟩⟩
theorem st_bool : St' (vEx (fun (_ : Bool) => True) fun b => vB b) := fun _ _ _ _ h => h
theorem o_add1 {n : Nat} : O (rI0 fun i j => V.int (i + j)) (vI 1) (vBelow n) (vEx (fun (k : Nat) => 1 ≤ k ∧ k ≤ n) fun k => vI k) := fun x y H hx ⟨i, hi, hy⟩ Q q =>
  ⟨1, i, hx, hy, q _ H (Ex.refl H) ⟨i + 1, ⟨by omega, by omega⟩, by show V.int (1 + (i : Int)) = V.int ((i + 1 : Nat) : Int); congr 1; omega⟩⟩
theorem st_nums {c : Nat → Prop} : St' (vEx c fun (k : Nat) => vI k) := fun _ _ _ _ h => h
theorem allP_set {H : Hp} {P : VP} {v : V} : ∀ {Ps : List VP} {vs : List V} (j : Nat), AllP Ps vs H → P.p v H → AllP (Ps.set j P) (vs.set j v) H
  | [], vs, j, h, _ => by rw [show vs = [] from h]; rfl
  | P0 :: Ps, _, 0, ⟨u, r, e, h1, h2⟩, hp => by rw [e]; exact ⟨v, r, rfl, hp, h2⟩
  | P0 :: Ps, _, j + 1, ⟨u, r, e, h1, h2⟩, hp => by rw [e]; exact ⟨u, r.set j v, rfl, h1, allP_set j h2 hp⟩
theorem tx_updL {H : Hp} {a : Addr} {o : HO} {xs : List V} (h : H a = some (.lst xs)) : Tx H (L2.upd H a o) := Tx.updL h
/-- if not e: .. -/
theorem x_ifN {c : Bool → Prop} (h : E te σ H (vEx c fun b => vB b)) (k1 : ∀ H1, Ex H H1 → c false → tu D σ H1) (k2 : ∀ H1, Ex H H1 → c true → tw D σ H1) : tIfS (tNot (tB te)) tu tw D σ H := h H (Ex.refl H) _ fun v H1 e1 ⟨b, hb, pb⟩ => ⟨b, pb, by
  cases b with
  | true => exact k2 H1 e1 hb
  | false => exact k1 H1 e1 hb⟩
end
end K37
set_option Elab.async false
set_option linter.all false
set_option maxRecDepth 100000
set_option maxHeartbeats 2000000
/-! W22: the law, the feed. -/
namespace K37
open PySem L2 Evl
section
variable {P : Program} {w : World} {K : PySem.W.Frag} {mg : Str → Option Value} {base : Heap}

/-- _law_feed: a new list of four -/
def sp_law_feed (K : PySem.W.Frag) : Sp := fun vs H Q _ => ∃ (a : Addr) (ns : List Int), vs = [.ref a] ∧ SqL K H a (ns.map V.int) ∧ ns.length ≤ 63 ∧
  ∀ F C H', H F = none → Ex H H' → Fd F C 0 H' → Q (.ref F) H'
abbrev n_law_feed : List Str := ["_law_script"]
theorem sc_law_feed : FnScope n_law_feed ["_law_script"] (defScope st_law_feed) := ⟨rfl, rfl, rfl, by decide +kernel, rfl, by decide +kernel, by decide +kernel⟩
theorem ok_law_feed (F : Df K mg "_law_feed" st_law_feed []) (B : Bi mg) : Cb P w K mg base "_law_feed" 1 ["_law_script"] [] (sp_law_feed K) := by
  refine F.okS sc_law_feed (fun vs H Q E h => by obtain ⟨a, ns, e, _⟩ := h; rw [e]; rfl) (fun _ _ _ _ _ _ us hl => match us, hl with | [_], _ => rfl) fun f cdv A outer s H Ex' hr => ?_
  refine ⟨_, pss_one (ps_ret (pe_lst (pa_cons (bLst K B (pe_slice sl_list (pv 0) po_none (po_some pe_int))) (pa_cons (pe_int) (pa_cons (pe_int) (pa_cons (pe_int) pa_nil)))))), ?_⟩
  rintro vs Q ⟨a, ns, rfl, ha, hn, k⟩
  refine ⟨_, rfl, 63, rfl, a, ns.map V.int, rfl, ha, fun p hp => ?_⟩
  have hcut : cutV (ns.map V.int) none (some 63) = ns.map V.int := by
    unfold cutV
    have e1 : HT.sIx (ns.map V.int).length (ns.map V.int).length (some 63) = min 63 (ns.map V.int).length := HT.sIx_nat _ _ 63
    rw [e1, HT.sIx_none, List.drop_zero, Nat.sub_zero, Nat.min_eq_right (by rw [List.length_map]; exact hn), List.take_length]
  rw [hcut]
  refine ⟨p, ns.map V.int, rfl, .inl (sq_of upd_same), fun C hC => ⟨sz_of (by simp), fun G hG => ?_⟩⟩
  have e1 : Ex H (L2.upd H p (.lst (ns.map V.int))) := Ex.new hp
  have e2 := e1.trans (Ex.new (o := .lst (ns.map V.int)) hC)
  have e3 := e2.trans (Ex.new (o := .lst [V.ref C, V.int 0, V.int 0, V.int 0]) hG)
  have hne : C ≠ G := fun z => by
    rw [← z, upd_same] at hG
    cases hG
  exact k G C _ (fresh_back e2 hG) e3 ⟨ns, 0, 0, 0, upd_same, by rw [upd_ne hne]; exact upd_same, hne, hn, by omega, by omega, by omega, by omega⟩

end
end K37
set_option Elab.async false
set_option linter.all false
set_option maxRecDepth 100000
set_option maxHeartbeats 2000000
/-! W23: the law, a rule. -/
namespace K37
open PySem L2 Evl
section
variable {P : Program} {w : World} {K : PySem.W.Frag} {mg : Str → Option Value} {base : Heap}

theorem told_good0 : Good [[0, 1], [1, 0]] := good_of (k := 1) (by decide +kernel) (by decide +kernel) (by decide) (by decide) (by decide +kernel) (by decide +kernel) (by decide) (by unfold FullAt; decide +kernel)
theorem told_good1 : Good [[0, 1], [0]] := good_of (k := 2) (by decide +kernel) (by decide +kernel) (by decide) (by decide) (by decide +kernel) (by decide +kernel) (by decide) (by unfold FullAt; decide +kernel)
theorem told_good2 : Good [[0, 1], [0, 0]] := good_of (k := 2) (by decide +kernel) (by decide +kernel) (by decide) (by decide) (by decide +kernel) (by decide +kernel) (by decide) (by unfold FullAt; decide +kernel)
theorem told_good3 : Good [[0, 1], [0, 2], [0]] := good_of (k := 3) (by decide +kernel) (by decide +kernel) (by decide) (by decide) (by decide +kernel) (by decide +kernel) (by decide) (by unfold FullAt; decide +kernel)
theorem told_good4 : Good [[0, 1], [0, 1]] := good_of (k := 1) (by decide +kernel) (by decide +kernel) (by decide) (by decide) (by decide +kernel) (by decide +kernel) (by decide) (by unfold FullAt; decide +kernel)
theorem told_good5 : Good [[0, 0]] := good_of (k := 0) (by decide +kernel) (by decide +kernel) (by decide) (by decide) (by decide +kernel) (by decide +kernel) (by decide) (by unfold FullAt; decide +kernel)
theorem told_good6 : Good [[0, 1, 0], [1, 0, 1]] := good_of (k := 1) (by decide +kernel) (by decide +kernel) (by decide) (by decide) (by decide +kernel) (by decide +kernel) (by decide) (by unfold FullAt; decide +kernel)
theorem told_good7 : Good [[0, 1, 1], [0]] := good_of (k := 2) (by decide +kernel) (by decide +kernel) (by decide) (by decide) (by decide +kernel) (by decide +kernel) (by decide) (by unfold FullAt; decide +kernel)
theorem told_good8 : Good [[1], [2], [0, 1]] := good_of (k := 5) (by decide +kernel) (by decide +kernel) (by decide) (by decide) (by decide +kernel) (by decide +kernel) (by decide) (by unfold FullAt; decide +kernel)
theorem told_good9 : Good [[0, 1, 2], [1, 2, 0], [2, 0, 1]] := good_of (k := 1) (by decide +kernel) (by decide +kernel) (by decide) (by decide) (by decide +kernel) (by decide +kernel) (by decide) (by unfold FullAt; decide +kernel)
def told1 : List (List (List Nat)) := [[[0, 1], [1, 0]], [[0, 1], [0]], [[0, 1], [0, 0]], [[0, 1], [0, 2], [0]], [[0, 1], [0, 1]], [[0, 0]]]
def told2 : List (List (List Nat)) := [[[0, 1, 0], [1, 0, 1]], [[0, 1, 1], [0]], [[1], [2], [0, 1]], [[0, 1, 2], [1, 2, 0], [2, 0, 1]]]
theorem told_good : ∀ r ∈ told1 ++ told2, Good r := by
  intro r hr
  unfold told1 told2 at hr
  simp only [List.mem_append, List.mem_cons, List.not_mem_nil, or_false] at hr
  rcases hr with (hr | hr | hr | hr | hr | hr) | (hr | hr | hr | hr) <;> subst hr
  all_goals first | exact told_good0 | exact told_good1 | exact told_good2 | exact told_good3 | exact told_good4 | exact told_good5 | exact told_good6 | exact told_good7 | exact told_good8 | exact told_good9

theorem st_told (rs : List (List (List Nat))) : ∀ P ∈ rs.map (fun r => vD (eR r)), St' P := fun P hP => by
  obtain ⟨r, _, rfl⟩ := List.mem_map.1 hP
  exact st_d _
/-- a rule of words 1 to 3 long, made so that it grows -/
def fixr (r : List (List Nat)) : List (List Nat) := (List.range r.length).map fun a => (r.getD a []).take 2 ++ [(a + 1) % r.length]
theorem fixr_len (r : List (List Nat)) : (fixr r).length = r.length := by simp [fixr]
theorem fixr_get {r : List (List Nat)} {a : Nat} (h : a < r.length) : (fixr r).getD a [] = (r.getD a []).take 2 ++ [(a + 1) % r.length] := by
  unfold fixr
  rw [List.getD_eq_getElem?_getD, List.getElem?_map, List.getElem?_range h]
  rfl
def fixr0 (r : List (List Nat)) : List (List Nat) := (fixr r).set 0 ((fixr r).getD 0 [] ++ [0])
theorem fixr0_len (r : List (List Nat)) : (fixr0 r).length = r.length := by simp [fixr0, fixr_len]
theorem fixr0_get {r : List (List Nat)} {a : Nat} (h : a < r.length) : (fixr0 r).getD a [] = (r.getD a []).take 2 ++ [(a + 1) % r.length] ++ (if a = 0 then [0] else []) := by
  unfold fixr0
  rw [List.getD_eq_getElem?_getD, List.getElem?_set]
  by_cases c : 0 = a
  · subst c
    rw [if_pos rfl, if_pos (by rw [fixr_len]; exact h), if_pos rfl, fixr_get h]
    rfl
  · rw [if_neg c, if_neg (Ne.symm c), List.append_nil, ← List.getD_eq_getElem?_getD, fixr_get h]
theorem fixr_good {r : List (List Nat)} (g : Ru r) : Good (fixr0 r) := by
  have h0 := g.pos
  have h4 := g.four
  have hl := fixr0_len r
  refine good_ring ?_ ?_ (by omega) (by omega) ?_ ⟨0, by omega, ?_⟩ ?_ ?_
  · intro a ha
    rw [hl] at ha
    rw [fixr0_get ha]
    simp
  · intro a ha b hb
    rw [hl] at ha ⊢
    rw [fixr0_get ha] at hb
    rcases List.mem_append.1 hb with hb | hb
    · rcases List.mem_append.1 hb with hb | hb
      · exact g.lt a ha b (List.mem_of_mem_take hb)
      · rw [List.mem_singleton.1 hb]
        exact Nat.mod_lt _ h0
    · split at hb
      · rw [List.mem_singleton.1 hb]
        exact h0
      · cases hb
  · intro a ha
    rw [hl] at ha
    rw [fixr0_get ha]
    have : ((r.getD a []).take 2).length ≤ 2 := by rw [List.length_take]; omega
    split <;> simp only [List.length_append, List.length_singleton, List.length_nil] <;> omega
  · rw [fixr0_get h0, if_pos rfl]
    simp only [List.length_append, List.length_singleton]
    omega
  · intro a ha
    rw [hl] at ha ⊢
    rw [fixr0_get ha]
    simp
  · rw [fixr0_get h0, if_pos rfl]
    simp

/-! _law_rule -/
def vGood : VP := vEx (fun (r : List (List Nat)) => Good r) fun r => vD (eR r)
theorem st_good : St' vGood := fun _ _ _ t ⟨r, h, p⟩ => ⟨r, h, st_d _ _ _ _ t p⟩
def sp_law_rule : Sp := fun vs H Q _ => ∃ (F C : Addr) (m : Nat), vs = [.ref F] ∧ Fd F C m H ∧ m + 20 ≤ 1000000 ∧ ∀ v H', Ex (hide F H) (hide F H') → Fd F C (m + 20) H' → vGood.p v (hide F H') → Q v H'
abbrev n_law_rule : List Str := ["_law_feed_here", "_law_told", "_law_many", "_law_found", "_law_a", "_law_j"]
theorem sc_law_rule : FnScope n_law_rule ["_law_feed_here"] (defScope st_law_rule) := ⟨rfl, rfl, rfl, by decide +kernel, rfl, by decide +kernel, by decide +kernel⟩
theorem ok_law_rule (F : Df K mg "_law_rule" st_law_rule []) (B : Bi mg) (c_law_pick : Cb P w K mg base "_law_pick" 1 ["_law_feed_here", "_law_many"] [] sp_law_pick) (c_law_grown : Cb P w K mg base "_law_grown" 1 ["_law_lead"] [] sp_law_grown) : Cb P w K mg base "_law_rule" 2 ["_law_feed_here"] [] sp_law_rule := by
  refine F.okS sc_law_rule (fun vs H Q E h => by obtain ⟨F, C, m, e, _⟩ := h; rw [e]; rfl) (fun _ _ _ _ _ _ us hl => match us, hl with | [_], _ => rfl) fun f cdv A outer s H Ex' hr => ?_
  refine ⟨_, pss_cons (ps_set (i := 1) sc_law_rule.nd rfl (Or.inl rfl) (pe_lst (pa_cons (pe_tup (pa_cons (pe_tup (pa_cons (pe_int) (pa_cons (pe_int) (pa_nil)))) (pa_cons (pe_tup (pa_cons (pe_int) (pa_cons (pe_int) (pa_nil)))) (pa_nil)))) (pa_cons (pe_tup (pa_cons (pe_tup (pa_cons (pe_int) (pa_cons (pe_int) (pa_nil)))) (pa_cons (pe_tup (pa_cons (pe_int) (pa_nil))) (pa_nil)))) (pa_cons (pe_tup (pa_cons (pe_tup (pa_cons (pe_int) (pa_cons (pe_int) (pa_nil)))) (pa_cons (pe_tup (pa_cons (pe_int) (pa_cons (pe_int) (pa_nil)))) (pa_nil)))) (pa_cons (pe_tup (pa_cons (pe_tup (pa_cons (pe_int) (pa_cons (pe_int) (pa_nil)))) (pa_cons (pe_tup (pa_cons (pe_int) (pa_cons (pe_int) (pa_nil)))) (pa_cons (pe_tup (pa_cons (pe_int) (pa_nil))) (pa_nil))))) (pa_cons (pe_tup (pa_cons (pe_tup (pa_cons (pe_int) (pa_cons (pe_int) (pa_nil)))) (pa_cons (pe_tup (pa_cons (pe_int) (pa_cons (pe_int) (pa_nil)))) (pa_nil)))) (pa_cons (pe_tup (pa_cons (pe_tup (pa_cons (pe_int) (pa_cons (pe_int) (pa_nil)))) (pa_nil))) (pa_nil)))))))))
    (pss_cons (ps_set (i := 1) sc_law_rule.nd rfl (Or.inl rfl) (pe_op op_cat (pv 1) (pe_lst (pa_cons (pe_tup (pa_cons (pe_tup (pa_cons (pe_int) (pa_cons (pe_int) (pa_cons (pe_int) (pa_nil))))) (pa_cons (pe_tup (pa_cons (pe_int) (pa_cons (pe_int) (pa_cons (pe_int) (pa_nil))))) (pa_nil)))) (pa_cons (pe_tup (pa_cons (pe_tup (pa_cons (pe_int) (pa_cons (pe_int) (pa_cons (pe_int) (pa_nil))))) (pa_cons (pe_tup (pa_cons (pe_int) (pa_nil))) (pa_nil)))) (pa_cons (pe_tup (pa_cons (pe_tup (pa_cons (pe_int) (pa_nil))) (pa_cons (pe_tup (pa_cons (pe_int) (pa_nil))) (pa_cons (pe_tup (pa_cons (pe_int) (pa_cons (pe_int) (pa_nil)))) (pa_nil))))) (pa_cons (pe_tup (pa_cons (pe_tup (pa_cons (pe_int) (pa_cons (pe_int) (pa_cons (pe_int) (pa_nil))))) (pa_cons (pe_tup (pa_cons (pe_int) (pa_cons (pe_int) (pa_cons (pe_int) (pa_nil))))) (pa_cons (pe_tup (pa_cons (pe_int) (pa_cons (pe_int) (pa_cons (pe_int) (pa_nil))))) (pa_nil))))) (pa_nil))))))))
    (pss_cons (ps_if (pt_cmpR op_lt (pe_cb c_law_pick (hr.mono (by decide)) rfl (pa_cons (pv 0) (pa_cons (pe_int) pa_nil))) pe_int (by rfl)) (pss_one (ps_ret (ixL K (pv 1) (pe_cb c_law_pick (hr.mono (by decide)) rfl (pa_cons (pv 0) (pa_cons (pe_int) pa_nil)))))) pss_nil)
    (pss_cons (ps_asg (pe_tup (pa_cons (ixL K (pe_lst (pa_cons (pe_int) (pa_cons (pe_int) (pa_cons (pe_int) (pa_cons (pe_int) (pa_cons (pe_int) (pa_cons (pe_int) (pa_cons (pe_int) (pa_cons (pe_int) (pa_nil)))))))))) (pe_cb c_law_pick (hr.mono (by decide)) rfl (pa_cons (pv 0) (pa_cons (pe_int) pa_nil)))) (pa_cons (pe_lst pa_nil) pa_nil))) (pg_tup rfl (pgs_cons (pg_name (i := 2) sc_law_rule.nd rfl (Or.inr rfl)) (pgs_cons (pg_name (i := 3) sc_law_rule.nd rfl (Or.inr rfl)) pgs_nil))))
    (pss_cons (ps_for PassesOwn.never rfl (itRg B (pv 2)) (pg_name (i := 4) sc_law_rule.nd rfl (Or.inl rfl)) (pss_one (ps_expr (pe_bm PySem.F.plainAttrs_list PySem.F.slot_list_append PySem.F.type_list_append mt_append (pv 3) (pa_cons (bTup K B (pe_lc (own := [("_law_j", 5)]) (g := gName 5) (tt := tYes) rfl sc_law_rule.nd (itRg B (pe_op op_add pe_int (pe_cb c_law_pick (hr.mono (by decide)) rfl (pa_cons (pv 0) (pa_cons (pe_int) pa_nil))))) (blkOk_by (N := n_law_rule) (sc := defScope st_law_rule) (by decide +kernel)) (fun _ _ _ _ _ => pg_name (i := 5) sc_law_rule.nd rfl (Or.inl rfl)) (fun _ _ _ _ _ => pts_nil) (fun _ _ _ _ _ => pe_cb c_law_pick (hr.mono (by decide)) rfl (pa_cons (pv 0) (pa_cons (pv 2) pa_nil))))) pa_nil)))))
    (pss_cons (ps_if (pt_not (pt_val (pe_cb c_law_grown (hr.mono (by decide)) rfl (pa_cons (bTup K B (pv 3)) pa_nil)))) (pss_cons (ps_set (i := 3) sc_law_rule.nd rfl (Or.inr rfl) (pe_lc (own := [("_law_a", 4)]) (g := gName 4) (tt := tYes) rfl sc_law_rule.nd (itRg B (pv 2)) (blkOk_by (N := n_law_rule) (sc := defScope st_law_rule) (by decide +kernel)) (fun _ _ _ _ _ => pg_name (i := 4) sc_law_rule.nd rfl (Or.inl rfl)) (fun _ _ _ _ _ => pts_nil) (fun _ _ _ _ _ => bCatT K (slT K (ixL K (pv 3) (pv 4)) po_none (po_some pe_int)) (pe_tup (pa_cons (pe_op op_mod (bInt B (pe_op op_add (pv 4) pe_int)) (pv 2)) pa_nil)))))
    (pss_one (ps_asg (bCatT K (ixL K (pv 3) pe_int) (pe_tup (pa_cons pe_int pa_nil))) (pg_sub (pv 3) pe_int set_list)))) pss_nil)
    (pss_one (ps_ret (bTup K B (pv 3))))))))), ?_⟩
  rintro vs Q ⟨F, C, m, rfl, f0, hm, k⟩
  refine x_asgF (c := 0) (ef_new (Ps := told1.map fun r => vD (eR r)) (en_lst (Ps := [vD (eR [[0, 1], [1, 0]]), vD (eR [[0, 1], [0]]), vD (eR [[0, 1], [0, 0]]), vD (eR [[0, 1], [0, 2], [0]]), vD (eR [[0, 1], [0, 1]]), vD (eR [[0, 0]])]) (a_cons (e_tupD (ds := [eW [0, 1], eW [1, 0]]) (a_cons (e_tupD (ds := [eN 0, eN 1]) (a_cons (e_cN 0) (a_cons (e_cN 1) (a_nil))) (by decide)) (a_cons (e_tupD (ds := [eN 1, eN 0]) (a_cons (e_cN 1) (a_cons (e_cN 0) (a_nil))) (by decide)) (a_nil))) (by decide)) (a_cons (e_tupD (ds := [eW [0, 1], eW [0]]) (a_cons (e_tupD (ds := [eN 0, eN 1]) (a_cons (e_cN 0) (a_cons (e_cN 1) (a_nil))) (by decide)) (a_cons (e_tupD (ds := [eN 0]) (a_cons (e_cN 0) (a_nil)) (by decide)) (a_nil))) (by decide)) (a_cons (e_tupD (ds := [eW [0, 1], eW [0, 0]]) (a_cons (e_tupD (ds := [eN 0, eN 1]) (a_cons (e_cN 0) (a_cons (e_cN 1) (a_nil))) (by decide)) (a_cons (e_tupD (ds := [eN 0, eN 0]) (a_cons (e_cN 0) (a_cons (e_cN 0) (a_nil))) (by decide)) (a_nil))) (by decide)) (a_cons (e_tupD (ds := [eW [0, 1], eW [0, 2], eW [0]]) (a_cons (e_tupD (ds := [eN 0, eN 1]) (a_cons (e_cN 0) (a_cons (e_cN 1) (a_nil))) (by decide)) (a_cons (e_tupD (ds := [eN 0, eN 2]) (a_cons (e_cN 0) (a_cons (e_cN 2) (a_nil))) (by decide)) (a_cons (e_tupD (ds := [eN 0]) (a_cons (e_cN 0) (a_nil)) (by decide)) (a_nil)))) (by decide)) (a_cons (e_tupD (ds := [eW [0, 1], eW [0, 1]]) (a_cons (e_tupD (ds := [eN 0, eN 1]) (a_cons (e_cN 0) (a_cons (e_cN 1) (a_nil))) (by decide)) (a_cons (e_tupD (ds := [eN 0, eN 1]) (a_cons (e_cN 0) (a_cons (e_cN 1) (a_nil))) (by decide)) (a_nil))) (by decide)) (a_cons (e_tupD (ds := [eW [0, 0]]) (a_cons (e_tupD (ds := [eN 0, eN 0]) (a_cons (e_cN 0) (a_cons (e_cN 0) (a_nil))) (by decide)) (a_nil)) (by decide)) (a_nil))))))) (by decide)) (st_told _)) f0 (by omega) fun tv H1 m1 e1 f1 l1 p1 => ?_
  refine x_asgF (c := 0) (ef_new (Ps := told1.map (fun r => vD (eR r)) ++ told2.map fun r => vD (eR r)) (en_cat (e_var rfl p1) (EN.e (Ps := told2.map fun r => vD (eR r)) (en_lst (Ps := [vD (eR [[0, 1, 0], [1, 0, 1]]), vD (eR [[0, 1, 1], [0]]), vD (eR [[1], [2], [0, 1]]), vD (eR [[0, 1, 2], [1, 2, 0], [2, 0, 1]])]) (a_cons (e_tupD (ds := [eW [0, 1, 0], eW [1, 0, 1]]) (a_cons (e_tupD (ds := [eN 0, eN 1, eN 0]) (a_cons (e_cN 0) (a_cons (e_cN 1) (a_cons (e_cN 0) (a_nil)))) (by decide)) (a_cons (e_tupD (ds := [eN 1, eN 0, eN 1]) (a_cons (e_cN 1) (a_cons (e_cN 0) (a_cons (e_cN 1) (a_nil)))) (by decide)) (a_nil))) (by decide)) (a_cons (e_tupD (ds := [eW [0, 1, 1], eW [0]]) (a_cons (e_tupD (ds := [eN 0, eN 1, eN 1]) (a_cons (e_cN 0) (a_cons (e_cN 1) (a_cons (e_cN 1) (a_nil)))) (by decide)) (a_cons (e_tupD (ds := [eN 0]) (a_cons (e_cN 0) (a_nil)) (by decide)) (a_nil))) (by decide)) (a_cons (e_tupD (ds := [eW [1], eW [2], eW [0, 1]]) (a_cons (e_tupD (ds := [eN 1]) (a_cons (e_cN 1) (a_nil)) (by decide)) (a_cons (e_tupD (ds := [eN 2]) (a_cons (e_cN 2) (a_nil)) (by decide)) (a_cons (e_tupD (ds := [eN 0, eN 1]) (a_cons (e_cN 0) (a_cons (e_cN 1) (a_nil))) (by decide)) (a_nil)))) (by decide)) (a_cons (e_tupD (ds := [eW [0, 1, 2], eW [1, 2, 0], eW [2, 0, 1]]) (a_cons (e_tupD (ds := [eN 0, eN 1, eN 2]) (a_cons (e_cN 0) (a_cons (e_cN 1) (a_cons (e_cN 2) (a_nil)))) (by decide)) (a_cons (e_tupD (ds := [eN 1, eN 2, eN 0]) (a_cons (e_cN 1) (a_cons (e_cN 2) (a_cons (e_cN 0) (a_nil)))) (by decide)) (a_cons (e_tupD (ds := [eN 2, eN 0, eN 1]) (a_cons (e_cN 2) (a_cons (e_cN 0) (a_cons (e_cN 1) (a_nil)))) (by decide)) (a_nil)))) (by decide)) (a_nil))))) (by decide))) (by decide)) (fun P hP => (List.mem_append.1 hP).elim (st_told _ P) (st_told _ P))) f1 (by omega) fun tv H2 m2 e2 f2 l2 p2 => ?_
  try dsimp only [List.set]
  refine x_ifF (ef_op (c1 := 1) (c2 := 0) (P1 := vBelow 5) (P2 := vI 2) (ef_pickE (n := 5) rfl e_c (by decide) (by decide)) (ef_lift e_c (st_v _)) (o_cmpB fun i => ⟨_, rfl⟩) st_bool) f2 (by omega) fun b H3 m3 e3 f3 l3 => ⟨fun hb => ?_, fun hb => ?_⟩
  · have p3 := (vL _).mono e3 p2
    refine x_retF (ef_op (c1 := 0) (c2 := 1) (P2 := vBelow 10) (P := vGood) (ef_var (P := vL (told1.map (fun r => vD (eR r)) ++ told2.map fun r => vD (eR r))) rfl p3) (ef_pickE (n := 10) rfl e_c (by decide) (by decide)) (o_ixLB fun i hi => ?_) st_good) f3 (by omega) fun v H4 m4 e4 f4 l4 p4 => ?_
    · rw [← List.map_append]
      have hl : (told1 ++ told2).length = 10 := rfl
      refine ⟨vD (eR ((told1 ++ told2)[i]'(by omega))), ?_, fun v H p => ⟨_, told_good _ (List.getElem_mem _), p⟩⟩
      rw [List.getElem?_map, List.getElem?_eq_getElem (by omega)]
      rfl
    · exact k v H4 (e1.trans (e2.trans (e3.trans e4))) (f4.up (by omega)) p4
  · try unfold tNext
    try dsimp only
    refine ef_op (c1 := 0) (c2 := 1) (P2 := vBelow 8) (P := vEx (fun (n : Nat) => 1 ≤ n ∧ n ≤ 4) fun n => vI n) (ef_new (Ps := ([2, 2, 3, 2, 3, 1, 4, 2] : List Int).map fun i => vI i) (en_lst (Ps := [vI 2, vI 2, vI 3, vI 2, vI 3, vI 1, vI 4, vI 2]) (a_cons (e_c) (a_cons (e_c) (a_cons (e_c) (a_cons (e_c) (a_cons (e_c) (a_cons (e_c) (a_cons (e_c) (a_cons (e_c) (a_nil))))))))) (by decide)) (st_ints _)) (ef_pickE (n := 8) rfl e_c (by decide) (by decide)) (o_ixLB fun i hi => ?_) st_nums H3 m3 (Ex.refl _) f3 (by omega) _ fun nv H4 m4 e4 f4 l4 ⟨many, hmany, pn⟩ => ?_
    · have hi8 : i = 0 ∨ i = 1 ∨ i = 2 ∨ i = 3 ∨ i = 4 ∨ i = 5 ∨ i = 6 ∨ i = 7 := by omega
      rcases hi8 with rfl | rfl | rfl | rfl | rfl | rfl | rfl | rfl
      all_goals first
        | exact ⟨_, rfl, fun v H p => ⟨1, by decide, p⟩⟩
        | exact ⟨_, rfl, fun v H p => ⟨2, by decide, p⟩⟩
        | exact ⟨_, rfl, fun v H p => ⟨3, by decide, p⟩⟩
        | exact ⟨_, rfl, fun v H p => ⟨4, by decide, p⟩⟩
    have hnv : nv = V.int (many : Nat) := pn
    subst hnv
    refine en_lst (Ps := []) a_nil (by decide) H4 (Ex.refl _) _ fun l ls H5 hl0 e5 hl hls => ?_
    rw [show ls = [] from hls] at hl
    refine ⟨sz_of (by simp), fun t ht => ⟨t, _, rfl, st_of upd_same, rfl, _, [V.ref l], rfl, .ref l, [], rfl, rfl, ?_⟩⟩
    obtain ⟨H6, h6⟩ : ∃ H6, L2.upd H5 t (.tup [V.int (many : Nat), V.ref l]) = H6 := ⟨_, rfl⟩
    have e6 : Ex H5 H6 := by rw [← h6]; exact Ex.new ht
    rw [h6]
    try dsimp only [List.set]
    have e04 : Ex (hide F H) (hide F H4) := e1.trans (e2.trans (e3.trans e4))
    have hln : hide F H l = none := fresh_back e04 (hide_none hl0)
    have hlF : l ≠ F := fun z => by
      obtain ⟨xs, hF⟩ := f4.lst
      rw [z, hF] at hl0
      cases hl0
    have hlC : l ≠ C := fun z => by
      obtain ⟨xs, hC⟩ := f4.cell
      rw [z, hC] at hl0
      cases hl0
    have e06 : Ex (hide F H) (hide F H6) := e04.trans (exh (e5.trans e6))
    have f6 : Fd F C m4 H6 := f4.ex (e5.trans e6)
    have hl6 : H6 l = some (.lst []) := e6 _ _ hl
    obtain ⟨xsF, hF6⟩ := f6.lst
    refine x_forN (j := 4) (List.range many) (fun i => vI (i : Nat)) (src0_range (n := many) (a_cons (e_var rfl rfl) a_nil) (by omega)) (fun pre σ' H' => ∃ (a : Option V) (m' : Nat) (ws : List (List Nat)) (vs : List V), σ' = [some (.ref F), some tv, some (.int (many : Nat)), some (.ref l), a, none] ∧ Ex (hide F H) (hide F H') ∧ Fd F C m' H' ∧ m' ≤ m4 + 4 * pre.length ∧ hide F H' l = some (.lst vs) ∧ AllP (ws.map fun w => vD (eW w)) vs (hide F H') ∧ ws.length = pre.length ∧ ∀ w ∈ ws, (1 ≤ w.length ∧ w.length ≤ 3) ∧ ∀ x ∈ w, x < many)
      (fun H7 e7 => ⟨none, m4, [], [], rfl, e06.trans (exh e7), f6.ex e7, by simp, by rw [hide_ne hlF]; exact e7 _ _ hl6, rfl, rfl, by simp⟩) ?_ ?_
    · rintro pre i post hx v σ' H' pv ⟨a, m', ws, vs, rfl, eH, f', lm, hvs, hall, hlen, hws⟩ N hN
      have hpl : pre.length < many := by
        have := congrArg List.length hx
        rw [List.length_range, List.length_append, List.length_cons] at this
        omega
      have hvl : vs.length = pre.length := by rw [hall.length, List.length_map, hlen]
      refine x_appF (l := l) (vs := vs) (P := vWd 1 3 many) hvs rfl (ef_cb (af_cons (c2 := 0) (ef_lcR (lo := 1) (B := 3) (c := 1) (c2 := 1) (G := vBelow many) (ef_op (c1 := 0) (c2 := 1) (P1 := vI 1) (P2 := vBelow 3) (ef_lift e_c (st_v _)) (ef_pickE (n := 3) rfl e_c (by decide) (by decide)) o_add1 st_nums) (by decide) (st_below _) (fun _ => rfl) (fun u H7 e7 => ef_pickE (n := many) rfl (e_var rfl rfl) hmany.1 (by omega))) af_nil) r_tupB (st_wd _ _ _)) (by omega) f' (by omega) fun wv H7 m7 e7 f7 l7 p7 => ?_
      obtain ⟨u, hu, pu⟩ := p7
      obtain ⟨H8, h8⟩ : ∃ H8, L2.upd H7 l (.lst (vs ++ [wv])) = H8 := ⟨_, rfl⟩
      have hl7 : H7 l = some (.lst vs) := (hide_some (e7 _ _ hvs)).2
      have h78 : hide F H8 = L2.upd (hide F H7) l (.lst (vs ++ [wv])) := by rw [← h8, hide_upd hlF]
      have t78 : Tx (hide F H7) (hide F H8) := by rw [h78]; exact Tx.updL (e7 _ _ hvs)
      have e08 : Ex (hide F H) (hide F H8) := by rw [h78]; exact Ex.mut (eH.trans e7) hln
      have f8 : Fd F C m7 H8 := by rw [← h8]; exact f7.upd hlF hlC
      rw [h8]
      refine hN _ _ (Tx.trans (f'.tx2 e7) (by rw [← h8]; exact Tx.updL hl7)) (by rw [← h8]; exact nk_upd hl6 (nk_hide hF6 e7)) ⟨_, m7, ws ++ [u], vs ++ [wv], rfl, e08, f8, ?_, ?_, ?_, ?_, ?_⟩
      · rw [List.length_append, List.length_singleton]
        omega
      · rw [h78]
        exact upd_same
      · rw [List.map_append]
        refine allP_snoc (allP_tx t78 (fun P hP => ?_) (AllP.mono e7 hall)) (st_d _ _ _ _ t78 pu)
        obtain ⟨z, _, rfl⟩ := List.mem_map.1 hP
        exact st_d _
      · rw [List.length_append, List.length_append, List.length_singleton, List.length_singleton, hlen]
      · intro z hz
        rcases List.mem_append.1 hz with hz | hz
        · exact hws z hz
        · rw [List.mem_singleton.1 hz]
          exact hu
    · rintro σ' H' ⟨a, m', ws, vs, rfl, eH, f', lm, hvs, hall, hlen, hws⟩
      rw [List.length_range] at hlen lm
      try dsimp only
      have hl' : H' l = some (.lst vs) := (hide_some hvs).2
      have hL : (vL (ws.map fun w => vD (eW w))).p (.ref l) H' := ⟨l, vs, rfl, hl', AllP.mono (hide_ex F H') hall⟩
      have hget : ∀ a, a < ws.length → ws.getD a [] ∈ ws := fun a ha => by
        rw [List.getD_eq_getElem?_getD, List.getElem?_eq_getElem ha]
        exact List.getElem_mem ha
      have ru : Ru ws := ⟨by omega, by omega, fun a ha z => by
          have := (hws _ (hget a ha)).1
          rw [z] at this
          simp at this, fun a ha => by rw [hlen]; exact (hws _ (hget a ha)).2, fun a ha => by have := (hws _ (hget a ha)).1; omega⟩
      have fin : ∀ {σ : L2.St} {D : Ends} {H8 : Hp} {q : Addr} {r : List (List Nat)}, σ[3]? = some (some (.ref q)) → D.rt = Q → Ex (hide F H) (hide F H8) → Fd F C m' H8 → (vL (r.map fun w => vD (eW w))).p (.ref q) H8 → Good r → tRet (tCB (rTupOf K) (tCons (tVar 3) tNil)) D σ H8 := fun {σ D H8 q r} hs hD e8 f8 hq hg =>
        x_ret (e_cb (a_cons (e_var hs hq) a_nil) (r_tupE r eW)) fun v H9 e9 p9 => by
          rw [hD]
          exact k v H9 (e8.trans (exh e9)) ((f8.ex e9).up (by omega)) ⟨r, hg, st_d _ _ _ _ (f8.ex e9).tx p9⟩
      refine x_ifN (e_call' ws (a_cons (e_cb (a_cons (e_var rfl hL) a_nil) (r_tupE ws eW)) a_nil) ru) (fun H7 e7 _ => ?_) (fun H7 e7 hg => ?_)
      · have f7 := f'.ex e7
        refine x_asgN (en_lc1 (vs := [4]) (List.range many) (fun i => vI (i : Nat)) (fun a => vD (eW ((ws.getD a []).take 2 ++ [(a + 1) % many]))) (src0_range (n := many) (a_cons (e_var rfl rfl) a_nil) (by omega)).t.src (by rw [List.length_range]; omega) (fun _ _ => st_d _) (fun _ => rfl) ?_) fun q us H8 hq0 e8 hq hall8 => ?_
        · intro a ha v H8 e8 pv
          have ha := List.mem_range.1 ha
          have hmod : ((a : Int) + 1) % ((many : Nat) : Int) = (((a + 1) % many : Nat) : Int) := by push_cast; rfl
          have h1 := (e_sl_to (K := K) (k := 2) (ds := (ws.getD a []).map eN) (e_op (e_var (σ := [some (.ref F), some tv, some (.int (many : Nat)), some (.ref l), some v, none]) (i := 3) rfl ((vL _).mono (e7.trans e8) hL)) (e_var (i := 4) rfl pv) (o_ixL (K := K) (atI_P (d := []) (by omega)))) e_c)
          have h2 := e_tupD (ds := [eN ((a + 1) % many)]) (a_cons ((e_op (e_cb (a_cons (e_op (e_var (σ := [some (.ref F), some tv, some (.int (many : Nat)), some (.ref l), some v, none]) (H := H8) (i := 4) (P := vI (a : Nat)) rfl pv) (e_c (v := .int 1)) (o_I0 (g := fun i j => V.int (i + j)))) a_nil) r_int1) (e_var (i := 2) (P := vI (many : Nat)) rfl rfl) (o_I (C := fun _ j => 0 < j) (g := fun i j => V.int (i % j)) (by omega))).weak fun v H9 _ p => (show (vD (eN ((a + 1) % many))).p v H9 from vD_n.2 (by
            rw [← hmod]
            exact p))) a_nil) (by simp)
          have h3 := e_op h1 h2 (o_catT (K := K) (by
            have := (hws _ (hget a (by omega))).1
            rw [List.length_take, List.length_map]
            simp only [List.length_singleton]
            omega))
          refine h3.weak fun v H9 _ p => ?_
          show Is H9 (eW _) v
          unfold eW
          rw [List.map_append, List.map_take]
          exact p
        · have hfl : (fixr ws).length = many := by rw [fixr_len, hlen]
          have hfx : (fixr ws).map (fun w => vD (eW w)) = (List.range many).map fun a => vD (eW ((ws.getD a []).take 2 ++ [(a + 1) % many])) := by
            unfold fixr
            rw [List.map_map, hlen]
            rfl
          rw [← hfx] at hall8
          have hul : us.length = many := by rw [hall8.length, List.length_map, hfl]
          have hq8 : (vL ((fixr ws).map fun w => vD (eW w))).p (.ref q) H8 := ⟨q, us, rfl, hq, hall8⟩
          try dsimp only [List.set]
          have h1 := e_op (e_op (e_var (σ := [some (.ref F), some tv, some (.int (many : Nat)), some (.ref q), a, none]) (i := 3) rfl hq8) (e_c (v := .int 0)) (o_ixL (K := K) (atI_P (s := 0) (d := []) (by omega)))) (e_tupD (ds := [eN 0]) (a_cons (e_cN 0) a_nil) (by decide)) (o_catT (K := K) (by
            have g0 := (fixr_good ru).blk4 0 (by rw [fixr0_len]; omega)
            rw [fixr0_get (by omega), ← fixr_get (by omega), List.length_append] at g0
            rw [List.length_map]
            simp only [List.length_singleton]
            omega))
          refine x_setL (P := vD (eW ((fixr ws).getD 0 [] ++ [0]))) (p := q) (i := 0) (j := 0) hq (h1.weak fun v H9 _ p => (show Is H9 (eW _) v by
            unfold eW
            rw [List.map_append]
            exact p)) (e_var rfl rfl) e_c (by rw [hul]; exact ixN_nat (j := 0) hmany.1) fun v9 H9 e9 p9 => ?_
          obtain ⟨H10, h10⟩ : ∃ H10, L2.upd H9 q (.lst (us.set 0 v9)) = H10 := ⟨_, rfl⟩
          have hq9 := e9 _ _ hq
          have hqF : q ≠ F := fun z => by
            rw [z] at hq0
            obtain ⟨xs, hF⟩ := f7.lst
            rw [hF] at hq0
            cases hq0
          have hqC : q ≠ C := fun z => by
            rw [z] at hq0
            obtain ⟨xs, hC⟩ := f7.cell
            rw [hC] at hq0
            cases hq0
          have t910 : Tx H9 H10 := by rw [← h10]; exact Tx.updL hq9
          have e07 := eH.trans (exh e7)
          rw [h10]
          refine fin (q := q) (r := fixr0 ws) rfl rfl ?_ ?_ ?_ (fixr_good ru)
          · rw [← h10, hide_upd hqF]
            exact Ex.mut (e07.trans (exh (e8.trans e9))) (fresh_back e07 (hide_none hq0))
          · rw [← h10]
            exact (f7.ex (e8.trans e9)).upd hqF hqC
          · refine ⟨q, us.set 0 v9, rfl, by rw [← h10]; exact upd_same, ?_⟩
            unfold fixr0
            rw [List.map_set]
            refine allP_set 0 (allP_tx t910 (fun P hP => ?_) (AllP.mono e9 hall8)) (st_d _ _ _ _ t910 p9)
            obtain ⟨z, _, rfl⟩ := List.mem_map.1 hP
            exact st_d _
      · try unfold tNext
        exact fin (q := l) (r := ws) rfl rfl (eH.trans (exh e7)) (f'.ex e7) ((vL _).mono e7 hL) (hg rfl)

end
end K37
set_option Elab.async false
set_option linter.all false
set_option maxRecDepth 100000
set_option maxHeartbeats 2000000
/-! W24: the law, a machine. -/
namespace K37
open PySem L2 Evl
section
variable {P : Program} {w : World} {K : PySem.W.Frag} {mg : Str → Option Value} {base : Heap}

/-- own: a list of this turn, q numbers below q -/
def OwnL (F C : Addr) (q B : Nat) (Hs H1 : Hp) (v : V) : Prop := ∃ (p : Addr) (w : List Nat) (m1 : Nat), v = .ref p ∧ hide F Hs p = none ∧ p ≠ F ∧ Ex (hide F Hs) (hide F H1) ∧ Fd F C m1 H1 ∧ m1 ≤ B ∧ H1 p = some (.lst (w.map fun (x : Nat) => V.int x)) ∧ w.length = q ∧ ∀ x ∈ w, x < q
theorem OwnL.ex {F C : Addr} {q B : Nat} {Hs H1 H2 : Hp} {v : V} (h : OwnL F C q B Hs H1 v) (e : Ex H1 H2) : OwnL F C q B Hs H2 v := by
  obtain ⟨p, w, m1, h1, h2, h3, h4, h5, h6, h7, h8⟩ := h
  exact ⟨p, w, m1, h1, h2, h3, h4.trans (exh e), h5.ex e, h6, e _ _ h7, h8⟩
theorem x_ifOwn {F C : Addr} {q B B2 : Nat} {Hs H1 : Hp} {v : V} {t : TT} {tu : TS} {D : Ends} {b : Bool} (σf : V → L2.St) (hB : B ≤ B2) (hO : OwnL F C q B Hs H1 v) (ht : EvT t (σf v) H1 b)
    (hu : b = true → ∀ H2, OwnL F C q B Hs H2 v → (∀ v' H3, OwnL F C q B2 Hs H3 v' → D.nx (σf v') H3) → tu D (σf v) H2)
    (k : ∀ v' H3, OwnL F C q B2 Hs H3 v' → D.nx (σf v') H3) : tIfS t tu tNext D (σf v) H1 :=
  x_if ht (fun hb H2 e2 => hu hb H2 (hO.ex e2) k) fun _ H2 e2 => by
    unfold tNext
    refine k v H2 ?_
    obtain ⟨p, w, m1, h1, h2, h3, h4, h5, h6, h7⟩ := hO.ex e2
    exact ⟨p, w, m1, h1, h2, h3, h4, h5, by omega, h7⟩
/-- own changed at one place -/
theorem OwnL.put {F C : Addr} {q B : Nat} {Hs H1 : Hp} {p : Addr} {w w' : List Nat} {m1 : Nat} (h2 : hide F Hs p = none) (h3 : p ≠ F) (h4 : Ex (hide F Hs) (hide F H1)) (h5 : Fd F C m1 H1) (hC : p ≠ C) (h6 : m1 ≤ B) (h8 : w'.length = q) (h9 : ∀ x ∈ w', x < q) :
    OwnL F C q B Hs (L2.upd H1 p (.lst (w'.map fun (x : Nat) => V.int x))) (.ref p) :=
  ⟨p, w', m1, rfl, h2, h3, by rw [hide_upd h3]; exact Ex.mut h4 h2, h5.upd h3 hC, h6, upd_same, h8, h9⟩
def vRow (q : Nat) : VP := vEx (fun (w : List Nat) => w.length = q ∧ ∀ x ∈ w, x < q) fun w => vL (w.map fun x => vD (eN x))
def vPr (q : Nat) : VP := vEx (fun (z : Nat × Nat) => z.1 < q) fun z => vD (eP z)
theorem st_ex {ι : Type} {c : ι → Prop} {g : ι → Dv} : St' (vEx c fun i => vD (g i)) := fun _ _ _ t ⟨i, h, p⟩ => ⟨i, h, st_d _ _ _ _ t p⟩
theorem allP_ex {ι α : Type} {c : ι → Prop} {g : ι → Dv} {H : Hp} : ∀ {xs : List α} {vs : List V}, AllP (xs.map fun _ => vEx c fun i => vD (g i)) vs H → ∃ l : List ι, l.length = xs.length ∧ (∀ z ∈ l, c z) ∧ IsAll H (l.map g) vs
  | [], vs, h => ⟨[], rfl, by simp, all_nil.2 h⟩
  | x :: xs, vs, ⟨v, r, e, ⟨i, hi, pv⟩, h2⟩ => by
    obtain ⟨l, h3, h4, h5⟩ := allP_ex h2
    refine ⟨i :: l, by rw [List.length_cons, List.length_cons, h3], fun z hz => ?_, all_cons.2 ⟨v, r, e, pv, h5⟩⟩
    rcases List.mem_cons.1 hz with y | y
    · rw [y]; exact hi
    · exact h4 z y
theorem r_tupEx {K : PySem.W.Frag} {ι α : Type} {c : ι → Prop} {g : ι → Dv} (xs : List α) : R (rTupOf K) [vL (xs.map fun _ => vEx c fun i => vD (g i))] (vEx (fun (l : List ι) => l.length = xs.length ∧ ∀ z ∈ l, c z) fun l => vD (.t (l.map g))) := fun vs H h Q q => by
  obtain ⟨v, r, e, ⟨a, ws, h3, h4, h5⟩, h2⟩ := h
  rw [show r = [] from h2] at e
  obtain ⟨l, l1, l2, l3⟩ := allP_ex h5
  exact ⟨a, ws, by rw [e, h3], .inl ⟨sq_of h4, fun p hp => q _ _ (Ex.new hp) ⟨l, ⟨l1, l2⟩, is_t.2 ⟨p, ws, rfl, upd_same, IsAll.mono (Ex.tx (Ex.new hp)) _ _ l3⟩⟩⟩⟩
theorem set_nat (w : List Nat) (i a : Nat) : (w.map fun (x : Nat) => V.int x).set i (V.int a) = (w.set i a).map fun (x : Nat) => V.int x := (List.map_set ..).symm
theorem mem_set_lt {w : List Nat} {i a q : Nat} (h : ∀ x ∈ w, x < q) (ha : a < q) : ∀ x ∈ w.set i a, x < q := fun x hx => by
  rcases List.mem_or_eq_of_mem_set hx with z | z
  · exact h x z
  · rw [z]; exact ha
theorem getD_lt {w : List Nat} {i q : Nat} (h : ∀ x ∈ w, x < q) (hi : i < w.length) : w.getD i 0 < q := by
  rw [List.getD_eq_getElem?_getD, List.getElem?_eq_getElem hi]
  exact h _ (List.getElem_mem hi)
theorem x_setN {σ : L2.St} {H : Hp} {te to ti : TE} {D : Ends} {p : Addr} {w : List Nat} {i a : Nat} (hp : H p = some (.lst (w.map fun (x : Nat) => V.int x))) (he : E te σ H (vI a)) (ho : E to σ H (vV (.ref p))) (hi : E ti σ H (vI i)) (hj : i < w.length)
    (k : ∀ H1, Ex H H1 → D.nx σ (L2.upd H1 p (.lst ((w.set i a).map fun (x : Nat) => V.int x)))) : tAsg te (gSub to ti rSetL) D σ H := x_setL hp he ho hi (by rw [List.length_map]; exact ixN_nat hj) fun v H1 e1 p1 => by
  rw [show v = V.int a from p1, set_nat]
  exact k H1 e1
theorem is_rowL {H : Hp} {p : Addr} {w : List Nat} (h : H p = some (.lst (w.map fun (x : Nat) => V.int x))) : (vL (w.map fun x => vD (eN x))).p (.ref p) H := ⟨p, _, rfl, h, allP_nat H w⟩

/-! _law_machine -/
def vMach (n : Nat) : VP := vEx (fun (M : Mach) => GM n M ∧ M.length ≤ 3) fun M => vD (eM M)
theorem st_mach (n : Nat) : St' (vMach n) := fun _ _ _ t ⟨r, h, p⟩ => ⟨r, h, st_d _ _ _ _ t p⟩
def sp_law_machine : Sp := fun vs H Q _ => ∃ (F C : Addr) (m n : Nat), vs = [.ref F, .int (n : Nat)] ∧ 1 ≤ n ∧ n ≤ 4 ∧ Fd F C m H ∧ m + 60 ≤ 1000000 ∧ ∀ v H', Ex (hide F H) (hide F H') → Fd F C (m + 60) H' → (vMach n).p v (hide F H') → Q v H'
abbrev n_law_machine : List Str := ["_law_feed_here", "_law_many", "_law_size", "_law_found", "_law_a", "_law_way", "_law_one", "_law_two", "_law_own", "_law_s", "_law_rows"]
theorem sc_law_machine : FnScope n_law_machine ["_law_feed_here", "_law_many"] (defScope st_law_machine) := ⟨rfl, rfl, rfl, by decide +kernel, rfl, by decide +kernel, by decide +kernel⟩
theorem ok_law_machine (F : Df K mg "_law_machine" st_law_machine []) (B : Bi mg) (c_law_pick : Cb P w K mg base "_law_pick" 1 ["_law_feed_here", "_law_many"] [] sp_law_pick) : Cb P w K mg base "_law_machine" 2 ["_law_feed_here", "_law_many"] [] sp_law_machine := by
  refine F.okS sc_law_machine (fun vs H Q E h => by obtain ⟨F, C, m, n, e, _⟩ := h; rw [e]; rfl) (fun _ _ _ _ _ _ us hl => match us, hl with | [_, _], _ => rfl) fun f cdv A outer s H Ex' hr => ?_
  refine ⟨_, pss_cons (ps_asg (pe_tup (pa_cons (ixL K (pe_lst (pa_cons (pe_int) (pa_cons (pe_int) (pa_cons (pe_int) (pa_cons (pe_int) (pa_cons (pe_int) (pa_cons (pe_int) pa_nil))))))) (pe_cb c_law_pick (hr.mono (by decide)) rfl (pa_cons (pv 0) (pa_cons (pe_int) pa_nil)))) (pa_cons (pe_lst pa_nil) pa_nil))) (pg_tup rfl (pgs_cons (pg_name (i := 2) sc_law_machine.nd rfl (Or.inr rfl)) (pgs_cons (pg_name (i := 3) sc_law_machine.nd rfl (Or.inl rfl)) (pgs_nil)))))
    (pss_cons (ps_for PassesOwn.never rfl (itRg B (pv 1)) (pg_name (i := 4) sc_law_machine.nd rfl (Or.inl rfl)) (pss_cons (ps_asg (pe_tup (pa_cons (pe_cb c_law_pick (hr.mono (by decide)) rfl (pa_cons (pv 0) (pa_cons (pe_int) pa_nil))) (pa_cons (pe_cb c_law_pick (hr.mono (by decide)) rfl (pa_cons (pv 0) (pa_cons (pv 2) pa_nil))) (pa_cons (pe_cb c_law_pick (hr.mono (by decide)) rfl (pa_cons (pv 0) (pa_cons (pv 2) pa_nil))) pa_nil)))) (pg_tup rfl (pgs_cons (pg_name (i := 5) sc_law_machine.nd rfl (Or.inl rfl)) (pgs_cons (pg_name (i := 6) sc_law_machine.nd rfl (Or.inr rfl)) (pgs_cons (pg_name (i := 7) sc_law_machine.nd rfl (Or.inl rfl)) (pgs_nil))))))
    (pss_cons (ps_set (i := 8) sc_law_machine.nd rfl (Or.inl rfl) (bListRg B (pv 2)))
    (pss_cons (ps_if (pt_cmpR op_eq (pv 5) pe_int (by rfl)) (pss_one (ps_setLc (i := 8) (own := [("_law_s", 9)]) (g := gName 9) (tt := tYes) rfl sc_law_machine.nd rfl rfl (sw_true rfl rfl rfl rfl) (itL K (pv 8)) (blkOk_by (N := n_law_machine) (sc := defScope st_law_machine) (by decide +kernel)) (fun _ _ _ _ _ => pg_name (i := 9) sc_law_machine.nd rfl (Or.inl rfl)) (fun _ _ _ _ _ => pts_nil) (fun _ _ _ _ _ => pe_cb c_law_pick (hr.mono (by decide)) rfl (pa_cons (pv 0) (pa_cons (pv 2) pa_nil))))) pss_nil)
    (pss_cons (ps_if (pt_cmpR op_eq (pv 5) pe_int (by rfl)) (pss_one (ps_setLc (i := 8) (own := [("_law_s", 9)]) (g := gName 9) (tt := tYes) rfl sc_law_machine.nd rfl rfl (sw_true rfl rfl rfl rfl) (itL K (pv 8)) (blkOk_by (N := n_law_machine) (sc := defScope st_law_machine) (by decide +kernel)) (fun _ _ _ _ _ => pg_name (i := 9) sc_law_machine.nd rfl (Or.inl rfl)) (fun _ _ _ _ _ => pts_nil) (fun _ _ _ _ _ => pe_op op_mod (bInt B (pe_op op_add (pv 9) (pv 6))) (pv 2)))) pss_nil)
    (pss_cons (ps_if (pt_cmpR op_eq (pv 5) pe_int (by rfl)) (pss_one (ps_set (i := 8) sc_law_machine.nd rfl (Or.inl rfl) (pe_op op_rep (pe_lst (pa_cons (pv 6) pa_nil)) (pv 2)))) pss_nil)
    (pss_cons (ps_if (pt_cmpR op_eq (pv 5) pe_int (by rfl)) (pss_one (ps_asg (pv 7) (pg_sub (pv 8) (pv 6) set_list))) pss_nil)
    (pss_cons (ps_if (pt_cmpR op_eq (pv 5) pe_int (by rfl)) (pss_one (ps_asg (pe_tup (pa_cons (pv 7) (pa_cons (pv 6) pa_nil))) (pg_tup rfl (pgs_cons (pg_sub (pv 8) (pv 6) set_list) (pgs_cons (pg_sub (pv 8) (pv 7) set_list) (pgs_nil)))))) pss_nil)
    (pss_one (ps_expr (pe_bm PySem.F.plainAttrs_list PySem.F.slot_list_append PySem.F.type_list_append mt_append (pv 3) (pa_cons (pv 8) pa_nil))))))))))))
    (pss_cons (ps_set (i := 10) sc_law_machine.nd rfl (Or.inl rfl) (pe_lst pa_nil))
    (pss_cons (ps_for PassesOwn.never rfl (itRg B (pv 2)) (pg_name (i := 9) sc_law_machine.nd rfl (Or.inr rfl)) (pss_one (ps_expr (pe_bm PySem.F.plainAttrs_list PySem.F.slot_list_append PySem.F.type_list_append mt_append (pv 10) (pa_cons (bTup K B (pe_lc (own := [("_law_own", 8)]) (g := gName 8) (tt := tYes) rfl sc_law_machine.nd (itL K (pv 3)) (blkOk_by (N := n_law_machine) (sc := defScope st_law_machine) (by decide +kernel)) (fun _ _ _ _ _ => pg_name (i := 8) sc_law_machine.nd rfl (Or.inl rfl)) (fun _ _ _ _ _ => pts_nil) (fun _ _ _ _ _ => pe_tup (pa_cons (ixL K (pv 8) (pv 9)) (pa_cons (pe_cb c_law_pick (hr.mono (by decide)) rfl (pa_cons (pv 0) (pa_cons (pe_int) pa_nil))) pa_nil))))) pa_nil)))))
    (pss_one (ps_ret (bTup K B (pv 10))))))), ?_⟩
  rintro vs Q ⟨F, C, m, n, rfl, hn1, hn4, f0, hm, k⟩
  refine ef_op (c1 := 0) (c2 := 1) (P2 := vBelow 6) (P := vEx (fun (q : Nat) => 1 ≤ q ∧ q ≤ 3) fun q => vI q) (ef_new (Ps := ([2, 3, 3, 2, 3, 1] : List Int).map fun i => vI i) (en_lst (Ps := [vI 2, vI 3, vI 3, vI 2, vI 3, vI 1]) (a_cons (e_c) (a_cons (e_c) (a_cons (e_c) (a_cons (e_c) (a_cons (e_c) (a_cons (e_c) (a_nil))))))) (by decide)) (st_ints _)) (ef_pickE (n := 6) rfl e_c (by decide) (by decide)) (o_ixLB fun i hi => ?_) st_nums H m (Ex.refl _) f0 (by omega) _ fun nv H1 m1 e1 f1 l1 ⟨q, hq, pn⟩ => ?_
  · have hi8 : i = 0 ∨ i = 1 ∨ i = 2 ∨ i = 3 ∨ i = 4 ∨ i = 5 := by omega
    rcases hi8 with rfl | rfl | rfl | rfl | rfl | rfl
    all_goals first
      | exact ⟨_, rfl, fun v H p => ⟨1, by decide, p⟩⟩
      | exact ⟨_, rfl, fun v H p => ⟨2, by decide, p⟩⟩
      | exact ⟨_, rfl, fun v H p => ⟨3, by decide, p⟩⟩
  have hnv : nv = V.int (q : Nat) := pn
  subst hnv
  refine en_lst (Ps := []) a_nil (by decide) H1 (Ex.refl _) _ fun l ls H2 hl0 e2 hl hls => ?_
  rw [show ls = [] from hls] at hl
  refine ⟨sz_of (by simp), fun t ht => ⟨t, _, rfl, st_of upd_same, rfl, _, [V.ref l], rfl, .ref l, [], rfl, rfl, ?_⟩⟩
  obtain ⟨H3, h3⟩ : ∃ H3, L2.upd H2 t (.tup [V.int (q : Nat), V.ref l]) = H3 := ⟨_, rfl⟩
  have e3 : Ex H2 H3 := by rw [← h3]; exact Ex.new ht
  rw [h3]
  try dsimp only [List.set]
  have hln : hide F H l = none := fresh_back e1 (hide_none hl0)
  have hlF : l ≠ F := fun z => by
    obtain ⟨xs, hF⟩ := f1.lst
    rw [z, hF] at hl0
    cases hl0
  have hlC : l ≠ C := fun z => by
    obtain ⟨xs, hC⟩ := f1.cell
    rw [z, hC] at hl0
    cases hl0
  have e03 : Ex (hide F H) (hide F H3) := e1.trans (exh (e2.trans e3))
  have f3 : Fd F C m1 H3 := f1.ex (e2.trans e3)
  have hl3 : H3 l = some (.lst []) := e3 _ _ hl
  obtain ⟨xsF, hF3⟩ := f3.lst
  refine x_forN (j := 4) (List.range n) (fun i => vI (i : Nat)) (src0_range (n := n) (a_cons (e_var rfl rfl) a_nil) (by omega)) (fun pre σ' H' => ∃ (a x5 x6 x7 x8 : Option V) (m' : Nat) (vs : List V), σ' = [some (.ref F), some (.int (n : Nat)), some (.int (q : Nat)), some (.ref l), a, x5, x6, x7, x8, none, none] ∧ Ex (hide F H) (hide F H') ∧ Fd F C m' H' ∧ m' ≤ m1 + 6 * pre.length ∧ hide F H' l = some (.lst vs) ∧ AllP (pre.map fun _ => vRow q) vs (hide l (hide F H')))
    (fun H7 e7 => ⟨none, none, none, none, none, m1, [], rfl, e03.trans (exh e7), f3.ex e7, by simp, by rw [hide_ne hlF]; exact e7 _ _ hl3, rfl⟩) ?_ ?_
  · rintro pre i post hx v σ' Hs pv ⟨a, x5, x6, x7, x8, m', vs, rfl, eH, f', lm, hvs, hall⟩ N hN
    have hpl : pre.length < n := by
      have := congrArg List.length hx
      rw [List.length_range, List.length_append, List.length_cons] at this
      omega
    have hvl : vs.length = pre.length := by rw [hall.length, List.length_map]
    have hqpos := hq.1
    have hlC' : hide F Hs C ≠ none := by
      obtain ⟨xs, hC⟩ := f'.cell
      rw [hide_ne f'.ne, hC]
      simp
    refine x_asgGF (ef_tup (Ps := [vBelow 5, vBelow q, vBelow q]) (af_cons (c1 := 1) (c2 := 2) (ef_pickE (n := 5) rfl e_c (by decide) (by decide)) (af_cons (c1 := 1) (c2 := 1) (ef_pickE (n := q) rfl (e_var (i := 2) rfl rfl) hq.1 (by omega)) (af_cons (c1 := 1) (c2 := 0) (ef_pickE (n := q) rfl (e_var (i := 2) rfl rfl) hq.1 (by omega)) af_nil))) (by simp)) f' (by omega) fun tv H4 m4 e4 f4 l4 ⟨t4, us, ht4, htup, u1, r1, hu1, ⟨way, hway, pw⟩, u2, r2, hu2, ⟨one, hone, p1⟩, u3, r3, hu3, ⟨two, htwo, p2⟩, hu4⟩ => ?_
    have hu4' : r3 = [] := hu4
    subst hu4'
    subst hu3
    subst hu2
    subst hu1
    obtain rfl : u1 = V.int (way : Nat) := pw
    obtain rfl : u2 = V.int (one : Nat) := p1
    obtain rfl : u3 = V.int (two : Nat) := p2
    refine ⟨t4, _, ht4, st_of (hide_some htup).2, rfl, _, _, rfl, _, _, rfl, _, _, rfl, rfl, ?_⟩
    try dsimp only [List.set]
    refine x_asgN (en_lstRg (n := q) (e_var rfl rfl) (by omega)) fun p5 us5 H5 hp50 e5 hp5 hall5 => ?_
    try dsimp only [List.set]
    have hO5 : OwnL F C q (m' + 3) Hs H5 (.ref p5) := by
      refine ⟨p5, List.range q, m4, rfl, fresh_back e4 (hide_none hp50), fun z => ?_, e4.trans (exh e5), f4.ex e5, by omega, ?_, List.length_range, fun x hx => List.mem_range.1 hx⟩
      · obtain ⟨xs, hF⟩ := f4.lst
        rw [z, hF] at hp50
        cases hp50
      · rw [hp5]
        have := (allP_isAll (ds := (List.range q).map eN)).1 (by rw [map_vD]; exact hall5)
        have e9 : (List.range q).map eN = ((List.range q).map fun (x : Nat) => (x : Int)).map Dv.n := by rw [List.map_map]; rfl
        rw [e9] at this
        rw [this.ints, List.map_map]
        rfl
    have hway5 : ∀ {σ : L2.St} {H9 : Hp} {kk : Int}, σ[5]? = some (some (V.int (way : Nat))) → EvT (tTest (tOp rEq (tVar 5) (tC (.int kk)))) σ H9 (decide (V.int (way : Nat) = V.int kk)) := fun {σ H9 kk} hs => t_test (e_op (e_var (P := vI (way : Nat)) hs rfl) e_c (o_eq (by rfl)))
    have hpC : ∀ {p : Addr}, hide F Hs p = none → p ≠ C := fun {p} h z => hlC' (by rw [← z]; exact h)
    refine x_ifOwn (B2 := m' + 6) (fun o => [some (.ref F), some (.int (n : Nat)), some (.int (q : Nat)), some (.ref l), some v, some (.int (way : Nat)), some (.int (one : Nat)), some (.int (two : Nat)), some o, none, none]) (by omega) hO5 (hway5 rfl) (fun _ H6 hO k6 => ?_) fun o6 H6 hO6 => ?_
    · obtain ⟨p, w, m6, ep, b1, b2, b3, b4, b5, b6, b7, b8⟩ := hO
      cases ep
      refine efn_lc1 (c := 0) (c2 := 1) (j := 9) (vs := [9]) w (fun x => vD (eN x)) (fun _ => vBelow q) (srcF_list (ef_var rfl (by
        refine is_rowL ?_
        rw [hide_ne b2]
        exact b6))) (by omega) (fun _ _ => st_below _) (fun _ => rfl) (fun x hx u H7 e7 _ => ef_pickE (n := q) rfl (e_var rfl rfl) hq.1 (by omega)) H6 m6 (Ex.refl _) b4 (by omega) _ fun p' vs' H7 m7 g1 g2 g3 g4 g5 g6 g7 => ?_
      rw [List.map_const'] at g7
      obtain ⟨w', w1, w2, w3⟩ := allP_below g7
      rw [w3] at g6
      exact k6 _ _ ⟨p', w', m7, rfl, fresh_back b3 g1, g2, b3.trans g3, g4, by omega, (hide_some g6).2, by omega, w2⟩
    try dsimp only
    refine x_ifOwn (B2 := m' + 6) (fun o => [some (.ref F), some (.int (n : Nat)), some (.int (q : Nat)), some (.ref l), some v, some (.int (way : Nat)), some (.int (one : Nat)), some (.int (two : Nat)), some o, none, none]) (by omega) hO6 (hway5 rfl) (fun _ H7 hO k7 => ?_) fun o7 H7 hO7 => ?_
    · obtain ⟨p, w, m6, ep, b1, b2, b3, b4, b5, b6, b7, b8⟩ := hO
      cases ep
      refine x_asgN (en_lc1 (vs := [9]) w (fun x => vD (eN x)) (fun x => vD (eN ((x + one) % q))) (src_list (e_var rfl (is_rowL b6))) (by omega) (fun _ _ => st_d _) (fun _ => rfl) ?_) fun p' vs' H8 g1 g2 g3 g4 => ?_
      · intro x hx u H8 e8 pu
        have hmod : ((x : Int) + (one : Int)) % ((q : Nat) : Int) = (((x + one) % q : Nat) : Int) := by push_cast; rfl
        exact (e_op (e_cb (a_cons (e_op (e_var (i := 9) (P := vI (x : Nat)) rfl (vD_n.1 pu)) (e_var (i := 6) (P := vI (one : Nat)) rfl rfl) (o_I0 (g := fun i j => V.int (i + j)))) a_nil) r_int1) (e_var (i := 2) (P := vI (q : Nat)) rfl rfl) (o_I (C := fun _ j => 0 < j) (g := fun i j => V.int (i % j)) (by omega))).weak fun v H9 _ p => (show (vD (eN ((x + one) % q))).p v H9 from vD_n.2 (by
          rw [← hmod]
          exact p))
      · have hn0 := hide_none (F := F) g1
        refine k7 _ _ ⟨p', w.map fun x => (x + one) % q, m6, rfl, fresh_back b3 hn0, fun z => ?_, b3.trans (exh g2), b4.ex g2, b5, ?_, by rw [List.length_map]; exact b7, fun x hx => ?_⟩
        · obtain ⟨xs, hF⟩ := b4.lst
          rw [z, hF] at g1
          cases g1
        · rw [g3]
          have := (allP_isAll (ds := (w.map fun x => (x + one) % q).map eN)).1 (by rw [map_vD, List.map_map]; exact g4)
          have e9 : (w.map fun x => (x + one) % q).map eN = ((w.map fun x => (x + one) % q).map fun (x : Nat) => (x : Int)).map Dv.n := by rw [List.map_map (g := Dv.n)]; rfl
          rw [e9] at this
          rw [this.ints, List.map_map]
          rfl
        · obtain ⟨y, _, rfl⟩ := List.mem_map.1 hx
          exact Nat.mod_lt _ hq.1
    try dsimp only
    refine x_ifOwn (B2 := m' + 6) (fun o => [some (.ref F), some (.int (n : Nat)), some (.int (q : Nat)), some (.ref l), some v, some (.int (way : Nat)), some (.int (one : Nat)), some (.int (two : Nat)), some o, none, none]) (by omega) hO7 (hway5 rfl) (fun _ H8 hO k8 => ?_) fun o8 H8 hO8 => ?_
    · obtain ⟨p, w, m6, ep, b1, b2, b3, b4, b5, b6, b7, b8⟩ := hO
      cases ep
      refine x_asgN (en_rep (k := q) (P1 := [vI (one : Nat)]) (EN.e (en_lst (a_cons (e_var (i := 6) rfl rfl) a_nil) (by simp))) (e_var (i := 2) (P := vI (q : Nat)) rfl rfl) (by simp; omega) (by omega)) fun p' vs' H9 g1 g2 g3 g4 => ?_
      have hn0 := hide_none (F := F) g1
      have hrep : (List.replicate q [vI ((one : Nat) : Int)]).flatten = (List.replicate q one).map fun (x : Nat) => vI (x : Int) := by
        rw [List.map_replicate]
        exact List.flatten_replicate_singleton
      rw [hrep] at g4
      have g5 := (allP_vals (f := fun (x : Nat) => V.int x)).1 g4
      rw [g5] at g3
      refine k8 _ _ ⟨p', List.replicate q one, m6, rfl, fresh_back b3 hn0, fun z => ?_, b3.trans (exh g2), b4.ex g2, b5, g3, List.length_replicate, fun x hx => ?_⟩
      · obtain ⟨xs, hF⟩ := b4.lst
        rw [z, hF] at g1
        cases g1
      · rw [List.eq_of_mem_replicate hx]
        exact hone
    try dsimp only
    refine x_ifOwn (B2 := m' + 6) (fun o => [some (.ref F), some (.int (n : Nat)), some (.int (q : Nat)), some (.ref l), some v, some (.int (way : Nat)), some (.int (one : Nat)), some (.int (two : Nat)), some o, none, none]) (by omega) hO8 (hway5 rfl) (fun _ H9 hO k9 => ?_) fun o9 H9 hO9 => ?_
    · obtain ⟨p, w, m6, ep, b1, b2, b3, b4, b5, b6, b7, b8⟩ := hO
      cases ep
      refine x_setN (i := one) (a := two) b6 (e_var (i := 7) rfl rfl) (e_var (i := 8) rfl rfl) (e_var (i := 6) rfl rfl) (by omega) fun H10 e10 => k9 _ _ (OwnL.put (w := w) b1 b2 (b3.trans (exh e10)) (b4.ex e10) (hpC b1) b5 (by rw [List.length_set]; exact b7) (mem_set_lt b8 htwo))
    try dsimp only
    refine x_ifOwn (B2 := m' + 6) (fun o => [some (.ref F), some (.int (n : Nat)), some (.int (q : Nat)), some (.ref l), some v, some (.int (way : Nat)), some (.int (one : Nat)), some (.int (two : Nat)), some o, none, none]) (by omega) hO9 (hway5 rfl) (fun _ H10 hO k10 => ?_) fun o10 H10 hO10 => ?_
    · obtain ⟨p, w, m6, ep, b1, b2, b3, b4, b5, b6, b7, b8⟩ := hO
      cases ep
      refine x_asgG (e_tup (Ps := [vI (two : Nat), vI (one : Nat)]) (a_cons (e_var (i := 7) rfl rfl) (a_cons (e_var (i := 6) rfl rfl) a_nil)) (by simp)) fun tv H11 e11 ⟨t, us, ht, htup, u1, r1, hu1, pu1, u2, r2, hu2, pu2, hu3⟩ => ?_
      have hu3' : r2 = [] := hu3
      subst hu3'
      subst hu2
      subst hu1
      obtain rfl : u1 = V.int (two : Nat) := pu1
      obtain rfl : u2 = V.int (one : Nat) := pu2
      have hp11 := e11 _ _ b6
      refine ⟨t, _, ht, st_of htup, rfl, _, _, rfl, _, rfl, _, rfl, p, _, _, one, rfl, rfl, hp11, by rw [List.length_map]; exact ixN_nat (by omega), _, _, rfl, _, rfl, _, rfl, p, _, _, two, rfl, rfl, upd_same, by rw [List.length_set, List.length_map]; exact ixN_nat (by omega), rfl, ?_⟩
      rw [set_nat, set_nat]
      have hx1 : OwnL F C q (m' + 6) Hs (L2.upd H11 p (.lst ((w.set one two).map fun (x : Nat) => V.int x))) (.ref p) := OwnL.put (w := w) b1 b2 (b3.trans (exh e11)) (b4.ex e11) (hpC b1) b5 (by rw [List.length_set]; exact b7) (mem_set_lt b8 htwo)
      obtain ⟨p9, w9, m9, d1, d2, d3, d4, d5, d6, _⟩ := hx1
      cases d1
      exact k10 _ _ (OwnL.put (w := w) d2 d3 d4 d5 (hpC d2) d6 (by rw [List.length_set, List.length_set]; exact b7) (mem_set_lt (mem_set_lt b8 htwo) hone))
    try dsimp only
    obtain ⟨p, w, m6, ep, b1, b2, b3, b4, b5, b6, b7, b8⟩ := hO10
    cases ep
    have hl10 : hide F H10 l = some (.lst vs) := b3 _ _ hvs
    refine x_app (Pv := vV (.ref p)) (hide_some hl10).2 (e_var (i := 3) rfl rfl) (e_var (i := 8) rfl rfl) (by omega) fun ov H11 e11 po => ?_
    obtain rfl : ov = V.ref p := po
    obtain ⟨H12, h12⟩ : ∃ H12, L2.upd H11 l (.lst (vs ++ [V.ref p])) = H12 := ⟨_, rfl⟩
    have b3' := b3.trans (exh e11)
    have hl11 : hide F H11 l = some (.lst vs) := exh e11 _ _ hl10
    have h1112 : hide F H12 = L2.upd (hide F H11) l (.lst (vs ++ [V.ref p])) := by rw [← h12, hide_upd hlF]
    have hpl2 : p ≠ l := fun z => by
      rw [z, hvs] at b1
      cases b1
    rw [h12]
    refine hN _ _ (Tx.trans (f'.tx2 b3') (by rw [← h12]; exact Tx.updL (hide_some hl11).2)) (by rw [← h12]; exact nk_upd hl3 (nk_hide hF3 b3')) ⟨_, _, _, _, _, m6, vs ++ [V.ref p], rfl, by rw [h1112]; exact Ex.mut (eH.trans b3') hln, by rw [← h12]; exact (b4.ex e11).upd hlF hlC, ?_, by rw [h1112]; exact upd_same, ?_⟩
    · rw [List.length_append, List.length_singleton]
      omega
    · rw [h1112, hide_same, List.map_append]
      refine allP_snoc (AllP.mono (exh b3') hall) ⟨w, ⟨b7, b8⟩, is_rowL ?_⟩
      rw [hide_ne hpl2, hide_ne b2]
      exact e11 _ _ b6
  · rintro σ' Hc ⟨a, x5, x6, x7, x8, mc, vs, rfl, eH, fc, lm, hvs, hall⟩
    rw [List.length_range] at lm
    try dsimp only
    refine x_asgN (en_lst (Ps := []) a_nil (by simp)) fun r rs H4 hr0 e4 hr hrs => ?_
    rw [show rs = [] from hrs] at hr
    try dsimp only [List.set]
    have hrn : hide F H r = none := fresh_back eH (hide_none hr0)
    have hrF : r ≠ F := fun z => by
      obtain ⟨xs, hF⟩ := fc.lst
      rw [z, hF] at hr0
      cases hr0
    have hrC : r ≠ C := fun z => by
      obtain ⟨xs, hC⟩ := fc.cell
      rw [z, hC] at hr0
      cases hr0
    have fc4 := fc.ex e4
    have lrn : (List.range n).length = n := List.length_range
    obtain ⟨xsF4, hF4⟩ := fc4.lst
    have hfound : (vL ((List.range n).map fun _ => vRow q)).p (.ref l) (hide F Hc) := ⟨l, vs, rfl, hvs, AllP.mono (hide_ex l _) hall⟩
    refine x_forN (j := 9) (List.range q) (fun i => vI (i : Nat)) (src0_range (n := q) (a_cons (e_var (i := 2) rfl rfl) a_nil) (by omega)) (fun pre σ' H' => ∃ (x9 : Option V) (m' : Nat) (us : List V) (rows : List (List (Nat × Nat))), σ' = [some (.ref F), some (.int (n : Nat)), some (.int (q : Nat)), some (.ref l), a, x5, x6, x7, x8, x9, some (.ref r)] ∧ (∀ b o, b ≠ r → hide F Hc b = some o → hide F H' b = some o) ∧ Ex (hide F H) (hide F H') ∧ Fd F C m' H' ∧ m' ≤ mc + 4 * pre.length ∧ hide F H' r = some (.lst us) ∧ AllP (rows.map fun row => vD (.t (row.map eP))) us (hide F H') ∧ rows.length = pre.length ∧ ∀ row ∈ rows, row.length = n ∧ ∀ z ∈ row, z.1 < q)
      (fun H7 e7 => ⟨none, mc, [], [], rfl, fun b o _ h => exh (e4.trans e7) _ _ h, eH.trans (exh (e4.trans e7)), fc.ex (e4.trans e7), by simp, by rw [hide_ne hrF]; exact e7 _ _ hr, rfl, rfl, by simp⟩) ?_ ?_
    · rintro pre i post hx v σ' H' pv ⟨x9, m', us, rows, rfl, ek, eH', f', lm', hus, hallr, hlen, hrows⟩ N hN
      obtain rfl : v = V.int (i : Nat) := pv
      obtain ⟨_, hi⟩ := range_split hx
      have hpl : pre.length < q := by
        have := congrArg List.length hx
        rw [List.length_range, List.length_append, List.length_cons] at this
        omega
      have hul : us.length = pre.length := by rw [hallr.length, List.length_map, hlen]
      have hlr : l ≠ r := fun z => by
        rw [z] at hvs
        rw [(hide_some hvs).2] at hr0
        cases hr0
      have hfound' : (vL ((List.range n).map fun _ => vRow q)).p (.ref l) (hide F H') := by
        refine ⟨l, vs, rfl, ek _ _ hlr hvs, AllP.mono (H := hide l (hide F Hc)) (fun b o h => ?_) hall⟩
        obtain ⟨h1, h2⟩ := hide_some h
        refine ek _ _ (fun z => ?_) h2
        rw [z, hide_none hr0] at h2
        cases h2
      refine x_appF (l := r) (vs := us) (P := vEx (fun (row : List (Nat × Nat)) => row.length = (List.range n).length ∧ ∀ z ∈ row, z.1 < q) fun row => vD (.t (row.map eP))) hus rfl (ef_cb (af_cons (c2 := 0) (ef_lc1 (c := 0) (c2 := 1) (j := 8) (vs := [8]) (List.range n) (fun _ => vRow q) (fun _ => vPr q) (srcF_list (ef_var (i := 3) rfl hfound')) (by omega) (fun _ _ => st_ex) (fun _ => rfl) ?_) af_nil) (r_tupEx (c := fun (z : Nat × Nat) => z.1 < q) (g := eP) (List.range n)) st_ex) (by omega) f' (by omega) fun wv H7 m7 e7 f7 l7 p7 => ?_
      · intro x hx u H5 e5 pv
        obtain ⟨w, ⟨w1, w2⟩, pw⟩ := pv
        exact EF.weak (ef_tup (Ps := [vBelow q, vBelow 3]) (af_cons (c1 := 0) (c2 := 1) (ef_lift ((e_op (e_var (i := 8) rfl pw) (e_var (i := 9) (P := vI (i : Nat)) rfl rfl) (o_ixL (K := K) (atI_P (d := 0) (by omega)))).weak fun u H6 _ p => ⟨w.getD i 0, getD_lt w2 (by omega), vD_n.1 p⟩) (st_below _)) (af_cons (c1 := 1) (c2 := 0) (ef_pickE (n := 3) rfl e_c (by decide) (by decide)) af_nil)) (by simp)) fun u H6 ⟨t, us, h1, h2, u1, r1, h3, ⟨i1, hi1, pi1⟩, u2, r2, h4, ⟨j1, hj1, pj1⟩, h5⟩ => ⟨(i1, j1), hi1, is_t.2 ⟨t, us, h1, h2, all_cons.2 ⟨u1, r1, h3, is_n_iff.2 pi1, all_cons.2 ⟨u2, r2, h4, is_n_iff.2 pj1, all_nil.2 h5⟩⟩⟩⟩
      obtain ⟨row, ⟨hrow1, hrow2⟩, prow⟩ := p7
      obtain ⟨H8, h8⟩ : ∃ H8, L2.upd H7 r (.lst (us ++ [wv])) = H8 := ⟨_, rfl⟩
      have hl7 : H7 r = some (.lst us) := (hide_some (e7 _ _ hus)).2
      have h78 : hide F H8 = L2.upd (hide F H7) r (.lst (us ++ [wv])) := by rw [← h8, hide_upd hrF]
      have t78 : Tx (hide F H7) (hide F H8) := by rw [h78]; exact Tx.updL (e7 _ _ hus)
      rw [h8]
      refine hN _ _ (Tx.trans (f'.tx2 e7) (by rw [← h8]; exact Tx.updL hl7)) (by rw [← h8]; exact nk_upd hr (nk_hide hF4 e7)) ⟨_, m7, us ++ [wv], rows ++ [row], rfl, fun b o hb h => by rw [h78, upd_ne hb]; exact e7 _ _ (ek b o hb h), by rw [h78]; exact Ex.mut (eH'.trans e7) hrn, by rw [← h8]; exact f7.upd hrF hrC, ?_, ?_, ?_, ?_, ?_⟩
      · rw [List.length_append, List.length_singleton]
        omega
      · rw [h78]
        exact upd_same
      · rw [List.map_append]
        refine allP_snoc (allP_tx t78 (fun P hP => ?_) (AllP.mono e7 hallr)) (st_d _ _ _ _ t78 prow)
        obtain ⟨z, _, rfl⟩ := List.mem_map.1 hP
        exact st_d _
      · rw [List.length_append, List.length_append, List.length_singleton, List.length_singleton, hlen]
      · intro z hz
        rcases List.mem_append.1 hz with hz | hz
        · exact hrows z hz
        · rw [List.mem_singleton.1 hz]
          exact ⟨by omega, hrow2⟩
    · rintro σ' H' ⟨x9, m', us, rows, rfl, ek, eH', f', lm', hus, hallr, hlen, hrows⟩
      rw [List.length_range] at hlen lm'
      try dsimp only
      have hL : (vL (rows.map fun row => vD (.t (row.map eP)))).p (.ref r) H' := ⟨r, us, rfl, (hide_some hus).2, AllP.mono (hide_ex F H') hallr⟩
      have hget : ∀ s, s < rows.length → rows.getD s [] ∈ rows := fun s hs => by
        rw [List.getD_eq_getElem?_getD, List.getElem?_eq_getElem hs]
        exact List.getElem_mem hs
      have hq1 := hq.1
      have hq2 := hq.2
      have gm : GM n rows := ⟨by omega, fun s hs => (hrows _ (hget s hs)).1, fun s hs a ha => by
        obtain ⟨g1, g2⟩ := hrows _ (hget s hs)
        rw [hlen]
        unfold nx
        rw [List.getD_eq_getElem?_getD (l := rows.getD s []), List.getElem?_eq_getElem (by omega)]
        exact g2 _ (List.getElem_mem _)⟩
      refine x_ret (e_cb (a_cons (e_var (i := 10) rfl hL) a_nil) (r_tupE rows fun row => .t (row.map eP))) fun v H9 e9 p9 => ?_
      exact k v H9 (eH'.trans (exh e9)) ((f'.ex e9).up (by omega)) ⟨rows, ⟨gm, by omega⟩, st_d _ _ _ _ (f'.ex e9).tx p9⟩

end
end K37
set_option Elab.async false
set_option linter.all false
set_option maxRecDepth 100000
set_option maxHeartbeats 2000000
/-! W25: the law, a world. -/
namespace K37
open PySem L2 Evl
section
variable {P : Program} {w : World} {K : PySem.W.Frag} {mg : Str → Option Value} {base : Heap}

theorem one_fam {r : List (List Nat)} {N : Nat} {M : Mach} (gr : GR r N) (gm : GM r.length M) (h : M.length = 1) (k j : Nat) : fam r M k = fam r M j := by
  have one : ∀ w : List Nat, (∀ a ∈ w, a < r.length) → mp M w = [0] := fun w hw => by
    have hl := mp_len (M := M) w
    have hlt := mp_lt gm hw
    rw [h] at hl hlt
    match hm : mp M w, hl with
    | [x], _ =>
      have := hlt x (by rw [hm]; simp)
      rw [show x = 0 by omega]
  unfold fam
  refine List.map_congr_left fun a ha => ?_
  have ha := List.mem_range.1 ha
  rw [one _ (blk_lt gr k ha), one _ (blk_lt gr j ha)]
theorem one_dl {r : List (List Nat)} {M : Mach} (gm : GM r.length M) (h : M.length = 1) {lst : Nat} (hm : Mem r M lst) : Dl r M lst 0 :=
  ⟨fun w _ _ => by
    have h1 := rk_pos gm w
    have h2 := rk_le (M := M) w
    have h3 := hm.pos gm
    have h4 := hm.le_len
    omega, fun d hd => by omega⟩
theorem lastM_dl {r : List (List Nat)} {N q : Nat} (gr : GR r N) (hq : 0 < q) : ∃ d, d ≤ 8 ∧ Dl r (lastM q r.length) 1 d := by
  by_cases c : ∀ w, InL r w → w.length = 0 → rk (lastM q r.length) w = 1
  · exact ⟨0, by omega, c, fun d hd => by omega⟩
  · refine ⟨1, by omega, lastM_settle gr hq, fun d hd => ?_⟩
    apply Classical.byContradiction
    intro z
    refine c fun w h1 h2 => ?_
    apply Classical.byContradiction
    intro y
    exact z ⟨w, h1, by omega, y⟩
def vTop : VP := ⟨fun _ _ => True, fun _ _ => trivial⟩
theorem o_repT {K : PySem.W.Frag} {d : Dv} {q : Nat} (h2 : 2 ≤ q) (h3 : q ≤ 1000) : O (rRepT K) (vD (.t [d])) (vI q) (vD (.t (List.replicate q d))) := fun x y H hx hy Q k => by
  obtain ⟨a, vs, e, ha, hall⟩ := is_t.1 hx
  obtain ⟨v, r, e1, hv, hr⟩ := all_cons.1 hall
  rw [all_nil.1 hr] at e1
  subst e1
  refine ⟨a, q, [v], e, hy, st_of ha, by simp, by omega, by omega, by simp, fun p hp => ?_⟩
  have eq : ((q : Int)).toNat = q := by simp
  rw [eq, List.flatten_replicate_singleton]
  refine k _ _ (Ex.new hp) (is_t.2 ⟨p, _, rfl, upd_same, ?_⟩)
  have hv' := Is.mono (Ex.tx (Ex.new (o := .tup (List.replicate q v)) hp)) _ _ hv
  have : ∀ n : Nat, IsAll (L2.upd H p (.tup (List.replicate q v))) (List.replicate n d) (List.replicate n v) := fun n => by
    induction n with
    | zero => exact all_nil.2 rfl
    | succ n ih =>
      rw [List.replicate_succ, List.replicate_succ]
      exact all_cons.2 ⟨v, _, rfl, hv', ih⟩
  exact this q
theorem lastM_eM (q n : Nat) : eM (lastM q n) = .t (List.replicate q (.t ((List.range n).map fun a => eP (a % q, a)))) := by
  unfold eM lastM
  rw [List.map_replicate, List.map_map]
  rfl
section
variable {F C : Addr} {m c : Nat} {σ : L2.St} {H : Hp} {te te2 : TE} {P1 P2 : VP} {D : Ends} {Ex' : XK}
theorem ef_ruleE (hf : σ[0]? = some (some (.ref F))) : EF F C 20 (tCall sp_law_rule [] Ex' (tCons (tVar 0) tNil)) σ H vGood := fun H1 m e f hm Q q =>
  ⟨.ref F, hf, F, C, m, rfl, f, hm, fun v H3 e3 f3 p => q v H3 (m + 20) e3 f3 (by omega) p⟩
theorem ef_machE {n : Nat} (hf : σ[0]? = some (some (.ref F))) (h : E te σ (hide F H) (vI n)) (h1 : 1 ≤ n) (h4 : n ≤ 4) : EF F C 60 (tCall sp_law_machine [] Ex' (tCons (tVar 0) (tCons te tNil))) σ H (vMach n) := fun H1 m e f hm Q q =>
  ⟨.ref F, hf, h H1 (e.trans (hide_ex F H1)) _ fun u H2 e2 p2 => ⟨F, C, m, n, by rw [show u = .int n from p2]; rfl, h1, h4, f.ex e2, hm, fun v H3 e3 f3 p => q v H3 (m + 60) ((exh e2).trans e3) f3 (by omega) p⟩⟩
theorem x_parEF {i j : Nat} (h1 : EF F C c te σ H P1) (h2 : ∀ H1, Ex (hide F H) (hide F H1) → E te2 σ H1 P2) (f : Fd F C m H) (hm : m + c ≤ 1000000) (k : ∀ v w H1 m1, Ex (hide F H) (hide F H1) → Fd F C m1 H1 → m1 ≤ m + c → P1.p v (hide F H1) → P2.p w H1 → D.nx ((σ.set i (some v)).set j (some w)) H1) :
    tPar i j (tCons te (tCons te2 tNil)) D σ H := h1 H m (Ex.refl _) f hm _ fun v H1 m1 e1 f1 l1 p1 => h2 H1 e1 H1 (Ex.refl _) _ fun w H2 e2 p2 => ⟨v, w, rfl, k v w H2 m1 (e1.trans (exh e2)) (f1.ex e2) l1 (P1.mono (exh e2) p1) p2⟩
/-- a pair in two names -/
theorem g_pair {K : PySem.W.Frag} {i j : Nat} {v : V} {Q : L2.St → Hp → Prop} (h : (vT [P1, P2]).p v H) (k : ∀ a b, P1.p a H → P2.p b H → Q ((σ.set i (some a)).set j (some b)) H) : gTup K 2 (gCons (gName i) (gCons (gName j) gNil)) v σ H Q := by
  obtain ⟨a, vs, e, ha, u1, r1, e1, p1, u2, r2, e2, p2, e3⟩ := h
  have e3' : r2 = [] := e3
  subst e3'
  subst e2
  subst e1
  exact ⟨a, _, e, st_of ha, rfl, _, _, rfl, _, _, rfl, rfl, k u1 u2 p1 p2⟩
variable {r : List (List Nat)} {M : Mach} {lst d : Nat} {ta : TA}
noncomputable abbrev dlPs (r : List (List Nat)) (M : Mach) (lst : Nat) : List VP := [vD (eM M), vL ((ws r 9).map fun u => vD (eW u)), vI lst]
theorem e_delay_yes (h : A ta σ H (dlPs r M lst)) (g : Good r) (gm : GM r.length M) (h3 : M.length ≤ 3) (hd : Dl r M lst d) (hd8 : d ≤ 8) : E (tCall sp_law_delay [] Ex' ta) σ H (vI d) :=
  (e_call' ((r, M), lst) h ⟨g, gm, h3⟩).weak fun v H1 _ ⟨i, hi, p⟩ => by
    rcases hi with ⟨_, hno⟩ | ⟨d', e, _, hd'⟩
    · obtain ⟨w, w1, w2, w3⟩ := hno d (by omega)
      exact absurd (hd.all w w1 w2) w3
    · rw [hd.uniq hd', ← e]
      exact p
theorem e_delay_no (h : A ta σ H (dlPs r M lst)) (g : Good r) (gm : GM r.length M) (h3 : M.length ≤ 3) (hd : ¬ ∃ d, d ≤ 8 ∧ Dl r M lst d) : E (tCall sp_law_delay [] Ex' ta) σ H (vI (-1)) :=
  (e_call' ((r, M), lst) h ⟨g, gm, h3⟩).weak fun v H1 _ ⟨i, hi, p⟩ => by
    rcases hi with ⟨e, _⟩ | ⟨d', e, h8, hd'⟩
    · rw [← e]
      exact p
    · exact absurd ⟨d', h8, hd'⟩ hd
end

/-! _law_world -/
structure Wdl (r : List (List Nat)) (M : Mach) (lst d : Nat) : Prop where
  g : Good r
  gm : GM r.length M
  three : M.length ≤ 3
  mem : Mem r M lst
  dl : Dl r M lst d
  d8 : d ≤ 8
noncomputable def vWorld : VP := vEx (fun (x : (List (List Nat) × Mach) × Nat × Nat) => Wdl x.1.1 x.1.2 x.2.1 x.2.2) fun x => vT [vD (eR x.1.1), vD (eM x.1.2), vL ((ws x.1.1 9).map fun u => vD (eW u)), vI x.2.1, vI x.2.2, vTop, vTop]
def sp_law_world : Sp := fun vs H Q _ => ∃ (F C : Addr) (m : Nat), vs = [.ref F] ∧ Fd F C m H ∧ m + 80 ≤ 1000000 ∧ ∀ v H', Ex (hide F H) (hide F H') → Fd F C (m + 80) H' → vWorld.p v H' → Q v H'
abbrev n_law_world : List Str := ["_law_feed_here", "_law_lead", "_law_mech", "_law_texts", "_law_levels_here", "_law_at", "_law_least_here", "_law_size", "_law_a"]
theorem sc_law_world : FnScope n_law_world ["_law_feed_here"] (defScope st_law_world) := ⟨rfl, rfl, rfl, by decide +kernel, rfl, by decide +kernel, by decide +kernel⟩
theorem ok_law_world (F : Df K mg "_law_world" st_law_world []) (B : Bi mg) (c_law_rule : Cb P w K mg base "_law_rule" 2 ["_law_feed_here"] [] sp_law_rule) (c_law_machine : Cb P w K mg base "_law_machine" 2 ["_law_feed_here", "_law_many"] [] sp_law_machine) (c_law_words : Cb P w K mg base "_law_words" 2 ["_law_lead", "_law_most"] [] sp_law_words) (c_law_levels : Cb P w K mg base "_law_levels" 2 ["_law_lead", "_law_mech"] [] sp_law_levels) (c_law_least : Cb P w K mg base "_law_least" 2 ["_law_levels_here"] [] sp_law_least) (c_law_delay : Cb P w K mg base "_law_delay" 2 ["_law_mech", "_law_texts", "_law_least_here"] [] sp_law_delay) : Cb P w K mg base "_law_world" 3 ["_law_feed_here"] [] sp_law_world := by
  refine F.okS sc_law_world (fun vs H Q E h => by obtain ⟨F, C, m, e, _⟩ := h; rw [e]; rfl) (fun _ _ _ _ _ _ us hl => match us, hl with | [_], _ => rfl) fun f cdv A outer s H Ex' hr => ?_
  refine ⟨_, pss_cons (ps_set (i := 1) sc_law_world.nd rfl (Or.inl rfl) (pe_cb c_law_rule (hr.mono (by decide)) rfl (pa_cons (pv 0) pa_nil)))
    (pss_cons (ps_par (i := 2) (j := 3) rfl sc_law_world.nd rfl rfl (by decide) rfl rfl (pa_cons (pe_cb c_law_machine (hr.mono (by decide)) rfl (pa_cons (pv 0) (pa_cons (bLen K B (pv 1)) pa_nil))) (pa_cons (pe_cb c_law_words (hr.mono (by decide)) rfl (pa_cons (pv 1) (pa_cons (pe_int) pa_nil))) pa_nil)) rfl)
    (pss_cons (ps_asg (pe_cb c_law_levels (hr.mono (by decide)) rfl (pa_cons (pv 1) (pa_cons (pv 2) pa_nil))) (pg_tup rfl (pgs_cons (pg_name (i := 4) sc_law_world.nd rfl (Or.inl rfl)) (pgs_cons (pg_name (i := 5) sc_law_world.nd rfl (Or.inl rfl)) (pgs_nil)))))
    (pss_cons (ps_set (i := 6) sc_law_world.nd rfl (Or.inl rfl) (pe_cb c_law_least (hr.mono (by decide)) rfl (pa_cons (pv 4) pa_nil)))
    (pss_cons (ps_if (PW.pt (pw_or (pt_cmpR op_lt (pv 5) pe_int (by rfl)) (pw_or1 (pt_cmpR op_lt (pe_cb c_law_delay (hr.mono (by decide)) rfl (pa_cons (pv 2) (pa_cons (pv 3) (pa_cons (pv 6) pa_nil)))) pe_int (by rfl))))) (pss_cons (ps_set (i := 7) sc_law_world.nd rfl (Or.inr rfl) (bLen K B (pv 2)))
    (pss_cons (ps_set (i := 2) sc_law_world.nd rfl (Or.inl rfl) (pe_op op_repT (pe_tup (pa_cons (bTup K B (pe_lc (own := [("_law_a", 8)]) (g := gName 8) (tt := tYes) rfl sc_law_world.nd (itRg B (bLen K B (pv 1))) (blkOk_by (N := n_law_world) (sc := defScope st_law_world) (by decide +kernel)) (fun _ _ _ _ _ => pg_name (i := 8) sc_law_world.nd rfl (Or.inl rfl)) (fun _ _ _ _ _ => pts_nil) (fun _ _ _ _ _ => pe_tup (pa_cons (pe_op op_mod (bInt B (pv 8)) (pv 7)) (pa_cons (pv 8) pa_nil))))) pa_nil)) (pv 7)))
    (pss_cons (ps_asg (pe_cb c_law_levels (hr.mono (by decide)) rfl (pa_cons (pv 1) (pa_cons (pv 2) pa_nil))) (pg_tup rfl (pgs_cons (pg_name (i := 4) sc_law_world.nd rfl (Or.inl rfl)) (pgs_cons (pg_name (i := 5) sc_law_world.nd rfl (Or.inl rfl)) (pgs_nil)))))
    (pss_one (ps_set (i := 6) sc_law_world.nd rfl (Or.inl rfl) (pe_int)))))) pss_nil)
    (pss_one (ps_ret (pe_tup (pa_cons (pv 1) (pa_cons (pv 2) (pa_cons (pv 3) (pa_cons (pv 6) (pa_cons (pe_cb c_law_delay (hr.mono (by decide)) rfl (pa_cons (pv 2) (pa_cons (pv 3) (pa_cons (pv 6) pa_nil)))) (pa_cons (pv 4) (pa_cons (pv 5) pa_nil)))))))))))))), ?_⟩
  rintro vs Q ⟨F, C, m, rfl, f0, hm, k⟩
  refine x_asgF (ef_ruleE rfl) f0 (by omega) fun lv H1 m1 e1 f1 l1 ⟨r, g, p1⟩ => ?_
  have hp1 : (vD (eR r)).p lv H1 := (vD _).mono (hide_ex F H1) p1
  have h4 := g.four
  have h0 := g.gr.pos
  refine x_parEF (P2 := vL ((ws r 9).map fun u => vD (eW u))) (ef_machE (n := r.length) rfl ((e_cb (a_cons (e_var (i := 1) rfl p1) a_nil) (r_lenT (K := K))).weak fun v H3 _ p => (by
    rw [List.length_map] at p
    exact p)) h0 h4) (fun Ha ea => e_call' r (a_cons (e_var (i := 1) rfl ((vD (eR r)).mono (ea.trans (hide_ex F Ha)) p1)) (a_cons e_c a_nil)) g) f1 (by omega) fun mv tv H2 m2 e2 f2 l2 ⟨M, ⟨gm, h3⟩, p2⟩ pt => ?_
  have hr2 : (vD (eR r)).p lv H2 := (vD _).mono (e2.trans (hide_ex F H2)) p1
  have hM2 : (vD (eM M)).p mv H2 := (vD _).mono (hide_ex F H2) p2
  have hblk : ∀ b ∈ r, b.length ≤ 4 := fun b hb => by
    obtain ⟨c, hc, e⟩ := mem_getD hb
    rw [← e]
    exact g.blk4 c hc
  have z : Sz r M := ⟨⟨_, g.gr⟩, gm, h4, hblk, h3⟩
  try dsimp only [List.set]
  refine x_asgG (e_call' (r, M) (a_cons (e_var (i := 1) rfl hr2) (a_cons (e_var (i := 2) rfl hM2) a_nil)) z) fun lvv H3 e3 ⟨⟨mm, ia⟩, hy, pl⟩ => g_pair pl fun fv av pf pa => ?_
  try dsimp only at hy
  have pf : (vFams r M mm).p fv H3 := pf
  have pa : (vI ia).p av H3 := pa
  try dsimp only [List.set]
  refine x_asg (e_call' ((r, M), mm) (a_cons (e_var (i := 4) rfl pf) a_nil) z) fun sv H4 e4 ⟨lst, ⟨hl1, hl2⟩, ps⟩ => ?_
  have e24 := e3.trans e4
  have fin : ∀ {σ : L2.St} {D : Ends} {H8 : Hp} {mv' sv' fv' av' : V} {M' : Mach} {lst' d' : Nat}, σ[1]? = some (some lv) → σ[2]? = some (some mv') → σ[3]? = some (some tv) → σ[6]? = some (some sv') → σ[4]? = some (some fv') → σ[5]? = some (some av') → D.rt = Q → Ex H2 H8 → (vD (eM M')).p mv' H8 → (vI lst').p sv' H8 → Wdl r M' lst' d' →
      tRet (tTup (tCons (tVar 1) (tCons (tVar 2) (tCons (tVar 3) (tCons (tVar 6) (tCons (tCall sp_law_delay [] E0 (tCons (tVar 2) (tCons (tVar 3) (tCons (tVar 6) tNil)))) (tCons (tVar 4) (tCons (tVar 5) tNil)))))))) D σ H8 := fun {σ D H8 mv' sv' fv' av' M' lst' d'} s1 s2 s3 s6 s4 s5 hD e8 hM' hs' hw =>
    x_ret (e_tup (Ps := [vD (eR r), vD (eM M'), vL ((ws r 9).map fun u => vD (eW u)), vI lst', vI d', vTop, vTop]) (a_cons (e_var s1 ((vD _).mono e8 hr2)) (a_cons (e_var s2 hM') (a_cons (e_var s3 ((vL _).mono e8 pt)) (a_cons (e_var s6 hs') (a_cons (e_delay_yes (a_cons (e_var s2 hM') (a_cons (e_var s3 ((vL _).mono e8 pt)) (a_cons (e_var s6 hs') a_nil))) g hw.gm hw.three hw.dl hw.d8) (a_cons (e_var s4 trivial) (a_cons (e_var s5 trivial) a_nil))))))) (by simp)) fun v H9 e9 p9 => by
      rw [hD]
      exact k v H9 (e1.trans (e2.trans (exh (e8.trans e9)))) ((f2.ex (e8.trans e9)).up (by omega)) ⟨((r, M'), lst', d'), hw, p9⟩
  obtain ⟨i, hi, hdel⟩ : ∃ i : Int, (i < 0 ↔ ¬ ∃ d, d ≤ 8 ∧ Dl r M lst d) ∧ ∀ {σ : L2.St} {H' : Hp} {ta : TA}, K37.A ta σ H' (dlPs r M lst) → E (tCall sp_law_delay [] E0 ta) σ H' (vI i) := by
    by_cases c : ∃ d, d ≤ 8 ∧ Dl r M lst d
    · obtain ⟨d, hd8, hd⟩ := c
      exact ⟨d, ⟨fun h => by omega, fun h => absurd ⟨d, hd8, hd⟩ h⟩, fun h => e_delay_yes h g gm h3 hd hd8⟩
    · exact ⟨-1, ⟨fun _ => c, fun _ => by omega⟩, fun h => e_delay_no h g gm h3 c⟩
  have hmem : 0 ≤ ia → Mem r M lst := fun hia => by
    rcases hy with ⟨t, et, rnd⟩ | ⟨et, hne⟩
    · have hlt := rnd.lt
      refine mem_of_fams g.gr gm rnd.lt rnd.eq hl1 ?_
      rcases hl2 with h99 | ⟨k', a', b1, b2, b3⟩
      · have := hl1 0 (by dsimp only; omega) 0 h0
        have := rk_le (M := M) (blk r 0 0)
        dsimp only at *
        omega
      · exact ⟨k', a', b1, b2, b3⟩
    · omega
  have hM0 := gm.pos
  try dsimp only [List.set]
  refine x_if (b := decide (ia < 0) || decide (i < 0)) (t_or (t_test (e_op (e_var (i := 5) (P := vI ia) rfl pa) e_c (o_cmp (by rfl)))) fun _ => t_test (e_op (hdel (a_cons (e_var (i := 2) rfl ((vD _).mono e24 hM2)) (a_cons (e_var (i := 3) rfl ((vL _).mono e24 pt)) (a_cons (e_var (i := 6) rfl ps) a_nil)))) e_c (o_cmp (by rfl)))) (fun hb H5 e5 => ?_) (fun hb H5 e5 => ?_)
  · have h2 : 2 ≤ M.length := by
      apply Classical.byContradiction
      intro hc
      have h1 : M.length = 1 := by omega
      rcases hy with ⟨t, et, rnd⟩ | ⟨et, hne⟩
      · have hdl := one_dl gm h1 (hmem (by omega))
        rw [Bool.or_eq_true, decide_eq_true_iff, decide_eq_true_iff] at hb
        rcases hb with hb | hb
        · omega
        · exact hi.1 hb ⟨0, by omega, hdl⟩
      · exact hne 0 1 (by omega) (by omega) (one_fam g.gr gm h1 0 1)
    obtain ⟨q, hq⟩ : ∃ q, M.length = q := ⟨_, rfl⟩
    rw [hq] at h2 h3
    have e25 := e24.trans e5
    try dsimp only [List.set]
    refine x_asg (P := vI (q : Nat)) ((e_cb (a_cons (e_var (i := 2) rfl ((vD _).mono e25 hM2)) a_nil) (r_lenT (K := K))).weak fun v H6 _ p => (by
      rw [List.length_map, hq] at p
      exact p)) fun qv H6 e6 p6 => ?_
    obtain rfl : qv = V.int (q : Nat) := p6
    try dsimp only [List.set]
    have e26 := e25.trans e6
    refine x_asg (P := vD (eM (lastM q r.length))) ((e_op (e_tupD (ds := [.t ((List.range r.length).map fun a => eP (a % q, a))]) (a_cons (e_cb (a_cons (EN.e (en_lc1 (vs := [8]) (List.range r.length) (fun (a : Nat) => vI (a : Int)) (fun a => vD (eP (a % q, a))) (src0_range (n := r.length) (a_cons ((e_cb (a_cons (e_var (i := 1) rfl ((vD _).mono e26 hr2)) a_nil) (r_lenT (K := K))).weak fun v H7 _ p => (by
      rw [List.length_map] at p
      exact p)) a_nil) (by omega)).t.src (by rw [List.length_range]; omega) (fun _ _ => st_d _) (fun _ => rfl) ?_)) a_nil) (r_tupE (List.range r.length) fun a => eP (a % q, a))) a_nil) (by simp)) (e_var (i := 7) (P := vI (q : Nat)) rfl rfl) (o_repT (K := K) h2 (by omega))).weak fun v H7 _ p => (by
        rw [lastM_eM]
        exact p)) fun mv' H7 e7 p7 => ?_
    · intro a ha v H7 e7 pv
      have hmod : ((a : Int)) % ((q : Nat) : Int) = ((a % q : Nat) : Int) := by push_cast; rfl
      exact e_tupD (ds := [eN (a % q), eN a]) (a_cons ((e_op (e_cb (a_cons (e_var (i := 8) (P := vI (a : Nat)) rfl pv) a_nil) r_int1) (e_var (i := 7) (P := vI (q : Nat)) rfl rfl) (o_I (C := fun _ j => 0 < j) (g := fun i j => V.int (i % j)) (by omega))).weak fun v H8 _ p => (show (vD (eN (a % q))).p v H8 from vD_n.2 (by
        rw [← hmod]
        exact p))) (a_cons (e_i (e_var (i := 8) (P := vI (a : Nat)) rfl pv)) a_nil)) (by simp)
    · have hll : (lastM q r.length).length = q := by simp [lastM]
      have gm' : GM r.length (lastM q r.length) := lastM_gm (by omega)
      have e27 := e26.trans e7
      try dsimp only [List.set]
      refine x_asgG (e_call' (r, lastM q r.length) (a_cons (e_var (i := 1) rfl ((vD _).mono e27 hr2)) (a_cons (e_var (i := 2) rfl p7) a_nil)) ⟨⟨_, g.gr⟩, gm', h4, hblk, by dsimp only; omega⟩) fun lvv' H8 e8 ⟨⟨mm', ia'⟩, hy', pl'⟩ => g_pair pl' fun fv' av' pf' pa' => ?_
      obtain ⟨d, hd8, hd⟩ := lastM_dl (r := r) (q := q) g.gr (by omega)
      try dsimp only [List.set]
      refine x_asg (P := vI ((1 : Nat) : Int)) e_c fun sv' H9 e9 p9 => ?_
      try dsimp only [List.set]
      exact fin rfl rfl rfl rfl rfl rfl rfl (e27.trans (e8.trans e9)) ((vD _).mono (e8.trans e9) p7) p9 ⟨g, gm', by omega, lastM_mem g.gr (by omega), hd, hd8⟩
  · rw [Bool.or_eq_false_iff, decide_eq_false_iff_not, decide_eq_false_iff_not] at hb
    obtain ⟨hb1, hb2⟩ := hb
    have hD : ∃ d, d ≤ 8 ∧ Dl r M lst d := Classical.byContradiction fun hc => hb2 (hi.2 hc)
    obtain ⟨d, hd8, hd⟩ := hD
    try unfold tNext
    exact fin rfl rfl rfl rfl rfl rfl rfl (e24.trans e5) ((vD _).mono (e24.trans e5) hM2) ((vI _).mono e5 ps) ⟨g, gm, h3, hmem (by omega), hd, hd8⟩

end
end K37
set_option Elab.async false
set_option linter.all false
set_option maxRecDepth 100000
set_option maxHeartbeats 1000000
/-! E21: repr of lists of data, slices of tuples. -/
namespace K37
open PySem L2 Evl
def rReprD (K : PySem.W.Frag) : List V → Hp → VK → Prop := fun xs H Q => ∃ a d, xs = [.ref a] ∧ Dp K H (.ref a) d ∧ d.showable = true ∧ d.hasDict = false ∧ d.depth ≤ 64 ∧ d.shown.length ≤ sizeLine ∧ Q (.str d.shown) H
theorem call_reprD {X : Cx} (hg : X.A.guards = some []) (hu : X.A.units + 65 < cLine) : CallR X (.builtin "repr") (rReprD X.K) := by
  intro pins s σ H xs us Q I r h
  obtain ⟨a, d, rfl, hd, h1, h2, h3, h4, q⟩ := h
  obtain ⟨u, rfl, ru⟩ := vals1 r
  obtain ⟨as, rd⟩ := Dp.reads I d (.ref a) u hd ru
  cases ru
  exact PySem.repr_of_reads' rd h1 (PyData.noDict_hsm h2) hg (by omega) (fun _ _ e => e) (fun h' u tk hk => ⟨.str _, H, I.kept hk, ⟨_, rfl⟩, q⟩) h4
theorem bRepr (K : PySem.W.Frag) {mg : Str → Option Value} {X : Cx} {a : Expr} {ta : TE} {pos p : Pos} (B : Bi mg) (hgu : X.A.guards = some []) (hu : X.A.units + 65 < cLine) (ha : PE X a ta) (hK : X.K = K := by rfl) (hM : X.mg = mg := by rfl) (hg : Gl X "repr" := by rfl) (he : starEach [a] X.env = (false, eval a X.env) :: starEach [] X.env := by rfl) (hpl : (backTo pos (starEach [] X.env)).any (·.1) = false := by rfl) :
    PE X (.Call (.Name "repr" p) [a] [] pos) (tCB (rReprD K) (tCons ta tNil)) := by
  subst hK hM
  exact pe_callB (call_reprD hgu hu) hg B.g (by decide +kernel) (pa_cons ha pa_nil he) (he := he) (hpl := hpl)
/-! small data -/
mutual
def Dv.low : Dv → Bool
  | .n i => decide (i.natAbs < 1000)
  | .t ds => Dv.lows ds
def Dv.lows : List Dv → Bool
  | [] => true
  | d :: ds => Dv.low d && Dv.lows ds
end
mutual
def Dv.wt : Dv → Nat
  | .n _ => 10
  | .t ds => Dv.wts ds
def Dv.wts : List Dv → Nat
  | [] => 0
  | d :: ds => Dv.wt d + 1 + Dv.wts ds
end
theorem log_low {n : Nat} (h : n < 1000) : n.log2 < 10 := by
  by_cases h0 : n = 0
  · rw [h0]
    decide
  · exact (Nat.log2_lt h0).2 (by omega)
mutual
theorem low_ok : ∀ d : Dv, d.low = true → d.py.showable = true ∧ d.py.hasDict = false ∧ d.py.leavesShort 13 = true ∧ d.py.weight ≤ d.wt
  | .n i, h => by
    rw [Dv.low, decide_eq_true_iff] at h
    have hl := log_low h
    rw [Dv.py, Dv.wt]
    refine ⟨?_, ?_, ?_, ?_⟩
    · simp only [PyData.showable, decide_eq_true_iff]
      omega
    · simp only [PyData.hasDict]
    · have h5 := int_text_length_le10 (a := i) (k := 3) (by decide) (by omega)
      have h6 : (PyData.shown (.int i)).length ≤ 13 := by
        rw [PyData.shown_int, ofString_length]
        omega
      rw [PyData.leavesShort]
      exact decide_eq_true h6
    · simp only [PyData.weight]
      split <;> omega
  | .t ds, h => by
    rw [Dv.low] at h
    obtain ⟨h1, h2, h3, h4⟩ := lows_ok ds h
    rw [Dv.py, Dv.wt]
    refine ⟨?_, ?_, ?_, ?_⟩
    · simp only [PyData.showable]; exact h1
    · simp only [PyData.hasDict]; exact h2
    · simp only [PyData.leavesShort]; exact h3
    · simp only [PyData.weight]; exact h4
theorem lows_ok : ∀ ds : List Dv, Dv.lows ds = true → PyData.showableAll (Dv.pys ds) = true ∧ PyData.hasDictAll (Dv.pys ds) = false ∧ PyData.leavesShortAll 13 (Dv.pys ds) = true ∧ PyData.weightAll (Dv.pys ds) ≤ Dv.wts ds
  | [], _ => by
    rw [Dv.pys, Dv.wts]
    simp [PyData.showableAll, PyData.hasDictAll, PyData.leavesShortAll, PyData.weightAll]
  | d :: ds, h => by
    rw [Dv.lows, Bool.and_eq_true] at h
    obtain ⟨h1, h2, h3, h4⟩ := low_ok d h.1
    obtain ⟨g1, g2, g3, g4⟩ := lows_ok ds h.2
    rw [Dv.pys, Dv.wts]
    simp only [PyData.showableAll, PyData.hasDictAll, PyData.leavesShortAll, PyData.weightAll, h1, h2, h3, g1, g2, g3]
    refine ⟨rfl, rfl, rfl, by omega⟩
end
theorem wts_map {α : Type} {f : α → Dv} {c : Nat} : ∀ {xs : List α}, (∀ x ∈ xs, (f x).wt ≤ c) → Dv.wts (xs.map f) ≤ (c + 1) * xs.length
  | [], _ => by rw [List.map_nil, Dv.wts]; omega
  | x :: xs, h => by
    have h1 := h x List.mem_cons_self
    have h2 := wts_map (f := f) (c := c) (xs := xs) fun y hy => h y (List.mem_cons_of_mem _ hy)
    rw [List.map_cons, Dv.wts, List.length_cons, Nat.mul_succ]
    omega
theorem lows_map {α : Type} {f : α → Dv} : ∀ {xs : List α}, (∀ x ∈ xs, (f x).low = true) → Dv.lows (xs.map f) = true
  | [], _ => by rw [List.map_nil, Dv.lows]
  | x :: xs, h => by
    rw [List.map_cons, Dv.lows, h x List.mem_cons_self, lows_map fun y hy => h y (List.mem_cons_of_mem _ hy)]
    rfl
theorem low_eN {n : Nat} (h : n < 1000) : (eN n).low = true := by
  unfold eN
  rw [Dv.low, decide_eq_true_iff]
  omega
theorem low_eW {w : List Nat} (h : ∀ x ∈ w, x < 1000) : (eW w).low = true := by
  unfold eW
  rw [Dv.low]
  exact lows_map fun x hx => low_eN (h x hx)
theorem wt_eW (w : List Nat) : (eW w).wt ≤ 11 * w.length := by
  unfold eW
  rw [Dv.wt]
  exact wts_map (c := 10) fun x _ => by
    unfold eN
    rw [Dv.wt]
    omega
theorem low_eR {r : List (List Nat)} (h : ∀ w ∈ r, ∀ x ∈ w, x < 1000) : (eR r).low = true := by
  unfold eR
  rw [Dv.low]
  exact lows_map fun w hw => low_eW (h w hw)
theorem wt_eR {r : List (List Nat)} {c : Nat} (h : ∀ w ∈ r, w.length ≤ c) : (eR r).wt ≤ (11 * c + 1) * r.length := by
  unfold eR
  rw [Dv.wt]
  exact wts_map fun w hw => Nat.le_trans (wt_eW w) (Nat.mul_le_mul (Nat.le_refl _) (h w hw))
section
variable {K : PySem.W.Frag} {σ : L2.St} {H : Hp} {te ta tb : TE} {Ps : List VP}
theorem r_reprD {ds : List Dv} (hd : Dv.deps ds ≤ 60) (hl : Dv.lows ds = true) (hw : Dv.wts ds ≤ 1000000) : R (rReprD K) [vDs ds] (vV (.str (PyData.list (Dv.pys ds)).shown)) := fun vs H h Q q => by
  obtain ⟨v, r, e, p, h2⟩ := h
  rw [show r = [] from h2] at e
  have dp := vL_dp (K := K) p
  obtain ⟨a, us, e1, _⟩ := p
  subst e1
  obtain ⟨h1, h2, h3, h4⟩ := lows_ok ds hl
  have hs := shaped_l hd
  have hdep : (PyData.list (Dv.pys ds)).depth ≤ 64 := by
    have h5 : ((PyData.list (Dv.pys ds)).canLay0 && decide ((PyData.list (Dv.pys ds)).depth ≤ 64)) = true := hs
    rw [Bool.and_eq_true, decide_eq_true_iff] at h5
    exact h5.2
  refine ⟨a, _, e, dp, ?_, ?_, hdep, ?_, q _ H (Ex.refl H) rfl⟩
  · simp only [PyData.showable]; exact h1
  · simp only [PyData.hasDict]; exact h2
  · refine PyData.shown_fits (B := 13) (by decide) (by decide) ?_ ?_
    · simp only [PyData.leavesShort]; exact h3
    · simp only [PyData.weight]
      have : (2 : Nat) ^ 20 = 1048576 := by decide
      omega
theorem r_reprB (b c : Bool) : R (rReprD K) [vL [vB b, vB c]] (vV (.str (PyData.list [.bool b, .bool c]).shown)) := fun vs H h Q q => by
  obtain ⟨v, r, e, ⟨a, us, e1, hl, v1, r1, e2, p1, v2, r2, e3, p2, e4⟩, h2⟩ := h
  rw [show r = [] from h2] at e
  have e4' : r2 = [] := e4
  subst e4'
  subst e3
  subst e2
  subst e1
  obtain rfl : v1 = V.bl b := p1
  obtain rfl : v2 = V.bl c := p2
  refine ⟨a, _, e, .lst (sq_of hl) (.cons (.bl b) (.cons (.bl c) .nil)), ?_, ?_, ?_, ?_, q _ H (Ex.refl H) rfl⟩
  · simp [PyData.showable, PyData.showableAll]
  · simp [PyData.hasDict, PyData.hasDictAll]
  · simp [PyData.depth, PyData.depthAll]
  · cases b <;> cases c <;> decide +kernel
/-! slices of tuples of known values -/
theorem AllP.drop {H : Hp} : ∀ {Ps : List VP} {vs : List V} (n : Nat), AllP Ps vs H → AllP (Ps.drop n) (vs.drop n) H
  | _, _, 0, h => by simpa using h
  | [], vs, n + 1, h => by rw [show vs = [] from h]; rfl
  | P :: Ps, _, n + 1, ⟨v, r, e, _, h⟩ => by rw [e]; exact AllP.drop n h
theorem AllP.take {H : Hp} : ∀ {Ps : List VP} {vs : List V} (n : Nat), AllP Ps vs H → AllP (Ps.take n) (vs.take n) H
  | _, _, 0, _ => by rw [List.take_zero, List.take_zero]; rfl
  | [], vs, n + 1, h => by rw [show vs = [] from h]; rfl
  | P :: Ps, _, n + 1, ⟨v, r, e, p, h⟩ => by rw [e]; exact ⟨v, r.take n, rfl, p, AllP.take n h⟩
theorem e_slP {to1 to2 : TO} {lo hi : Option Int} (h : E te σ H (vT Ps)) (h1 : EvO to1 σ H lo) (h2 : EvO to2 σ H hi) :
    E (tSl (rSlA K) te to1 to2) σ H (vT ((Ps.drop (HT.sIx Ps.length 0 lo)).take (HT.sIx Ps.length Ps.length hi - HT.sIx Ps.length 0 lo))) := fun H1 e Q q =>
  h H1 e _ fun v H2 e2 p => h1 H2 (e.trans e2) _ fun H3 e3 => h2 H3 ((e.trans e2).trans e3) _ fun H4 e4 => by
    obtain ⟨a, vs, a1, a2, a3⟩ := p
    have hl := a3.length
    have e24 : Ex H2 H4 := e3.trans e4
    have a3' := AllP.mono e24 a3
    refine ⟨a, vs, a1, st_of (e24 _ _ a2), fun hw => ?_, fun _ p' hp => ?_⟩
    · rw [hl] at hw
      rw [hw.1, hw.2, List.drop_zero, Nat.sub_zero, List.take_length] at q
      exact q _ H4 (e2.trans e24) ⟨a, vs, rfl, e24 _ _ a2, a3'⟩
    · refine q _ _ ((e2.trans e24).trans (Ex.new hp)) ⟨p', _, rfl, upd_same, ?_⟩
      unfold cutV
      rw [hl]
      exact ((AllP.mono (Ex.new hp) a3').drop _).take _
end
end K37
set_option Elab.async false
set_option linter.all false
set_option maxRecDepth 100000
set_option maxHeartbeats 2000000
/-! E23: the law's def as the claim calls it: there, nothing is being shown (no repr is under way). -/
namespace K37
open PySem PySem.Spec PyProof.Rows L2
section
variable {P : Program} {w : World} {K : PySem.W.Frag} {mg mb : Str → Option Value} {x px : Str} {st : Stmt} {N : List Str} {fa a : Addr} {fd : FuncData} {s0 : Shared} {its : List Value} {ns : List Int}
/-- the body's reading, once, at the place where the def is entered -/
theorem body_at {base : Heap} {ps : List Str} {A : Around} {out : List Env} {H : Hp} {us : List Value} {vs : List V} {Q : VK} {X0 : XK} {args : Args} (F : FnP K x st [] fa fd) (S : FnScope N ps (defScope st))
    (hA1 : A.handled = none) (hA2 : A.depth < recursionLimit) (en : Env0 P w K mg base A out s0 H) (bi : BindsTo s0 fd args (ps.zip us)) (hl : vs.length = ps.length) (rv : Vals vs us)
    (body : ∀ cdv : Value, ∃ t, PSs (cxOf CX0 P w K mg base N x (defScope st) fa cdv A out s0 H X0) (defBody st) t ∧ t { nx := fun _ H' => Q .non H', rt := Q } (start N vs) H) :
    codeAny (model P w) A (.call (.ref fa) args) (CR CX0 out P w H s0 Q X0) s0 := by
  obtain ⟨oc, od, dV, kV, doc, pm, an, cdv, ct, osl, rfl, at1, at2, _, _⟩ := F.ex
  obtain ⟨t, rd, go⟩ := body cdv
  have inK : K.In s0.heap := en.mod.kin.keeps fun b o h => (en.bs b o h).1
  have noL : s0.heap.NoLimit := en.mod.nolimit.keeps fun b o h => (en.bs b o h).1
  refine codeAny_call_function hA2 (inK _ _ at1) rfl S.co S.gen rfl (PySem.W.codeRec_of inK at2) (bi _ _ _ _ (wpAny_newFunctionEnv_cells S.kind (fun y hy => ?_) fun env henv s1 entered => ?_))
  · rcases S.par y.1 (List.of_mem_zip hy).1 with q | q
    · exact Or.inl q
    · exact Or.inr ⟨q, PySem.W.cellsFrom_some _ _ _ (Or.inl q)⟩
  · subst henv
    have start0 := inv_start (CX := CX0) (E := X0) S hA1 en hl rv entered
    refine ⟨noL.keeps entered.toInCall.keep, codeAny_func (wpAny_mono (rd.run [] s1 (start N vs) H _ start0 go) (fun fl s2 left => ?_) fun _ _ h => h)⟩
    cases fl with
    | brk => exact left.elim fun _ h => h.elim fun _ h => h.2.elim
    | cont => exact left.elim fun _ h => h.elim fun _ h => h.2.elim
    | next =>
      obtain ⟨σ2, H2, J, q⟩ := left
      exact ⟨V.non, H2, J.os, J.bare, J.base, J.hok, rfl, q⟩
    | ret u =>
      obtain ⟨v2, σ2, H2, J, ru, q⟩ := left
      exact ⟨v2, H2, J.os, J.bare, J.base, J.hok, ru, q⟩
/-- the heap as the claim leaves it: the script alone, locked -/
theorem script_heap (KX : K.In s0.heap) (ha : s0.heap.get? a = some { cls := .type "list", data := .seq its.toArray }) (hi : IntsAre its ns) (hl : ns.length ≤ sizeLine) :
    ∃ H : Hp, Only H ∧ SqL K H a (ns.map V.int) ∧ HOk P w H s0.heap ∧ ∀ b, H b ≠ none → b = a ∧ K.lookup a = none := by
  have rv := L2.vals_ints hi
  have len := hi.length
  cases hk : K.lookup a with
  | some o =>
    have e := (KX a o hk).symm.trans ha
    cases e
    exact ⟨fun _ => none, fun _ => Or.inl rfl, Or.inr ⟨_, its.toArray, _, hk, rfl, rfl, rfl, by rw [List.size_toArray, len]; exact hl, by simpa using rv⟩, fun b u h => (by cases h), fun b h => absurd rfl h⟩
  | none =>
    obtain ⟨H, hH⟩ : ∃ H : Hp, H = fun b => if b = a then some (.frz { cls := .type "list", data := .seq its.toArray } (.lst (ns.map V.int))) else none := ⟨_, rfl⟩
    have at_ : H a = some (.frz { cls := .type "list", data := .seq its.toArray } (.lst (ns.map V.int))) := by rw [hH]; exact if_pos rfl
    have off : ∀ b, b ≠ a → H b = none := fun b n => by rw [hH]; exact if_neg n
    refine ⟨H, fun b => ?_, Or.inl (Or.inr ⟨_, at_⟩), fun b u h => ?_, fun b h => ⟨?_, rfl⟩⟩
    · by_cases c : b = a
      · rw [c]
        exact Or.inr ⟨_, _, at_⟩
      · exact Or.inl (off b c)
    · by_cases c : b = a
      · rw [c, at_] at h
        cases h
        rw [c]
        exact ⟨ha, by rw [List.length_map]; exact hl, its, _, rv, ha⟩
      · rw [off b c] at h
        cases h
    · apply Classical.byContradiction
      intro c
      exact h (off b c)
theorem law_at (KX : K.In s0.heap) (hns : s0.heap.Ns mainGlobals mg) (hb : s0.heap.Ns builtinsNs mb) (hbb : ∀ y : Str, y ≠ "__name__" → mb y = bootBuiltins y) (hlim : s0.heap.NoLimit) (hg : s0.gens = #[])
    (ha : s0.heap.get? a = some { cls := .type "list", data := .seq its.toArray }) (hi : IntsAre its ns) (hl : ns.length ≤ sizeLine) (F : FnP K x st [] fa fd) (S : FnScope N [px] (defScope st)) (bi : ∀ (s : Shared) (u : Value), BindsTo s fd ⟨[u], []⟩ [(px, u)])
    (body : ∀ (base : Heap) (H : Hp) (cdv : Value), SqL K H a (ns.map V.int) → ∃ t, PSs (cxOf CX0 P w K mg base N x (defScope st) fa cdv callerA [] s0 H fun _ _ _ => False) (defBody st) t ∧ t { nx := fun _ _ => V.non = .bl true, rt := fun v _ => v = .bl true } (start N [.ref a]) H) :
    codeAny (model P w) callerA (.call (.ref fa) ⟨[.ref a], []⟩) (fun r s' => r = .ok (.ret (.bool true)) ∧ OldK s0.heap s'.heap ∧ s'.os = s0.os ∧ AllBare s'.gens) s0 := by
  obtain ⟨H, hO, hS, hok, hA⟩ := script_heap (P := P) (w := w) KX ha hi hl
  have un : ∀ {b : Addr} {o : Obj}, s0.heap.get? b = some o → (b = a → K.lookup a = none → False) → (hidT s0.heap H).get? b = some o := fun {b o} h n => hidT_get h (by
    cases q : H b with
    | none => rfl
    | some u =>
      obtain ⟨z1, z2⟩ := hA b (by rw [q]; simp)
      exact (n z1 z2).elim)
  have ns1 : ∀ {b : Addr} {m : Str → Option Value}, s0.heap.Ns b m → (hidT s0.heap H).Ns b m := fun {b m} ⟨o, es, ep, h, hd, rest⟩ => ⟨o, es, ep, un h (fun z _ => by
    rw [z, ha] at h
    cases h
    cases hd), hd, rest⟩
  have inB : K.In (hidT s0.heap H) := fun b o h => un (KX b o h) fun z1 z2 => by
    rw [z1, z2] at h
    cases h
  have md : Mod K mg (hidT s0.heap H) := ⟨inB, ns1 hns, ⟨mb, ns1 hb, hbb⟩, by
    obtain ⟨mc, c1, c2⟩ := hlim
    exact ⟨mc, ns1 c1, c2⟩⟩
  have en : Env0 P w K mg (hidT s0.heap H) callerA [] s0 H := ⟨rfl, md, fun b o h => of_hidT h, Nat.le_of_eq (hidT_size _ _), trivial, (fun b h => absurd (show b ∈ ([] : List Addr) from h) (by simp)), hok, .of_eq hg⟩
  refine codeAny_mono (body_at (us := [.ref a]) (vs := [.ref a]) (Q := fun v _ => v = .bl true) (X0 := fun _ _ _ => False) F S rfl (by decide +kernel) en (bi s0 (.ref a)) rfl (.cons rfl .nil) fun cdv => body _ H cdv hS) fun r s' h => ?_
  cases r with
  | error e => exact h.elim
  | ok fl =>
    cases fl with
    | next => exact h.elim
    | brk => exact h.elim
    | cont => exact h.elim
    | ret u =>
      obtain ⟨v, H2, os, bare, ch, hok2, ru, hv⟩ := h
      have hv' : v = V.bl true := hv
      subst hv'
      obtain rfl : u = Value.bool true := ru
      refine ⟨rfl, OldK.of_keep fun b o hbo => ?_, os, bare⟩
      rcases hO b with z | ⟨ob, xs, z⟩
      · exact ch.keep b o hbo z (fun y => absurd (show b ∈ ([] : List Addr) from y) (by simp)) (fun y => absurd (show b ∈ ([] : List Addr) from y) (by simp))
      · have p1 := (hok b _ z).1
        have p2 := (hok2 b _ (ch.frzs b ob _ z)).1
        rw [p1] at hbo
        cases hbo
        exact p2
end
end K37
set_option Elab.async false
set_option linter.all false
set_option maxRecDepth 100000
set_option maxHeartbeats 2000000
/-! W26: the law. -/
namespace K37
open PySem L2 Evl
section
variable {P : Program} {w : World} {K : PySem.W.Frag} {mg : Str → Option Value} {base : Heap}

theorem g_three {σ : L2.St} {H : Hp} {i j k : Nat} {v : V} {P1 P2 P3 : VP} {Q : L2.St → Hp → Prop} (h : (vT [P1, P2, P3]).p v H) (hk : ∀ a b c, P1.p a H → P2.p b H → P3.p c H → Q (((σ.set i (some a)).set j (some b)).set k (some c)) H) :
    gTup K 3 (gCons (gName i) (gCons (gName j) (gCons (gName k) gNil))) v σ H Q := by
  obtain ⟨a, vs, e, ha, u1, r1, e1, p1, u2, r2, e2, p2, u3, r3, e3, p3, e4⟩ := h
  have e4' : r3 = [] := e4
  subst e4'
  subst e3
  subst e2
  subst e1
  exact ⟨a, _, e, st_of ha, rfl, u1, _, rfl, u2, _, rfl, u3, _, rfl, rfl, hk _ _ _ p1 p2 p3⟩
abbrev n_law : List Str := ["_law_script", "_law_feed_here", "_law_lap", "_law_world_here", "_law_lead", "_law_mech", "_law_texts", "_law_least_here", "_law_delay_here", "_law_levels_here", "_law_at", "_law_first", "_law_sets", "_law_due_here", "_law_told", "_law_late", "_law_some", "_law_text", "_law_short_here", "_law_own"]
theorem sc_law : FnScope n_law ["_law_script"] (defScope st_law) := ⟨rfl, rfl, rfl, by decide +kernel, rfl, by decide +kernel, by decide +kernel⟩
section
variable {σ : L2.St} {H : Hp} {te ta tb : TE} {r : List (List Nat)} {M : Mach} {lst d : Nat} {u : List Nat}
theorem e_sw (h : E te σ H (vEx (fun (y : List Nat × Nat) => Mem r M y.2 ∧ Fw r M y.2 y.1) fun y => vD (eW y.1))) (hm : Mem r M lst) (hf : Fw r M lst u) : E te σ H (vD (eW u)) := h.weak fun v H1 _ ⟨⟨u', m'⟩, ⟨h1, h2⟩, p⟩ => by
  dsimp only at h1 h2 p
  rw [hm.uniq h1] at hf
  rw [hf.uniq h2]
  exact p
theorem e_dl (h : E te σ H (vEx (fun (y : Nat × Nat) => Mem r M y.2 ∧ Dl r M y.2 y.1) fun y => vI y.1)) (hm : Mem r M lst) (hd : Dl r M lst d) : E te σ H (vD (eN d)) := h.weak fun v H1 _ ⟨⟨d', m'⟩, ⟨h1, h2⟩, p⟩ => by
  dsimp only at h1 h2 p
  rw [hm.uniq h1] at hd
  rw [hd.uniq h2]
  exact vD_n.2 p
theorem e_sb (h : E te σ H (vEx (fun (y : Nat × Nat) => Mem r M y.2 ∧ Dl r M y.2 y.1) fun y => vD (eR (setsOf r M y.1)))) (hm : Mem r M lst) (hd : Dl r M lst d) : E te σ H (vD (eR (setsOf r M d))) := h.weak fun v H1 _ ⟨⟨d', m'⟩, ⟨h1, h2⟩, p⟩ => by
  dsimp only at h1 h2 p
  rw [hm.uniq h1] at hd
  rw [hd.uniq h2]
  exact p
theorem e_st {wd : List Nat} {b : Bool} (h : E te σ H (vEx (fun (y : Nat) => Mem r M y) fun y => vB (rk M wd == y))) (hm : Mem r M lst) (hb : (rk M wd == lst) = b) : E te σ H (vB b) := h.weak fun v H1 _ ⟨y, h1, p⟩ => by
  dsimp only at h1 p
  rw [← hm.uniq h1, hb] at p
  exact p
/-- two equal texts: no difference -/
theorem t_same {x : Str} (ha : E ta σ H (vV (.str x))) (hb : E tb σ H (vV (.str x))) : EvT (tTest (tOp rNe ta tb)) σ H false := t_test ((e_op ha hb (o_ne (by rfl))).weak fun v H1 _ p => by
  rw [decide_eq_true rfl] at p
  exact p)
theorem ends {α : Type} {l : List α} (h : l ≠ []) : ∃ x y, l[0]? = some x ∧ l.getLast? = some y ∧ x ∈ l ∧ y ∈ l := by
  cases l with
  | nil => exact absurd rfl h
  | cons x t => exact ⟨x, (x :: t).getLast h, rfl, List.getLast?_eq_some_getLast h, List.mem_cons_self, List.getLast_mem h⟩
theorem wdl_wld (W : Wdl r M lst d) : Wld r M := ⟨W.g, ⟨⟨_, W.g.gr⟩, W.gm, W.g.four, fun b hb => by
  obtain ⟨c, hc, e⟩ := mem_getD hb
  rw [← e]
  exact W.g.blk4 c hc, W.three⟩, lst, d, W.mem, W.dl, W.d8⟩
/-- what is due, as data -/
noncomputable abbrev dueDs (r : List (List Nat)) (M : Mach) (d : Nat) (u : List Nat) : List Dv := [eW u, eN d, eR (setsOf r M d)]
theorem due_low (W : Wdl r M lst d) (hf : Fw r M lst u) : Dv.deps (dueDs r M d u) ≤ 60 ∧ Dv.lows (dueDs r M d u) = true ∧ Dv.wts (dueDs r M d u) ≤ 1000000 := by
  have h4 := W.g.four
  have h3 := W.three
  have h8 := W.d8
  have hul := fw_le W.g.gr W.dl hf
  have hu : ∀ x ∈ u, x < 1000 := fun x hx => by
    have := hf.inl.letters W.g.gr x hx
    omega
  have hs : ∀ s ∈ setsOf r M d, s.length ≤ 3 ∧ ∀ x ∈ s, x < 1000 := fun s hs => by
    have h1 := sets_len W.g.gr W.dl hs
    have h2 := W.mem.le_len
    obtain ⟨w, w1, w2, e⟩ := (mem_setsOf W.g.gr).1 hs
    refine ⟨by omega, fun x hx => ?_⟩
    rw [← e, mem_img] at hx
    have := mp_lt W.gm (w1.letters W.g.gr) x hx
    omega
  have hsl : (setsOf r M d).length ≤ 3852 := by
    have h1 := canon_len_le soW ((ws r d).map (img M))
    rw [List.length_map] at h1
    have h2 := ws_le W.g (k := d) (by omega)
    unfold setsOf
    omega
  have d1 : (eN d).dep = 0 := by unfold eN; rw [Dv.dep]
  have d2 := dep_eW u
  have d3 := dep_eR (setsOf r M d)
  have w1 := wt_eW u
  have w2 : (eN d).wt = 10 := by unfold eN; rw [Dv.wt]
  have w3 := wt_eR (c := 3) fun s h => (hs s h).1
  refine ⟨?_, ?_, ?_⟩
  · simp only [Dv.deps]
    omega
  · simp only [Dv.lows]
    rw [low_eW hu, low_eN (by omega), low_eR fun s h => (hs s h).2]
    rfl
  · simp only [Dv.wts]
    omega
theorem shown_tt : (PyData.list [.bool true, .bool true]).shown = (Str.ofString "[True, True]") := by decide +kernel
theorem shown_ff : (PyData.list [.bool false, .bool false]).shown = (Str.ofString "[False, False]") := by decide +kernel
end
theorem law_body {s0 : Shared} {fa a : Addr} {cdv : Value} {H : Hp} {ns : List Int} (B : Bi mg) (c_law_feed : Cb P w K mg base "_law_feed" 1 ["_law_script"] [] (sp_law_feed K)) (c_law_world : Cb P w K mg base "_law_world" 3 ["_law_feed_here"] [] sp_law_world) (c_law_due : Cb P w K mg base "_law_due" 3 ["_law_mech", "_law_texts", "_law_least_here", "_law_delay_here"] [] sp_law_due) (c_settling_word : Cb P w K mg base "settling_word" 8 ["rule", "machine"] [] sp_settling_word) (c_delay_of : Cb P w K mg base "delay_of" 8 ["rule", "machine"] [] sp_delay_of) (c_sets_behind : Cb P w K mg base "sets_behind" 9 ["rule", "machine"] [] sp_sets_behind) (c_law_are_longer_right : Cb P w K mg base "_law_are_longer_right" 2 ["_law_mech", "_law_texts", "_law_least_here", "_law_sets"] [] sp_law_are_longer_right) (c_law_short : Cb P w K mg base "_law_short" 1 ["_law_texts", "_law_size"] [] sp_law_short) (c_settles : Cb P w K mg base "settles" 9 ["rule", "machine", "word"] [] sp_settles) (c_behind : Cb P w K mg base "behind" 9 ["rule", "machine", "word"] [] sp_behind) (c_law_rank : Cb P w K mg base "_law_rank" 1 ["_law_own"] [] sp_law_rank) (c_law_map : Cb P w K mg base "_law_map" 1 ["_law_mech", "_law_text"] [] sp_law_map) (k_settling_word : Ck P w K mg base "settling_word" 8 ["rule", "machine"] sp_settling_word) (k_delay_of : Ck P w K mg base "delay_of" 8 ["rule", "machine"] sp_delay_of) (k_sets_behind : Ck P w K mg base "sets_behind" 9 ["rule", "machine"] sp_sets_behind) (hS : SqL K H a (ns.map V.int)) (hn : ns.length ≤ 63) :
    ∃ t, PSs (cxOf CX0 P w K mg base n_law "law" (defScope st_law) fa cdv callerA [] s0 H fun _ _ _ => False) (defBody st_law) t ∧ t { nx := fun _ _ => V.non = .bl true, rt := fun v _ => v = .bl true } (start n_law [.ref a]) H := by
  have hr : Room 9 (callerA.deeper (PyProof.Rows.envOfC "law" (defScope st_law) s0.heap.objs.size fa cdv)) := Room.deeper (k := 9) ⟨rfl, by decide, by decide⟩ _
  have build : ∀ {t : TS}, PSs (cxOf CX0 P w K mg base n_law "law" (defScope st_law) fa cdv callerA [] s0 H fun _ _ _ => False).nox (defBody st_law) t → t { nx := fun _ _ => V.non = .bl true, rt := fun v _ => v = .bl true } (start n_law [.ref a]) H → ∃ t, PSs (cxOf CX0 P w K mg base n_law "law" (defScope st_law) fa cdv callerA [] s0 H fun _ _ _ => False) (defBody st_law) t ∧ t { nx := fun _ _ => V.non = .bl true, rt := fun v _ => v = .bl true } (start n_law [.ref a]) H := fun h1 h2 => ⟨_, PSs.nox h1, h2⟩
  refine build (pss_cons (ps_set (i := 1) sc_law.nd rfl (Or.inl rfl) (pe_cb c_law_feed (hr.mono (by decide)) rfl (pa_cons (pv 0) pa_nil)))
    (pss_cons (ps_for PassesOwn.never rfl (itRg B pe_int) (pg_name (i := 2) sc_law.nd rfl (Or.inl rfl)) (pss_cons (ps_set (i := 3) sc_law.nd rfl (Or.inl rfl) (pe_cb c_law_world (hr.mono (by decide)) rfl (pa_cons (pv 1) pa_nil)))
    (pss_cons (ps_asg (slT K (pv 3) po_none (po_some pe_int)) (pg_tup rfl (pgs_cons (pg_name (i := 4) sc_law.nd rfl (Or.inl rfl)) (pgs_cons (pg_name (i := 5) sc_law.nd rfl (Or.inr rfl)) (pgs_cons (pg_name (i := 6) sc_law.nd rfl (Or.inl rfl)) (pgs_nil))))))
    (pss_cons (ps_asg (slT K (pv 3) (po_some pe_int) po_none) (pg_tup rfl (pgs_cons (pg_name (i := 7) sc_law.nd rfl (Or.inr rfl)) (pgs_cons (pg_name (i := 8) sc_law.nd rfl (Or.inl rfl)) (pgs_cons (pg_name (i := 9) sc_law.nd rfl (Or.inl rfl)) (pgs_cons (pg_name (i := 10) sc_law.nd rfl (Or.inl rfl)) (pgs_nil)))))))
    (pss_cons (ps_asg (pe_cb c_law_due (hr.mono (by decide)) rfl (pa_cons (pv 5) (pa_cons (pv 6) (pa_cons (pv 7) (pa_cons (pv 8) pa_nil))))) (pg_tup rfl (pgs_cons (pg_name (i := 11) sc_law.nd rfl (Or.inl rfl)) (pgs_cons (pg_name (i := 12) sc_law.nd rfl (Or.inl rfl)) (pgs_nil)))))
    (pss_cons (ps_set (i := 13) sc_law.nd rfl (Or.inl rfl) (pe_lst (pa_cons (pv 11) (pa_cons (pv 8) (pa_cons (pv 12) pa_nil)))))
    (pss_cons (ps_set (i := 14) sc_law.nd rfl (Or.inl rfl) (pe_lst (pa_cons (pe_cb c_settling_word (hr.mono (by decide)) rfl (pa_cons (pv 4) (pa_cons (pv 5) pa_nil))) (pa_cons (pe_cb c_delay_of (hr.mono (by decide)) rfl (pa_cons (pv 4) (pa_cons (pv 5) pa_nil))) (pa_cons (pe_cb c_sets_behind (hr.mono (by decide)) rfl (pa_cons (pv 4) (pa_cons (pv 5) pa_nil))) pa_nil)))))
    (pss_cons (ps_set (i := 15) sc_law.nd rfl (Or.inl rfl) (pe_lst (pa_cons (pe_kw k_settling_word (hr.mono (by decide)) rfl (pk_cons (pv 5) (pk_cons (pv 4) pk_nil))) (pa_cons (pe_kw k_delay_of (hr.mono (by decide)) rfl (pk_cons (pv 5) (pk_cons (pv 4) pk_nil))) pa_nil))))
    (pss_cons (ps_expr (pe_bm PySem.F.plainAttrs_list PySem.F.slot_list_append PySem.F.type_list_append mt_append (pv 15) (pa_cons (pe_kw k_sets_behind (hr.mono (by decide)) rfl (pk_cons (pv 5) (pk_cons (pv 4) pk_nil))) pa_nil)))
    (pss_cons (ps_if (PW.pt (pw_or (pt_cmpR op_ne (bRepr K B rfl (room65 hr) (pv 14)) (bRepr K B rfl (room65 hr) (pv 13)) (by rfl)) (pw_or1 (pt_cmpR op_ne (bRepr K B rfl (room65 hr) (pv 15)) (bRepr K B rfl (room65 hr) (pv 13)) (by rfl))))) (pss_one (ps_ret pe_bl)) pss_nil)
    (pss_cons (ps_if (pt_not (pt_val (pe_cb c_law_are_longer_right (hr.mono (by decide)) rfl (pa_cons (pv 5) (pa_cons (pv 6) (pa_cons (pv 7) (pa_cons (pv 12) pa_nil))))))) (pss_one (ps_ret pe_bl)) pss_nil)
    (pss_cons (ps_if (PW.pt (pw_or (pt_cmpR op_gt (bLen K B (pv 11)) (pv 8) (by rfl)) (pw_or1 (pt_cmpR op_ne (pe_cmpR op_eq (pv 8) (pe_int) (by rfl)) (pe_cmpR op_eq (pv 7) (bLen K B (pv 5)) (by rfl)) (by rfl))))) (pss_one (ps_ret pe_bl)) pss_nil)
    (pss_cons (ps_if (pt_cmpR (op_neD (room64 hr)) (pe_lc (own := [("_law_own", 19)]) (g := gName 19) rfl sc_law.nd (itT K (pv 12)) (blkOk_by (N := n_law) (sc := defScope st_law) (by decide +kernel)) (fun _ _ _ _ _ => pg_name (i := 19) sc_law.nd rfl (Or.inl rfl)) (fun _ _ _ _ _ => pts_one (pt_cmpR op_ne (bLen K B (pv 19)) (pv 7) (by rfl))) (fun _ _ _ _ _ => pv 19)) (pe_lst pa_nil) (by rfl)) (pss_one (ps_ret pe_bl)) pss_nil)
    (pss_cons (ps_set (i := 16) sc_law.nd rfl (Or.inl rfl) (pe_cb c_law_short (hr.mono (by decide)) rfl (pa_cons (pv 6) (pa_cons (pv 8) pa_nil))))
    (pss_cons (ps_for PassesOwn.never rfl (itL K (pe_lst (pa_cons (ixL K (pv 16) pe_int) (pa_cons (ixL K (pv 16) (pe_un un_neg pe_int)) pa_nil)))) (pg_name (i := 17) sc_law.nd rfl (Or.inl rfl)) (pss_cons (ps_set (i := 14) sc_law.nd rfl (Or.inl rfl) (pe_lst (pa_cons (pe_cb c_settles (hr.mono (by decide)) rfl (pa_cons (pv 4) (pa_cons (pv 5) (pa_cons (pv 17) pa_nil)))) (pa_cons (pe_cmpR (op_inU (room65 hr)) (pe_cb c_behind (hr.mono (by decide)) rfl (pa_cons (pv 4) (pa_cons (pv 5) (pa_cons (pv 17) pa_nil)))) (pv 12) (by rfl)) pa_nil))))
    (pss_one (ps_if (pt_cmpR op_ne (bRepr K B rfl (room65 hr) (pv 14)) (pe_str) (by rfl)) (pss_one (ps_ret pe_bl)) pss_nil))))
    (pss_one (ps_if (pt_cmpR op_gt (pv 8) pe_int (by rfl)) (pss_cons (ps_setLc (i := 18) (own := [("_law_text", 17)]) (g := gName 17) rfl sc_law.nd rfl rfl (sw_true rfl rfl rfl rfl) (itL K (pe_cb c_law_short (hr.mono (by decide)) rfl (pa_cons (pv 6) (pa_cons (pe_op op_sub (pv 8) pe_int) pa_nil)))) (blkOk_by (N := n_law) (sc := defScope st_law) (by decide +kernel)) (fun _ _ _ _ _ => pg_name (i := 17) sc_law.nd rfl (Or.inl rfl)) (fun _ _ _ _ _ => pts_one (pt_cmpR op_ne (pe_cb c_law_rank (hr.mono (by decide)) rfl (pa_cons (pe_cb c_law_map (hr.mono (by decide)) rfl (pa_cons (pv 5) (pa_cons (pv 17) pa_nil))) pa_nil)) (pv 7) (by rfl))) (fun _ _ _ _ _ => pv 17))
    (pss_cons (ps_set (i := 14) sc_law.nd rfl (Or.inl rfl) (pe_lst (pa_cons (pe_cb c_settles (hr.mono (by decide)) rfl (pa_cons (pv 4) (pa_cons (pv 5) (pa_cons (ixL K (pv 18) pe_int) pa_nil)))) (pa_cons (pe_cb c_settles (hr.mono (by decide)) rfl (pa_cons (pv 4) (pa_cons (pv 5) (pa_cons (ixL K (pv 18) (pe_un un_neg pe_int)) pa_nil)))) pa_nil))))
    (pss_one (ps_if (pt_cmpR op_ne (bRepr K B rfl (room65 hr) (pv 14)) (pe_str) (by rfl)) (pss_one (ps_ret pe_bl)) pss_nil)))) pss_nil)))))))))))))))))
    (pss_one (ps_ret pe_bl)))) ?_
  refine ⟨.ref a, rfl, a, ns, rfl, hS, hn, fun F C H1 hF0 e01 f1 => ?_⟩
  obtain ⟨xsF, hF1⟩ := f1.lst
  try dsimp only
  refine x_forN (j := 2) (List.range 2) (fun i => vI (i : Nat)) (src0_range (n := 2) (a_cons e_c a_nil) (by decide)) (fun pre σ' H' => ∃ (x2 x3 x4 x5 x6 x7 x8 x9 x10 x11 x12 x13 x14 x15 x16 x17 x18 : Option V) (m' : Nat), σ' = [some (.ref a), some (.ref F), x2, x3, x4, x5, x6, x7, x8, x9, x10, x11, x12, x13, x14, x15, x16, x17, x18, none] ∧ Fd F C m' H' ∧ m' ≤ 80 * pre.length)
    (fun H2 e2 => ⟨none, none, none, none, none, none, none, none, none, none, none, none, none, none, none, none, none, 0, rfl, f1.ex e2, by simp⟩) ?_ ?_
  · rintro pre i post hx v σ' Hs pv ⟨x2, x3, x4, x5, x6, x7, x8, x9, x10, x11, x12, x13, x14, x15, x16, x17, x18, m', rfl, f', lm⟩ N hN
    have hpl : pre.length < 2 := by
      have := congrArg List.length hx
      rw [List.length_range, List.length_append, List.length_cons] at this
      omega
    refine ⟨.ref F, rfl, F, C, m', rfl, f', by omega, fun wv H2 e2 f2 ⟨⟨⟨r, M⟩, lst, d⟩, W, pw⟩ => ?_⟩
    dsimp only at W pw
    -- every later heap keeps this one
    have fin : ∀ {H9 : Hp} {x3 x4 x5 x6 x7 x8 x9 x10 x11 x12 x13 x14 x15 x16 x17 x18 : Option V}, Ex H2 H9 → N [some (.ref a), some (.ref F), some v, x3, x4, x5, x6, x7, x8, x9, x10, x11, x12, x13, x14, x15, x16, x17, x18, none] H9 := fun {H9 x3 x4 x5 x6 x7 x8 x9 x10 x11 x12 x13 x14 x15 x16 x17 x18} e9 =>
      hN _ _ (Tx.trans (f'.tx2 e2) (Ex.tx e9)) (NewK.trans (nk_hide hF1 e2) (Ex.nk e9)) ⟨_, _, _, _, _, _, _, _, _, _, _, _, _, _, _, _, _, m' + 80, rfl, f2.ex e9, by rw [List.length_append, List.length_singleton]; omega⟩
    have g := W.g
    have gr := W.g.gr
    have h4 := W.g.four
    have h3 := W.three
    have h8 := W.d8
    have hW := wdl_wld W
    try dsimp only [List.set]
    refine x_asgG (e_slP (K := K) (e_var (i := 3) rfl pw) eo_none (eo_some e_c)) fun tv H3 e3 p3 => g_three (P1 := vD (eR r)) (P2 := vD (eM M)) (P3 := vL ((ws r 9).map fun u => vD (eW u))) p3 fun v4 v5 v6 q4 q5 q6 => ?_
    try dsimp only [List.set]
    have pw3 := (vT [vD (eR r), vD (eM M), vL ((ws r 9).map fun u => vD (eW u)), vI lst, vI d, vTop, vTop]).mono e3 pw
    refine x_asgG (e_slP (K := K) (e_var (i := 3) rfl pw3) (eo_some e_c) eo_none) fun tv H4 e4 p4 => g_four (P1 := vI lst) (P2 := vI d) (P3 := vTop) (P4 := vTop) p4 fun v7 v8 v9 v10 q7 q8 q9 q10 => ?_
    obtain rfl : v7 = V.int (lst : Nat) := q7
    obtain rfl : v8 = V.int (d : Nat) := q8
    try dsimp only [List.set]
    have r4 := (vD (eR r)).mono e4 q4
    have m4 := (vD (eM M)).mono e4 q5
    have t4 := (vL _).mono e4 q6
    refine x_asgG (e_call' ((r, M), lst, d) (a_cons (e_var (i := 5) rfl m4) (a_cons (e_var (i := 6) rfl t4) (a_cons (e_var (i := 7) rfl rfl) (a_cons (e_var (i := 8) rfl rfl) a_nil)))) ⟨g, W.gm, h3, W.mem, W.dl, h8⟩) fun tv H5 e5 ⟨u, hf, p5⟩ => g_pair (P1 := vD (eW u)) (P2 := vD (eR (setsOf r M d))) p5 fun v11 v12 q11 q12 => ?_
    dsimp only at hf
    have hul := fw_le gr W.dl hf
    obtain ⟨dw1, dw2, dw3⟩ := due_low W hf
    try dsimp only [List.set]
    refine x_asg (P := vDs (dueDs r M d u)) (EN.e (en_lst (Ps := [vD (eW u), vD (eN d), vD (eR (setsOf r M d))]) (a_cons (e_var (i := 11) rfl q11) (a_cons (e_i (e_var (i := 8) (P := vI (d : Nat)) rfl rfl)) (a_cons (e_var (i := 12) rfl q12) a_nil))) (by simp))) fun v13 H6 e6 q13 => ?_
    try dsimp only [List.set]
    have e46 := e5.trans e6
    have r6 := (vD (eR r)).mono e46 r4
    have m6 := (vD (eM M)).mono e46 m4
    refine x_asg (P := vDs (dueDs r M d u)) (EN.e (en_lst (Ps := [vD (eW u), vD (eN d), vD (eR (setsOf r M d))]) (a_cons (e_sw (e_call' (r, M) (a_cons (e_var (i := 4) rfl r6) (a_cons (e_var (i := 5) rfl m6) a_nil)) hW) W.mem hf) (a_cons (e_dl (e_call' (r, M) (a_cons (e_var (i := 4) rfl r6) (a_cons (e_var (i := 5) rfl m6) a_nil)) hW) W.mem W.dl) (a_cons (e_sb (e_call' (r, M) (a_cons (e_var (i := 4) rfl r6) (a_cons (e_var (i := 5) rfl m6) a_nil)) hW) W.mem W.dl) a_nil))) (by simp))) fun v14 H7 e7 q14 => ?_
    try dsimp only [List.set]
    have r7 := (vD (eR r)).mono e7 r6
    have m7 := (vD (eM M)).mono e7 m6
    refine x_asgN (en_lst (Ps := [vD (eW u), vD (eN d)]) (a_cons (e_sw (e_kw (r, M) (a_cons (e_var (i := 5) rfl m7) (a_cons (e_var (i := 4) rfl r7) a_nil)) rfl hW) W.mem hf) (a_cons (e_dl (e_kw (r, M) (a_cons (e_var (i := 5) rfl m7) (a_cons (e_var (i := 4) rfl r7) a_nil)) rfl hW) W.mem W.dl) a_nil)) (by simp)) fun l15 us H8 hl0 e8 hl hus => ?_
    try dsimp only [List.set]
    have r8 := (vD (eR r)).mono e8 r7
    have m8 := (vD (eM M)).mono e8 m7
    have hul2 : us.length = 2 := hus.length
    refine x_app (Pv := vD (eR (setsOf r M d))) hl (e_var (i := 15) rfl rfl) (e_sb (e_kw (r, M) (a_cons (e_var (i := 5) rfl m8) (a_cons (e_var (i := 4) rfl r8) a_nil)) rfl hW) W.mem W.dl) (by omega) fun sv H9 e9 q9 => ?_
    obtain ⟨H10, h10⟩ : ∃ H10, L2.upd H9 l15 (.lst (us ++ [sv])) = H10 := ⟨_, rfl⟩
    have hl9 := e9 _ _ hl
    have e27 : Ex H2 H7 := e3.trans (e4.trans (e5.trans (e6.trans e7)))
    have e710 : Ex H7 H10 := by rw [← h10]; exact Ex.mut (e8.trans e9) hl0
    have t910 : Tx H9 H10 := by rw [← h10]; exact Tx.updL hl9
    have q15 : (vDs (dueDs r M d u)).p (.ref l15) H10 := by
      refine ⟨l15, us ++ [sv], rfl, by rw [← h10]; exact upd_same, ?_⟩
      refine allP_snoc (Ps := [vD (eW u), vD (eN d)]) (allP_tx t910 (fun P hP => ?_) (AllP.mono e9 hus)) (st_d _ _ _ _ t910 q9)
      simp only [List.mem_cons, List.not_mem_nil, or_false] at hP
      rcases hP with rfl | rfl
      · exact st_d _
      · exact st_d _
    rw [h10]
    try dsimp only
    have e210 := e27.trans e710
    have q13' := (vDs (dueDs r M d u)).mono (e7.trans e710) q13
    have q14' := (vDs (dueDs r M d u)).mono e710 q14
    refine x_if (b := false || false) (t_or (t_same (e_cb (a_cons (e_var (i := 14) rfl q14') a_nil) (r_reprD dw1 dw2 dw3)) (e_cb (a_cons (e_var (i := 13) rfl q13') a_nil) (r_reprD dw1 dw2 dw3))) fun _ => t_same (e_cb (a_cons (e_var (i := 15) rfl q15) a_nil) (r_reprD dw1 dw2 dw3)) (e_cb (a_cons (e_var (i := 13) rfl q13') a_nil) (r_reprD dw1 dw2 dw3))) (fun hb => by cases hb) fun _ H11 e11 => ?_
    try unfold tNext
    try dsimp only
    have e1011 := e11
    have up : ∀ {P : VP} {v : V}, P.p v H4 → P.p v H11 := fun {P v} h => P.mono ((e5.trans (e6.trans e7)).trans (e710.trans e11)) h
    have r11 := up r4
    have m11 := up m4
    have t11 := up t4
    have q11' := (vD (eW u)).mono ((e6.trans e7).trans (e710.trans e11)) q11
    have q12' := (vD (eR (setsOf r M d))).mono ((e6.trans e7).trans (e710.trans e11)) q12
    have e211 := e210.trans e11
    refine x_if (t_not (b := true) (t_b (e_call' ((r, M), lst, d) (a_cons (e_var (i := 5) rfl m11) (a_cons (e_var (i := 6) rfl t11) (a_cons (e_var (i := 7) rfl rfl) (a_cons (e_var (i := 12) rfl q12') a_nil)))) ⟨g, W.gm, h3, W.mem, W.dl, h8⟩))) (fun hb => by cases hb) fun _ H12 e12 => ?_
    try unfold tNext
    try dsimp only
    have hz := W.dl.zero gr
    have m12 := (vD (eM M)).mono e12 m11
    have q11b := (vD (eW u)).mono e12 q11'
    have hsame : decide (V.int (d : Nat) = V.int 0) = decide (V.int (lst : Nat) = V.int (M.length : Nat)) := by
      rw [decide_eq_decide]
      constructor
      · intro h
        injection h with h
        rw [hz.1 (by omega)]
      · intro h
        injection h with h
        rw [hz.2 (by omega)]
        rfl
    refine x_if (b := false || false) (t_or (t_test (e_op ((e_cb (a_cons (e_var (i := 11) rfl q11b) a_nil) (r_lenT (K := K))).weak fun v H9 _ p => (show (vI (u.length : Nat)).p v H9 by
      rw [List.length_map] at p
      exact p)) (e_var (i := 8) (P := vI (d : Nat)) rfl rfl) (o_cmp (by show V.bl _ = V.bl _; congr 1; simp; omega)))) fun _ => t_test ((e_op (e_op (e_var (i := 8) (P := vI (d : Nat)) rfl rfl) (e_c (v := .int 0)) (o_eq (by rfl))) (e_op (e_var (i := 7) (P := vI (lst : Nat)) rfl rfl) ((e_cb (a_cons (e_var (i := 5) rfl m12) a_nil) (r_lenT (K := K))).weak fun v H9 _ p => (show (vI (M.length : Nat)).p v H9 by
      rw [List.length_map] at p
      exact p)) (o_eq (by rfl))) (o_ne (by rfl))).weak fun v H9 _ p => (by
        rw [hsame, decide_eq_true rfl] at p
        exact p))) (fun hb => by cases hb) fun _ H13 e13 => ?_
    try unfold tNext
    try dsimp only
    have hsl : (setsOf r M d).length ≤ 3852 := by
      have h1 := canon_len_le soW ((ws r d).map (img M))
      rw [List.length_map] at h1
      have h2 := ws_le W.g (k := d) (by omega)
      unfold setsOf
      omega
    have q12c := (vD (eR (setsOf r M d))).mono (e12.trans e13) q12'
    have hfil : ((setsOf r M d).filter fun s => !decide (V.int (s.length : Nat) = V.int (lst : Nat))) = [] := by
      rw [List.filter_eq_nil_iff]
      intro s hs
      rw [sets_len gr W.dl hs]
      simp
    refine x_if (b := !true) (t_test (e_op (P1 := vDs []) (P2 := vDs []) ((EN.e (en_lcIf (vs := [19]) (setsOf r M d) (fun s => vD (eW s)) (fun s => vD (eW s)) (fun s => !decide (V.int (s.length : Nat) = V.int (lst : Nat))) (src0_tupE (K := K) (setsOf r M d) eW (e_var (i := 12) rfl q12c)).t.src (by omega) (fun _ _ => st_d _) (fun v => rfl) ?_ ?_)).weak fun v H9 _ p => (by
      rw [hfil] at p
      exact p)) ((EN.e (en_lst (Ps := []) a_nil (by simp))).weak fun v H3 _ p => (show (vDs []).p v H3 from p)) (o_neL (b := true) (by rw [Dv.deps]; omega) (by rw [Dv.deps]; omega) ⟨fun _ => rfl, fun _ => rfl⟩))) (fun hb => by cases hb) fun _ H14 e14 => ?_
    · intro s hs w9 H9 e9 p9
      exact t_test (e_op ((e_cb (a_cons (e_var (i := 19) rfl p9) a_nil) (r_lenT (K := K))).weak fun v H9 _ p => (show (vI (s.length : Nat)).p v H9 by
        rw [List.length_map] at p
        exact p)) (e_var (i := 7) (P := vI (lst : Nat)) rfl rfl) (o_ne (by rfl)))
    · intro s hs w9 H9 e9 p9 _
      exact e_var (i := 19) rfl p9
    try unfold tNext
    try dsimp only
    have e1114 := e12.trans (e13.trans e14)
    have r14 := (vD (eR r)).mono e1114 r11
    have m14 := (vD (eM M)).mono e1114 m11
    have t14 := (vL ((ws r 9).map fun u => vD (eW u))).mono e1114 t11
    have q12d := (vD (eR (setsOf r M d))).mono e1114 q12'
    have e214 := e211.trans e1114
    refine x_asg (P := vL ((ws r d).map fun u => vD (eW u))) (e_short (K := K) (k := d) g (by omega) (a_cons (e_var (i := 6) rfl t14) (a_cons (e_var (i := 8) rfl rfl) a_nil))) fun v16 H15 e15 q16 => ?_
    try dsimp only [List.set]
    obtain ⟨w0, w1, hw0, hw1, hm0, hm1⟩ := ends (l := ws r d) (by
      obtain ⟨v, hv, hv2⟩ := (inL_nil gr).rightN gr d
      exact List.ne_nil_of_mem ((mem_ws gr).2 ⟨hv2, hv⟩))
    have r15 := (vD (eR r)).mono e15 r14
    have m15 := (vD (eM M)).mono e15 m14
    have t15 := (vL ((ws r 9).map fun u => vD (eW u))).mono e15 t14
    have q12e := (vD (eR (setsOf r M d))).mono e15 q12d
    refine x_forN (j := 17) [w0, w1] (fun t => vD (eW t)) (src0_new (K := K) (en_lst (Ps := [vD (eW w0), vD (eW w1)]) (a_cons (e_op (e_var (i := 16) rfl q16) e_c (o_ixL (atI_nat (j := 0) (by rw [List.getElem?_map, hw0]; rfl)))) (a_cons (e_op (e_var (i := 16) rfl q16) (e_neg e_c) (o_ixL (atI_last (by rw [List.getLast?_map, hw1]; rfl)))) a_nil)) (by simp)) (fun P hP => ?_))
      (fun pre σ' H' => ∃ y14 y17 : Option V, σ' = [some (.ref a), some (.ref F), some v, some wv, some v4, some v5, some v6, some (.int (lst : Nat)), some (.int (d : Nat)), some v9, some v10, some v11, some v12, some v13, y14, some (.ref l15), some v16, y17, x18, none] ∧ Ex H15 H')
      (fun H16 e16 => ⟨_, _, rfl, e16⟩) ?_ ?_
    · have hP2 : P ∈ [w0, w1].map fun t => vD (eW t) := hP
      obtain ⟨t, _, rfl⟩ := List.mem_map.1 hP2
      exact st_d _
    · rintro pre2 t post2 hx2 tv2 σ' H16 ptv ⟨y14, y17, rfl, e1516⟩ N2 hN2
      have ht : InL r t ∧ t.length = d := by
        have : t ∈ [w0, w1] := by rw [hx2]; simp
        simp only [List.mem_cons, List.not_mem_nil, or_false] at this
        rcases this with z | z
        · rw [z]; exact (mem_ws gr).1 hm0
        · rw [z]; exact (mem_ws gr).1 hm1
      have hrk := W.dl.all t ht.1 ht.2
      have r16 := (vD (eR r)).mono e1516 r15
      have m16 := (vD (eM M)).mono e1516 m15
      have q16' := (vD (eR (setsOf r M d))).mono e1516 q12e
      have hcond : Wld r M ∧ t.length ≤ 9 ∧ InL r t := ⟨hW, by omega, ht.1⟩
      try dsimp only [List.set]
      refine x_asg (P := vL [vB true, vB true]) (EN.e (en_lst (Ps := [vB true, vB true]) (a_cons (e_st (e_call' ((r, M), t) (a_cons (e_var (i := 4) rfl r16) (a_cons (e_var (i := 5) rfl m16) (a_cons (e_var (i := 17) rfl ptv) a_nil))) hcond) W.mem (by rw [hrk]; simp)) (a_cons (e_op (e_call' ((r, M), t) (a_cons (e_var (i := 4) rfl r16) (a_cons (e_var (i := 5) rfl m16) (a_cons (e_var (i := 17) rfl ptv) a_nil))) hcond) (e_var (i := 12) rfl q16') (o_inU (b := true) (d := eW (img M t)) (ds := (setsOf r M d).map eW) (dep60 _) ⟨fun _ => mem_map_eW.2 ((mem_setsOf gr).2 ⟨t, ht.1, ht.2, rfl⟩), fun _ => rfl⟩)) a_nil)) (by simp))) fun v14b H17 e17 q14b => ?_
      try dsimp only [List.set]
      refine x_if (b := false) (t_same (e_cb (a_cons (e_var (i := 14) rfl q14b) a_nil) (r_reprB true true)) (by rw [shown_tt]; exact e_c)) (fun hb => by cases hb) fun _ H18 e18 => ?_
      try unfold tNext
      exact hN2 _ _ (Ex.tx (e17.trans e18)) (Ex.nk (e17.trans e18)) ⟨_, _, rfl, e1516.trans (e17.trans e18)⟩
    · rintro σ' H16 ⟨y14, y17, rfl, e1516⟩
      try dsimp only
      have e216 := e214.trans (e15.trans e1516)
      have r16 := (vD (eR r)).mono e1516 r15
      have m16 := (vD (eM M)).mono e1516 m15
      have t16 := (vL ((ws r 9).map fun u => vD (eW u))).mono e1516 t15
      refine x_if (b := decide (0 < d)) (t_test (e_op (e_var (i := 8) (P := vI (d : Nat)) rfl rfl) e_c (o_cmp (by show V.bl _ = V.bl _; congr 1; simp)))) (fun hb H17 e17 => ?_) (fun hb H17 e17 => ?_)
      · have hd0 : 0 < d := of_decide_eq_true hb
        have r17 := (vD (eR r)).mono e17 r16
        have m17 := (vD (eM M)).mono e17 m16
        have t17 := (vL ((ws r 9).map fun u => vD (eW u))).mono e17 t16
        have hwl := ws_le g (k := d - 1) (by omega)
        have hmp : ∀ {σ : L2.St} {H9 : Hp} {v : V} {t : List Nat} (_ : σ[5]? = some (some v5)) (_ : σ[17]? = some (some v)) (_ : Ex H17 H9) (_ : (vD (eW t)).p v H9) (_ : InL r t) (_ : t.length ≤ 9), E (tCall sp_law_map [] E0 (tCons (tVar 5) (tCons (tVar 17) tNil))) σ H9 (vD (eW (mp M t))) := fun {σ H9 v t} s5 s17 e9 p ht hl => e_call' (M, t) (a_cons (e_var s5 ((vD _).mono e9 m17)) (a_cons (e_var s17 p) a_nil)) ⟨by dsimp only; omega, by dsimp only; omega, r.length, W.gm, ht.letters gr⟩
        refine x_asg (P := vL (((ws r (d - 1)).filter fun t => !decide (V.int (rk M t : Nat) = V.int (lst : Nat))).map fun t => vD (eW t))) (EN.e (en_lcIf (vs := [17]) (ws r (d - 1)) (fun t => vD (eW t)) (fun t => vD (eW t)) (fun t => !decide (V.int (rk M t : Nat) = V.int (lst : Nat))) (src_list (K := K) (e_short (K := K) (k := d - 1) g (by omega) (a_cons (e_var (i := 6) rfl t17) (a_cons ((e_op (e_var (i := 8) (P := vI (d : Nat)) rfl rfl) (e_c (v := .int 1)) (o_I0 (g := fun i j => V.int (i - j)))).weak fun v H9 _ p => (show (vI ((d - 1 : Nat) : Int)).p v H9 by
          have e9 : ((d - 1 : Nat) : Int) = (d : Int) - 1 := by omega
          rw [e9]
          exact p)) a_nil)))) (by omega) (fun _ _ => st_d _) (fun v => rfl) ?_ ?_)) fun v18 H18 e18 q18 => ?_
        · intro t ht v9 H9 e9 p9
          obtain ⟨t1, t2⟩ := (mem_ws gr).1 ht
          exact t_test (e_op (e_call' (mp M t) (a_cons (hmp rfl rfl e9 p9 t1 (by omega)) a_nil) (by rw [mp_len]; omega)) (e_var (i := 7) (P := vI (lst : Nat)) rfl rfl) (o_ne (by rfl)))
        · intro t ht v9 H9 e9 p9 _
          exact e_var (i := 17) rfl p9
        · try dsimp only [List.set]
          have hbad : ∀ t, t ∈ ((ws r (d - 1)).filter fun t => !decide (V.int (rk M t : Nat) = V.int (lst : Nat))) → (InL r t ∧ t.length = d - 1) ∧ (rk M t == lst) = false := fun t ht => by
            obtain ⟨t1, t2⟩ := List.mem_filter.1 ht
            refine ⟨(mem_ws gr).1 t1, ?_⟩
            rw [beq_eq_false_iff_ne]
            intro z
            rw [z] at t2
            simp at t2
          obtain ⟨b0, b1, hb0, hb1, hm0, hm1⟩ := ends (l := (ws r (d - 1)).filter fun t => !decide (V.int (rk M t : Nat) = V.int (lst : Nat))) (by
            obtain ⟨t, t1, t2, t3⟩ := W.dl.ex (d - 1) (by omega)
            refine List.ne_nil_of_mem (a := t) (List.mem_filter.2 ⟨(mem_ws gr).2 ⟨t1, t2⟩, ?_⟩)
            rw [Bool.not_eq_true', decide_eq_false_iff_not]
            intro z
            injection z with z
            exact t3 (by omega))
          obtain ⟨g0, n0⟩ := hbad b0 hm0
          obtain ⟨g1, n1⟩ := hbad b1 hm1
          have r18 := (vD (eR r)).mono e18 r17
          have m18 := (vD (eM M)).mono e18 m17
          refine x_asg (P := vL [vB false, vB false]) (EN.e (en_lst (Ps := [vB false, vB false]) (a_cons (e_st (e_call' ((r, M), b0) (a_cons (e_var (i := 4) rfl r18) (a_cons (e_var (i := 5) rfl m18) (a_cons (e_op (e_var (i := 18) rfl q18) e_c (o_ixL (atI_nat (j := 0) (by rw [List.getElem?_map, hb0]; rfl)))) a_nil))) ⟨hW, by dsimp only; omega, g0.1⟩) W.mem n0) (a_cons (e_st (e_call' ((r, M), b1) (a_cons (e_var (i := 4) rfl r18) (a_cons (e_var (i := 5) rfl m18) (a_cons (e_op (e_var (i := 18) rfl q18) (e_neg e_c) (o_ixL (atI_last (by rw [List.getLast?_map, hb1]; rfl)))) a_nil))) ⟨hW, by dsimp only; omega, g1.1⟩) W.mem n1) a_nil)) (by simp))) fun v14c H19 e19 q14c => ?_
          try dsimp only [List.set]
          refine x_if (b := false) (t_same (e_cb (a_cons (e_var (i := 14) rfl q14c) a_nil) (r_reprB false false)) (by rw [shown_ff]; exact e_c)) (fun hb => by cases hb) fun _ H20 e20 => ?_
          try unfold tNext
          exact fin (e216.trans (e17.trans (e18.trans (e19.trans e20))))
      · try unfold tNext
        exact fin (e216.trans e17)
  · rintro σ' H' ⟨x2, x3, x4, x5, x6, x7, x8, x9, x10, x11, x12, x13, x14, x15, x16, x17, x18, m', rfl, f', lm⟩
    try dsimp only
    exact x_ret (P := vB true) e_c fun v H3 e3 p3 => p3

end
end K37
set_option Elab.async false
set_option linter.all false
set_option maxRecDepth 100000
set_option maxHeartbeats 0
/-! Z3: all defs put together, the end. -/
namespace K37

open PySem PySem.Spec PyProof.Rows L2
theorem says_fact {fa : List He.Fa} {fn : List He.DefD} {K : PySem.W.Frag} (c : He.SaysD fa fn K) {f : He.Fa} (h : f ∈ fa) : f.ok K = true := by
  obtain ⟨i, hi⟩ := List.mem_iff_getElem?.1 h
  exact c.fact i hi
theorem the_bi {K : PySem.W.Frag} {h : Heap} {mg : Str → Option Value} (X : K.In h) (G : h.Ns mainGlobals mg) (c : He.SaysD faAll fnAll K) : Bi mg := fun x hx => He.free_ok X G (says_fact c (List.mem_append_right _ (List.mem_map_of_mem hx)))
theorem the_df {K : PySem.W.Frag} {h : Heap} {mg : Str → Option Value} (X : K.In h) (G : h.Ns mainGlobals mg) (c : He.SaysD faAll fnAll K) (i : Nat) {x : Str} {st : Stmt} {ds : List V} {d : He.DefD} (hd : fnAll[i]? = some d) (hx : glAll[i]? = some x)
    (e : ∀ {f : Addr} {fd : FuncData}, FunD K d.name d.qual d.params d.body d.scope (d.dvs K) (d.kws K) (He.fAd K d.at_) fd → FnP K x st ds (He.ga K x) fd) : Df K mg x st ds := by
  obtain ⟨fd, F⟩ := c.def_ i hd
  exact ⟨He.ga K x, fd, e (f := 0) F, He.glo_ok X G (says_fact c (List.mem_append_left _ (List.mem_map_of_mem (List.mem_of_getElem? hx))))⟩
theorem the_law {P : Program} {w : World} {K : PySem.W.Frag} {h : Heap} {mg : Str → Option Value} {s0 : Shared} {fa a : Addr} {ns : List Int} (X : K.In h) (G : h.Ns mainGlobals mg) (c : He.SaysD faAll fnAll K) (hn : ns.length ≤ 63) (base : Heap) (H : Hp) (cdv : Value) (hS : SqL K H a (ns.map V.int)) :
    ∃ t, PSs (cxOf CX0 P w K mg base n_law "law" (defScope st_law) fa cdv callerA [] s0 H fun _ _ _ => False) (defBody st_law) t ∧ t { nx := fun _ _ => V.non = .bl true, rt := fun v _ => v = .bl true } (start n_law [.ref a]) H := by
  have B := the_bi X G c
  have c_chained := ok_chained (P := P) (w := w) (base := base) (the_df X G c 0 (x := "chained") (st := st_chained) (ds := []) (d := d_chained) rfl rfl fun F => F) B
  have c_standings_in := ok_standings_in (P := P) (w := w) (base := base) (the_df X G c 1 (x := "standings_in") (st := st_standings_in) (ds := []) (d := d_standings_in) rfl rfl fun F => F) B
  have c_letter_map := ok_letter_map (P := P) (w := w) (base := base) (the_df X G c 2 (x := "letter_map") (st := st_letter_map) (ds := []) (d := d_letter_map) rfl rfl fun F => F) B
  have c_map_by := ok_map_by (P := P) (w := w) (base := base) (the_df X G c 3 (x := "map_by") (st := st_map_by) (ds := []) (d := d_map_by) rfl rfl fun F => F) B c_standings_in
  have c_chain_by := ok_chain_by (P := P) (w := w) (base := base) (the_df X G c 4 (x := "chain_by") (st := st_chain_by) (ds := []) (d := d_chain_by) rfl rfl fun F => F) B c_chained
  have c_next_family := ok_next_family (P := P) (w := w) (base := base) (the_df X G c 5 (x := "next_family") (st := st_next_family) (ds := []) (d := d_next_family) rfl rfl fun F => F) B c_chain_by
  have c_is_integer := ok_is_integer (P := P) (w := w) (base := base) (the_df X G c 6 (x := "is_integer") (st := st_is_integer) (ds := []) (d := d_is_integer) rfl rfl fun F => F) B
  have c_is_number := ok_is_number (P := P) (w := w) (base := base) (the_df X G c 7 (x := "is_number") (st := st_is_number) (ds := []) (d := d_is_number) rfl rfl fun F => F) B c_is_integer
  have c_is_index := ok_is_index (P := P) (w := w) (base := base) (the_df X G c 8 (x := "is_index") (st := st_is_index) (ds := []) (d := d_is_index) rfl rfl fun F => F) B c_is_number
  have c_is_full_tuple := ok_is_full_tuple (P := P) (w := w) (base := base) (the_df X G c 9 (x := "is_full_tuple") (st := st_is_full_tuple) (ds := []) (d := d_is_full_tuple) rfl rfl fun F => F) B
  have c_is_tuple_of := ok_is_tuple_of (P := P) (w := w) (base := base) (the_df X G c 10 (x := "is_tuple_of") (st := st_is_tuple_of) (ds := []) (d := d_is_tuple_of) rfl rfl fun F => F) B
  have c_are_indexes := ok_are_indexes (P := P) (w := w) (base := base) (the_df X G c 11 (x := "are_indexes") (st := st_are_indexes) (ds := []) (d := d_are_indexes) rfl rfl fun F => F) B c_is_index
  have c_is_rule := ok_is_rule (P := P) (w := w) (base := base) (the_df X G c 12 (x := "is_rule") (st := st_is_rule) (ds := []) (d := d_is_rule) rfl rfl fun F => F) B c_is_full_tuple c_are_indexes
  have c_is_word := ok_is_word (P := P) (w := w) (base := base) (the_df X G c 13 (x := "is_word") (st := st_is_word) (ds := []) (d := d_is_word) rfl rfl fun F => F) B c_is_rule c_are_indexes
  have c_is_step := ok_is_step (P := P) (w := w) (base := base) (the_df X G c 14 (x := "is_step") (st := st_is_step) (ds := []) (d := d_is_step) rfl rfl fun F => F) B c_is_tuple_of c_is_index c_is_number
  have c_is_machine := ok_is_machine (P := P) (w := w) (base := base) (the_df X G c 15 (x := "is_machine") (st := st_is_machine) (ds := []) (d := d_is_machine) rfl rfl fun F => F) B c_is_full_tuple c_is_tuple_of c_is_step
  have c_want := ok_want (P := P) (w := w) (base := base) (the_df X G c 16 (x := "want") (st := st_want) (ds := [.int (-1)]) (d := d_want) rfl rfl fun F => F) B
  have c_families_by := ok_families_by (P := P) (w := w) (base := base) (the_df X G c 17 (x := "families_by") (st := st_families_by) (ds := []) (d := d_families_by) rfl rfl fun F => F) B c_letter_map c_next_family
  have c_as_ascending := ok_as_ascending (P := P) (w := w) (base := base) (the_df X G c 18 (x := "as_ascending") (st := st_as_ascending) (ds := []) (d := d_as_ascending) rfl rfl fun F => F) B
  have c_image_of := ok_image_of (P := P) (w := w) (base := base) (the_df X G c 19 (x := "image_of") (st := st_image_of) (ds := []) (d := d_image_of) rfl rfl fun F => F) B c_as_ascending
  have c_memory_by := ok_memory_by (P := P) (w := w) (base := base) (the_df X G c 20 (x := "memory_by") (st := st_memory_by) (ds := []) (d := d_memory_by) rfl rfl fun F => F) B c_families_by c_image_of
  have c_is_settled := ok_is_settled (P := P) (w := w) (base := base) (the_df X G c 21 (x := "is_settled") (st := st_is_settled) (ds := []) (d := d_is_settled) rfl rfl fun F => F) B c_image_of c_map_by
  have c_growth_by := ok_growth_by (P := P) (w := w) (base := base) (the_df X G c 22 (x := "growth_by") (st := st_growth_by) (ds := []) (d := d_growth_by) rfl rfl fun F => F) B
  have c_want_growing := ok_want_growing (P := P) (w := w) (base := base) (the_df X G c 23 (x := "want_growing") (st := st_want_growing) (ds := [.str "rule"]) (d := d_want_growing) rfl rfl fun F => F) B c_want c_is_rule c_growth_by
  have c_want_fit := ok_want_fit (P := P) (w := w) (base := base) (the_df X G c 24 (x := "want_fit") (st := st_want_fit) (ds := [.str "machine"]) (d := d_want_fit) rfl rfl fun F => F) B c_want c_is_machine
  have c_want_world := ok_want_world (P := P) (w := w) (base := base) (the_df X G c 25 (x := "want_world") (st := st_want_world) (ds := []) (d := d_want_world) rfl rfl fun F => F) B c_want_growing c_want_fit
  have c_pairs_by := ok_pairs_by (P := P) (w := w) (base := base) (the_df X G c 26 (x := "pairs_by") (st := st_pairs_by) (ds := []) (d := d_pairs_by) rfl rfl fun F => F) B
  have c_joined_rows := ok_joined_rows (P := P) (w := w) (base := base) (the_df X G c 27 (x := "joined_rows") (st := st_joined_rows) (ds := []) (d := d_joined_rows) rfl rfl fun F => F) B
  have c_long_blocks := ok_long_blocks (P := P) (w := w) (base := base) (the_df X G c 28 (x := "long_blocks") (st := st_long_blocks) (ds := []) (d := d_long_blocks) rfl rfl fun F => F) B c_joined_rows
  have c_words_by := ok_words_by (P := P) (w := w) (base := base) (the_df X G c 29 (x := "words_by") (st := st_words_by) (ds := []) (d := d_words_by) rfl rfl fun F => F) B c_pairs_by c_long_blocks
  have c_text_by := ok_text_by (P := P) (w := w) (base := base) (the_df X G c 30 (x := "text_by") (st := st_text_by) (ds := []) (d := d_text_by) rfl rfl fun F => F) B
  have c_is_word_by := ok_is_word_by (P := P) (w := w) (base := base) (the_df X G c 31 (x := "is_word_by") (st := st_is_word_by) (ds := []) (d := d_is_word_by) rfl rfl fun F => F) B c_pairs_by c_long_blocks c_text_by
  have c_followers_by := ok_followers_by (P := P) (w := w) (base := base) (the_df X G c 32 (x := "followers_by") (st := st_followers_by) (ds := []) (d := d_followers_by) rfl rfl fun F => F) B c_is_word_by
  have c_settling_walk := ok_settling_walk (P := P) (w := w) (base := base) (the_df X G c 33 (x := "settling_walk") (st := st_settling_walk) (ds := []) (d := d_settling_walk) rfl rfl fun F => F) B c_memory_by c_followers_by c_is_settled
  have c_delay_by := ok_delay_by (P := P) (w := w) (base := base) (the_df X G c 34 (x := "delay_by") (st := st_delay_by) (ds := []) (d := d_delay_by) rfl rfl fun F => F) B c_settling_walk
  have c_sets_by := ok_sets_by (P := P) (w := w) (base := base) (the_df X G c 35 (x := "sets_by") (st := st_sets_by) (ds := []) (d := d_sets_by) rfl rfl fun F => F) B c_words_by c_delay_by c_image_of c_map_by
  have p_settling_word := ok_settling_word (P := P) (w := w) (base := base) (the_df X G c 36 (x := "settling_word") (st := st_settling_word) (ds := []) (d := d_settling_word) rfl rfl fun F => F) B c_want_world c_settling_walk
  obtain ⟨c_settling_word, k_settling_word⟩ := p_settling_word
  have p_delay_of := ok_delay_of (P := P) (w := w) (base := base) (the_df X G c 37 (x := "delay_of") (st := st_delay_of) (ds := []) (d := d_delay_of) rfl rfl fun F => F) B c_want_world c_delay_by
  obtain ⟨c_delay_of, k_delay_of⟩ := p_delay_of
  have p_sets_behind := ok_sets_behind (P := P) (w := w) (base := base) (the_df X G c 38 (x := "sets_behind") (st := st_sets_behind) (ds := []) (d := d_sets_behind) rfl rfl fun F => F) B c_want_world c_sets_by
  obtain ⟨c_sets_behind, k_sets_behind⟩ := p_sets_behind
  have c_is_word_in_world := ok_is_word_in_world (P := P) (w := w) (base := base) (the_df X G c 39 (x := "is_word_in_world") (st := st_is_word_in_world) (ds := []) (d := d_is_word_in_world) rfl rfl fun F => F) B c_is_word c_is_word_by
  have c_want_word_behind := ok_want_word_behind (P := P) (w := w) (base := base) (the_df X G c 40 (x := "want_word_behind") (st := st_want_word_behind) (ds := []) (d := d_want_word_behind) rfl rfl fun F => F) B c_want_world c_want c_is_word_in_world
  have c_settles := ok_settles (P := P) (w := w) (base := base) (the_df X G c 41 (x := "settles") (st := st_settles) (ds := []) (d := d_settles) rfl rfl fun F => F) B c_want_word_behind c_is_settled c_memory_by
  have c_behind := ok_behind (P := P) (w := w) (base := base) (the_df X G c 42 (x := "behind") (st := st_behind) (ds := []) (d := d_behind) rfl rfl fun F => F) B c_want_word_behind c_image_of c_map_by
  have c_law_led := ok_law_led (P := P) (w := w) (base := base) (the_df X G c 43 (x := "_law_led") (st := st_law_led) (ds := []) (d := d_law_led) rfl rfl fun F => F) B
  have c_law_joined := ok_law_joined (P := P) (w := w) (base := base) (the_df X G c 44 (x := "_law_joined") (st := st_law_joined) (ds := []) (d := d_law_joined) rfl rfl fun F => F) B
  have c_law_map := ok_law_map (P := P) (w := w) (base := base) (the_df X G c 45 (x := "_law_map") (st := st_law_map) (ds := []) (d := d_law_map) rfl rfl fun F => F) B
  have c_law_rank := ok_law_rank (P := P) (w := w) (base := base) (the_df X G c 46 (x := "_law_rank") (st := st_law_rank) (ds := []) (d := d_law_rank) rfl rfl fun F => F) B
  have c_law_short := ok_law_short (P := P) (w := w) (base := base) (the_df X G c 47 (x := "_law_short") (st := st_law_short) (ds := []) (d := d_law_short) rfl rfl fun F => F) B
  have c_law_all := ok_law_all (P := P) (w := w) (base := base) (the_df X G c 48 (x := "_law_all") (st := st_law_all) (ds := []) (d := d_law_all) rfl rfl fun F => F) B c_law_short
  have c_law_delay := ok_law_delay (P := P) (w := w) (base := base) (the_df X G c 49 (x := "_law_delay") (st := st_law_delay) (ds := []) (d := d_law_delay) rfl rfl fun F => F) B c_law_short c_law_rank c_law_map
  have c_law_least := ok_law_least (P := P) (w := w) (base := base) (the_df X G c 50 (x := "_law_least") (st := st_law_least) (ds := []) (d := d_law_least) rfl rfl fun F => F) B c_law_rank
  have c_law_words := ok_law_words (P := P) (w := w) (base := base) (the_df X G c 51 (x := "_law_words") (st := st_law_words) (ds := []) (d := d_law_words) rfl rfl fun F => F) B c_law_led
  have c_law_levels := ok_law_levels (P := P) (w := w) (base := base) (the_df X G c 52 (x := "_law_levels") (st := st_law_levels) (ds := []) (d := d_law_levels) rfl rfl fun F => F) B c_law_joined
  have c_law_grown := ok_law_grown (P := P) (w := w) (base := base) (the_df X G c 53 (x := "_law_grown") (st := st_law_grown) (ds := []) (d := d_law_grown) rfl rfl fun F => F) B
  have c_law_due := ok_law_due (P := P) (w := w) (base := base) (the_df X G c 54 (x := "_law_due") (st := st_law_due) (ds := []) (d := d_law_due) rfl rfl fun F => F) B c_law_all c_law_rank c_law_map c_law_short
  have c_law_are_longer_right := ok_law_are_longer_right (P := P) (w := w) (base := base) (the_df X G c 55 (x := "_law_are_longer_right") (st := st_law_are_longer_right) (ds := []) (d := d_law_are_longer_right) rfl rfl fun F => F) B c_law_rank c_law_map c_law_short
  have c_law_pick := ok_law_pick (P := P) (w := w) (base := base) (the_df X G c 56 (x := "_law_pick") (st := st_law_pick) (ds := []) (d := d_law_pick) rfl rfl fun F => F) B
  have c_law_feed := ok_law_feed (P := P) (w := w) (base := base) (the_df X G c 57 (x := "_law_feed") (st := st_law_feed) (ds := []) (d := d_law_feed) rfl rfl fun F => F) B
  have c_law_rule := ok_law_rule (P := P) (w := w) (base := base) (the_df X G c 58 (x := "_law_rule") (st := st_law_rule) (ds := []) (d := d_law_rule) rfl rfl fun F => F) B c_law_pick c_law_grown
  have c_law_machine := ok_law_machine (P := P) (w := w) (base := base) (the_df X G c 59 (x := "_law_machine") (st := st_law_machine) (ds := []) (d := d_law_machine) rfl rfl fun F => F) B c_law_pick
  have c_law_world := ok_law_world (P := P) (w := w) (base := base) (the_df X G c 60 (x := "_law_world") (st := st_law_world) (ds := []) (d := d_law_world) rfl rfl fun F => F) B c_law_rule c_law_machine c_law_words c_law_levels c_law_least c_law_delay
  exact law_body B c_law_feed c_law_world c_law_due c_settling_word c_delay_of c_sets_behind c_law_are_longer_right c_law_short c_settles c_behind c_law_rank c_law_map k_settling_word k_delay_of k_sets_behind hS hn
end K37
open PySem PySem.W PySem.Calls PyProof.Rows
theorem PySem.Challenge.cw_ledalong_k37_whole_settling_and_delays_holds : PySem.Challenge.rw_ledalong_k37_whole_settling_and_delays.Holds := by
  w_on; o_law
  refine HandSHeadRun.head_any (r := K37.theRow) (q := view K37.theRow.prog [75]) (H := K37.theHook) (ob := K37.seenAt) (M := 2700) (loose := K37.loAll) (d := HandSHeadRun.topDef K37.theRow.prog 75) (kwd := []) K37.seenAt_eq
    (by kernel_rfl) (fun s => by kernel_rfl) K37.theRun (by kernel_rfl) (by kernel_rfl) (by kernel_rfl) (by rfl) (by first | assumption | decide +kernel) (by decide +kernel) ⟨rfl, rfl, rfl, rfl, rfl, by decide +kernel⟩ ?hw ?hc
  case hw => w_witness2
  case hc =>
    refine Att.attach_call (l := PySem.Challenge.rw_ledalong_k37_whole_settling_and_delays) (n := 63) rfl (by kernel_rfl) fun w s0 s1 mg mb fa o pm cd doc a vs ns G Y ho hd hcd hmg0 hobj hints hlen hg => ?_
    obtain ⟨K, KX, c⟩ := Y
    have hmg : mg ("law" : PySem.Str) = some (.ref fa) := by
      have e : (HandSHeadRun.topDef K37.theRow.prog 75).name = ("law" : PySem.Str) := by kernel_rfl
      rw [← e]
      exact hmg0
    obtain ⟨f, fd, F, hf⟩ := K37.the_df KX G.T.g c 61 (x := "law") (st := K37.st_law) (ds := []) (d := K37.d_law) rfl rfl fun F => F
    rw [hmg] at hf
    cases hf
    exact K37.law_at KX G.T.g G.T.b G.T.builtins G.T.nolimit hg hobj hints (Nat.le_trans hlen (by decide)) F K37.sc_law (fun s u => L2.FunD.bindsA (ps := ["_law_script"]) F (fun _ _ _ _ _ _ us hl => match us, hl with | [_], _ => rfl) s [u] rfl) fun base H cdv hS => K37.the_law KX G.T.g c hlen base H cdv hS
