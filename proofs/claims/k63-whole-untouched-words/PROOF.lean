import PyProof.Rows.All
import Wide.All
import OpenK.AllK
import Wide.FinOn
import KE.KStateDown
import HandS.ForMost
import HandS.Defaults
import HandS.Walk
import HandS.TupAny
import HandS.More
import HandS.Strs
import HandS.NoneIn
import HandS.Zip
import HandS.Conv
import HandS.Flow
import HandS.Exc
import HandS.IsInst
import HandS.Head0
import HandS.Head1
import HandS.Head2
import HandS.HeadEnd
import HandS.HeadHook1
import HandS.HeadHook2
import HandS.Style
import KE.GoesEnum
import KE.GoesMore
import KE.DataCmp
import PySem.Challenge.RW_fewestrules_k63_whole_untouched_words
set_option Elab.async false
set_option linter.all false
set_option maxRecDepth 100000
set_option maxHeartbeats 4000000
namespace Pf
open PySem PySem.Spec PyProof.Rows L2
def topS (i : Nat) : Stmt := PySem.Challenge.pw_fewestrules_k63_whole_untouched_words.main.body.getD i (.Pass ⟨0, 0, 0, 0⟩)
abbrev s_is_whole : Stmt := topS 9
abbrev s_is_level : Stmt := topS 10
abbrev s_is_letter : Stmt := topS 11
abbrev s_are_letters : Stmt := topS 12
abbrev s_is_order : Stmt := topS 13
abbrev s_check_order_orders : Stmt := topS 14
abbrev s_check_level : Stmt := topS 16
abbrev s_removed : Stmt := topS 17
abbrev s_is_integer : Stmt := topS 22
abbrev s_is_rule : Stmt := topS 23
abbrev s_is_rule_list : Stmt := topS 24
abbrev s_check_order_rules : Stmt := topS 25
abbrev s_why_not : Stmt := topS 27
abbrev s_turned_around : Stmt := topS 28
abbrev s_put_after : Stmt := topS 29
abbrev s_put : Stmt := topS 30
abbrev s_led : Stmt := topS 31
abbrev s_is_word : Stmt := topS 34
abbrev s_has_letters : Stmt := topS 35
abbrev s_check_word : Stmt := topS 36
abbrev s_all_weights : Stmt := topS 37
abbrev s_key_by : Stmt := topS 38
abbrev s_key_of : Stmt := topS 39
abbrev s_result : Stmt := topS 40
abbrev s_compared : Stmt := topS 41
abbrev s_compare : Stmt := topS 42
abbrev s_check_change : Stmt := topS 45
abbrev s_new_order : Stmt := topS 46
abbrev s_changed_pairs : Stmt := topS 47
abbrev s_moved_in : Stmt := topS 48
abbrev s_sorted_indexes : Stmt := topS 50
abbrev s_follows : Stmt := topS 51
abbrev s_heights_of : Stmt := topS 52
abbrev s_staying : Stmt := topS 53
abbrev s_cover_for : Stmt := topS 54
abbrev s_law_stream : Stmt := topS 56
abbrev s_law_next : Stmt := topS 57
abbrev s_law_shuffled : Stmt := topS 58
abbrev s_law_order : Stmt := topS 59
abbrev s_law_rule : Stmt := topS 60
abbrev s_law_without : Stmt := topS 61
abbrev s_law_put : Stmt := topS 62
abbrev s_law_led : Stmt := topS 63
abbrev s_law_word : Stmt := topS 64
abbrev s_law_words : Stmt := topS 65
abbrev s_law_given : Stmt := topS 66
abbrev s_law_sorted : Stmt := topS 67
abbrev s_law_stays : Stmt := topS 68
abbrev s_law : Stmt := topS 69
end Pf
namespace Pf
open PySem PySem.Spec PyProof.Rows L2
def d_is_whole : He.DefD := ⟨("is_whole", none), "is_whole", "is_whole", defArgs s_is_whole, defBody s_is_whole, defScope s_is_whole, [], []⟩
def d_is_level : He.DefD := ⟨("is_level", none), "is_level", "is_level", defArgs s_is_level, defBody s_is_level, defScope s_is_level, [], []⟩
def d_is_letter : He.DefD := ⟨("is_letter", none), "is_letter", "is_letter", defArgs s_is_letter, defBody s_is_letter, defScope s_is_letter, [], []⟩
def d_are_letters : He.DefD := ⟨("are_letters", none), "are_letters", "are_letters", defArgs s_are_letters, defBody s_are_letters, defScope s_are_letters, [], []⟩
def d_is_order : He.DefD := ⟨("is_order", none), "is_order", "is_order", defArgs s_is_order, defBody s_is_order, defScope s_is_order, [], []⟩
def d_check_order_orders : He.DefD := ⟨("check_order_orders", none), "check_order", "check_order", defArgs s_check_order_orders, defBody s_check_order_orders, defScope s_check_order_orders, [], []⟩
def d_check_level : He.DefD := ⟨("check_level", none), "check_level", "check_level", defArgs s_check_level, defBody s_check_level, defScope s_check_level, [], []⟩
def d_removed : He.DefD := ⟨("removed", none), "removed", "removed", defArgs s_removed, defBody s_removed, defScope s_removed, [], []⟩
def d_is_integer : He.DefD := ⟨("is_integer", none), "is_integer", "is_integer", defArgs s_is_integer, defBody s_is_integer, defScope s_is_integer, [], []⟩
def d_is_rule : He.DefD := ⟨("is_rule", none), "is_rule", "is_rule", defArgs s_is_rule, defBody s_is_rule, defScope s_is_rule, [], []⟩
def d_is_rule_list : He.DefD := ⟨("is_rule_list", none), "is_rule_list", "is_rule_list", defArgs s_is_rule_list, defBody s_is_rule_list, defScope s_is_rule_list, [], []⟩
def d_check_order_rules : He.DefD := ⟨("check_order_rules", none), "check_order", "check_order", defArgs s_check_order_rules, defBody s_check_order_rules, defScope s_check_order_rules, [], []⟩
def d_why_not : He.DefD := ⟨("why_not", none), "why_not", "why_not", defArgs s_why_not, defBody s_why_not, defScope s_why_not, [], []⟩
def d_turned_around : He.DefD := ⟨("turned_around", none), "turned_around", "turned_around", defArgs s_turned_around, defBody s_turned_around, defScope s_turned_around, [], []⟩
def d_put_after : He.DefD := ⟨("put_after", none), "put_after", "put_after", defArgs s_put_after, defBody s_put_after, defScope s_put_after, [], []⟩
def d_put : He.DefD := ⟨("put", none), "put", "put", defArgs s_put, defBody s_put, defScope s_put, [], []⟩
def d_led : He.DefD := ⟨("led", none), "led", "led", defArgs s_led, defBody s_led, defScope s_led, [], []⟩
def d_is_word : He.DefD := ⟨("is_word", none), "is_word", "is_word", defArgs s_is_word, defBody s_is_word, defScope s_is_word, [], []⟩
def d_has_letters : He.DefD := ⟨("has_letters", none), "has_letters", "has_letters", defArgs s_has_letters, defBody s_has_letters, defScope s_has_letters, [], []⟩
def d_check_word : He.DefD := ⟨("check_word", none), "check_word", "check_word", defArgs s_check_word, defBody s_check_word, defScope s_check_word, [], []⟩
def d_all_weights : He.DefD := ⟨("all_weights", none), "all_weights", "all_weights", defArgs s_all_weights, defBody s_all_weights, defScope s_all_weights, [], []⟩
def d_key_by : He.DefD := ⟨("key_by", none), "key_by", "key_by", defArgs s_key_by, defBody s_key_by, defScope s_key_by, [], []⟩
def d_key_of : He.DefD := ⟨("key_of", none), "key_of", "key_of", defArgs s_key_of, defBody s_key_of, defScope s_key_of, [], []⟩
def d_result : He.DefD := ⟨("result", none), "result", "result", defArgs s_result, defBody s_result, defScope s_result, [], []⟩
def d_compared : He.DefD := ⟨("compared", none), "compared", "compared", defArgs s_compared, defBody s_compared, defScope s_compared, [], []⟩
def d_compare : He.DefD := ⟨("compare", none), "compare", "compare", defArgs s_compare, defBody s_compare, defScope s_compare, [], []⟩
def d_check_change : He.DefD := ⟨("check_change", none), "check_change", "check_change", defArgs s_check_change, defBody s_check_change, defScope s_check_change, [], []⟩
def d_new_order : He.DefD := ⟨("new_order", none), "new_order", "new_order", defArgs s_new_order, defBody s_new_order, defScope s_new_order, [], []⟩
def d_changed_pairs : He.DefD := ⟨("changed_pairs", none), "changed_pairs", "changed_pairs", defArgs s_changed_pairs, defBody s_changed_pairs, defScope s_changed_pairs, [], []⟩
def d_moved_in : He.DefD := ⟨("moved_in", none), "moved_in", "moved_in", defArgs s_moved_in, defBody s_moved_in, defScope s_moved_in, [], []⟩
def d_sorted_indexes : He.DefD := ⟨("sorted_indexes", none), "sorted_indexes", "sorted_indexes", defArgs s_sorted_indexes, defBody s_sorted_indexes, defScope s_sorted_indexes, [], []⟩
def d_follows : He.DefD := ⟨("follows", none), "follows", "follows", defArgs s_follows, defBody s_follows, defScope s_follows, [], []⟩
def d_heights_of : He.DefD := ⟨("heights_of", none), "heights_of", "heights_of", defArgs s_heights_of, defBody s_heights_of, defScope s_heights_of, [], []⟩
def d_staying : He.DefD := ⟨("staying", none), "staying", "staying", defArgs s_staying, defBody s_staying, defScope s_staying, [], []⟩
def d_cover_for : He.DefD := ⟨("cover_for", none), "cover_for", "cover_for", defArgs s_cover_for, defBody s_cover_for, defScope s_cover_for, [], []⟩
def d_law_stream : He.DefD := ⟨("_law_stream", none), "_law_stream", "_law_stream", defArgs s_law_stream, defBody s_law_stream, defScope s_law_stream, [], []⟩
def d_law_next : He.DefD := ⟨("_law_next", none), "_law_next", "_law_next", defArgs s_law_next, defBody s_law_next, defScope s_law_next, [], []⟩
def d_law_shuffled : He.DefD := ⟨("_law_shuffled", none), "_law_shuffled", "_law_shuffled", defArgs s_law_shuffled, defBody s_law_shuffled, defScope s_law_shuffled, [], []⟩
def d_law_order : He.DefD := ⟨("_law_order", none), "_law_order", "_law_order", defArgs s_law_order, defBody s_law_order, defScope s_law_order, [], []⟩
def d_law_rule : He.DefD := ⟨("_law_rule", none), "_law_rule", "_law_rule", defArgs s_law_rule, defBody s_law_rule, defScope s_law_rule, [], []⟩
def d_law_without : He.DefD := ⟨("_law_without", none), "_law_without", "_law_without", defArgs s_law_without, defBody s_law_without, defScope s_law_without, [], []⟩
def d_law_put : He.DefD := ⟨("_law_put", none), "_law_put", "_law_put", defArgs s_law_put, defBody s_law_put, defScope s_law_put, [], []⟩
def d_law_led : He.DefD := ⟨("_law_led", none), "_law_led", "_law_led", defArgs s_law_led, defBody s_law_led, defScope s_law_led, [], []⟩
def d_law_word : He.DefD := ⟨("_law_word", none), "_law_word", "_law_word", defArgs s_law_word, defBody s_law_word, defScope s_law_word, [], []⟩
def d_law_words : He.DefD := ⟨("_law_words", none), "_law_words", "_law_words", defArgs s_law_words, defBody s_law_words, defScope s_law_words, [], []⟩
def d_law_given : He.DefD := ⟨("_law_given", none), "_law_given", "_law_given", defArgs s_law_given, defBody s_law_given, defScope s_law_given, [], []⟩
def d_law_sorted : He.DefD := ⟨("_law_sorted", none), "_law_sorted", "_law_sorted", defArgs s_law_sorted, defBody s_law_sorted, defScope s_law_sorted, [], []⟩
def d_law_stays : He.DefD := ⟨("_law_stays", none), "_law_stays", "_law_stays", defArgs s_law_stays, defBody s_law_stays, defScope s_law_stays, [], []⟩
def d_law : He.DefD := ⟨("law", none), "law", "law", defArgs s_law, defBody s_law, defScope s_law, [], []⟩
def fn0 : List He.DefD := [d_is_whole, d_is_level, d_is_letter, d_are_letters, d_is_order, d_check_order_orders, d_check_level, d_removed, d_is_integer, d_is_rule, d_is_rule_list, d_check_order_rules, d_why_not, d_turned_around, d_put_after, d_put, d_led, d_is_word, d_has_letters, d_check_word]
def fn1 : List He.DefD := [d_all_weights, d_key_by, d_key_of, d_result, d_compared, d_compare, d_check_change, d_new_order, d_changed_pairs, d_moved_in, d_sorted_indexes, d_follows, d_heights_of, d_staying, d_cover_for, d_law_stream, d_law_next, d_law_shuffled, d_law_order, d_law_rule]
def fn2 : List He.DefD := [d_law_without, d_law_put, d_law_led, d_law_word, d_law_words, d_law_given, d_law_sorted, d_law_stays, d_law]
def fn : List He.DefD := fn0 ++ fn1 ++ fn2
def fa0 : List He.Fa := [.glo "is_whole", .glo "is_level", .glo "is_letter", .glo "are_letters", .glo "is_order", .glo "check_order_orders", .glo "check_level", .glo "removed", .glo "is_integer", .glo "is_rule", .glo "is_rule_list", .glo "check_order_rules", .glo "why_not", .glo "turned_around", .glo "put_after", .glo "put", .glo "led", .glo "is_word", .glo "has_letters", .glo "check_word"]
def fa1 : List He.Fa := [.glo "all_weights", .glo "key_by", .glo "key_of", .glo "result", .glo "compared", .glo "compare", .glo "check_change", .glo "new_order", .glo "changed_pairs", .glo "moved_in", .glo "sorted_indexes", .glo "follows", .glo "heights_of", .glo "staying", .glo "cover_for", .glo "_law_stream", .glo "_law_next", .glo "_law_shuffled", .glo "_law_order", .glo "_law_rule"]
def fa2 : List He.Fa := [.glo "_law_without", .glo "_law_put", .glo "_law_led", .glo "_law_word", .glo "_law_words", .glo "_law_given", .glo "_law_sorted", .glo "_law_stays", .glo "law", .glo "SIDES", .free "isinstance", .free "len", .free "all", .free "any", .free "tuple", .free "enumerate", .free "range", .free "max", .free "min", .free "abs"]
def fa3 : List He.Fa := [.free "int", .free "bool", .free "str", .free "list", .free "zip", .str "CHARACTERS" "abcdefghijklmnopqrstuvwxyz", .str "DIGITS" "0123456789", .int "LONGEST" 12, .int "MOST" 12, .int "MOST_LETTERS" 12, .int "MOST_RULES" 20, .int "LONGEST_WORD" 12, .int "MOST_WORDS" 12]
def fa : List He.Fa := fa0 ++ fa1 ++ fa2 ++ fa3
def loose0 : List PySem.Str := ["RulesError", "BadValue", "NotApplicable", "CHARACTERS", "DIGITS", "LONGEST", "MOST", "is_whole", "is_level", "is_letter", "are_letters", "is_order", "check_order", "check_order_orders", "check_level", "removed", "SIDES", "MOST_LETTERS", "MOST_RULES", "is_integer"]
def loose1 : List PySem.Str := ["is_rule", "is_rule_list", "check_order_rules", "why_not", "turned_around", "put_after", "put", "led", "LONGEST_WORD", "is_word", "has_letters", "check_word", "all_weights", "key_by", "key_of", "result", "compared", "compare", "MOST_WORDS", "check_change"]
def loose2 : List PySem.Str := ["new_order", "changed_pairs", "moved_in", "sorted_indexes", "follows", "heights_of", "staying", "cover_for", "_law_stream", "_law_next", "_law_shuffled", "_law_order", "_law_rule", "_law_without", "_law_put", "_law_led", "_law_word", "_law_words", "_law_given", "_law_sorted"]
def loose3 : List PySem.Str := ["_law_stays"]
def loose : List PySem.Str := loose0 ++ loose1 ++ loose2 ++ loose3
/- indexes: fn [(0, 'is_whole'), (1, 'is_level'), (2, 'is_letter'), (3, 'are_letters'), (4, 'is_order'), (5, 'check_order_orders'), (6, 'check_level'), (7, 'removed'), (8, 'is_integer'), (9, 'is_rule'), (10, 'is_rule_list'), (11, 'check_order_rules'), (12, 'why_not'), (13, 'turned_around'), (14, 'put_after'), (15, 'put'), (16, 'led'), (17, 'is_word'), (18, 'has_letters'), (19, 'check_word'), (20, 'all_weights'), (21, 'key_by'), (22, 'key_of'), (23, 'result'), (24, 'compared'), (25, 'compare'), (26, 'check_change'), (27, 'new_order'), (28, 'changed_pairs'), (29, 'moved_in'), (30, 'sorted_indexes'), (31, 'follows'), (32, 'heights_of'), (33, 'staying'), (34, 'cover_for'), (35, '_law_stream'), (36, '_law_next'), (37, '_law_shuffled'), (38, '_law_order'), (39, '_law_rule'), (40, '_law_without'), (41, '_law_put'), (42, '_law_led'), (43, '_law_word'), (44, '_law_words'), (45, '_law_given'), (46, '_law_sorted'), (47, '_law_stays'), (48, 'law')]
facts [(0, '.glo "is_whole"'), (1, '.glo "is_level"'), (2, '.glo "is_letter"'), (3, '.glo "are_letters"'), (4, '.glo "is_order"'), (5, '.glo "check_order_orders"'), (6, '.glo "check_level"'), (7, '.glo "removed"'), (8, '.glo "is_integer"'), (9, '.glo "is_rule"'), (10, '.glo "is_rule_list"'), (11, '.glo "check_order_rules"'), (12, '.glo "why_not"'), (13, '.glo "turned_around"'), (14, '.glo "put_after"'), (15, '.glo "put"'), (16, '.glo "led"'), (17, '.glo "is_word"'), (18, '.glo "has_letters"'), (19, '.glo "check_word"'), (20, '.glo "all_weights"'), (21, '.glo "key_by"'), (22, '.glo "key_of"'), (23, '.glo "result"'), (24, '.glo "compared"'), (25, '.glo "compare"'), (26, '.glo "check_change"'), (27, '.glo "new_order"'), (28, '.glo "changed_pairs"'), (29, '.glo "moved_in"'), (30, '.glo "sorted_indexes"'), (31, '.glo "follows"'), (32, '.glo "heights_of"'), (33, '.glo "staying"'), (34, '.glo "cover_for"'), (35, '.glo "_law_stream"'), (36, '.glo "_law_next"'), (37, '.glo "_law_shuffled"'), (38, '.glo "_law_order"'), (39, '.glo "_law_rule"'), (40, '.glo "_law_without"'), (41, '.glo "_law_put"'), (42, '.glo "_law_led"'), (43, '.glo "_law_word"'), (44, '.glo "_law_words"'), (45, '.glo "_law_given"'), (46, '.glo "_law_sorted"'), (47, '.glo "_law_stays"'), (48, '.glo "law"'), (49, '.glo "SIDES"'), (50, '.free "isinstance"'), (51, '.free "len"'), (52, '.free "all"'), (53, '.free "any"'), (54, '.free "tuple"'), (55, '.free "enumerate"'), (56, '.free "range"'), (57, '.free "max"'), (58, '.free "min"'), (59, '.free "abs"'), (60, '.free "int"'), (61, '.free "bool"'), (62, '.free "str"'), (63, '.free "list"'), (64, '.free "zip"'), (65, '.str "CHARACTERS" "abcdefghijklmnopqrstuvwxyz"'), (66, '.str "DIGITS" "0123456789"'), (67, '.int "LONGEST" 12'), (68, '.int "MOST" 12'), (69, '.int "MOST_LETTERS" 12'), (70, '.int "MOST_RULES" 20'), (71, '.int "LONGEST_WORD" 12'), (72, '.int "MOST_WORDS" 12')] -/
end Pf
namespace Pf
open PySem PySem.Spec PyProof.Rows L2
def sidesD : List He.Dv := [.str "after", .str "before"]
def obsP (K : PySem.W.Frag) : He.AlD := ((He.obsD fa fn K).1 && He.tupB K "SIDES" sidesD, (He.obsD fa fn K).2)
def SaysP (K : PySem.W.Frag) : Prop := obsP K = He.valD fn
def obsPG (g : Addr → Option Obj) : He.AlD := obsP (He.frG g (He.asD g 4))
def hookP : PySem.W.Hook where
  α := He.AlD
  obs := fun s => obsPG s.heap.get?
  val := fun _ => He.valD fn
  says := fun _ h => ∃ K : PySem.W.Frag, K.In h ∧ SaysP K
  of := fun _ _ e => ⟨_, He.frG_in, e⟩
  keeps := fun _ _ _ ⟨K, hK, c⟩ k => ⟨K, PySem.W.Frag.In.keeps hK k, c⟩
theorem SaysP.d {K : PySem.W.Frag} (c : SaysP K) : He.SaysD fa fn K ∧ He.tupB K "SIDES" sidesD = true := by
  have c0 : obsP K = He.valD fn := c
  have c1 : (obsP K).1 = (He.valD fn).1 := congrArg (fun z : He.AlD => z.1) c0
  have c2 : (obsP K).2 = (He.valD fn).2 := congrArg (fun z : He.AlD => z.2) c0
  have c3 : ((He.obsD fa fn K).1 && He.tupB K "SIDES" sidesD) = true := c1
  obtain ⟨h1, h2⟩ := He.ba c3
  exact ⟨Prod.ext h1 c2, h2⟩
abbrev R : PySem.W.OpenRow := PySem.W.OpenLaw.row PySem.Challenge.rw_fewestrules_k63_whole_untouched_words
def ob (s : PySem.W.SharedT) : He.AlD := obsPG (HandSHeadRun.getT s)
theorem ob_eq (s : PySem.W.SharedT) : ob s = hookP.obs s.abs := by
  have e : HandSHeadRun.getT s = s.abs.heap.get? := funext (HandSHeadRun.getT_eq s)
  show obsPG (HandSHeadRun.getT s) = obsPG s.abs.heap.get?
  rw [e]
theorem run (w : World) : HandSHeadRun.RunEq R (PySem.W.view R.prog [69]) hookP ob 4000 loose w := by
  intro os
  kernel_rfl
end Pf
/-! Rules of the hand layer that were lacking: enumerate over a tuple, t[::-1], t.count of texts, < of nested tuples. -/
namespace L2
open PySem PySem.Spec PyProof.Rows
/-! ### enumerate(tuple) -/
set_option maxHeartbeats 1000000 in
theorem meets_enumerate_newT {v : Value} {o : Obj} {H : Heap → Prop} (B : Begins v o H) :
    Meets (Builtin.«enumerate.__new__» ⟨[.type "enumerate", v], []⟩) (fun _ R s => H s.heap ∧
      R (.ok (.ret (.ref (s.heap.push o).objs.size))) { s with heap := (s.heap.push o).push { cls := .type "enumerate", data := .fields #[.none, .bool false, .ref s.heap.objs.size, rawInt 0, .none, .none] } }) :=
  .of_wp fun prog w A R s h => by
    obtain ⟨hp₀, g₀, d, tk₀, os₀⟩ := s; obtain ⟨h1, h⟩ := h
    have hsub₀ := sub_enumerate
    have q1₀ : ∀ {A' : Around} {E : Value → Shared → Prop} {Q : Value → Shared → Prop}, Q (.ref hp₀.objs.size) ⟨hp₀.push o, g₀, d, tk₀, os₀⟩ → wpAny (model prog w) A' (pyIter v) Q E ⟨hp₀, g₀, d, tk₀, os₀⟩ :=
      fun q => B.iter prog w _ _ ⟨hp₀, g₀, d, tk₀, os₀⟩ _ h1 q
    wp_walk using q1₀
    refine wpAny_stack_any fun st₀ => wpAny_pure ?_
    split
    · rename_i c _ _ _ _ _
      cases (c == Value.type "enumerate")
      · wp_walk using q1₀
        exact ⟨_, rfl, h⟩
      · wp_walk using q1₀
        exact ⟨_, rfl, h⟩
    · wp_walk using q1₀
      exact ⟨_, rfl, h⟩
section
variable {prog : Program} {w : World} {A : Around} {E : Value → Shared → Prop} {s : Shared}
theorem call_enumerate_tuple {l : Addr} {items : Array Value} {Q : Value → Shared → Prop} (hL₀ : s.heap.IsTuple l items)
    (h : ∀ h', IsEnum h' (s.heap.objs.size + 1) s.heap.objs.size 0 .none → h'.IsTupleIter s.heap.objs.size l 0 → h'.objs.size = s.heap.objs.size + 2 →
      (∀ b o, s.heap.get? b = some o → h'.get? b = some o) → Q (.ref (s.heap.objs.size + 1)) { s with heap := h' }) :
    wpAny (model prog w) A (call (.type "enumerate") [.ref l]) Q E s := by
  refine callType_new F.called_enumerate (by decide) (F.typeCall_enumerate_1 _) (F.newCall_enumerate_1 _) (fun obj => F.args_object_init_2 obj _) F.entry_enumerate_new
    (meets_enumerate_newT (begins_tuple l items)) ⟨hL₀, ?_⟩
  have hz₀ : (s.heap.push { cls := .type "tuple_iterator", data := .fields #[.ref l, .int 0 0] }).objs.size = s.heap.objs.size + 1 := Heap.size_push ..
  show _ ∧ _
  rw [hz₀]
  have he₀ : IsEnum ((s.heap.push { cls := .type "tuple_iterator", data := .fields #[.ref l, .int 0 0] }).push
      { cls := .type "enumerate", data := .fields #[.none, .bool false, .ref s.heap.objs.size, rawInt 0, .none, .none] }) (s.heap.objs.size + 1) s.heap.objs.size 0 .none := by
    have := Heap.get?_push_size (s.heap.push { cls := .type "tuple_iterator", data := .fields #[.ref l, .int 0 0] })
      (o := { cls := .type "enumerate", data := .fields #[.none, .bool false, .ref s.heap.objs.size, rawInt 0, .none, .none] }) rfl
    rw [hz₀] at this; exact this
  refine ⟨⟨_, he₀, rfl⟩, h _ he₀ ⟨_, Heap.get?_push_of_some _ (Heap.get?_push_size _ rfl), rfl, rfl⟩ (by rw [Heap.size_push, hz₀]) fun b o x => Heap.get?_push_of_some _ (Heap.get?_push_of_some _ x)⟩
end
/-- the tuple at a, each item in a new pair -/
def IteT (K : PySem.W.Frag) (a : Addr) : It :=
  ⟨fun i H => ∃ (xs : List V) (x : V), SqT K H a xs ∧ xs[i]? = some x, fun i H v H' => ∃ T x, v = .ref T ∧ H T = none ∧ H' = upd H T (.tup [.int (i : Nat), x]) ∧ ∀ xs, SqT K H a xs → xs[i]? = some x, fun i H => ∃ xs : List V, SqT K H a xs ∧ xs.length ≤ i⟩
theorem turn_enumT {P : Program} {w : World} {K : PySem.W.Frag} {elts : List Expr} {kk : Nat} {tpos : Pos} (a e it : Addr) :
    Turn P w K (.Tuple elts kk tpos) (IteT K a) [e, it] e (fun i h => (∃ old₀, IsEnum h e it ((i : Nat) : Int) old₀) ∧ h.IsTupleIter it a i ∧ e ≠ it) where
  mem := by simp
  obj := fun i h st₀ b hb₀ => by
    obtain ⟨⟨old₀, he₀⟩, ⟨o, ho₀, hc, hd₀⟩, _⟩ := st₀
    have e' : b = e ∨ b = it := by simpa using hb₀
    rcases e' with z | z
    · rw [z]; exact ⟨_, he₀, fun v q => nomatch q⟩
    · rw [z]; exact ⟨o, ho₀, fun v q => by rw [hd₀] at q; cases q⟩
  keep := fun i h h' st₀ k => let ⟨⟨old₀, he₀⟩, hi, hne₀⟩ := st₀; ⟨⟨old₀, k e (by simp) _ he₀⟩, hi.at fun o q => k it (by simp) o q, hne₀⟩
  item := by
    intro X hP hw hK hc i pins₀ s σ H E I₀ hf₀ st₀ hg₀
    subst hP hw hK
    obtain ⟨⟨old₀, he₀⟩, hit₀, hne₀⟩ := st₀
    obtain ⟨xs, x, hq₀, hx₀⟩ := hg₀
    obtain ⟨its₀, rv₀, p, hz₀⟩ := I₀.tuple hq₀
    obtain ⟨u, hu₀, ru₀⟩ := rv₀.get hx₀
    have hel₀ : e < s.heap.objs.size := Heap.lt_size he₀
    have hil₀ : it < s.heap.objs.size := by obtain ⟨_, q, _⟩ := hit₀; exact Heap.lt_size q
    have pT₀ : s.heap.IsTuple a its₀.toArray := p
    have hai₀ : a ≠ it := fun z => by
      obtain ⟨o, ho₀, hc1, hd₀⟩ := hit₀
      obtain ⟨o2, ho2, hc2, _⟩ := pT₀
      rw [z, ho₀] at ho2
      cases ho2
      rw [hc1] at hc2
      exact absurd (Value.type.inj hc2) (by decide)
    have hae₀ : a ≠ e := fun z => by
      obtain ⟨o2, ho2, hc2, _⟩ := pT₀
      have he0 := he₀
      unfold IsEnum at he0
      rw [z, he0] at ho2
      cases ho2
      exact absurd (Value.type.inj hc2) (by decide)
    have hea : e ∉ [it, a] := by
      intro z
      rcases List.mem_cons.mp z with z | z
      · exact hne₀ z
      · exact hae₀ (List.mem_singleton.mp z).symm
    have hlt : i < its₀.toArray.size := by
      have := (List.getElem?_eq_some_iff.mp hu₀).1
      simpa using this
    have D := Draws.tuple (prog := X.prog) (w := X.w) (A := X.A.in1) (show X.A.in1.handled = none from I₀.ok.hd hc) it a hai₀ its₀.toArray
    refine wpAny_pyNext_enum_itemD D he₀ (show s.heap.IsTupleIter it a i ∧ s.heap.IsTuple a its₀.toArray from ⟨hit₀, pT₀⟩) hlt hne₀ hea fun u' h' tk₀ hu' ho₀ hit' hT₀ hsz hk₀ => ?_
    have eu : u' = u := by
      have h1 : its₀.toArray[i]? = some u := by simpa using hu₀
      exact Option.some.inj (hu'.symm.trans h1)
    subst eu
    refine ⟨_, rfl, wpAny_letOwnedTupleGo_enum (s := { s with heap := h', toks := tk₀ + 1 }) ho₀ fun h'' he' sb₀ => ?_⟩
    have hT2 : h''.get? s.heap.objs.size = some { cls := .type "tuple", data := .seq #[.int i tk₀, u'] } := (sb₀.2 _ (Nat.ne_of_gt hel₀)).trans hT₀
    have new : ObjOk X.prog X.w (upd H s.heap.objs.size (.tup [.int (i : Nat), x])) h'' s.heap.objs.size (.tup [.int (i : Nat), x]) :=
      ⟨by show 2 ≤ sizeLine; decide, [.int i tk₀, u'], .cons ⟨_, rfl⟩ (.cons ru₀ .nil), ⟨_, hT2, rfl, _, rfl⟩⟩
    have I1₀ : Inv X pins₀ σ (upd H s.heap.objs.size (.tup [.int (i : Nat), x])) { s with heap := h'', toks := tk₀ + 1 } :=
      I₀.turnedNew (ch := [e, it]) (fun b ob hb₀ q => (sb₀.2 b (fun z => hb₀ (by simp [z]))).trans (hk₀ b ob (fun z => hb₀ (by simp [z])) (fun z => hb₀ (by simp [z])) q)) hf₀ (Nat.le_refl _) new
    refine ⟨.ref s.heap.objs.size, _, I1₀, rfl, ⟨_, x, rfl, I₀.hok.fresh (Nat.le_refl _), rfl, fun ys hy => by rw [I₀.tuple_inj hy hq₀]; exact hx₀⟩, ⟨⟨u', ?_⟩, hit'.1.at fun o q => (sb₀.2 it (Ne.symm hne₀)).trans q, hne₀⟩, fun b hb₀ => ?_⟩
    · have e1₀ : ((i + 1 : Nat) : Int) = (i : Int) + 1 := by omega
      rw [e1₀]; exact he'
    · have hb' : b < s.heap.objs.size := by
        have e' : b = e ∨ b = it := by simpa using hb₀
        rcases e' with z | z
        · rw [z]; exact hel₀
        · rw [z]; exact hil₀
      rw [upd_ne (Nat.ne_of_lt hb')]
      exact (hf₀ b hb₀).1
  done := by
    intro X hP hw hK hc i pins₀ s σ H E I₀ hf₀ st₀ hg₀
    subst hP hw hK
    obtain ⟨⟨old₀, he₀⟩, hit₀, hne₀⟩ := st₀
    obtain ⟨xs, hq₀, hx₀⟩ := hg₀
    obtain ⟨its₀, rv₀, p, hz₀⟩ := I₀.tuple hq₀
    obtain ⟨f0₀, f1₀, f2₀, f3₀, f4₀, f5₀⟩ := hf₀ it (by simp)
    have pT₀ : s.heap.IsTuple a its₀.toArray := p
    have hl := rv₀.length
    have hT₀ : s.TypeIs (.ref e) "enumerate" := ⟨_, he₀, rfl⟩
    unfold pyNext
    refine wpAny_bind (wpAny_attempt (wpAny_callSpecial?_slot (name := Str.ofString "__next__") hT₀ F.slot_enumerate_next
      (wpAny_call_entry F.slot_enumerate_next hT₀ F.entry_enumerate_next ?_ (F.args_enumerate_next_1 _))))
    show wpAny _ _ (field (.ref e) 2 >>= _) _ _ _
    refine wpAny_bind (wpAny_field he₀ rfl (x := .ref it) rfl ?_)
    refine wpAny_bind (wpAny_nextOf_tuple_end (A := X.A.in1) (I₀.ok.hd hc) hit₀ pT₀ (by simp; omega) fun h' x he' hx' => ?_)
    obtain ⟨o, ho₀, hcl₀⟩ := hx'
    refine wpAny_bind (wpAny_isInstance (T := "StopIteration") (b := true) ⟨o, ho₀, hcl₀⟩ isSubtype_stop ?_)
    exact wpAny_pure ⟨rfl, I₀.turned (t' := s.toks) (fun b o hb₀ q => he' b o hb₀ q) f0₀ f1₀ f3₀ f4₀ f5₀⟩
  self := fun A i s Q E st₀ h => let ⟨⟨_, he₀⟩, _⟩ := st₀; wpAny_pyIter_enum he₀ h
def iEnumT (K : PySem.W.Frag) (ta : TA) : TI := fun σ H R => ta σ H fun vs₀ H1₀ => ∃ a xs, vs₀ = [.ref a] ∧ SqT K H1₀ a xs ∧ R (IteT K a) H1₀
theorem pi_enumT {X : Cx} {e : Expr} {ta : TA} {p pos tpos : Pos} {elts : List Expr} {kk : Nat} (hg₀ : Gl X "enumerate") (hm : X.mg "enumerate" = none) (ha : PA X [e] ta) (hs₀ : starEach [e] X.env = [(false, eval e X.env)] := by rfl) :
    PI X (.Tuple elts kk tpos) (.Call (.Name "enumerate" p) [e] [] pos) (iEnumT X.K ta) := by
  refine ⟨fun pins₀ s σ H R I₀ h => ?_⟩
  refine Call_ (ld_blt I₀ hg₀ hm boot_enumerate (PyProof.Rows.callWith_type1 (thn (ha.run pos pins₀ s σ H _ I₀ h) fun us₀ s1₀ ⟨vs₀, H1₀, I1₀, r1, q1₀⟩ => ?_) hs₀ rfl))
  obtain ⟨a, xs, ex₀, hq₀, q⟩ := q1₀
  subst ex₀
  cases r1 with
  | cons r rr =>
    cases rr
    cases r
    obtain ⟨its₀, rv₀, p', hz₀⟩ := I1₀.tuple hq₀
    refine call_enumerate_tuple (show s1₀.heap.IsTuple a its₀.toArray from p') fun h' he₀ hit₀ hsz hk₀ => wpAny_pyIter_enum he₀ ?_
    have I2₀ : Inv X pins₀ σ H1₀ { s1₀ with heap := h' } := I1₀.kept (t' := s1₀.toks) hk₀
    refine ⟨s1₀.heap.objs.size + 1, [s1₀.heap.objs.size + 1, s1₀.heap.objs.size], _, _, H1₀, rfl, I2₀, turn_enumT a (s1₀.heap.objs.size + 1) s1₀.heap.objs.size, ⟨⟨.none, he₀⟩, hit₀, Nat.succ_ne_self _⟩, fun b hb₀ => ?_, q⟩
    have e' : b = s1₀.heap.objs.size + 1 ∨ b = s1₀.heap.objs.size := by simpa using hb₀
    have hle : s1₀.heap.objs.size ≤ b := by
      rcases e' with z | z
      · rw [z]; exact Nat.le_add_right _ _
      · rw [z]; exact Nat.le_refl _
    exact I1₀.fpOk hle (I1₀.hok.fresh hle)
theorem walk_enumT {K : PySem.W.Frag} {a : Addr} {xs : List V} : Walk (IteT K a) xs.length (fun H => SqT K H a xs) (YPair (fun i => some (.int (i : Nat))) (fun i => xs[i]?)) := by
  refine ⟨fun i _ hi q => ⟨xs, xs[i], q, by simp [hi]⟩, fun _ q => ⟨xs, q, Nat.le_refl _⟩, fun i H v H' _ q y => ?_⟩
  obtain ⟨T, x, h1, h2, h3, h4⟩ := y
  exact ⟨T, .int (i : Nat), x, h1, h2, h3, rfl, h4 xs q⟩
/-! ### t[::-1] -/
section
open HT
variable {prog : Program} {w : World} {A : Around} {E : Value → Shared → Prop} {s : Shared}
theorem rev_pick (xs : Array Value) : ((List.range xs.size).filterMap fun (k : Nat) => xs[((((xs.size : Nat) : Int) - 1) + (k : Int) * (-1)).toNat]?).toArray = xs.toList.reverse.toArray := by
  have h0 : (fun (k : Nat) => xs[((((xs.size : Nat) : Int) - 1) + (k : Int) * (-1)).toNat]?) = (fun k : Nat => xs[xs.size - 1 - k]?) := funext fun k => by
    rw [show ((((xs.size : Nat) : Int) - 1) + (k : Int) * (-1)).toNat = xs.size - 1 - k by omega]
  rw [h0]
  have h1 : (List.range xs.size).filterMap (fun k : Nat => xs[xs.size - 1 - k]?) = ((List.range xs.size).map fun k => xs.size - 1 - k).filterMap (xs[·]?) := by
    rw [List.filterMap_map]
    rfl
  rw [h1, PySem.W.krv_range, List.filterMap_reverse, PySem.W.krv_all]
theorem sliceApplied_rev {sl : Addr} {vl vu vs₀ : Value} {n : Nat} {Q : Int × Int × Nat → Shared → Prop} (hs₀ : s.heap.IsSliceOf sl vl vu vs₀) (pl₀ : IsPart vl none) (pu₀ : IsPart vu none) (ps₀ : IsPart vs₀ (some (-1)))
    (h : Q (((n : Int) - 1), -1, n) s) : wpAny (model prog w) A (Builtin.Slice.sliceApplied (.ref sl) (pure (n : Int))) Q E s := by
  obtain ⟨os₀, hos₀, hcs₀, hds₀⟩ := id hs₀
  unfold Builtin.Slice.sliceApplied Builtin.Slice.sliceFields
  refine wpAny_bind (wpAny_bind (wpAny_field hos₀ hds₀ (x := vl) rfl (wpAny_bind (wpAny_field hos₀ hds₀ (x := vu) rfl (wpAny_bind (wpAny_field hos₀ hds₀ (x := vs₀) rfl (wpAny_pure ?_)))))))
  refine wpAny_bind (slicePart_ ps₀ ?_)
  show wpAny _ _ (if ((-1 : Int) == 0) = true then _ else _) _ _ s
  rw [if_neg (by decide)]
  refine wpAny_bind (slicePart_ pl₀ (wpAny_bind (slicePart_ pu₀ (wpAny_bind (wpAny_pure ?_)))))
  show wpAny _ _ (match Builtin.Slice.sliceAdjust none none (-1) (n : Int) with | (lo, hi) => pure (lo, (-1 : Int), Builtin.Slice.slicePlaces lo hi (-1))) _ _ s
  have e1₀ : Builtin.Slice.sliceAdjust none none (-1) (n : Int) = ((n : Int) - 1, -1) := rfl
  rw [e1₀]
  have e2₀ : Builtin.Slice.slicePlaces ((n : Int) - 1) (-1) (-1) = n := by
    unfold Builtin.Slice.slicePlaces
    have h1 : ¬ ((-1 : Int) > 0) := by omega
    simp only [h1, if_false, Int.neg_neg, Int.ediv_one]
    split <;> omega
  show wpAny _ _ (pure ((n : Int) - 1, (-1 : Int), Builtin.Slice.slicePlaces ((n : Int) - 1) (-1) (-1))) _ _ s
  rw [e2₀]
  exact wpAny_pure h
theorem getItem_tuple_rev {t sl : Addr} {items : Array Value} {vl vu vs₀ : Value} {Q : Value → Shared → Prop} (ht : IsTup s.heap t items) (hs₀ : s.heap.IsSliceOf sl vl vu vs₀) (pl₀ : IsPart vl none) (pu₀ : IsPart vu none) (ps₀ : IsPart vs₀ (some (-1)))
    (h : Q (.ref s.heap.objs.size) { s with heap := s.heap.push { cls := .type "tuple", data := .seq items.toList.reverse.toArray } })
    (hsz : items.size ≤ sizeLine) : wpAny (model prog w) A (getItem (.ref t) (.ref sl)) Q E s := by
  have htake : sizeOk (.seq items.toList.reverse.toArray) := by
    show items.toList.reverse.toArray.size ≤ sizeLine
    rw [List.size_toArray, List.length_reverse, Array.length_toList]
    exact hsz
  obtain ⟨os₀, hos₀, hcs₀, hds₀⟩ := id hs₀
  have hTs₀ : s.TypeIs (.ref sl) "slice" := ⟨os₀, hos₀, hcs₀⟩
  unfold getItem
  try with_reducible refine wpAny_holding ?_
  first | refine wpAny_bind (wpAny_pure ?_) | skip
  refine wpAny_bind (wpAny_sequenceKey ht.typeIs (by decide) ?_)
  refine wpAny_bind (wpAny_callSpecial?_slot (name := Str.ofString "__getitem__") ht.typeIs PyProof.Rows.slot_tuple_getitem
    (wpAny_call_entry PyProof.Rows.slot_tuple_getitem ht.typeIs entry_tuple_getitem ?_ (args_tuple_getitem _ _)))
  show wpAny _ _ (Builtin.Tuple.tupleItemsOf (.ref t) >>= _) _ _ s
  refine wpAny_bind (tupleItemsOf_ ht ?_)
  refine wpAny_bind (wpAny_typeOf hTs₀ ?_)
  rw [if_pos (by decide)]
  refine wpAny_bind (sliceApplied_rev (n := items.size) hs₀ pl₀ pu₀ ps₀ ?_)
  have hno₀ : ¬ ((((items.size : Int) - 1) == 0 && (-1 : Int) == 1 && items.size == items.size) = true) := by
    intro q
    rw [Bool.and_eq_true, Bool.and_eq_true] at q
    exact absurd q.1.2 (by decide)
  show wpAny _ _ (if (((items.size : Int) - 1) == 0 && (-1 : Int) == 1 && items.size == items.size) = true then _ else _) _ _ s
  rw [if_neg hno₀, rev_pick]
  first
    | exact wpAny_bind (m := Builtin.Tuple.tupleExact _) (wpAny_newObj_type (wpAny_pure ⟨_, rfl, wpAny_pure h⟩) htake)
    | exact wpAny_bind (m := Builtin.Tuple.tupleExact _) (wpAny_newObj_type (wpAny_bind (wpAny_pure (wpAny_pure ⟨_, rfl, wpAny_pure h⟩))) htake)
    | exact wpAny_bind (wpAny_bind (m := Builtin.Tuple.tupleExact _) (wpAny_newObj_type (wpAny_pure (wpAny_pure ⟨_, rfl, wpAny_pure h⟩)) htake))
    | exact wpAny_bind (wpAny_bind (m := Builtin.Tuple.tupleExact _) (wpAny_newObj_type (wpAny_pure ⟨_, rfl, wpAny_pure h⟩) htake))
end
section
variable {X : Cx}
/-! ### t.count(x) of texts -/
theorem countP_strs {z : Str} : ∀ {us₀ : List Value} {ys : List Str}, Vals (ys.map V.str) us₀ → us₀.countP (eqU (.str z)) = ys.count z
  | us₀, [], r => by
    cases r
    rfl
  | us₀, y :: ys, r => by
    cases r with
    | cons r1 r2 =>
      obtain ⟨t, rfl⟩ := r1
      have ih := countP_strs (z := z) r2
      rw [List.countP_cons, List.count_cons, ih]
      rfl
theorem mt_tcountS : MtR X "tuple.count" (fun x xs H Q => ∃ (p : Addr) (ys : List Str) (z : Str), x = .ref p ∧ xs = [.str z] ∧ SqT X.K H p (ys.map V.str) ∧ Q (.int (ys.count z : Nat)) H) := by
  intro pins₀ s σ H x xs v us₀ Q I₀ rx₀ rs₀ h
  obtain ⟨p, ys, z, rfl, rfl, hq₀, q⟩ := h
  cases rx₀
  obtain ⟨u, rfl, t, rfl⟩ := vals1 rs₀
  obtain ⟨its₀, r, pl₀, hz₀⟩ := I₀.tuple hq₀
  obtain ⟨⟨cls, dd, dt, sl⟩, ho₀, hc, n, hd₀⟩ := pl₀
  simp only at hc hd₀
  subst hc
  subst hd₀
  refine call_meets PySem.F.slot_tuple_count ⟨_, ho₀, rfl⟩ PySem.F.entry_tuple_count (PySem.F.args_tuple_count_2 _ _)
    (SeqAt.tuple_countAt p its₀.toArray n dd sl (.str z t) (eqU (.str z))) ⟨ho₀, fun w hw => mem_eqAt (x := .str z) ⟨t, rfl⟩ rfl r (flat_strs ys) w (by simpa using hw), ?_⟩
  refine ⟨.int (ys.count z : Nat), H, I₀.tok _, ⟨s.toks, ?_⟩, q⟩
  rw [← countP_strs r]
/-! ### < of data that are alike -/
def rLtD (K : PySem.W.Frag) : R2 := fun x y H Q => ∃ d e, Dp K H x d ∧ Dp K H y e ∧ PySem.W.alike d e = true ∧ d ≠ .none ∧ min d.depth e.depth ≤ 60 ∧ Q (.bl (PySem.W.dataLt d e)) H
theorem op_ltD (hu₀ : X.A.units + 64 < cLine) : OpR X (compareOp .Lt) (rLtD X.K) := by
  intro pins₀ s σ H x y v u Q I₀ rx₀ ry₀ h
  obtain ⟨d, e, hd₀, he₀, al, hn, hdep, q⟩ := h
  obtain ⟨as₀, r1⟩ := Dp.reads I₀ d x v hd₀ rx₀
  obtain ⟨bs₀, r2⟩ := Dp.reads I₀ e y u he₀ ry₀
  exact PySem.W.lt_data r1 r2 al hn (by omega) ⟨.bl _, H, I₀, rfl, q⟩
end
end L2
namespace L2
open PySem PySem.Spec PyProof.Rows
/-! ### the rules with the written part K named: a comprehension's element must not name its block's context -/
section
variable {X : Cx} {K : PySem.W.Frag} (hK : X.K = K)
include hK
theorem ix_listK : IxR X (rIxL K) := by subst hK; exact ix_list
theorem op_in_seqK : OpR X (compareOp .In) (rIn K false) := by subst hK; exact op_in_seq
theorem op_notIn_seqK : OpR X (compareOp .NotIn) (rIn K true) := by subst hK; exact op_notIn_seq
theorem op_eqDK (hu : X.A.units + 64 < cLine) : OpR X (compareOp .Eq) (rEqD K) := by subst hK; exact op_eqD hu
theorem op_neDK (hu : X.A.units + 64 < cLine) : OpR X (compareOp .NotEq) (rNeD K) := by subst hK; exact op_neD hu
theorem op_ltDK (hu : X.A.units + 64 < cLine) : OpR X (compareOp .Lt) (rLtD K) := by subst hK; exact op_ltD hu
def rLenK (K : PySem.W.Frag) : List V → Hp → VK → Prop := fun xs H Q => ∃ x n, xs = [x] ∧ LenV K x H n ∧ Q (.int n) H
theorem call_lenK : CallR X (.builtin "len") (rLenK K) := by subst hK; exact call_len
theorem call_isiKK : CallR X (.builtin "isinstance") (rIsi K) := by subst hK; exact call_isi
theorem cr_allK (hc : X.calm = true) : CallR X (.builtin "all") (rAll K) := by subst hK; exact cr_all hc
theorem cr_anyK (hc : X.calm = true) : CallR X (.builtin "any") (rAny K) := by subst hK; exact cr_any hc
theorem cr_maxK (hc : X.calm = true) : CallR X (.builtin "max") (rMax K) := by subst hK; exact cr_max hc
def rLstK (K : PySem.W.Frag) : List V → Hp → VK → Prop := fun xs H Q => ∃ p ys, xs = [.ref p] ∧ (SqL K H p ys ∨ SqT K H p ys) ∧ ∀ l, H l = none → Q (.ref l) (upd H l (.lst ys))
theorem call_list_ofK : CallR X (.type "list") (rLstK K) := by subst hK; exact call_list_of
theorem sl_listK : SlR X (rSlL K) := by subst hK; exact sl_list
end
section
variable {X : Cx} {K : PySem.W.Frag} {tg : Expr}
theorem pi_tupK (hK : X.K = K) {l : Expr} {tl : TE} (hl : PE X l tl) : PI X tg l (iTup K tl) := by subst hK; exact pi_tup hl
theorem pi_listK (hK : X.K = K) {l : Expr} {tl : TE} (hl : PE X l tl) : PI X tg l (iList K tl) := by subst hK; exact pi_list hl
theorem pi_enumTK (hK : X.K = K) {e : Expr} {ta : TA} {p pos tpos : Pos} {elts : List Expr} {kk : Nat} (hg : Gl X "enumerate") (hm : X.mg "enumerate" = none) (ha : PA X [e] ta) (hs : starEach [e] X.env = [(false, eval e X.env)] := by rfl) :
    PI X (.Tuple elts kk tpos) (.Call (.Name "enumerate" p) [e] [] pos) (iEnumT K ta) := by subst hK; exact pi_enumT hg hm ha hs
theorem pi_enumK (hK : X.K = K) {e : Expr} {ta : TA} {p pos tpos : Pos} {elts : List Expr} {kk : Nat} (hg : Gl X "enumerate") (hm : X.mg "enumerate" = none) (ha : PA X [e] ta) (hs : starEach [e] X.env = [(false, eval e X.env)] := by rfl) :
    PI X (.Tuple elts kk tpos) (.Call (.Name "enumerate" p) [e] [] pos) (iEnum K ta) := by subst hK; exact pi_enum hg hm ha hs
theorem pi_zipK (hK : X.K = K) {e e2 : Expr} {ta : TA} {p pos tpos : Pos} {elts : List Expr} {kk : Nat} (hg : Gl X "zip") (hm : X.mg "zip" = none) (ha : PA X [e, e2] ta) (hs : starEach [e, e2] X.env = (false, eval e X.env) :: starEach [e2] X.env := by rfl) (hs2 : (backTo pos (starEach [e2] X.env)).any (·.1) = false := by rfl) :
    PI X (.Tuple elts kk tpos) (.Call (.Name "zip" p) [e, e2] [] pos) (iZip K ta) := by subst hK; exact pi_zip hg hm ha hs hs2
theorem pg_tupK (hK : X.K = K) {es : List Expr} {k : Nat} {t : TGs} {n : Nat} {pos : Pos} (hc : X.calm = true) (h : PGs X es t)
    (hn : (assignEach es X.env).length = n := by rfl) (hst : (assignEach es X.env).findIdx? (·.1) = none := by rfl) : PG X (.Tuple es k pos) (gTup K n t) := by subst hK; exact pg_tup hc h hn hst
theorem pg_unlK (hK : X.K = K) {es : List Expr} {k : Nat} {t : TGs} {n : Nat} {pos : Pos} (hc : X.calm = true) (h : PGs X es t)
    (hn : (assignEach es X.env).length = n := by rfl) (hst : (assignEach es X.env).findIdx? (·.1) = none := by rfl) : PG X (.Tuple es k pos) (gUnl K n t) := by subst hK; exact pg_unl hc h hn hst
def tTruth (K : PySem.W.Frag) (ta : TE) : TT := fun σ H Q => ta σ H fun x H' => ∃ k, TruV K x H' k ∧ Q k H'
theorem pt_truthK (hK : X.K = K) {a : Expr} {ta : TE} (ha : PE X a ta) (he : ∀ whole, isTrue a X.env whole = (do let v ← whole; standAt a.pos; holding [v] (truthy v))) : PT X a (tTruth K ta) := by subst hK; exact pt_truth ha he
theorem pe_revLK (hK : X.K = K) {e : Expr} {te : TE} {k : Nat} {p1 p2 p3 pos : Pos} (he : PE X e te) : PE X (.Subscript e (.Slice none none (some (.UnaryOp .USub (.Constant (.int 1) k p1) p2)) p3) pos) (tRevL K te) := by subst hK; exact pe_revL he
theorem pe_bmK (hK : X.K = K) {o e : Expr} {es : List Expr} {to : TE} {t : TA} {name : Str} {apos cpos : Pos} {T id : String} {r : V → List V → Hp → VK → Prop}
    (pa : PlainAttrs T) (slot : Slot T name id) (hty : typeOf (.builtin id) = pure (.type "method_descriptor")) (hm : MtR X id r) (ho : PE X o to) (ha : PA X (e :: es) t)
    (hbase₀ : attributeBase o name X.env (eval o X.env) = eval o X.env := by rfl)
    (hfew₀ : ((backTo cpos (starEach (e :: es) X.env)).all (fun x => !x.1) && (backToKw cpos (keywordEach [] X.env)).all (fun x => x.1.isSome)
      && decide ((e :: es).length + ([] : List Keyword).length + (if ([] : List Keyword).isEmpty then 0 else 1) < 30)) = true := by rfl)
    (hline₀ : (apos.endLine == cpos.line) = true := by rfl) (hs : starEach (e :: es) X.env = (false, eval e X.env) :: starEach es X.env := by rfl) (hplain₀ : (backTo cpos (starEach es X.env)).any (·.1) = false := by rfl) :
    PE X (.Call (.Attribute o name apos) (e :: es) [] cpos) (tBM K T r to t) := by subst hK; exact pe_bm pa slot hty hm ho ha hbase₀ hfew₀ hline₀ hs hplain₀
end
end L2
namespace L2
open PySem PySem.Spec PyProof.Rows
/-! ### readings in terms of Same; new tuples are told with their objects (FzT): the call of a tuple's own method asks that -/
theorem Same.new {H : Hp} {p : Addr} {o : HO} (h : H p = none) : Same H (upd H p o) := fun b x e => by
  rw [upd_ne (ne_of_none e h)]
  exact e
/-- at a a tuple of xs that has no dict -/
def FzT (H : Hp) (a : Addr) (xs : List V) : Prop := ∃ ob : Obj, H a = some (.frz ob (.tup xs)) ∧ ob.cls = .type "tuple" ∧ ob.dict = none
theorem FzT.sq {K : PySem.W.Frag} {H : Hp} {a : Addr} {xs : List V} (h : FzT H a xs) : SqT K H a xs := let ⟨o, e, _⟩ := h; .inl (.inr ⟨o, e⟩)
theorem FzT.same {H H' : Hp} {a : Addr} {xs : List V} (s : Same H H') (h : FzT H a xs) : FzT H' a xs := let ⟨o, e, c⟩ := h; ⟨o, s _ _ e, c⟩
theorem FzT.ty {K : PySem.W.Frag} {H : Hp} {a : Addr} {xs : List V} (h : FzT H a xs) : TyX K H (.ref a) (.type "tuple") := let ⟨_, e, _⟩ := h; .fTuple e
theorem FzT.inj {H : Hp} {a : Addr} {xs ys : List V} (h : FzT H a xs) (h' : FzT H a ys) : xs = ys := by
  obtain ⟨o, e, _⟩ := h
  obtain ⟨o', e', _⟩ := h'
  rw [e] at e'
  cases e'
  rfl
section
variable {X : Cx} {pins : List (Addr × Obj)} {σ : L2.St} {H : Hp} {s : Shared} {h' : Heap}
/-- a tuple is laid at the heap's end -/
theorem Inv.layT {ys : List V} {us : List Value} (I : Inv X pins σ H s) (kp : ∀ b o, s.heap.get? b = some o → h'.get? b = some o) (rv : Vals ys us) (hz : ys.length ≤ sizeLine) {Q : VK}
    (q : ∀ p H', Same H H' → FzT H' p ys → Q (.ref p) H') : EP X pins σ Q (.ref h'.objs.size) { s with heap := h'.push { cls := .type "tuple", data := .seq us.toArray } } := by
  have Ik : Inv X pins σ H { s with heap := h' } := I.kept (t' := s.toks) kp
  have fr : H h'.objs.size = none := Ik.hok.fresh (Nat.le_refl _)
  have lay := Ik.laid (t' := s.toks) (h' := h'.push { cls := .type "tuple", data := .seq us.toArray }) (a := h'.objs.size) (o := .frz { cls := .type "tuple", data := .seq us.toArray } (.tup ys))
    (fun b o e => Heap.get?_push_of_some _ e) (Nat.le_refl _) ⟨Heap.get?_push_size _ rfl, hz, us, rv, IsTup.new _ _⟩
  exact ⟨.ref h'.objs.size, _, lay, rfl, q _ _ (Same.new fr) ⟨_, upd_same, rfl, rfl⟩⟩
theorem OpR.imp {f : Value → Value → Sem Value} {r r' : R2} (h : OpR X f r) (i : ∀ x y H Q, r' x y H Q → r x y H Q) : OpR X f r' := fun pins s σ H x y v u Q I rx ry q => h pins s σ H x y v u Q I rx ry (i _ _ _ _ q)
theorem CallR.imp {f : Value} {r r' : List V → Hp → VK → Prop} (h : CallR X f r) (i : ∀ xs H Q, r' xs H Q → r xs H Q) : CallR X f r' := fun pins s σ H xs us Q I rs q => h pins s σ H xs us Q I rs (i _ _ _ q)
theorem PE.imp {e : Expr} {t t' : TE} (h : PE X e t) (i : ∀ σ H Q, t' σ H Q → t σ H Q) : PE X e t' := ⟨fun pins s σ H Q I q => h.run pins s σ H Q I (i _ _ _ q)⟩
/-- (a, b) -/
def tTupS (t : TA) : TE := fun σ H Q => t σ H fun xs H1 => xs.length ≤ sizeLine ∧ ∀ p H', Same H1 H' → FzT H' p xs → Q (.ref p) H'
theorem pe_tupS {es : List Expr} {t : TA} {x1 : Nat} {pos : Pos} (h : PA X es t) : PE X (.Tuple es x1 pos) (tTupS t) := by
  refine ⟨fun pn s0 σ0 H0 Q0 I0 hq => ?_⟩
  exact wpAny_Tuple_spliced (thn (h.run pos pn s0 σ0 H0 _ I0 hq) fun us s1 ⟨xs, H1, I1, rv, z, q⟩ => ⟨by rw [← rv.length]; exact z, I1.layT (fun _ _ e => e) rv z q⟩)
/-- [a, b] -/
def tLstS (t : TA) : TE := fun σ H Q => t σ H fun xs H1 => xs.length ≤ sizeLine ∧ ∀ p H', Same H1 H' → H1 p = none → H' p = some (.lst xs) → Q (.ref p) H'
theorem pe_lstS {es : List Expr} {t : TA} {pos : Pos} (h : PA X es t) : PE X (.List es pos) (tLstS t) := by
  refine ⟨fun pn s0 σ0 H0 Q0 I0 hq => ?_⟩
  refine wpAny_List_spliced (thn (h.run pos pn s0 σ0 H0 _ I0 hq) fun us s1 ⟨xs, H1, I1, rv, z, q⟩ => ⟨by rw [← rv.length]; exact z, ?_⟩)
  have fr : H1 s1.heap.objs.size = none := I1.hok.fresh (Nat.le_refl _)
  exact ⟨.ref s1.heap.objs.size, _, I1.laid (t' := s1.toks) (a := s1.heap.objs.size) (o := .lst xs) (fun b u e => Heap.get?_push_of_some _ e) (Nat.le_refl _) ⟨z, us, 0, rv, Heap.get?_push_size _ rfl⟩, rfl, q _ _ (Same.new fr) fr upd_same⟩
/-- t + u -/
def rCatS : R2 := fun x y H Q => ∃ a b xs ys, x = .ref a ∧ y = .ref b ∧ FzT H a xs ∧ FzT H b ys ∧ xs.length + ys.length ≤ sizeLine ∧ ∀ p H', Same H H' → FzT H' p (xs ++ ys) → Q (.ref p) H'
theorem op_catS : OpR X (binaryOp .Add) rCatS := by
  intro pn s0 σ0 H0 x y v u Q0 I0 rx ry hq
  obtain ⟨a, b, xs, ys, rfl, rfl, ha, hb, hz, q⟩ := hq
  cases rx
  cases ry
  obtain ⟨us, ru, pa, _⟩ := I0.tuple ha.sq
  obtain ⟨ws, rw', pb, _⟩ := I0.tuple hb.sq
  by_cases hx : xs = []
  · subst hx
    cases ru
    exact cat_tup0 pa pb ⟨.ref b, _, I0, rfl, q _ _ (Same.refl _) hb⟩
  · refine HT.cat_tup pa pb (fun z => hx (ru.nil_iff.mp z)) (fun z => ?_) (fun _ => I0.layT (fun _ _ e => e) (ru.append rw') (by rw [List.length_append]; exact hz) q) (by rw [← ru.length, ← rw'.length]; exact hz)
    have ey : ys = [] := rw'.nil_iff.mp z
    subst ey
    refine ⟨.ref a, _, I0, rfl, q _ _ (Same.refl _) ?_⟩
    rw [List.append_nil]
    exact ha
/-- t[lo:hi] -/
def rSlS' : V → Option Int → Option Int → Hp → VK → Prop := fun x lo hi H Q => ∃ a xs, x = .ref a ∧ FzT H a xs ∧ ∀ p H', Same H H' → FzT H' p (cutV xs lo hi) → Q (.ref p) H'
theorem cutV_whole {xs : List V} {lo hi : Option Int} (h : HT.sIx xs.length 0 lo = 0 ∧ HT.sIx xs.length xs.length hi = xs.length) : cutV xs lo hi = xs := by
  unfold cutV
  rw [h.1, h.2]
  simp
theorem sl_tupS : SlR X rSlS' := by
  intro pn s0 σ0 H0 x v vl vu lo hi sl Q0 I0 rx hs pl pu hq
  obtain ⟨a, xs, rfl, hx, q⟩ := hq
  cases rx
  obtain ⟨us, ru, pt, hz⟩ := I0.tuple hx.sq
  have hlen : us.toArray.size = xs.length := by rw [List.size_toArray]; exact ru.length.symm
  refine ⟨"tuple", _, PyProof.Rows.slot_tuple_getitem.lookup, pt.typeIs, ?_⟩
  by_cases hw : HT.sIx xs.length 0 lo = 0 ∧ HT.sIx xs.length xs.length hi = xs.length
  · refine getItem_tuple_whole pt hs pl pu (by rw [hlen]; exact hw) ⟨.ref a, _, I0, rfl, q _ _ (Same.refl _) ?_⟩
    rw [cutV_whole hw]
    exact hx
  · refine HT.getItem_tuple_cut pt hs pl pu (by rw [hlen]; exact hw) ?_ (by rw [hlen]; exact hz)
    rw [hlen]
    exact I0.layT (fun _ _ e => e) ((ru.drop (HT.sIx xs.length 0 lo)).take (HT.sIx xs.length xs.length hi - HT.sIx xs.length 0 lo)) (Nat.le_trans (cutV_length xs lo hi) hz) q
def rSlLS (K : PySem.W.Frag) : V → Option Int → Option Int → Hp → VK → Prop := fun x lo hi H Q => ∃ a xs, x = .ref a ∧ SqL K H a xs ∧ ∀ p H', Same H H' → H p = none → H' p = some (.lst (cutV xs lo hi)) → Q (.ref p) H'
theorem SlR.imp {r r' : V → Option Int → Option Int → Hp → VK → Prop} (h : SlR X r) (i : ∀ x lo hi H Q, r' x lo hi H Q → r x lo hi H Q) : SlR X r' := fun pn s0 σ0 H0 x v vl vu lo hi sl Q0 I0 rx hs pl pu hq => h pn s0 σ0 H0 x v vl vu lo hi sl Q0 I0 rx hs pl pu (i _ _ _ _ _ hq)
theorem sl_listS {K : PySem.W.Frag} (hK : X.K = K) : SlR X (rSlLS K) := (sl_listK hK).imp fun _ _ _ _ _ ⟨a, xs, e, hs, q⟩ => ⟨a, xs, e, hs, fun p np => q p _ (Same.new np) np upd_same⟩
/-- t[::-1] -/
def tRevS (te : TE) : TE := fun σ H Q => te σ H fun x H1 => ∃ a xs, x = .ref a ∧ FzT H1 a xs ∧ ∀ p H', Same H1 H' → FzT H' p xs.reverse → Q (.ref p) H'
theorem pe_revS {e : Expr} {te : TE} {k : Nat} {p1 p2 p3 pos : Pos} (he : PE X e te) : PE X (.Subscript e (.Slice none none (some (.UnaryOp .USub (.Constant (.int 1) k p1) p2)) p3) pos) (tRevS te) := by
  refine ⟨fun pn s0 σ0 H0 Q0 I0 hq => ?_⟩
  refine Subscript_ (thn (he.run pn s0 σ0 H0 _ I0 hq) fun v s1 ⟨x, H1, I1, rx, a, xs, ex, hx, q⟩ => ?_)
  subst ex
  cases rx
  have st : PO X (some (.UnaryOp .USub (.Constant (.int 1) k p1) p2)) (tPart (tUn (rU fun i => .int (-i)) (tC (.int 1)))) := po_some (pe_un un_neg pe_int)
  refine wpAny_Slice (thn (po_none.run pn s1 σ0 H1 (fun o G => o = none ∧ G = H1) I1 ⟨rfl, rfl⟩) fun vl s2 ⟨l, H2, I2, pl, el, e2⟩ => ?_)
  subst el e2
  refine thn (po_none.run pn s2 σ0 H2 (fun o G => o = none ∧ G = H2) I2 ⟨rfl, rfl⟩) fun vu s3 ⟨u, H3, I3, pu, eu, e3⟩ => ?_
  subst eu e3
  refine thn (st.run pn s3 σ0 H3 (fun o G => o = some (-1) ∧ G = H3) I3 ⟨1, rfl, -1, rfl, rfl, rfl⟩) fun vs s4 ⟨o, H4, I4, ps, eo, e4⟩ => ?_
  subst eo e4
  have kpS : ∀ b ob, s4.heap.get? b = some ob → (s4.heap.push { cls := .type "slice", data := .fields #[vl, vu, vs] }).get? b = some ob := fun b ob z => Heap.get?_push_of_some _ z
  have I5 : Inv X pn σ0 H4 { s4 with heap := s4.heap.push { cls := .type "slice", data := .fields #[vl, vu, vs] } } := I4.kept (t' := s4.toks) kpS
  obtain ⟨us, ru, pt, hz⟩ := I5.tuple hx.sq
  have hlen := ru.length
  show wpAny (model X.prog X.w) X.A (subscriptTail e (.Slice none none (some (.UnaryOp .USub (.Constant (.int 1) k p1) p2)) p3) (.ref a) (.ref s4.heap.objs.size)) (EP X pn σ0 Q0) X.xe { s4 with heap := s4.heap.push { cls := .type "slice", data := .fields #[vl, vu, vs] } }
  refine tail_any (ops := [.ref a, .ref s4.heap.objs.size]) pt.typeIs (PyProof.Rows.slot_tuple_getitem.lookup) ?_ (by with_unfolding_all rfl)
  refine getItem_tuple_rev pt (Heap.IsSliceOf.new _ vl vu vs) pl pu ps ?_ (by rw [List.size_toArray]; omega)
  exact I5.layT (fun _ _ z => z) ru.reverse (by rw [List.length_reverse]; exact hz) q
/-- tuple(list), list(t) -/
def rTupS (K : PySem.W.Frag) : List V → Hp → VK → Prop := fun xs H Q => ∃ p ys, xs = [.ref p] ∧ SqL K H p ys ∧ ∀ l H', Same H H' → FzT H' l ys → Q (.ref l) H'
theorem call_tuple_ofS {K : PySem.W.Frag} (hK : X.K = K) : CallR X (.type "tuple") (rTupS K) := by
  subst hK
  intro pn s0 σ0 H0 xs us Q0 I0 rs hq
  obtain ⟨p, ys, rfl, hl, q⟩ := hq
  obtain ⟨u, rfl, rx⟩ := vals1 rs
  cases rx
  obtain ⟨its, rv, pl, hz⟩ := I0.list hl
  have hlen := rv.length
  exact call_tuple_list pl.isList (fun h1 kp => I0.layT kp rv hz q) (by simp only [List.size_toArray] <;> omega)
def rLstS (K : PySem.W.Frag) : List V → Hp → VK → Prop := fun xs H Q => ∃ p ys, xs = [.ref p] ∧ (SqL K H p ys ∨ SqT K H p ys) ∧ ∀ l H', Same H H' → H l = none → H' l = some (.lst ys) → Q (.ref l) H'
theorem call_list_ofS {K : PySem.W.Frag} (hK : X.K = K) : CallR X (.type "list") (rLstS K) := (call_list_ofK hK).imp fun _ _ _ ⟨p, ys, e, hs, q⟩ => ⟨p, ys, e, hs, fun l nl => q l _ (Same.new nl) nl upd_same⟩
/-- xs + ys, lists -/
def rCatLS : R2 := fun x y H Q => ∃ l b xs zs, x = .ref l ∧ y = .ref b ∧ H l = some (.lst xs) ∧ H b = some (.lst zs) ∧ xs.length + zs.length ≤ sizeLine ∧ ∀ p H', Same H H' → H p = none → H' p = some (.lst (xs ++ zs)) → Q (.ref p) H'
theorem op_catLS : OpR X (binaryOp .Add) rCatLS := op_cat.imp fun _ _ _ _ ⟨l, b, xs, zs, e1, e2, h1, h2, hz, q⟩ => ⟨l, b, xs, zs, e1, e2, h1, h2, hz, fun p np => q p _ (Same.new np) np upd_same⟩
/-- t[i], xs[i], i a place -/
def rIxTS : R2 := fun x y H Q => ∃ a xs i j v, x = .ref a ∧ y = .int i ∧ FzT H a xs ∧ i = ((j : Nat) : Int) ∧ xs[j]? = some v ∧ Q v H
theorem IxR.imp {r r' : R2} (h : IxR X r) (i : ∀ x y H Q, r' x y H Q → r x y H Q) : IxR X r' := fun value slice pn s0 σ0 H0 x y v u Q0 I0 rx ry q hs => h value slice pn s0 σ0 H0 x y v u Q0 I0 rx ry (i _ _ _ _ q) hs
theorem ix_tupS : IxR X rIxTS := ix_tup.imp fun _ _ _ _ ⟨a, xs, i, j, v, e1, e2, h, e3, hx, q⟩ => ⟨a, xs, i, v, e1, e2, h.sq, at_of e3 hx, q⟩
def rIxLS (K : PySem.W.Frag) : R2 := fun x y H Q => ∃ a xs i j v, x = .ref a ∧ y = .int i ∧ SqL K H a xs ∧ i = ((j : Nat) : Int) ∧ xs[j]? = some v ∧ Q v H
theorem ix_listS {K : PySem.W.Frag} (hK : X.K = K) : IxR X (rIxLS K) := (ix_listK hK).imp fun _ _ _ _ ⟨a, xs, i, j, v, e1, e2, h, e3, hx, q⟩ => ⟨a, xs, i, v, e1, e2, h, at_of e3 hx, q⟩
/-- t.m(e, ..), t a tuple -/
def tBMS (r : V → List V → Hp → VK → Prop) (to : TE) (t : TA) : TE := fun σ H Q => to σ H fun x H1 => (∃ a xs, x = .ref a ∧ FzT H1 a xs) ∧ t σ H1 fun xs H2 => r x xs H2 Q
theorem pe_bmS' {o e : Expr} {es : List Expr} {to : TE} {t : TA} {name : Str} {apos cpos : Pos} {id : String} {r : V → List V → Hp → VK → Prop}
    (pa : PlainAttrs "tuple") (slot : Slot "tuple" name id) (hty : typeOf (.builtin id) = pure (.type "method_descriptor")) (hm : MtR X id r) (ho : PE X o to) (ha : PA X (e :: es) t)
    (hbase₀ : attributeBase o name X.env (eval o X.env) = eval o X.env := by rfl)
    (hfew₀ : ((backTo cpos (starEach (e :: es) X.env)).all (fun x => !x.1) && (backToKw cpos (keywordEach [] X.env)).all (fun x => x.1.isSome)
      && decide ((e :: es).length + ([] : List Keyword).length + (if ([] : List Keyword).isEmpty then 0 else 1) < 30)) = true := by rfl)
    (hline₀ : (apos.endLine == cpos.line) = true := by rfl) (hs : starEach (e :: es) X.env = (false, eval e X.env) :: starEach es X.env := by rfl) (hplain₀ : (backTo cpos (starEach es X.env)).any (·.1) = false := by rfl) :
    PE X (.Call (.Attribute o name apos) (e :: es) [] cpos) (tBMS r to t) := by
  refine ⟨fun pn s0 σ0 H0 Q0 I0 hq => ?_⟩
  refine wpAny_Call_method_late hbase₀ hfew₀ hline₀ rfl (thn (ho.run pn s0 σ0 H0 _ I0 hq) fun v s1 ⟨x, H1, I1, rx, ⟨a, xs, ex, ob, ea, ec, ed⟩, q⟩ => ?_)
  subst ex
  cases rx
  obtain ⟨g, _⟩ := I1.hok a _ ea
  refine ⟨"tuple", id, pa, slot, hty, ⟨ob, g, ec⟩, fun b eb => ?_, ?_⟩
  · cases eb
    exact ⟨ob, g, ed⟩
  have run := ha.run cpos pn s1 σ0 H1 _ I1 q
  rw [hs] at run ⊢
  refine Calls.callWith_builtin (by show (false || (backTo cpos (starEach es X.env)).any (·.1)) = false; rw [hplain₀] <;> rfl) (Calls.evalArgs_plain ?_)
  exact thn run fun us s2 ⟨vs, H2, I2, r2, q2⟩ => hm pn s2 σ0 H2 (.ref a) vs (.ref a) us Q0 I2 rfl r2 q2
def rTIndexS : V → List V → Hp → VK → Prop := fun x xs H Q => ∃ p, ∃ ys : List Str, ∃ z j, x = .ref p ∧ xs = [.str z] ∧ FzT H p (ys.map V.str) ∧ ys[j]? = some z ∧ (∀ m, m < j → ys[m]? ≠ some z) ∧ Q (.int (j : Nat)) H
theorem MtR.imp {id : String} {r r' : V → List V → Hp → VK → Prop} (h : MtR X id r) (i : ∀ x xs H Q, r' x xs H Q → r x xs H Q) : MtR X id r' := fun pn s0 σ0 H0 x xs v us Q0 I0 rx rs q => h pn s0 σ0 H0 x xs v us Q0 I0 rx rs (i _ _ _ _ q)
theorem mt_tup_indexS : MtR X "tuple.index" rTIndexS := mt_tup_index.imp fun _ _ _ _ ⟨p, ys, z, j, e1, e2, h, h1, h2, q⟩ => ⟨p, ys, z, j, e1, e2, h.sq, h1, h2, q⟩
def rTCountS : V → List V → Hp → VK → Prop := fun x xs H Q => ∃ (p : Addr) (ys : List Str) (z : Str), x = .ref p ∧ xs = [.str z] ∧ FzT H p (ys.map V.str) ∧ Q (.int (ys.count z : Nat)) H
theorem mt_tcountS' : MtR X "tuple.count" rTCountS := mt_tcountS.imp fun _ _ _ _ ⟨p, ys, z, e1, e2, h, q⟩ => ⟨p, ys, z, e1, e2, h.sq, q⟩
/-- isinstance(x, T) -/
def rIsiS (K : PySem.W.Frag) : List V → Hp → VK → Prop := fun xs H Q => ∃ (x : V) (n m : String) (b : Bool), xs = [x, .ty n] ∧ TyX K H x (.type m) ∧ kitB m n = some b ∧ Q (.bl b) H
theorem call_isiS {K : PySem.W.Frag} (hK : X.K = K) : CallR X (.builtin "isinstance") (rIsiS K) := (call_isiKK hK).imp fun _ _ _ ⟨x, n, m, b, e, ty, kb, q⟩ => ⟨x, .ty n, .type m, .type n, b, e, .ty n, ty, kit_ty kb, q⟩
/-- len(t) of a tuple, of a list -/
def rLenS (K : PySem.W.Frag) : List V → Hp → VK → Prop := fun xs H Q => ∃ x n, xs = [x] ∧ ((∃ z : Str, x = .str z ∧ z.length ≤ sizeLine ∧ n = z.length) ∨ (∃ a ys, x = .ref a ∧ SqL K H a ys ∧ n = ys.length) ∨ ∃ a ys, x = .ref a ∧ FzT H a ys ∧ n = ys.length) ∧ Q (.int (n : Nat)) H
theorem call_lenS {K : PySem.W.Frag} (hK : X.K = K) : CallR X (.builtin "len") (rLenS K) := (call_lenK hK).imp fun _ _ _ ⟨x, n, e, c, q⟩ => ⟨x, n, e, by
  rcases c with ⟨z, rfl, h1, h2⟩ | ⟨a, ys, rfl, h1, h2⟩ | ⟨a, ys, rfl, h1, h2⟩
  · exact ⟨h1, h2⟩
  · exact .inl ⟨ys, h1, h2⟩
  · exact .inr ⟨ys, h1.sq, h2⟩, q⟩
/-- z in l, z not in l; l a list or a tuple of texts -/
def rInStr (K : PySem.W.Frag) (neg : Bool) : R2 := fun x y H Q => ∃ p, ∃ l : List Str, ∃ z, x = .str z ∧ y = .ref p ∧ (SqL K H p (l.map V.str) ∨ SqT K H p (l.map V.str)) ∧ Q (.bl (if neg then !decide (z ∈ l) else decide (z ∈ l))) H
theorem inV_strs (z : Str) (l : List Str) : inV (.str z) (l.map V.str) = decide (z ∈ l) := by
  unfold inV
  rw [List.any_map]
  have e : ((fun y => eqV y (.str z)) ∘ V.str) = fun y : Str => y == z := rfl
  rw [e, Bool.eq_iff_iff]
  simp only [List.any_eq_true, beq_iff_eq, decide_eq_true_eq]
  exact ⟨fun ⟨y, h, q⟩ => q ▸ h, fun h => ⟨z, h, rfl⟩⟩
theorem op_in_strS {K : PySem.W.Frag} (hK : X.K = K) : OpR X (compareOp .In) (rInStr K false) := (op_in_seqK hK).imp fun _ _ _ _ ⟨p, l, z, e1, e2, h, q⟩ => ⟨p, _, e2, h, by rw [e1]; rfl, flat_strs l, by rw [e1, inV_strs]; exact q⟩
theorem op_notIn_strS {K : PySem.W.Frag} (hK : X.K = K) : OpR X (compareOp .NotIn) (rInStr K true) := (op_notIn_seqK hK).imp fun _ _ _ _ ⟨p, l, z, e1, e2, h, q⟩ => ⟨p, _, e2, h, by rw [e1]; rfl, flat_strs l, by rw [e1, inV_strs]; exact q⟩
/-- ==, != of ints, of texts -/
theorem op_eqIS : OpR X (compareOp .Eq) (rI0 fun i j => .bl (decide (i = j))) := op_eq.imp fun _ _ _ _ ⟨i, j, e1, e2, q⟩ => ⟨by rw [e1, e2]; rfl, by
  subst e1 e2
  have e : decide (V.int i = V.int j) = decide (i = j) := by simp
  rw [e]
  exact q⟩
theorem op_neIS : OpR X (compareOp .NotEq) (rI0 fun i j => .bl (!decide (i = j))) := op_ne.imp fun _ _ _ _ ⟨i, j, e1, e2, q⟩ => ⟨by rw [e1, e2]; rfl, by
  subst e1 e2
  have e : decide (V.int i = V.int j) = decide (i = j) := by simp
  rw [e]
  exact q⟩
def rS0 (g : Str → Str → V) : R2 := fun x y H Q => ∃ i j, x = .str i ∧ y = .str j ∧ Q (g i j) H
theorem op_eqSS : OpR X (compareOp .Eq) (rS0 fun i j => .bl (decide (i = j))) := op_eq.imp fun _ _ _ _ ⟨i, j, e1, e2, q⟩ => ⟨by rw [e1, e2]; rfl, by
  subst e1 e2
  have e : decide (V.str i = V.str j) = decide (i = j) := by simp
  rw [e]
  exact q⟩
theorem op_neSS : OpR X (compareOp .NotEq) (rS0 fun i j => .bl (!decide (i = j))) := op_ne.imp fun _ _ _ _ ⟨i, j, e1, e2, q⟩ => ⟨by rw [e1, e2]; rfl, by
  subst e1 e2
  have e : decide (V.str i = V.str j) = decide (i = j) := by simp
  rw [e]
  exact q⟩
end
end L2
namespace Pf
open PySem PySem.Spec PyProof.Rows L2
/-- what the top has written, of the part K, of the module's names mg -/
structure Txt (K : PySem.W.Frag) (mg : Str → Option Value) : Prop where
  ex : ∃ h : Heap, K.In h ∧ h.Ns mainGlobals mg
  c : SaysP K
/-- a def of the top that keeps its promise, called by its name -/
structure Calls (P : Program) (w : World) (K : PySem.W.Frag) (mg : Str → Option Value) (base : Heap) (k : Nat) (x : Str) (ps : List Str) (sp : Sp) : Prop where
  ex : ∃ f fd, mg x = some (.ref f) ∧ FnOk P w K mg base CX0 k f fd ps sp ∧ PySem.W.keepIn K (.ref f) = true ∧ Binds K fd ps []
section
variable {X : Cx}
theorem pe_callC {k : Nat} {x : Str} {ps : List Str} {sp : Sp} {e : Expr} {es : List Expr} {t : TA} {p pos : Pos} (C : Calls X.prog X.w X.K X.mg X.base k x ps sp) (hr : Room k X.A) (hg : Gl X x) (ha : PA X (e :: es) t)
    (hd0 : (x == ("__debug__" : Str)) = false := by decide) (h1 : starEach (e :: es) X.env = (false, eval e X.env) :: starEach es X.env := by rfl) (h2 : (backTo pos (starEach es X.env)).any (·.1) = false := by rfl) : PE X (.Call (.Name x p) (e :: es) [] pos) (tCall sp [] E0 t) := by
  obtain ⟨f, fd, hm, F, kp, b⟩ := C.ex
  exact pe_call F hr hg hm kp b .nil pass0 ha hd0 h1 h2
theorem pe_gi {x : Str} {i : Int} {pos : Pos} (h : ∃ t, X.mg x = some (.int i t)) (hg : Gl X x := by rfl) (hd : (x == ("__debug__" : Str)) = false := by decide) : PE X (.Name x pos) (tC (.int i)) := by
  obtain ⟨t, h⟩ := h
  exact pe_glob hg h ⟨t, rfl⟩ hd
theorem pe_gs {x : Str} {z : Str} {pos : Pos} (h : ∃ t, X.mg x = some (.str z t)) (hg : Gl X x := by rfl) (hd : (x == ("__debug__" : Str)) = false := by decide) : PE X (.Name x pos) (tC (.str z)) := by
  obtain ⟨t, h⟩ := h
  exact pe_glob hg h ⟨t, rfl⟩ hd
theorem pe_gr {x : Str} {a : Addr} {pos : Pos} (h : X.mg x = some (.ref a)) (hg : Gl X x := by rfl) (hd : (x == ("__debug__" : Str)) = false := by decide) : PE X (.Name x pos) (tC (.ref a)) := pe_glob hg h rfl hd
end
section
variable {P : Program} {w : World} {K : PySem.W.Frag} {mg : Str → Option Value} {base : Heap}
noncomputable def Txt.hp (T : Txt K mg) : Heap := T.ex.choose
theorem Txt.kin (T : Txt K mg) : K.In T.hp := T.ex.choose_spec.1
theorem Txt.ns (T : Txt K mg) : T.hp.Ns mainGlobals mg := T.ex.choose_spec.2
theorem Txt.says (T : Txt K mg) : He.SaysD fa fn K := T.c.d.1
theorem Txt.sides (T : Txt K mg) (H : Hp) : SqT K H (He.ga K "SIDES") [.str "after", .str "before"] := He.tupB_ok T.c.d.2 H
theorem calls_mk {x y qual : Str} {params : Arguments} {body : List Stmt} {scope : Scope} {fd : FuncData} {f : Addr} {N ps : List Str} {k : Nat} {sp : Sp} (T : Txt K mg) (g : mg x = some (.ref f)) (F : FunD K y qual params body scope [] [] f fd)
    (S : FnScope N ps scope) (len : ∀ vs H Q E, sp vs H Q E → vs.length = ps.length) (b : Binds K fd ps [])
    (hbody : ∀ (cdv : Value) (A : Around) (outer : List Env) (s : Shared) (H : Hp) (vs : List V) (Q : VK) (E : XK), Room k (A.deeper (envOfC qual scope s.heap.objs.size f cdv)) → sp vs H Q E →
      ∃ t, PSs (cxOf CX0 P w K mg base N qual scope f cdv A outer s H E).nox body t ∧ t { nx := fun _ H' => Q .non H', rt := Q } (start N vs) H) : Calls P w K mg base (k + 1) x ps sp :=
  ⟨f, fd, g, F.ok S len (fun cdv A outer s H vs Q E hr h => let ⟨t, h1, h2⟩ := hbody cdv A outer s H vs Q E hr h; ⟨t, h1.nox, h2⟩), F.kp, b⟩
theorem Txt.glo_is_whole (T : Txt K mg) : mg "is_whole" = some (.ref (He.ga K "is_whole")) := He.glo_ok T.kin T.ns (T.says.fact 0 (f := .glo "is_whole") rfl)
theorem Txt.glo_is_level (T : Txt K mg) : mg "is_level" = some (.ref (He.ga K "is_level")) := He.glo_ok T.kin T.ns (T.says.fact 1 (f := .glo "is_level") rfl)
theorem Txt.glo_is_letter (T : Txt K mg) : mg "is_letter" = some (.ref (He.ga K "is_letter")) := He.glo_ok T.kin T.ns (T.says.fact 2 (f := .glo "is_letter") rfl)
theorem Txt.glo_are_letters (T : Txt K mg) : mg "are_letters" = some (.ref (He.ga K "are_letters")) := He.glo_ok T.kin T.ns (T.says.fact 3 (f := .glo "are_letters") rfl)
theorem Txt.glo_is_order (T : Txt K mg) : mg "is_order" = some (.ref (He.ga K "is_order")) := He.glo_ok T.kin T.ns (T.says.fact 4 (f := .glo "is_order") rfl)
theorem Txt.glo_check_order_orders (T : Txt K mg) : mg "check_order_orders" = some (.ref (He.ga K "check_order_orders")) := He.glo_ok T.kin T.ns (T.says.fact 5 (f := .glo "check_order_orders") rfl)
theorem Txt.glo_check_level (T : Txt K mg) : mg "check_level" = some (.ref (He.ga K "check_level")) := He.glo_ok T.kin T.ns (T.says.fact 6 (f := .glo "check_level") rfl)
theorem Txt.glo_removed (T : Txt K mg) : mg "removed" = some (.ref (He.ga K "removed")) := He.glo_ok T.kin T.ns (T.says.fact 7 (f := .glo "removed") rfl)
theorem Txt.glo_is_integer (T : Txt K mg) : mg "is_integer" = some (.ref (He.ga K "is_integer")) := He.glo_ok T.kin T.ns (T.says.fact 8 (f := .glo "is_integer") rfl)
theorem Txt.glo_is_rule (T : Txt K mg) : mg "is_rule" = some (.ref (He.ga K "is_rule")) := He.glo_ok T.kin T.ns (T.says.fact 9 (f := .glo "is_rule") rfl)
theorem Txt.glo_is_rule_list (T : Txt K mg) : mg "is_rule_list" = some (.ref (He.ga K "is_rule_list")) := He.glo_ok T.kin T.ns (T.says.fact 10 (f := .glo "is_rule_list") rfl)
theorem Txt.glo_check_order_rules (T : Txt K mg) : mg "check_order_rules" = some (.ref (He.ga K "check_order_rules")) := He.glo_ok T.kin T.ns (T.says.fact 11 (f := .glo "check_order_rules") rfl)
theorem Txt.glo_why_not (T : Txt K mg) : mg "why_not" = some (.ref (He.ga K "why_not")) := He.glo_ok T.kin T.ns (T.says.fact 12 (f := .glo "why_not") rfl)
theorem Txt.glo_turned_around (T : Txt K mg) : mg "turned_around" = some (.ref (He.ga K "turned_around")) := He.glo_ok T.kin T.ns (T.says.fact 13 (f := .glo "turned_around") rfl)
theorem Txt.glo_put_after (T : Txt K mg) : mg "put_after" = some (.ref (He.ga K "put_after")) := He.glo_ok T.kin T.ns (T.says.fact 14 (f := .glo "put_after") rfl)
theorem Txt.glo_put (T : Txt K mg) : mg "put" = some (.ref (He.ga K "put")) := He.glo_ok T.kin T.ns (T.says.fact 15 (f := .glo "put") rfl)
theorem Txt.glo_led (T : Txt K mg) : mg "led" = some (.ref (He.ga K "led")) := He.glo_ok T.kin T.ns (T.says.fact 16 (f := .glo "led") rfl)
theorem Txt.glo_is_word (T : Txt K mg) : mg "is_word" = some (.ref (He.ga K "is_word")) := He.glo_ok T.kin T.ns (T.says.fact 17 (f := .glo "is_word") rfl)
theorem Txt.glo_has_letters (T : Txt K mg) : mg "has_letters" = some (.ref (He.ga K "has_letters")) := He.glo_ok T.kin T.ns (T.says.fact 18 (f := .glo "has_letters") rfl)
theorem Txt.glo_check_word (T : Txt K mg) : mg "check_word" = some (.ref (He.ga K "check_word")) := He.glo_ok T.kin T.ns (T.says.fact 19 (f := .glo "check_word") rfl)
theorem Txt.glo_all_weights (T : Txt K mg) : mg "all_weights" = some (.ref (He.ga K "all_weights")) := He.glo_ok T.kin T.ns (T.says.fact 20 (f := .glo "all_weights") rfl)
theorem Txt.glo_key_by (T : Txt K mg) : mg "key_by" = some (.ref (He.ga K "key_by")) := He.glo_ok T.kin T.ns (T.says.fact 21 (f := .glo "key_by") rfl)
theorem Txt.glo_key_of (T : Txt K mg) : mg "key_of" = some (.ref (He.ga K "key_of")) := He.glo_ok T.kin T.ns (T.says.fact 22 (f := .glo "key_of") rfl)
theorem Txt.glo_result (T : Txt K mg) : mg "result" = some (.ref (He.ga K "result")) := He.glo_ok T.kin T.ns (T.says.fact 23 (f := .glo "result") rfl)
theorem Txt.glo_compared (T : Txt K mg) : mg "compared" = some (.ref (He.ga K "compared")) := He.glo_ok T.kin T.ns (T.says.fact 24 (f := .glo "compared") rfl)
theorem Txt.glo_compare (T : Txt K mg) : mg "compare" = some (.ref (He.ga K "compare")) := He.glo_ok T.kin T.ns (T.says.fact 25 (f := .glo "compare") rfl)
theorem Txt.glo_check_change (T : Txt K mg) : mg "check_change" = some (.ref (He.ga K "check_change")) := He.glo_ok T.kin T.ns (T.says.fact 26 (f := .glo "check_change") rfl)
theorem Txt.glo_new_order (T : Txt K mg) : mg "new_order" = some (.ref (He.ga K "new_order")) := He.glo_ok T.kin T.ns (T.says.fact 27 (f := .glo "new_order") rfl)
theorem Txt.glo_changed_pairs (T : Txt K mg) : mg "changed_pairs" = some (.ref (He.ga K "changed_pairs")) := He.glo_ok T.kin T.ns (T.says.fact 28 (f := .glo "changed_pairs") rfl)
theorem Txt.glo_moved_in (T : Txt K mg) : mg "moved_in" = some (.ref (He.ga K "moved_in")) := He.glo_ok T.kin T.ns (T.says.fact 29 (f := .glo "moved_in") rfl)
theorem Txt.glo_sorted_indexes (T : Txt K mg) : mg "sorted_indexes" = some (.ref (He.ga K "sorted_indexes")) := He.glo_ok T.kin T.ns (T.says.fact 30 (f := .glo "sorted_indexes") rfl)
theorem Txt.glo_follows (T : Txt K mg) : mg "follows" = some (.ref (He.ga K "follows")) := He.glo_ok T.kin T.ns (T.says.fact 31 (f := .glo "follows") rfl)
theorem Txt.glo_heights_of (T : Txt K mg) : mg "heights_of" = some (.ref (He.ga K "heights_of")) := He.glo_ok T.kin T.ns (T.says.fact 32 (f := .glo "heights_of") rfl)
theorem Txt.glo_staying (T : Txt K mg) : mg "staying" = some (.ref (He.ga K "staying")) := He.glo_ok T.kin T.ns (T.says.fact 33 (f := .glo "staying") rfl)
theorem Txt.glo_cover_for (T : Txt K mg) : mg "cover_for" = some (.ref (He.ga K "cover_for")) := He.glo_ok T.kin T.ns (T.says.fact 34 (f := .glo "cover_for") rfl)
theorem Txt.glo_law_stream (T : Txt K mg) : mg "_law_stream" = some (.ref (He.ga K "_law_stream")) := He.glo_ok T.kin T.ns (T.says.fact 35 (f := .glo "_law_stream") rfl)
theorem Txt.glo_law_next (T : Txt K mg) : mg "_law_next" = some (.ref (He.ga K "_law_next")) := He.glo_ok T.kin T.ns (T.says.fact 36 (f := .glo "_law_next") rfl)
theorem Txt.glo_law_shuffled (T : Txt K mg) : mg "_law_shuffled" = some (.ref (He.ga K "_law_shuffled")) := He.glo_ok T.kin T.ns (T.says.fact 37 (f := .glo "_law_shuffled") rfl)
theorem Txt.glo_law_order (T : Txt K mg) : mg "_law_order" = some (.ref (He.ga K "_law_order")) := He.glo_ok T.kin T.ns (T.says.fact 38 (f := .glo "_law_order") rfl)
theorem Txt.glo_law_rule (T : Txt K mg) : mg "_law_rule" = some (.ref (He.ga K "_law_rule")) := He.glo_ok T.kin T.ns (T.says.fact 39 (f := .glo "_law_rule") rfl)
theorem Txt.glo_law_without (T : Txt K mg) : mg "_law_without" = some (.ref (He.ga K "_law_without")) := He.glo_ok T.kin T.ns (T.says.fact 40 (f := .glo "_law_without") rfl)
theorem Txt.glo_law_put (T : Txt K mg) : mg "_law_put" = some (.ref (He.ga K "_law_put")) := He.glo_ok T.kin T.ns (T.says.fact 41 (f := .glo "_law_put") rfl)
theorem Txt.glo_law_led (T : Txt K mg) : mg "_law_led" = some (.ref (He.ga K "_law_led")) := He.glo_ok T.kin T.ns (T.says.fact 42 (f := .glo "_law_led") rfl)
theorem Txt.glo_law_word (T : Txt K mg) : mg "_law_word" = some (.ref (He.ga K "_law_word")) := He.glo_ok T.kin T.ns (T.says.fact 43 (f := .glo "_law_word") rfl)
theorem Txt.glo_law_words (T : Txt K mg) : mg "_law_words" = some (.ref (He.ga K "_law_words")) := He.glo_ok T.kin T.ns (T.says.fact 44 (f := .glo "_law_words") rfl)
theorem Txt.glo_law_given (T : Txt K mg) : mg "_law_given" = some (.ref (He.ga K "_law_given")) := He.glo_ok T.kin T.ns (T.says.fact 45 (f := .glo "_law_given") rfl)
theorem Txt.glo_law_sorted (T : Txt K mg) : mg "_law_sorted" = some (.ref (He.ga K "_law_sorted")) := He.glo_ok T.kin T.ns (T.says.fact 46 (f := .glo "_law_sorted") rfl)
theorem Txt.glo_law (T : Txt K mg) : mg "law" = some (.ref (He.ga K "law")) := He.glo_ok T.kin T.ns (T.says.fact 48 (f := .glo "law") rfl)
theorem Txt.i_SIDES (T : Txt K mg) : mg "SIDES" = some (.ref (He.ga K "SIDES")) := He.glo_ok T.kin T.ns (T.says.fact 49 (f := .glo "SIDES") rfl)
theorem Txt.f_isinstance (T : Txt K mg) : mg "isinstance" = none := He.free_ok T.kin T.ns (T.says.fact 50 (f := .free "isinstance") rfl)
theorem Txt.f_len (T : Txt K mg) : mg "len" = none := He.free_ok T.kin T.ns (T.says.fact 51 (f := .free "len") rfl)
theorem Txt.f_all (T : Txt K mg) : mg "all" = none := He.free_ok T.kin T.ns (T.says.fact 52 (f := .free "all") rfl)
theorem Txt.f_any (T : Txt K mg) : mg "any" = none := He.free_ok T.kin T.ns (T.says.fact 53 (f := .free "any") rfl)
theorem Txt.f_tuple (T : Txt K mg) : mg "tuple" = none := He.free_ok T.kin T.ns (T.says.fact 54 (f := .free "tuple") rfl)
theorem Txt.f_enumerate (T : Txt K mg) : mg "enumerate" = none := He.free_ok T.kin T.ns (T.says.fact 55 (f := .free "enumerate") rfl)
theorem Txt.f_range (T : Txt K mg) : mg "range" = none := He.free_ok T.kin T.ns (T.says.fact 56 (f := .free "range") rfl)
theorem Txt.f_max (T : Txt K mg) : mg "max" = none := He.free_ok T.kin T.ns (T.says.fact 57 (f := .free "max") rfl)
theorem Txt.f_min (T : Txt K mg) : mg "min" = none := He.free_ok T.kin T.ns (T.says.fact 58 (f := .free "min") rfl)
theorem Txt.f_abs (T : Txt K mg) : mg "abs" = none := He.free_ok T.kin T.ns (T.says.fact 59 (f := .free "abs") rfl)
theorem Txt.f_int (T : Txt K mg) : mg "int" = none := He.free_ok T.kin T.ns (T.says.fact 60 (f := .free "int") rfl)
theorem Txt.f_bool (T : Txt K mg) : mg "bool" = none := He.free_ok T.kin T.ns (T.says.fact 61 (f := .free "bool") rfl)
theorem Txt.f_str (T : Txt K mg) : mg "str" = none := He.free_ok T.kin T.ns (T.says.fact 62 (f := .free "str") rfl)
theorem Txt.f_list (T : Txt K mg) : mg "list" = none := He.free_ok T.kin T.ns (T.says.fact 63 (f := .free "list") rfl)
theorem Txt.f_zip (T : Txt K mg) : mg "zip" = none := He.free_ok T.kin T.ns (T.says.fact 64 (f := .free "zip") rfl)
theorem Txt.i_CHARACTERS (T : Txt K mg) : ∃ t, mg "CHARACTERS" = some (.str "abcdefghijklmnopqrstuvwxyz" t) := He.str_ok T.kin T.ns (T.says.fact 65 (f := .str "CHARACTERS" "abcdefghijklmnopqrstuvwxyz") rfl)
theorem Txt.i_DIGITS (T : Txt K mg) : ∃ t, mg "DIGITS" = some (.str "0123456789" t) := He.str_ok T.kin T.ns (T.says.fact 66 (f := .str "DIGITS" "0123456789") rfl)
theorem Txt.i_LONGEST (T : Txt K mg) : ∃ t, mg "LONGEST" = some (.int 12 t) := He.int_ok T.kin T.ns (T.says.fact 67 (f := .int "LONGEST" 12) rfl)
theorem Txt.i_MOST (T : Txt K mg) : ∃ t, mg "MOST" = some (.int 12 t) := He.int_ok T.kin T.ns (T.says.fact 68 (f := .int "MOST" 12) rfl)
theorem Txt.i_MOST_LETTERS (T : Txt K mg) : ∃ t, mg "MOST_LETTERS" = some (.int 12 t) := He.int_ok T.kin T.ns (T.says.fact 69 (f := .int "MOST_LETTERS" 12) rfl)
theorem Txt.i_MOST_RULES (T : Txt K mg) : ∃ t, mg "MOST_RULES" = some (.int 20 t) := He.int_ok T.kin T.ns (T.says.fact 70 (f := .int "MOST_RULES" 20) rfl)
theorem Txt.i_LONGEST_WORD (T : Txt K mg) : ∃ t, mg "LONGEST_WORD" = some (.int 12 t) := He.int_ok T.kin T.ns (T.says.fact 71 (f := .int "LONGEST_WORD" 12) rfl)
theorem Txt.i_MOST_WORDS (T : Txt K mg) : ∃ t, mg "MOST_WORDS" = some (.int 12 t) := He.int_ok T.kin T.ns (T.says.fact 72 (f := .int "MOST_WORDS" 12) rfl)
theorem boot_isinstance' : bootBuiltins "isinstance" = some (.builtin "isinstance") := by decide +kernel
theorem boot_len' : bootBuiltins "len" = some (.builtin "len") := by decide +kernel
theorem boot_all' : bootBuiltins "all" = some (.builtin "all") := by decide +kernel
theorem boot_any' : bootBuiltins "any" = some (.builtin "any") := by decide +kernel
theorem boot_max' : bootBuiltins "max" = some (.builtin "max") := by decide +kernel
theorem boot_min' : bootBuiltins "min" = some (.builtin "min") := by decide +kernel
theorem boot_abs' : bootBuiltins "abs" = some (.builtin "abs") := by decide +kernel
theorem boot_tuple' : bootBuiltins "tuple" = some (.type "tuple") := by decide +kernel
theorem boot_int' : bootBuiltins "int" = some (.type "int") := by decide +kernel
theorem boot_bool' : bootBuiltins "bool" = some (.type "bool") := by decide +kernel
theorem boot_str' : bootBuiltins "str" = some (.type "str") := by decide +kernel
theorem boot_list' : bootBuiltins "list" = some (.type "list") := by decide +kernel
abbrev N_is_whole : List Str := ["value"]
theorem sc_is_whole : FnScope N_is_whole ["value"] (defScope s_is_whole) := ⟨rfl, rfl, rfl, by decide +kernel, rfl, by decide +kernel, by decide +kernel⟩
theorem mk_is_whole (T : Txt K mg) {sp : Sp} {k : Nat} (len : ∀ vs H Q E, sp vs H Q E → vs.length = 1)
    (hbody : ∀ (cdv : Value) (A : Around) (outer : List Env) (s : Shared) (H : Hp) (vs : List V) (Q : VK) (E : XK), Room k (A.deeper (envOfC "is_whole" (defScope s_is_whole) s.heap.objs.size (He.ga K "is_whole") cdv)) → sp vs H Q E →
      ∃ t, PSs (cxOf CX0 P w K mg base N_is_whole "is_whole" (defScope s_is_whole) (He.ga K "is_whole") cdv A outer s H E).nox (defBody s_is_whole) t ∧ t { nx := fun _ H' => Q .non H', rt := Q } (start N_is_whole vs) H) : Calls P w K mg base (k + 1) "is_whole" ["value"] sp := by
  obtain ⟨fd, F⟩ := T.says.def_ 0 (d := d_is_whole) rfl
  exact calls_mk T (T.glo_is_whole) F sc_is_whole len (FunD.bindsN F fun _ _ _ _ _ _ us hl => match us, hl with | [_], _ => rfl) hbody
abbrev N_is_level : List Str := ["value"]
theorem sc_is_level : FnScope N_is_level ["value"] (defScope s_is_level) := ⟨rfl, rfl, rfl, by decide +kernel, rfl, by decide +kernel, by decide +kernel⟩
theorem mk_is_level (T : Txt K mg) {sp : Sp} {k : Nat} (len : ∀ vs H Q E, sp vs H Q E → vs.length = 1)
    (hbody : ∀ (cdv : Value) (A : Around) (outer : List Env) (s : Shared) (H : Hp) (vs : List V) (Q : VK) (E : XK), Room k (A.deeper (envOfC "is_level" (defScope s_is_level) s.heap.objs.size (He.ga K "is_level") cdv)) → sp vs H Q E →
      ∃ t, PSs (cxOf CX0 P w K mg base N_is_level "is_level" (defScope s_is_level) (He.ga K "is_level") cdv A outer s H E).nox (defBody s_is_level) t ∧ t { nx := fun _ H' => Q .non H', rt := Q } (start N_is_level vs) H) : Calls P w K mg base (k + 1) "is_level" ["value"] sp := by
  obtain ⟨fd, F⟩ := T.says.def_ 1 (d := d_is_level) rfl
  exact calls_mk T (T.glo_is_level) F sc_is_level len (FunD.bindsN F fun _ _ _ _ _ _ us hl => match us, hl with | [_], _ => rfl) hbody
abbrev N_is_letter : List Str := ["value", "sign"]
theorem sc_is_letter : FnScope N_is_letter ["value"] (defScope s_is_letter) := ⟨rfl, rfl, rfl, by decide +kernel, rfl, by decide +kernel, by decide +kernel⟩
theorem mk_is_letter (T : Txt K mg) {sp : Sp} {k : Nat} (len : ∀ vs H Q E, sp vs H Q E → vs.length = 1)
    (hbody : ∀ (cdv : Value) (A : Around) (outer : List Env) (s : Shared) (H : Hp) (vs : List V) (Q : VK) (E : XK), Room k (A.deeper (envOfC "is_letter" (defScope s_is_letter) s.heap.objs.size (He.ga K "is_letter") cdv)) → sp vs H Q E →
      ∃ t, PSs (cxOf CX0 P w K mg base N_is_letter "is_letter" (defScope s_is_letter) (He.ga K "is_letter") cdv A outer s H E).nox (defBody s_is_letter) t ∧ t { nx := fun _ H' => Q .non H', rt := Q } (start N_is_letter vs) H) : Calls P w K mg base (k + 1) "is_letter" ["value"] sp := by
  obtain ⟨fd, F⟩ := T.says.def_ 2 (d := d_is_letter) rfl
  exact calls_mk T (T.glo_is_letter) F sc_is_letter len (FunD.bindsN F fun _ _ _ _ _ _ us hl => match us, hl with | [_], _ => rfl) hbody
abbrev N_are_letters : List Str := ["value", "one"]
theorem sc_are_letters : FnScope N_are_letters ["value"] (defScope s_are_letters) := ⟨rfl, rfl, rfl, by decide +kernel, rfl, by decide +kernel, by decide +kernel⟩
theorem mk_are_letters (T : Txt K mg) {sp : Sp} {k : Nat} (len : ∀ vs H Q E, sp vs H Q E → vs.length = 1)
    (hbody : ∀ (cdv : Value) (A : Around) (outer : List Env) (s : Shared) (H : Hp) (vs : List V) (Q : VK) (E : XK), Room k (A.deeper (envOfC "are_letters" (defScope s_are_letters) s.heap.objs.size (He.ga K "are_letters") cdv)) → sp vs H Q E →
      ∃ t, PSs (cxOf CX0 P w K mg base N_are_letters "are_letters" (defScope s_are_letters) (He.ga K "are_letters") cdv A outer s H E).nox (defBody s_are_letters) t ∧ t { nx := fun _ H' => Q .non H', rt := Q } (start N_are_letters vs) H) : Calls P w K mg base (k + 1) "are_letters" ["value"] sp := by
  obtain ⟨fd, F⟩ := T.says.def_ 3 (d := d_are_letters) rfl
  exact calls_mk T (T.glo_are_letters) F sc_are_letters len (FunD.bindsN F fun _ _ _ _ _ _ us hl => match us, hl with | [_], _ => rfl) hbody
abbrev N_is_order : List Str := ["value", "letters", "strengths", "one"]
theorem sc_is_order : FnScope N_is_order ["value"] (defScope s_is_order) := ⟨rfl, rfl, rfl, by decide +kernel, rfl, by decide +kernel, by decide +kernel⟩
theorem mk_is_order (T : Txt K mg) {sp : Sp} {k : Nat} (len : ∀ vs H Q E, sp vs H Q E → vs.length = 1)
    (hbody : ∀ (cdv : Value) (A : Around) (outer : List Env) (s : Shared) (H : Hp) (vs : List V) (Q : VK) (E : XK), Room k (A.deeper (envOfC "is_order" (defScope s_is_order) s.heap.objs.size (He.ga K "is_order") cdv)) → sp vs H Q E →
      ∃ t, PSs (cxOf CX0 P w K mg base N_is_order "is_order" (defScope s_is_order) (He.ga K "is_order") cdv A outer s H E).nox (defBody s_is_order) t ∧ t { nx := fun _ H' => Q .non H', rt := Q } (start N_is_order vs) H) : Calls P w K mg base (k + 1) "is_order" ["value"] sp := by
  obtain ⟨fd, F⟩ := T.says.def_ 4 (d := d_is_order) rfl
  exact calls_mk T (T.glo_is_order) F sc_is_order len (FunD.bindsN F fun _ _ _ _ _ _ us hl => match us, hl with | [_], _ => rfl) hbody
abbrev N_check_order_orders : List Str := ["order", "name"]
theorem sc_check_order_orders : FnScope N_check_order_orders ["order", "name"] (defScope s_check_order_orders) := ⟨rfl, rfl, rfl, by decide +kernel, rfl, by decide +kernel, by decide +kernel⟩
theorem mk_check_order_orders (T : Txt K mg) {sp : Sp} {k : Nat} (len : ∀ vs H Q E, sp vs H Q E → vs.length = 2)
    (hbody : ∀ (cdv : Value) (A : Around) (outer : List Env) (s : Shared) (H : Hp) (vs : List V) (Q : VK) (E : XK), Room k (A.deeper (envOfC "check_order" (defScope s_check_order_orders) s.heap.objs.size (He.ga K "check_order_orders") cdv)) → sp vs H Q E →
      ∃ t, PSs (cxOf CX0 P w K mg base N_check_order_orders "check_order" (defScope s_check_order_orders) (He.ga K "check_order_orders") cdv A outer s H E).nox (defBody s_check_order_orders) t ∧ t { nx := fun _ H' => Q .non H', rt := Q } (start N_check_order_orders vs) H) : Calls P w K mg base (k + 1) "check_order_orders" ["order", "name"] sp := by
  obtain ⟨fd, F⟩ := T.says.def_ 5 (d := d_check_order_orders) rfl
  exact calls_mk T (T.glo_check_order_orders) F sc_check_order_orders len (FunD.bindsN F fun _ _ _ _ _ _ us hl => match us, hl with | [_, _], _ => rfl) hbody
abbrev N_check_level : List Str := ["level"]
theorem sc_check_level : FnScope N_check_level ["level"] (defScope s_check_level) := ⟨rfl, rfl, rfl, by decide +kernel, rfl, by decide +kernel, by decide +kernel⟩
theorem mk_check_level (T : Txt K mg) {sp : Sp} {k : Nat} (len : ∀ vs H Q E, sp vs H Q E → vs.length = 1)
    (hbody : ∀ (cdv : Value) (A : Around) (outer : List Env) (s : Shared) (H : Hp) (vs : List V) (Q : VK) (E : XK), Room k (A.deeper (envOfC "check_level" (defScope s_check_level) s.heap.objs.size (He.ga K "check_level") cdv)) → sp vs H Q E →
      ∃ t, PSs (cxOf CX0 P w K mg base N_check_level "check_level" (defScope s_check_level) (He.ga K "check_level") cdv A outer s H E).nox (defBody s_check_level) t ∧ t { nx := fun _ H' => Q .non H', rt := Q } (start N_check_level vs) H) : Calls P w K mg base (k + 1) "check_level" ["level"] sp := by
  obtain ⟨fd, F⟩ := T.says.def_ 6 (d := d_check_level) rfl
  exact calls_mk T (T.glo_check_level) F sc_check_level len (FunD.bindsN F fun _ _ _ _ _ _ us hl => match us, hl with | [_], _ => rfl) hbody
abbrev N_removed : List Str := ["order", "letter", "letters", "strengths", "at", "left"]
theorem sc_removed : FnScope N_removed ["order", "letter"] (defScope s_removed) := ⟨rfl, rfl, rfl, by decide +kernel, rfl, by decide +kernel, by decide +kernel⟩
theorem mk_removed (T : Txt K mg) {sp : Sp} {k : Nat} (len : ∀ vs H Q E, sp vs H Q E → vs.length = 2)
    (hbody : ∀ (cdv : Value) (A : Around) (outer : List Env) (s : Shared) (H : Hp) (vs : List V) (Q : VK) (E : XK), Room k (A.deeper (envOfC "removed" (defScope s_removed) s.heap.objs.size (He.ga K "removed") cdv)) → sp vs H Q E →
      ∃ t, PSs (cxOf CX0 P w K mg base N_removed "removed" (defScope s_removed) (He.ga K "removed") cdv A outer s H E).nox (defBody s_removed) t ∧ t { nx := fun _ H' => Q .non H', rt := Q } (start N_removed vs) H) : Calls P w K mg base (k + 1) "removed" ["order", "letter"] sp := by
  obtain ⟨fd, F⟩ := T.says.def_ 7 (d := d_removed) rfl
  exact calls_mk T (T.glo_removed) F sc_removed len (FunD.bindsN F fun _ _ _ _ _ _ us hl => match us, hl with | [_, _], _ => rfl) hbody
abbrev N_is_integer : List Str := ["value"]
theorem sc_is_integer : FnScope N_is_integer ["value"] (defScope s_is_integer) := ⟨rfl, rfl, rfl, by decide +kernel, rfl, by decide +kernel, by decide +kernel⟩
theorem mk_is_integer (T : Txt K mg) {sp : Sp} {k : Nat} (len : ∀ vs H Q E, sp vs H Q E → vs.length = 1)
    (hbody : ∀ (cdv : Value) (A : Around) (outer : List Env) (s : Shared) (H : Hp) (vs : List V) (Q : VK) (E : XK), Room k (A.deeper (envOfC "is_integer" (defScope s_is_integer) s.heap.objs.size (He.ga K "is_integer") cdv)) → sp vs H Q E →
      ∃ t, PSs (cxOf CX0 P w K mg base N_is_integer "is_integer" (defScope s_is_integer) (He.ga K "is_integer") cdv A outer s H E).nox (defBody s_is_integer) t ∧ t { nx := fun _ H' => Q .non H', rt := Q } (start N_is_integer vs) H) : Calls P w K mg base (k + 1) "is_integer" ["value"] sp := by
  obtain ⟨fd, F⟩ := T.says.def_ 8 (d := d_is_integer) rfl
  exact calls_mk T (T.glo_is_integer) F sc_is_integer len (FunD.bindsN F fun _ _ _ _ _ _ us hl => match us, hl with | [_], _ => rfl) hbody
abbrev N_is_rule : List Str := ["value"]
theorem sc_is_rule : FnScope N_is_rule ["value"] (defScope s_is_rule) := ⟨rfl, rfl, rfl, by decide +kernel, rfl, by decide +kernel, by decide +kernel⟩
theorem mk_is_rule (T : Txt K mg) {sp : Sp} {k : Nat} (len : ∀ vs H Q E, sp vs H Q E → vs.length = 1)
    (hbody : ∀ (cdv : Value) (A : Around) (outer : List Env) (s : Shared) (H : Hp) (vs : List V) (Q : VK) (E : XK), Room k (A.deeper (envOfC "is_rule" (defScope s_is_rule) s.heap.objs.size (He.ga K "is_rule") cdv)) → sp vs H Q E →
      ∃ t, PSs (cxOf CX0 P w K mg base N_is_rule "is_rule" (defScope s_is_rule) (He.ga K "is_rule") cdv A outer s H E).nox (defBody s_is_rule) t ∧ t { nx := fun _ H' => Q .non H', rt := Q } (start N_is_rule vs) H) : Calls P w K mg base (k + 1) "is_rule" ["value"] sp := by
  obtain ⟨fd, F⟩ := T.says.def_ 9 (d := d_is_rule) rfl
  exact calls_mk T (T.glo_is_rule) F sc_is_rule len (FunD.bindsN F fun _ _ _ _ _ _ us hl => match us, hl with | [_], _ => rfl) hbody
abbrev N_is_rule_list : List Str := ["value", "rule"]
theorem sc_is_rule_list : FnScope N_is_rule_list ["value"] (defScope s_is_rule_list) := ⟨rfl, rfl, rfl, by decide +kernel, rfl, by decide +kernel, by decide +kernel⟩
theorem mk_is_rule_list (T : Txt K mg) {sp : Sp} {k : Nat} (len : ∀ vs H Q E, sp vs H Q E → vs.length = 1)
    (hbody : ∀ (cdv : Value) (A : Around) (outer : List Env) (s : Shared) (H : Hp) (vs : List V) (Q : VK) (E : XK), Room k (A.deeper (envOfC "is_rule_list" (defScope s_is_rule_list) s.heap.objs.size (He.ga K "is_rule_list") cdv)) → sp vs H Q E →
      ∃ t, PSs (cxOf CX0 P w K mg base N_is_rule_list "is_rule_list" (defScope s_is_rule_list) (He.ga K "is_rule_list") cdv A outer s H E).nox (defBody s_is_rule_list) t ∧ t { nx := fun _ H' => Q .non H', rt := Q } (start N_is_rule_list vs) H) : Calls P w K mg base (k + 1) "is_rule_list" ["value"] sp := by
  obtain ⟨fd, F⟩ := T.says.def_ 10 (d := d_is_rule_list) rfl
  exact calls_mk T (T.glo_is_rule_list) F sc_is_rule_list len (FunD.bindsN F fun _ _ _ _ _ _ us hl => match us, hl with | [_], _ => rfl) hbody
abbrev N_check_order_rules : List Str := ["order", "name"]
theorem sc_check_order_rules : FnScope N_check_order_rules ["order", "name"] (defScope s_check_order_rules) := ⟨rfl, rfl, rfl, by decide +kernel, rfl, by decide +kernel, by decide +kernel⟩
theorem mk_check_order_rules (T : Txt K mg) {sp : Sp} {k : Nat} (len : ∀ vs H Q E, sp vs H Q E → vs.length = 2)
    (hbody : ∀ (cdv : Value) (A : Around) (outer : List Env) (s : Shared) (H : Hp) (vs : List V) (Q : VK) (E : XK), Room k (A.deeper (envOfC "check_order" (defScope s_check_order_rules) s.heap.objs.size (He.ga K "check_order_rules") cdv)) → sp vs H Q E →
      ∃ t, PSs (cxOf CX0 P w K mg base N_check_order_rules "check_order" (defScope s_check_order_rules) (He.ga K "check_order_rules") cdv A outer s H E).nox (defBody s_check_order_rules) t ∧ t { nx := fun _ H' => Q .non H', rt := Q } (start N_check_order_rules vs) H) : Calls P w K mg base (k + 1) "check_order_rules" ["order", "name"] sp := by
  obtain ⟨fd, F⟩ := T.says.def_ 11 (d := d_check_order_rules) rfl
  exact calls_mk T (T.glo_check_order_rules) F sc_check_order_rules len (FunD.bindsN F fun _ _ _ _ _ _ us hl => match us, hl with | [_, _], _ => rfl) hbody
abbrev N_why_not : List Str := ["order", "rule"]
theorem sc_why_not : FnScope N_why_not ["order", "rule"] (defScope s_why_not) := ⟨rfl, rfl, rfl, by decide +kernel, rfl, by decide +kernel, by decide +kernel⟩
theorem mk_why_not (T : Txt K mg) {sp : Sp} {k : Nat} (len : ∀ vs H Q E, sp vs H Q E → vs.length = 2)
    (hbody : ∀ (cdv : Value) (A : Around) (outer : List Env) (s : Shared) (H : Hp) (vs : List V) (Q : VK) (E : XK), Room k (A.deeper (envOfC "why_not" (defScope s_why_not) s.heap.objs.size (He.ga K "why_not") cdv)) → sp vs H Q E →
      ∃ t, PSs (cxOf CX0 P w K mg base N_why_not "why_not" (defScope s_why_not) (He.ga K "why_not") cdv A outer s H E).nox (defBody s_why_not) t ∧ t { nx := fun _ H' => Q .non H', rt := Q } (start N_why_not vs) H) : Calls P w K mg base (k + 1) "why_not" ["order", "rule"] sp := by
  obtain ⟨fd, F⟩ := T.says.def_ 12 (d := d_why_not) rfl
  exact calls_mk T (T.glo_why_not) F sc_why_not len (FunD.bindsN F fun _ _ _ _ _ _ us hl => match us, hl with | [_, _], _ => rfl) hbody
abbrev N_turned_around : List Str := ["order"]
theorem sc_turned_around : FnScope N_turned_around ["order"] (defScope s_turned_around) := ⟨rfl, rfl, rfl, by decide +kernel, rfl, by decide +kernel, by decide +kernel⟩
theorem mk_turned_around (T : Txt K mg) {sp : Sp} {k : Nat} (len : ∀ vs H Q E, sp vs H Q E → vs.length = 1)
    (hbody : ∀ (cdv : Value) (A : Around) (outer : List Env) (s : Shared) (H : Hp) (vs : List V) (Q : VK) (E : XK), Room k (A.deeper (envOfC "turned_around" (defScope s_turned_around) s.heap.objs.size (He.ga K "turned_around") cdv)) → sp vs H Q E →
      ∃ t, PSs (cxOf CX0 P w K mg base N_turned_around "turned_around" (defScope s_turned_around) (He.ga K "turned_around") cdv A outer s H E).nox (defBody s_turned_around) t ∧ t { nx := fun _ H' => Q .non H', rt := Q } (start N_turned_around vs) H) : Calls P w K mg base (k + 1) "turned_around" ["order"] sp := by
  obtain ⟨fd, F⟩ := T.says.def_ 13 (d := d_turned_around) rfl
  exact calls_mk T (T.glo_turned_around) F sc_turned_around len (FunD.bindsN F fun _ _ _ _ _ _ us hl => match us, hl with | [_], _ => rfl) hbody
abbrev N_put_after : List Str := ["order", "anchor", "strength", "letter", "letters", "strengths", "at", "row"]
theorem sc_put_after : FnScope N_put_after ["order", "anchor", "strength", "letter"] (defScope s_put_after) := ⟨rfl, rfl, rfl, by decide +kernel, rfl, by decide +kernel, by decide +kernel⟩
theorem mk_put_after (T : Txt K mg) {sp : Sp} {k : Nat} (len : ∀ vs H Q E, sp vs H Q E → vs.length = 4)
    (hbody : ∀ (cdv : Value) (A : Around) (outer : List Env) (s : Shared) (H : Hp) (vs : List V) (Q : VK) (E : XK), Room k (A.deeper (envOfC "put_after" (defScope s_put_after) s.heap.objs.size (He.ga K "put_after") cdv)) → sp vs H Q E →
      ∃ t, PSs (cxOf CX0 P w K mg base N_put_after "put_after" (defScope s_put_after) (He.ga K "put_after") cdv A outer s H E).nox (defBody s_put_after) t ∧ t { nx := fun _ H' => Q .non H', rt := Q } (start N_put_after vs) H) : Calls P w K mg base (k + 1) "put_after" ["order", "anchor", "strength", "letter"] sp := by
  obtain ⟨fd, F⟩ := T.says.def_ 14 (d := d_put_after) rfl
  exact calls_mk T (T.glo_put_after) F sc_put_after len (FunD.bindsN F fun _ _ _ _ _ _ us hl => match us, hl with | [_, _, _, _], _ => rfl) hbody
abbrev N_put : List Str := ["order", "rule", "side", "anchor", "strength", "letter"]
theorem sc_put : FnScope N_put ["order", "rule"] (defScope s_put) := ⟨rfl, rfl, rfl, by decide +kernel, rfl, by decide +kernel, by decide +kernel⟩
theorem mk_put (T : Txt K mg) {sp : Sp} {k : Nat} (len : ∀ vs H Q E, sp vs H Q E → vs.length = 2)
    (hbody : ∀ (cdv : Value) (A : Around) (outer : List Env) (s : Shared) (H : Hp) (vs : List V) (Q : VK) (E : XK), Room k (A.deeper (envOfC "put" (defScope s_put) s.heap.objs.size (He.ga K "put") cdv)) → sp vs H Q E →
      ∃ t, PSs (cxOf CX0 P w K mg base N_put "put" (defScope s_put) (He.ga K "put") cdv A outer s H E).nox (defBody s_put) t ∧ t { nx := fun _ H' => Q .non H', rt := Q } (start N_put vs) H) : Calls P w K mg base (k + 1) "put" ["order", "rule"] sp := by
  obtain ⟨fd, F⟩ := T.says.def_ 15 (d := d_put) rfl
  exact calls_mk T (T.glo_put) F sc_put len (FunD.bindsN F fun _ _ _ _ _ _ us hl => match us, hl with | [_, _], _ => rfl) hbody
abbrev N_led : List Str := ["order", "rules", "index", "rule", "why"]
theorem sc_led : FnScope N_led ["order", "rules"] (defScope s_led) := ⟨rfl, rfl, rfl, by decide +kernel, rfl, by decide +kernel, by decide +kernel⟩
theorem mk_led (T : Txt K mg) {sp : Sp} {k : Nat} (len : ∀ vs H Q E, sp vs H Q E → vs.length = 2)
    (hbody : ∀ (cdv : Value) (A : Around) (outer : List Env) (s : Shared) (H : Hp) (vs : List V) (Q : VK) (E : XK), Room k (A.deeper (envOfC "led" (defScope s_led) s.heap.objs.size (He.ga K "led") cdv)) → sp vs H Q E →
      ∃ t, PSs (cxOf CX0 P w K mg base N_led "led" (defScope s_led) (He.ga K "led") cdv A outer s H E).nox (defBody s_led) t ∧ t { nx := fun _ H' => Q .non H', rt := Q } (start N_led vs) H) : Calls P w K mg base (k + 1) "led" ["order", "rules"] sp := by
  obtain ⟨fd, F⟩ := T.says.def_ 16 (d := d_led) rfl
  exact calls_mk T (T.glo_led) F sc_led len (FunD.bindsN F fun _ _ _ _ _ _ us hl => match us, hl with | [_, _], _ => rfl) hbody
abbrev N_is_word : List Str := ["order", "value"]
theorem sc_is_word : FnScope N_is_word ["order", "value"] (defScope s_is_word) := ⟨rfl, rfl, rfl, by decide +kernel, rfl, by decide +kernel, by decide +kernel⟩
theorem mk_is_word (T : Txt K mg) {sp : Sp} {k : Nat} (len : ∀ vs H Q E, sp vs H Q E → vs.length = 2)
    (hbody : ∀ (cdv : Value) (A : Around) (outer : List Env) (s : Shared) (H : Hp) (vs : List V) (Q : VK) (E : XK), Room k (A.deeper (envOfC "is_word" (defScope s_is_word) s.heap.objs.size (He.ga K "is_word") cdv)) → sp vs H Q E →
      ∃ t, PSs (cxOf CX0 P w K mg base N_is_word "is_word" (defScope s_is_word) (He.ga K "is_word") cdv A outer s H E).nox (defBody s_is_word) t ∧ t { nx := fun _ H' => Q .non H', rt := Q } (start N_is_word vs) H) : Calls P w K mg base (k + 1) "is_word" ["order", "value"] sp := by
  obtain ⟨fd, F⟩ := T.says.def_ 17 (d := d_is_word) rfl
  exact calls_mk T (T.glo_is_word) F sc_is_word len (FunD.bindsN F fun _ _ _ _ _ _ us hl => match us, hl with | [_, _], _ => rfl) hbody
abbrev N_has_letters : List Str := ["order", "value", "letter"]
theorem sc_has_letters : FnScope N_has_letters ["order", "value"] (defScope s_has_letters) := ⟨rfl, rfl, rfl, by decide +kernel, rfl, by decide +kernel, by decide +kernel⟩
theorem mk_has_letters (T : Txt K mg) {sp : Sp} {k : Nat} (len : ∀ vs H Q E, sp vs H Q E → vs.length = 2)
    (hbody : ∀ (cdv : Value) (A : Around) (outer : List Env) (s : Shared) (H : Hp) (vs : List V) (Q : VK) (E : XK), Room k (A.deeper (envOfC "has_letters" (defScope s_has_letters) s.heap.objs.size (He.ga K "has_letters") cdv)) → sp vs H Q E →
      ∃ t, PSs (cxOf CX0 P w K mg base N_has_letters "has_letters" (defScope s_has_letters) (He.ga K "has_letters") cdv A outer s H E).nox (defBody s_has_letters) t ∧ t { nx := fun _ H' => Q .non H', rt := Q } (start N_has_letters vs) H) : Calls P w K mg base (k + 1) "has_letters" ["order", "value"] sp := by
  obtain ⟨fd, F⟩ := T.says.def_ 18 (d := d_has_letters) rfl
  exact calls_mk T (T.glo_has_letters) F sc_has_letters len (FunD.bindsN F fun _ _ _ _ _ _ us hl => match us, hl with | [_, _], _ => rfl) hbody
abbrev N_check_word : List Str := ["order", "word", "name"]
theorem sc_check_word : FnScope N_check_word ["order", "word", "name"] (defScope s_check_word) := ⟨rfl, rfl, rfl, by decide +kernel, rfl, by decide +kernel, by decide +kernel⟩
theorem mk_check_word (T : Txt K mg) {sp : Sp} {k : Nat} (len : ∀ vs H Q E, sp vs H Q E → vs.length = 3)
    (hbody : ∀ (cdv : Value) (A : Around) (outer : List Env) (s : Shared) (H : Hp) (vs : List V) (Q : VK) (E : XK), Room k (A.deeper (envOfC "check_word" (defScope s_check_word) s.heap.objs.size (He.ga K "check_word") cdv)) → sp vs H Q E →
      ∃ t, PSs (cxOf CX0 P w K mg base N_check_word "check_word" (defScope s_check_word) (He.ga K "check_word") cdv A outer s H E).nox (defBody s_check_word) t ∧ t { nx := fun _ H' => Q .non H', rt := Q } (start N_check_word vs) H) : Calls P w K mg base (k + 1) "check_word" ["order", "word", "name"] sp := by
  obtain ⟨fd, F⟩ := T.says.def_ 19 (d := d_check_word) rfl
  exact calls_mk T (T.glo_check_word) F sc_check_word len (FunD.bindsN F fun _ _ _ _ _ _ us hl => match us, hl with | [_, _, _], _ => rfl) hbody
abbrev N_all_weights : List Str := ["order", "found", "weights_now", "at", "letter", "strength", "one", "two", "three"]
theorem sc_all_weights : FnScope N_all_weights ["order"] (defScope s_all_weights) := ⟨rfl, rfl, rfl, by decide +kernel, rfl, by decide +kernel, by decide +kernel⟩
theorem mk_all_weights (T : Txt K mg) {sp : Sp} {k : Nat} (len : ∀ vs H Q E, sp vs H Q E → vs.length = 1)
    (hbody : ∀ (cdv : Value) (A : Around) (outer : List Env) (s : Shared) (H : Hp) (vs : List V) (Q : VK) (E : XK), Room k (A.deeper (envOfC "all_weights" (defScope s_all_weights) s.heap.objs.size (He.ga K "all_weights") cdv)) → sp vs H Q E →
      ∃ t, PSs (cxOf CX0 P w K mg base N_all_weights "all_weights" (defScope s_all_weights) (He.ga K "all_weights") cdv A outer s H E).nox (defBody s_all_weights) t ∧ t { nx := fun _ H' => Q .non H', rt := Q } (start N_all_weights vs) H) : Calls P w K mg base (k + 1) "all_weights" ["order"] sp := by
  obtain ⟨fd, F⟩ := T.says.def_ 20 (d := d_all_weights) rfl
  exact calls_mk T (T.glo_all_weights) F sc_all_weights len (FunD.bindsN F fun _ _ _ _ _ _ us hl => match us, hl with | [_], _ => rfl) hbody
abbrev N_key_by : List Str := ["told", "word", "level", "at", "letter"]
theorem sc_key_by : FnScope N_key_by ["told", "word", "level"] (defScope s_key_by) := ⟨rfl, rfl, rfl, by decide +kernel, rfl, by decide +kernel, by decide +kernel⟩
theorem mk_key_by (T : Txt K mg) {sp : Sp} {k : Nat} (len : ∀ vs H Q E, sp vs H Q E → vs.length = 3)
    (hbody : ∀ (cdv : Value) (A : Around) (outer : List Env) (s : Shared) (H : Hp) (vs : List V) (Q : VK) (E : XK), Room k (A.deeper (envOfC "key_by" (defScope s_key_by) s.heap.objs.size (He.ga K "key_by") cdv)) → sp vs H Q E →
      ∃ t, PSs (cxOf CX0 P w K mg base N_key_by "key_by" (defScope s_key_by) (He.ga K "key_by") cdv A outer s H E).nox (defBody s_key_by) t ∧ t { nx := fun _ H' => Q .non H', rt := Q } (start N_key_by vs) H) : Calls P w K mg base (k + 1) "key_by" ["told", "word", "level"] sp := by
  obtain ⟨fd, F⟩ := T.says.def_ 21 (d := d_key_by) rfl
  exact calls_mk T (T.glo_key_by) F sc_key_by len (FunD.bindsN F fun _ _ _ _ _ _ us hl => match us, hl with | [_, _, _], _ => rfl) hbody
abbrev N_key_of : List Str := ["order", "word", "level"]
theorem sc_key_of : FnScope N_key_of ["order", "word", "level"] (defScope s_key_of) := ⟨rfl, rfl, rfl, by decide +kernel, rfl, by decide +kernel, by decide +kernel⟩
theorem mk_key_of (T : Txt K mg) {sp : Sp} {k : Nat} (len : ∀ vs H Q E, sp vs H Q E → vs.length = 3)
    (hbody : ∀ (cdv : Value) (A : Around) (outer : List Env) (s : Shared) (H : Hp) (vs : List V) (Q : VK) (E : XK), Room k (A.deeper (envOfC "key_of" (defScope s_key_of) s.heap.objs.size (He.ga K "key_of") cdv)) → sp vs H Q E →
      ∃ t, PSs (cxOf CX0 P w K mg base N_key_of "key_of" (defScope s_key_of) (He.ga K "key_of") cdv A outer s H E).nox (defBody s_key_of) t ∧ t { nx := fun _ H' => Q .non H', rt := Q } (start N_key_of vs) H) : Calls P w K mg base (k + 1) "key_of" ["order", "word", "level"] sp := by
  obtain ⟨fd, F⟩ := T.says.def_ 22 (d := d_key_of) rfl
  exact calls_mk T (T.glo_key_of) F sc_key_of len (FunD.bindsN F fun _ _ _ _ _ _ us hl => match us, hl with | [_, _, _], _ => rfl) hbody
abbrev N_result : List Str := ["first", "second"]
theorem sc_result : FnScope N_result ["first", "second"] (defScope s_result) := ⟨rfl, rfl, rfl, by decide +kernel, rfl, by decide +kernel, by decide +kernel⟩
theorem mk_result (T : Txt K mg) {sp : Sp} {k : Nat} (len : ∀ vs H Q E, sp vs H Q E → vs.length = 2)
    (hbody : ∀ (cdv : Value) (A : Around) (outer : List Env) (s : Shared) (H : Hp) (vs : List V) (Q : VK) (E : XK), Room k (A.deeper (envOfC "result" (defScope s_result) s.heap.objs.size (He.ga K "result") cdv)) → sp vs H Q E →
      ∃ t, PSs (cxOf CX0 P w K mg base N_result "result" (defScope s_result) (He.ga K "result") cdv A outer s H E).nox (defBody s_result) t ∧ t { nx := fun _ H' => Q .non H', rt := Q } (start N_result vs) H) : Calls P w K mg base (k + 1) "result" ["first", "second"] sp := by
  obtain ⟨fd, F⟩ := T.says.def_ 23 (d := d_result) rfl
  exact calls_mk T (T.glo_result) F sc_result len (FunD.bindsN F fun _ _ _ _ _ _ us hl => match us, hl with | [_, _], _ => rfl) hbody
abbrev N_compared : List Str := ["order", "first", "second", "level"]
theorem sc_compared : FnScope N_compared ["order", "first", "second", "level"] (defScope s_compared) := ⟨rfl, rfl, rfl, by decide +kernel, rfl, by decide +kernel, by decide +kernel⟩
theorem mk_compared (T : Txt K mg) {sp : Sp} {k : Nat} (len : ∀ vs H Q E, sp vs H Q E → vs.length = 4)
    (hbody : ∀ (cdv : Value) (A : Around) (outer : List Env) (s : Shared) (H : Hp) (vs : List V) (Q : VK) (E : XK), Room k (A.deeper (envOfC "compared" (defScope s_compared) s.heap.objs.size (He.ga K "compared") cdv)) → sp vs H Q E →
      ∃ t, PSs (cxOf CX0 P w K mg base N_compared "compared" (defScope s_compared) (He.ga K "compared") cdv A outer s H E).nox (defBody s_compared) t ∧ t { nx := fun _ H' => Q .non H', rt := Q } (start N_compared vs) H) : Calls P w K mg base (k + 1) "compared" ["order", "first", "second", "level"] sp := by
  obtain ⟨fd, F⟩ := T.says.def_ 24 (d := d_compared) rfl
  exact calls_mk T (T.glo_compared) F sc_compared len (FunD.bindsN F fun _ _ _ _ _ _ us hl => match us, hl with | [_, _, _, _], _ => rfl) hbody
abbrev N_compare : List Str := ["order", "first", "second", "level"]
theorem sc_compare : FnScope N_compare ["order", "first", "second", "level"] (defScope s_compare) := ⟨rfl, rfl, rfl, by decide +kernel, rfl, by decide +kernel, by decide +kernel⟩
theorem mk_compare (T : Txt K mg) {sp : Sp} {k : Nat} (len : ∀ vs H Q E, sp vs H Q E → vs.length = 4)
    (hbody : ∀ (cdv : Value) (A : Around) (outer : List Env) (s : Shared) (H : Hp) (vs : List V) (Q : VK) (E : XK), Room k (A.deeper (envOfC "compare" (defScope s_compare) s.heap.objs.size (He.ga K "compare") cdv)) → sp vs H Q E →
      ∃ t, PSs (cxOf CX0 P w K mg base N_compare "compare" (defScope s_compare) (He.ga K "compare") cdv A outer s H E).nox (defBody s_compare) t ∧ t { nx := fun _ H' => Q .non H', rt := Q } (start N_compare vs) H) : Calls P w K mg base (k + 1) "compare" ["order", "first", "second", "level"] sp := by
  obtain ⟨fd, F⟩ := T.says.def_ 25 (d := d_compare) rfl
  exact calls_mk T (T.glo_compare) F sc_compare len (FunD.bindsN F fun _ _ _ _ _ _ us hl => match us, hl with | [_, _, _, _], _ => rfl) hbody
abbrev N_check_change : List Str := ["order", "rules"]
theorem sc_check_change : FnScope N_check_change ["order", "rules"] (defScope s_check_change) := ⟨rfl, rfl, rfl, by decide +kernel, rfl, by decide +kernel, by decide +kernel⟩
theorem mk_check_change (T : Txt K mg) {sp : Sp} {k : Nat} (len : ∀ vs H Q E, sp vs H Q E → vs.length = 2)
    (hbody : ∀ (cdv : Value) (A : Around) (outer : List Env) (s : Shared) (H : Hp) (vs : List V) (Q : VK) (E : XK), Room k (A.deeper (envOfC "check_change" (defScope s_check_change) s.heap.objs.size (He.ga K "check_change") cdv)) → sp vs H Q E →
      ∃ t, PSs (cxOf CX0 P w K mg base N_check_change "check_change" (defScope s_check_change) (He.ga K "check_change") cdv A outer s H E).nox (defBody s_check_change) t ∧ t { nx := fun _ H' => Q .non H', rt := Q } (start N_check_change vs) H) : Calls P w K mg base (k + 1) "check_change" ["order", "rules"] sp := by
  obtain ⟨fd, F⟩ := T.says.def_ 26 (d := d_check_change) rfl
  exact calls_mk T (T.glo_check_change) F sc_check_change len (FunD.bindsN F fun _ _ _ _ _ _ us hl => match us, hl with | [_, _], _ => rfl) hbody
abbrev N_new_order : List Str := ["order", "rules", "words", "level", "word"]
theorem sc_new_order : FnScope N_new_order ["order", "rules", "words", "level"] (defScope s_new_order) := ⟨rfl, rfl, rfl, by decide +kernel, rfl, by decide +kernel, by decide +kernel⟩
theorem mk_new_order (T : Txt K mg) {sp : Sp} {k : Nat} (len : ∀ vs H Q E, sp vs H Q E → vs.length = 4)
    (hbody : ∀ (cdv : Value) (A : Around) (outer : List Env) (s : Shared) (H : Hp) (vs : List V) (Q : VK) (E : XK), Room k (A.deeper (envOfC "new_order" (defScope s_new_order) s.heap.objs.size (He.ga K "new_order") cdv)) → sp vs H Q E →
      ∃ t, PSs (cxOf CX0 P w K mg base N_new_order "new_order" (defScope s_new_order) (He.ga K "new_order") cdv A outer s H E).nox (defBody s_new_order) t ∧ t { nx := fun _ H' => Q .non H', rt := Q } (start N_new_order vs) H) : Calls P w K mg base (k + 1) "new_order" ["order", "rules", "words", "level"] sp := by
  obtain ⟨fd, F⟩ := T.says.def_ 27 (d := d_new_order) rfl
  exact calls_mk T (T.glo_new_order) F sc_new_order len (FunD.bindsN F fun _ _ _ _ _ _ us hl => match us, hl with | [_, _, _, _], _ => rfl) hbody
abbrev N_changed_pairs : List Str := ["order", "rules", "words", "level", "behind", "found", "i", "first", "j"]
theorem sc_changed_pairs : FnScope N_changed_pairs ["order", "rules", "words", "level"] (defScope s_changed_pairs) := ⟨rfl, rfl, rfl, by decide +kernel, rfl, by decide +kernel, by decide +kernel⟩
theorem mk_changed_pairs (T : Txt K mg) {sp : Sp} {k : Nat} (len : ∀ vs H Q E, sp vs H Q E → vs.length = 4)
    (hbody : ∀ (cdv : Value) (A : Around) (outer : List Env) (s : Shared) (H : Hp) (vs : List V) (Q : VK) (E : XK), Room k (A.deeper (envOfC "changed_pairs" (defScope s_changed_pairs) s.heap.objs.size (He.ga K "changed_pairs") cdv)) → sp vs H Q E →
      ∃ t, PSs (cxOf CX0 P w K mg base N_changed_pairs "changed_pairs" (defScope s_changed_pairs) (He.ga K "changed_pairs") cdv A outer s H E).nox (defBody s_changed_pairs) t ∧ t { nx := fun _ H' => Q .non H', rt := Q } (start N_changed_pairs vs) H) : Calls P w K mg base (k + 1) "changed_pairs" ["order", "rules", "words", "level"] sp := by
  obtain ⟨fd, F⟩ := T.says.def_ 28 (d := d_changed_pairs) rfl
  exact calls_mk T (T.glo_changed_pairs) F sc_changed_pairs len (FunD.bindsN F fun _ _ _ _ _ _ us hl => match us, hl with | [_, _, _, _], _ => rfl) hbody
abbrev N_moved_in : List Str := ["order", "rules", "moved", "rule", "letter"]
theorem sc_moved_in : FnScope N_moved_in ["order", "rules"] (defScope s_moved_in) := ⟨rfl, rfl, rfl, by decide +kernel, rfl, by decide +kernel, by decide +kernel⟩
theorem mk_moved_in (T : Txt K mg) {sp : Sp} {k : Nat} (len : ∀ vs H Q E, sp vs H Q E → vs.length = 2)
    (hbody : ∀ (cdv : Value) (A : Around) (outer : List Env) (s : Shared) (H : Hp) (vs : List V) (Q : VK) (E : XK), Room k (A.deeper (envOfC "moved_in" (defScope s_moved_in) s.heap.objs.size (He.ga K "moved_in") cdv)) → sp vs H Q E →
      ∃ t, PSs (cxOf CX0 P w K mg base N_moved_in "moved_in" (defScope s_moved_in) (He.ga K "moved_in") cdv A outer s H E).nox (defBody s_moved_in) t ∧ t { nx := fun _ H' => Q .non H', rt := Q } (start N_moved_in vs) H) : Calls P w K mg base (k + 1) "moved_in" ["order", "rules"] sp := by
  obtain ⟨fd, F⟩ := T.says.def_ 29 (d := d_moved_in) rfl
  exact calls_mk T (T.glo_moved_in) F sc_moved_in len (FunD.bindsN F fun _ _ _ _ _ _ us hl => match us, hl with | [_, _], _ => rfl) hbody
abbrev N_sorted_indexes : List Str := ["order", "words", "level", "found", "index", "word", "place"]
theorem sc_sorted_indexes : FnScope N_sorted_indexes ["order", "words", "level"] (defScope s_sorted_indexes) := ⟨rfl, rfl, rfl, by decide +kernel, rfl, by decide +kernel, by decide +kernel⟩
theorem mk_sorted_indexes (T : Txt K mg) {sp : Sp} {k : Nat} (len : ∀ vs H Q E, sp vs H Q E → vs.length = 3)
    (hbody : ∀ (cdv : Value) (A : Around) (outer : List Env) (s : Shared) (H : Hp) (vs : List V) (Q : VK) (E : XK), Room k (A.deeper (envOfC "sorted_indexes" (defScope s_sorted_indexes) s.heap.objs.size (He.ga K "sorted_indexes") cdv)) → sp vs H Q E →
      ∃ t, PSs (cxOf CX0 P w K mg base N_sorted_indexes "sorted_indexes" (defScope s_sorted_indexes) (He.ga K "sorted_indexes") cdv A outer s H E).nox (defBody s_sorted_indexes) t ∧ t { nx := fun _ H' => Q .non H', rt := Q } (start N_sorted_indexes vs) H) : Calls P w K mg base (k + 1) "sorted_indexes" ["order", "words", "level"] sp := by
  obtain ⟨fd, F⟩ := T.says.def_ 30 (d := d_sorted_indexes) rfl
  exact calls_mk T (T.glo_sorted_indexes) F sc_sorted_indexes len (FunD.bindsN F fun _ _ _ _ _ _ us hl => match us, hl with | [_, _, _], _ => rfl) hbody
abbrev N_follows : List Str := ["behind", "words", "level", "first", "second"]
theorem sc_follows : FnScope N_follows ["behind", "words", "level", "first", "second"] (defScope s_follows) := ⟨rfl, rfl, rfl, by decide +kernel, rfl, by decide +kernel, by decide +kernel⟩
theorem mk_follows (T : Txt K mg) {sp : Sp} {k : Nat} (len : ∀ vs H Q E, sp vs H Q E → vs.length = 5)
    (hbody : ∀ (cdv : Value) (A : Around) (outer : List Env) (s : Shared) (H : Hp) (vs : List V) (Q : VK) (E : XK), Room k (A.deeper (envOfC "follows" (defScope s_follows) s.heap.objs.size (He.ga K "follows") cdv)) → sp vs H Q E →
      ∃ t, PSs (cxOf CX0 P w K mg base N_follows "follows" (defScope s_follows) (He.ga K "follows") cdv A outer s H E).nox (defBody s_follows) t ∧ t { nx := fun _ H' => Q .non H', rt := Q } (start N_follows vs) H) : Calls P w K mg base (k + 1) "follows" ["behind", "words", "level", "first", "second"] sp := by
  obtain ⟨fd, F⟩ := T.says.def_ 31 (d := d_follows) rfl
  exact calls_mk T (T.glo_follows) F sc_follows len (FunD.bindsN F fun _ _ _ _ _ _ us hl => match us, hl with | [_, _, _, _, _], _ => rfl) hbody
abbrev N_heights_of : List Str := ["behind", "words", "level", "row", "heights", "at", "index", "ahead", "k"]
theorem sc_heights_of : FnScope N_heights_of ["behind", "words", "level", "row"] (defScope s_heights_of) := ⟨rfl, rfl, rfl, by decide +kernel, rfl, by decide +kernel, by decide +kernel⟩
theorem mk_heights_of (T : Txt K mg) {sp : Sp} {k : Nat} (len : ∀ vs H Q E, sp vs H Q E → vs.length = 4)
    (hbody : ∀ (cdv : Value) (A : Around) (outer : List Env) (s : Shared) (H : Hp) (vs : List V) (Q : VK) (E : XK), Room k (A.deeper (envOfC "heights_of" (defScope s_heights_of) s.heap.objs.size (He.ga K "heights_of") cdv)) → sp vs H Q E →
      ∃ t, PSs (cxOf CX0 P w K mg base N_heights_of "heights_of" (defScope s_heights_of) (He.ga K "heights_of") cdv A outer s H E).nox (defBody s_heights_of) t ∧ t { nx := fun _ H' => Q .non H', rt := Q } (start N_heights_of vs) H) : Calls P w K mg base (k + 1) "heights_of" ["behind", "words", "level", "row"] sp := by
  obtain ⟨fd, F⟩ := T.says.def_ 32 (d := d_heights_of) rfl
  exact calls_mk T (T.glo_heights_of) F sc_heights_of len (FunD.bindsN F fun _ _ _ _ _ _ us hl => match us, hl with | [_, _, _, _], _ => rfl) hbody
abbrev N_staying : List Str := ["order", "rules", "words", "level", "behind", "row", "best", "at", "index", "longest", "k", "found", "chosen"]
theorem sc_staying : FnScope N_staying ["order", "rules", "words", "level"] (defScope s_staying) := ⟨rfl, rfl, rfl, by decide +kernel, rfl, by decide +kernel, by decide +kernel⟩
theorem mk_staying (T : Txt K mg) {sp : Sp} {k : Nat} (len : ∀ vs H Q E, sp vs H Q E → vs.length = 4)
    (hbody : ∀ (cdv : Value) (A : Around) (outer : List Env) (s : Shared) (H : Hp) (vs : List V) (Q : VK) (E : XK), Room k (A.deeper (envOfC "staying" (defScope s_staying) s.heap.objs.size (He.ga K "staying") cdv)) → sp vs H Q E →
      ∃ t, PSs (cxOf CX0 P w K mg base N_staying "staying" (defScope s_staying) (He.ga K "staying") cdv A outer s H E).nox (defBody s_staying) t ∧ t { nx := fun _ H' => Q .non H', rt := Q } (start N_staying vs) H) : Calls P w K mg base (k + 1) "staying" ["order", "rules", "words", "level"] sp := by
  obtain ⟨fd, F⟩ := T.says.def_ 33 (d := d_staying) rfl
  exact calls_mk T (T.glo_staying) F sc_staying len (FunD.bindsN F fun _ _ _ _ _ _ us hl => match us, hl with | [_, _, _, _], _ => rfl) hbody
abbrev N_cover_for : List Str := ["order", "rules", "words", "level", "behind", "row", "heights", "found", "height", "index", "own"]
theorem sc_cover_for : FnScope N_cover_for ["order", "rules", "words", "level"] (defScope s_cover_for) := ⟨rfl, rfl, rfl, by decide +kernel, rfl, by decide +kernel, by decide +kernel⟩
theorem mk_cover_for (T : Txt K mg) {sp : Sp} {k : Nat} (len : ∀ vs H Q E, sp vs H Q E → vs.length = 4)
    (hbody : ∀ (cdv : Value) (A : Around) (outer : List Env) (s : Shared) (H : Hp) (vs : List V) (Q : VK) (E : XK), Room k (A.deeper (envOfC "cover_for" (defScope s_cover_for) s.heap.objs.size (He.ga K "cover_for") cdv)) → sp vs H Q E →
      ∃ t, PSs (cxOf CX0 P w K mg base N_cover_for "cover_for" (defScope s_cover_for) (He.ga K "cover_for") cdv A outer s H E).nox (defBody s_cover_for) t ∧ t { nx := fun _ H' => Q .non H', rt := Q } (start N_cover_for vs) H) : Calls P w K mg base (k + 1) "cover_for" ["order", "rules", "words", "level"] sp := by
  obtain ⟨fd, F⟩ := T.says.def_ 34 (d := d_cover_for) rfl
  exact calls_mk T (T.glo_cover_for) F sc_cover_for len (FunD.bindsN F fun _ _ _ _ _ _ us hl => match us, hl with | [_, _, _, _], _ => rfl) hbody
abbrev N_law_stream : List Str := ["_law_script"]
theorem sc_law_stream : FnScope N_law_stream ["_law_script"] (defScope s_law_stream) := ⟨rfl, rfl, rfl, by decide +kernel, rfl, by decide +kernel, by decide +kernel⟩
theorem mk_law_stream (T : Txt K mg) {sp : Sp} {k : Nat} (len : ∀ vs H Q E, sp vs H Q E → vs.length = 1)
    (hbody : ∀ (cdv : Value) (A : Around) (outer : List Env) (s : Shared) (H : Hp) (vs : List V) (Q : VK) (E : XK), Room k (A.deeper (envOfC "_law_stream" (defScope s_law_stream) s.heap.objs.size (He.ga K "_law_stream") cdv)) → sp vs H Q E →
      ∃ t, PSs (cxOf CX0 P w K mg base N_law_stream "_law_stream" (defScope s_law_stream) (He.ga K "_law_stream") cdv A outer s H E).nox (defBody s_law_stream) t ∧ t { nx := fun _ H' => Q .non H', rt := Q } (start N_law_stream vs) H) : Calls P w K mg base (k + 1) "_law_stream" ["_law_script"] sp := by
  obtain ⟨fd, F⟩ := T.says.def_ 35 (d := d_law_stream) rfl
  exact calls_mk T (T.glo_law_stream) F sc_law_stream len (FunD.bindsN F fun _ _ _ _ _ _ us hl => match us, hl with | [_], _ => rfl) hbody
abbrev N_law_next : List Str := ["_law_stream_here", "_law_many", "_law_k", "_law_cell", "_law_digit"]
theorem sc_law_next : FnScope N_law_next ["_law_stream_here", "_law_many"] (defScope s_law_next) := ⟨rfl, rfl, rfl, by decide +kernel, rfl, by decide +kernel, by decide +kernel⟩
theorem mk_law_next (T : Txt K mg) {sp : Sp} {k : Nat} (len : ∀ vs H Q E, sp vs H Q E → vs.length = 2)
    (hbody : ∀ (cdv : Value) (A : Around) (outer : List Env) (s : Shared) (H : Hp) (vs : List V) (Q : VK) (E : XK), Room k (A.deeper (envOfC "_law_next" (defScope s_law_next) s.heap.objs.size (He.ga K "_law_next") cdv)) → sp vs H Q E →
      ∃ t, PSs (cxOf CX0 P w K mg base N_law_next "_law_next" (defScope s_law_next) (He.ga K "_law_next") cdv A outer s H E).nox (defBody s_law_next) t ∧ t { nx := fun _ H' => Q .non H', rt := Q } (start N_law_next vs) H) : Calls P w K mg base (k + 1) "_law_next" ["_law_stream_here", "_law_many"] sp := by
  obtain ⟨fd, F⟩ := T.says.def_ 36 (d := d_law_next) rfl
  exact calls_mk T (T.glo_law_next) F sc_law_next len (FunD.bindsN F fun _ _ _ _ _ _ us hl => match us, hl with | [_, _], _ => rfl) hbody
abbrev N_law_shuffled : List Str := ["_law_stream_here", "_law_items", "_law_left", "_law_found", "_law_k"]
theorem sc_law_shuffled : FnScope N_law_shuffled ["_law_stream_here", "_law_items"] (defScope s_law_shuffled) := ⟨rfl, rfl, rfl, by decide +kernel, rfl, by decide +kernel, by decide +kernel⟩
theorem mk_law_shuffled (T : Txt K mg) {sp : Sp} {k : Nat} (len : ∀ vs H Q E, sp vs H Q E → vs.length = 2)
    (hbody : ∀ (cdv : Value) (A : Around) (outer : List Env) (s : Shared) (H : Hp) (vs : List V) (Q : VK) (E : XK), Room k (A.deeper (envOfC "_law_shuffled" (defScope s_law_shuffled) s.heap.objs.size (He.ga K "_law_shuffled") cdv)) → sp vs H Q E →
      ∃ t, PSs (cxOf CX0 P w K mg base N_law_shuffled "_law_shuffled" (defScope s_law_shuffled) (He.ga K "_law_shuffled") cdv A outer s H E).nox (defBody s_law_shuffled) t ∧ t { nx := fun _ H' => Q .non H', rt := Q } (start N_law_shuffled vs) H) : Calls P w K mg base (k + 1) "_law_shuffled" ["_law_stream_here", "_law_items"] sp := by
  obtain ⟨fd, F⟩ := T.says.def_ 37 (d := d_law_shuffled) rfl
  exact calls_mk T (T.glo_law_shuffled) F sc_law_shuffled len (FunD.bindsN F fun _ _ _ _ _ _ us hl => match us, hl with | [_, _], _ => rfl) hbody
abbrev N_law_order : List Str := ["_law_stream_here", "_law_letters", "_law_most", "_law_row", "_law_k"]
theorem sc_law_order : FnScope N_law_order ["_law_stream_here", "_law_letters", "_law_most"] (defScope s_law_order) := ⟨rfl, rfl, rfl, by decide +kernel, rfl, by decide +kernel, by decide +kernel⟩
theorem mk_law_order (T : Txt K mg) {sp : Sp} {k : Nat} (len : ∀ vs H Q E, sp vs H Q E → vs.length = 3)
    (hbody : ∀ (cdv : Value) (A : Around) (outer : List Env) (s : Shared) (H : Hp) (vs : List V) (Q : VK) (E : XK), Room k (A.deeper (envOfC "_law_order" (defScope s_law_order) s.heap.objs.size (He.ga K "_law_order") cdv)) → sp vs H Q E →
      ∃ t, PSs (cxOf CX0 P w K mg base N_law_order "_law_order" (defScope s_law_order) (He.ga K "_law_order") cdv A outer s H E).nox (defBody s_law_order) t ∧ t { nx := fun _ H' => Q .non H', rt := Q } (start N_law_order vs) H) : Calls P w K mg base (k + 1) "_law_order" ["_law_stream_here", "_law_letters", "_law_most"] sp := by
  obtain ⟨fd, F⟩ := T.says.def_ 38 (d := d_law_order) rfl
  exact calls_mk T (T.glo_law_order) F sc_law_order len (FunD.bindsN F fun _ _ _ _ _ _ us hl => match us, hl with | [_, _, _], _ => rfl) hbody
abbrev N_law_rule : List Str := ["_law_stream_here", "_law_letters", "_law_anchor", "_law_letter"]
theorem sc_law_rule : FnScope N_law_rule ["_law_stream_here", "_law_letters"] (defScope s_law_rule) := ⟨rfl, rfl, rfl, by decide +kernel, rfl, by decide +kernel, by decide +kernel⟩
theorem mk_law_rule (T : Txt K mg) {sp : Sp} {k : Nat} (len : ∀ vs H Q E, sp vs H Q E → vs.length = 2)
    (hbody : ∀ (cdv : Value) (A : Around) (outer : List Env) (s : Shared) (H : Hp) (vs : List V) (Q : VK) (E : XK), Room k (A.deeper (envOfC "_law_rule" (defScope s_law_rule) s.heap.objs.size (He.ga K "_law_rule") cdv)) → sp vs H Q E →
      ∃ t, PSs (cxOf CX0 P w K mg base N_law_rule "_law_rule" (defScope s_law_rule) (He.ga K "_law_rule") cdv A outer s H E).nox (defBody s_law_rule) t ∧ t { nx := fun _ H' => Q .non H', rt := Q } (start N_law_rule vs) H) : Calls P w K mg base (k + 1) "_law_rule" ["_law_stream_here", "_law_letters"] sp := by
  obtain ⟨fd, F⟩ := T.says.def_ 39 (d := d_law_rule) rfl
  exact calls_mk T (T.glo_law_rule) F sc_law_rule len (FunD.bindsN F fun _ _ _ _ _ _ us hl => match us, hl with | [_, _], _ => rfl) hbody
abbrev N_law_without : List Str := ["_law_order_here", "_law_letter", "_law_letters", "_law_strengths", "_law_at", "_law_row"]
theorem sc_law_without : FnScope N_law_without ["_law_order_here", "_law_letter"] (defScope s_law_without) := ⟨rfl, rfl, rfl, by decide +kernel, rfl, by decide +kernel, by decide +kernel⟩
theorem mk_law_without (T : Txt K mg) {sp : Sp} {k : Nat} (len : ∀ vs H Q E, sp vs H Q E → vs.length = 2)
    (hbody : ∀ (cdv : Value) (A : Around) (outer : List Env) (s : Shared) (H : Hp) (vs : List V) (Q : VK) (E : XK), Room k (A.deeper (envOfC "_law_without" (defScope s_law_without) s.heap.objs.size (He.ga K "_law_without") cdv)) → sp vs H Q E →
      ∃ t, PSs (cxOf CX0 P w K mg base N_law_without "_law_without" (defScope s_law_without) (He.ga K "_law_without") cdv A outer s H E).nox (defBody s_law_without) t ∧ t { nx := fun _ H' => Q .non H', rt := Q } (start N_law_without vs) H) : Calls P w K mg base (k + 1) "_law_without" ["_law_order_here", "_law_letter"] sp := by
  obtain ⟨fd, F⟩ := T.says.def_ 40 (d := d_law_without) rfl
  exact calls_mk T (T.glo_law_without) F sc_law_without len (FunD.bindsN F fun _ _ _ _ _ _ us hl => match us, hl with | [_, _], _ => rfl) hbody
abbrev N_law_put : List Str := ["_law_order_here", "_law_rule_here", "_law_side", "_law_anchor", "_law_strength", "_law_letter", "_law_letters", "_law_strengths", "_law_at", "_law_place"]
theorem sc_law_put : FnScope N_law_put ["_law_order_here", "_law_rule_here"] (defScope s_law_put) := ⟨rfl, rfl, rfl, by decide +kernel, rfl, by decide +kernel, by decide +kernel⟩
theorem mk_law_put (T : Txt K mg) {sp : Sp} {k : Nat} (len : ∀ vs H Q E, sp vs H Q E → vs.length = 2)
    (hbody : ∀ (cdv : Value) (A : Around) (outer : List Env) (s : Shared) (H : Hp) (vs : List V) (Q : VK) (E : XK), Room k (A.deeper (envOfC "_law_put" (defScope s_law_put) s.heap.objs.size (He.ga K "_law_put") cdv)) → sp vs H Q E →
      ∃ t, PSs (cxOf CX0 P w K mg base N_law_put "_law_put" (defScope s_law_put) (He.ga K "_law_put") cdv A outer s H E).nox (defBody s_law_put) t ∧ t { nx := fun _ H' => Q .non H', rt := Q } (start N_law_put vs) H) : Calls P w K mg base (k + 1) "_law_put" ["_law_order_here", "_law_rule_here"] sp := by
  obtain ⟨fd, F⟩ := T.says.def_ 41 (d := d_law_put) rfl
  exact calls_mk T (T.glo_law_put) F sc_law_put len (FunD.bindsN F fun _ _ _ _ _ _ us hl => match us, hl with | [_, _], _ => rfl) hbody
abbrev N_law_led : List Str := ["_law_order_here", "_law_rules", "_law_rule_here"]
theorem sc_law_led : FnScope N_law_led ["_law_order_here", "_law_rules"] (defScope s_law_led) := ⟨rfl, rfl, rfl, by decide +kernel, rfl, by decide +kernel, by decide +kernel⟩
theorem mk_law_led (T : Txt K mg) {sp : Sp} {k : Nat} (len : ∀ vs H Q E, sp vs H Q E → vs.length = 2)
    (hbody : ∀ (cdv : Value) (A : Around) (outer : List Env) (s : Shared) (H : Hp) (vs : List V) (Q : VK) (E : XK), Room k (A.deeper (envOfC "_law_led" (defScope s_law_led) s.heap.objs.size (He.ga K "_law_led") cdv)) → sp vs H Q E →
      ∃ t, PSs (cxOf CX0 P w K mg base N_law_led "_law_led" (defScope s_law_led) (He.ga K "_law_led") cdv A outer s H E).nox (defBody s_law_led) t ∧ t { nx := fun _ H' => Q .non H', rt := Q } (start N_law_led vs) H) : Calls P w K mg base (k + 1) "_law_led" ["_law_order_here", "_law_rules"] sp := by
  obtain ⟨fd, F⟩ := T.says.def_ 42 (d := d_law_led) rfl
  exact calls_mk T (T.glo_law_led) F sc_law_led len (FunD.bindsN F fun _ _ _ _ _ _ us hl => match us, hl with | [_, _], _ => rfl) hbody
abbrev N_law_word : List Str := ["_law_stream_here", "_law_order_here", "_law_most", "_law_word_here", "_law_k"]
theorem sc_law_word : FnScope N_law_word ["_law_stream_here", "_law_order_here", "_law_most"] (defScope s_law_word) := ⟨rfl, rfl, rfl, by decide +kernel, rfl, by decide +kernel, by decide +kernel⟩
theorem mk_law_word (T : Txt K mg) {sp : Sp} {k : Nat} (len : ∀ vs H Q E, sp vs H Q E → vs.length = 3)
    (hbody : ∀ (cdv : Value) (A : Around) (outer : List Env) (s : Shared) (H : Hp) (vs : List V) (Q : VK) (E : XK), Room k (A.deeper (envOfC "_law_word" (defScope s_law_word) s.heap.objs.size (He.ga K "_law_word") cdv)) → sp vs H Q E →
      ∃ t, PSs (cxOf CX0 P w K mg base N_law_word "_law_word" (defScope s_law_word) (He.ga K "_law_word") cdv A outer s H E).nox (defBody s_law_word) t ∧ t { nx := fun _ H' => Q .non H', rt := Q } (start N_law_word vs) H) : Calls P w K mg base (k + 1) "_law_word" ["_law_stream_here", "_law_order_here", "_law_most"] sp := by
  obtain ⟨fd, F⟩ := T.says.def_ 43 (d := d_law_word) rfl
  exact calls_mk T (T.glo_law_word) F sc_law_word len (FunD.bindsN F fun _ _ _ _ _ _ us hl => match us, hl with | [_, _, _], _ => rfl) hbody
abbrev N_law_words : List Str := ["_law_stream_here", "_law_order_here", "_law_most", "_law_words_here", "_law_k", "_law_word_here"]
theorem sc_law_words : FnScope N_law_words ["_law_stream_here", "_law_order_here", "_law_most"] (defScope s_law_words) := ⟨rfl, rfl, rfl, by decide +kernel, rfl, by decide +kernel, by decide +kernel⟩
theorem mk_law_words (T : Txt K mg) {sp : Sp} {k : Nat} (len : ∀ vs H Q E, sp vs H Q E → vs.length = 3)
    (hbody : ∀ (cdv : Value) (A : Around) (outer : List Env) (s : Shared) (H : Hp) (vs : List V) (Q : VK) (E : XK), Room k (A.deeper (envOfC "_law_words" (defScope s_law_words) s.heap.objs.size (He.ga K "_law_words") cdv)) → sp vs H Q E →
      ∃ t, PSs (cxOf CX0 P w K mg base N_law_words "_law_words" (defScope s_law_words) (He.ga K "_law_words") cdv A outer s H E).nox (defBody s_law_words) t ∧ t { nx := fun _ H' => Q .non H', rt := Q } (start N_law_words vs) H) : Calls P w K mg base (k + 1) "_law_words" ["_law_stream_here", "_law_order_here", "_law_most"] sp := by
  obtain ⟨fd, F⟩ := T.says.def_ 44 (d := d_law_words) rfl
  exact calls_mk T (T.glo_law_words) F sc_law_words len (FunD.bindsN F fun _ _ _ _ _ _ us hl => match us, hl with | [_, _, _], _ => rfl) hbody
abbrev N_law_given : List Str := ["_law_stream_here", "_law_most", "_law_letters", "_law_order_here", "_law_rules", "_law_behind", "_law_k", "_law_rule_here"]
theorem sc_law_given : FnScope N_law_given ["_law_stream_here", "_law_most"] (defScope s_law_given) := ⟨rfl, rfl, rfl, by decide +kernel, rfl, by decide +kernel, by decide +kernel⟩
theorem mk_law_given (T : Txt K mg) {sp : Sp} {k : Nat} (len : ∀ vs H Q E, sp vs H Q E → vs.length = 2)
    (hbody : ∀ (cdv : Value) (A : Around) (outer : List Env) (s : Shared) (H : Hp) (vs : List V) (Q : VK) (E : XK), Room k (A.deeper (envOfC "_law_given" (defScope s_law_given) s.heap.objs.size (He.ga K "_law_given") cdv)) → sp vs H Q E →
      ∃ t, PSs (cxOf CX0 P w K mg base N_law_given "_law_given" (defScope s_law_given) (He.ga K "_law_given") cdv A outer s H E).nox (defBody s_law_given) t ∧ t { nx := fun _ H' => Q .non H', rt := Q } (start N_law_given vs) H) : Calls P w K mg base (k + 1) "_law_given" ["_law_stream_here", "_law_most"] sp := by
  obtain ⟨fd, F⟩ := T.says.def_ 45 (d := d_law_given) rfl
  exact calls_mk T (T.glo_law_given) F sc_law_given len (FunD.bindsN F fun _ _ _ _ _ _ us hl => match us, hl with | [_, _], _ => rfl) hbody
abbrev N_law_sorted : List Str := ["_law_order_here", "_law_words_here", "_law_level", "_law_row", "_law_index", "_law_at", "_law_place"]
theorem sc_law_sorted : FnScope N_law_sorted ["_law_order_here", "_law_words_here", "_law_level"] (defScope s_law_sorted) := ⟨rfl, rfl, rfl, by decide +kernel, rfl, by decide +kernel, by decide +kernel⟩
theorem mk_law_sorted (T : Txt K mg) {sp : Sp} {k : Nat} (len : ∀ vs H Q E, sp vs H Q E → vs.length = 3)
    (hbody : ∀ (cdv : Value) (A : Around) (outer : List Env) (s : Shared) (H : Hp) (vs : List V) (Q : VK) (E : XK), Room k (A.deeper (envOfC "_law_sorted" (defScope s_law_sorted) s.heap.objs.size (He.ga K "_law_sorted") cdv)) → sp vs H Q E →
      ∃ t, PSs (cxOf CX0 P w K mg base N_law_sorted "_law_sorted" (defScope s_law_sorted) (He.ga K "_law_sorted") cdv A outer s H E).nox (defBody s_law_sorted) t ∧ t { nx := fun _ H' => Q .non H', rt := Q } (start N_law_sorted vs) H) : Calls P w K mg base (k + 1) "_law_sorted" ["_law_order_here", "_law_words_here", "_law_level"] sp := by
  obtain ⟨fd, F⟩ := T.says.def_ 46 (d := d_law_sorted) rfl
  exact calls_mk T (T.glo_law_sorted) F sc_law_sorted len (FunD.bindsN F fun _ _ _ _ _ _ us hl => match us, hl with | [_, _, _], _ => rfl) hbody
abbrev N_law : List Str := ["_law_script", "_law_stream_here", "_law_order_here", "_law_rules", "_law_behind", "_law_words_here", "_law_level", "_law_moved", "_law_other", "_law_i", "_law_j", "_law_calm", "_law_row", "_law_still", "_law_letter", "_law_word_here"]
theorem sc_law : FnScope N_law ["_law_script"] (defScope s_law) := ⟨rfl, rfl, rfl, by decide +kernel, rfl, by decide +kernel, by decide +kernel⟩
end
end Pf
namespace Pf
open PySem PySem.Spec PyProof.Rows L2
/-! ### heaps -/
theorem same_of {H H' : Hp} {p : Addr} {o : HO} (s : Same H H') (h : H p = none) : Same H (upd H' p o) := fun b x e => by
  rw [upd_ne (ne_of_none e h)]
  exact s b x e
theorem same_upd {H : Hp} {p : Addr} {o : HO} (h : H p = none) : Same H (upd H p o) := same_of (Same.refl H) h
/-! ### the data -/
abbrev Ord := List Str × List Int
structure Rule where
  after : Bool
  anchor : Str
  s : Int
  z : Str
def Rule.side (r : Rule) : Str := if r.after then "after" else "before"
def IsOrd (H : Hp) (v : V) (o : Ord) : Prop := ∃ a b c, v = .ref a ∧ FzT H a [.ref b, .ref c] ∧ FzT H b (o.1.map V.str) ∧ FzT H c (o.2.map V.int)
def IsWrd (H : Hp) (v : V) (u : List Str) : Prop := ∃ a, v = .ref a ∧ FzT H a (u.map V.str)
def IsRule (H : Hp) (v : V) (r : Rule) : Prop := ∃ a, v = .ref a ∧ FzT H a [.str r.side, .str r.anchor, .int r.s, .str r.z]
def IsWrds (H : Hp) (v : V) (us : List (List Str)) : Prop := ∃ a vs, v = .ref a ∧ FzT H a vs ∧ Paired (IsWrd H) vs us
def IsRules (H : Hp) (v : V) (rs : List Rule) : Prop := ∃ a vs, v = .ref a ∧ FzT H a vs ∧ Paired (IsRule H) vs rs
theorem Paired.mono {α β : Type} {F G : α → β → Prop} (h : ∀ a b, F a b → G a b) : ∀ {l₁ : List α} {l₂ : List β}, Paired F l₁ l₂ → Paired G l₁ l₂
  | _, _, .nil => .nil
  | _, _, .cons r t => .cons (h _ _ r) (Paired.mono h t)
theorem Paired.at {α β : Type} {F : α → β → Prop} : ∀ {l₁ : List α} {l₂ : List β} {i : Nat} {y : β}, Paired F l₁ l₂ → l₂[i]? = some y → ∃ x, l₁[i]? = some x ∧ F x y
  | _, _, _, _, .nil, e => by simp at e
  | _, _, 0, _, .cons r _, e => by simp at e; subst e; exact ⟨_, rfl, r⟩
  | _, _, i + 1, y, .cons _ t, e => by
    obtain ⟨u, h1, h2⟩ := Paired.at (i := i) (y := y) t (by simpa using e)
    exact ⟨u, by simpa using h1, h2⟩
theorem Paired.ta {α β : Type} {F : α → β → Prop} : ∀ {l₁ : List α} {l₂ : List β} {i : Nat} {x : α}, Paired F l₁ l₂ → l₁[i]? = some x → ∃ y, l₂[i]? = some y ∧ F x y
  | _, _, _, _, .nil, e => by simp at e
  | _, _, 0, _, .cons r _, e => by simp at e; subst e; exact ⟨_, rfl, r⟩
  | _, _, i + 1, y, .cons _ t, e => by
    obtain ⟨u, h1, h2⟩ := Paired.ta (i := i) (x := y) t (by simpa using e)
    exact ⟨u, by simpa using h1, h2⟩
theorem Paired.app {α β : Type} {F : α → β → Prop} : ∀ {l₁ m₁ : List α} {l₂ m₂ : List β}, Paired F l₁ l₂ → Paired F m₁ m₂ → Paired F (l₁ ++ m₁) (l₂ ++ m₂)
  | _, _, _, _, .nil, q => q
  | _, _, _, _, .cons r t, q => .cons r (Paired.app t q)
theorem IsOrd.mono {H H' : Hp} {v : V} {o : Ord} (s : Same H H') : IsOrd H v o → IsOrd H' v o := fun ⟨a, b, c, e, h1, h2, h3⟩ => ⟨a, b, c, e, h1.same s, h2.same s, h3.same s⟩
theorem IsWrd.mono {H H' : Hp} {v : V} {o : List Str} (s : Same H H') : IsWrd H v o → IsWrd H' v o := fun ⟨a, e, h1⟩ => ⟨a, e, h1.same s⟩
theorem IsRule.mono {H H' : Hp} {v : V} {o : Rule} (s : Same H H') : IsRule H v o → IsRule H' v o := fun ⟨a, e, h1⟩ => ⟨a, e, h1.same s⟩
theorem IsWrds.mono {H H' : Hp} {v : V} {o : List (List Str)} (s : Same H H') : IsWrds H v o → IsWrds H' v o := fun ⟨a, vs, e, h1, h2⟩ => ⟨a, vs, e, h1.same s, h2.mono fun _ _ => IsWrd.mono s⟩
theorem IsRules.mono {H H' : Hp} {v : V} {o : List Rule} (s : Same H H') : IsRules H v o → IsRules H' v o := fun ⟨a, vs, e, h1, h2⟩ => ⟨a, vs, e, h1.same s, h2.mono fun _ _ => IsRule.mono s⟩
theorem strs_at {l : List Str} {i : Nat} {x : V} (h : (l.map V.str)[i]? = some x) : ∃ z, l[i]? = some z ∧ x = .str z := by
  rw [List.getElem?_map] at h
  cases e : l[i]? with
  | none => rw [e] at h; cases h
  | some z => rw [e] at h; exact ⟨z, rfl, (Option.some.inj h).symm⟩
theorem ints_at {l : List Int} {i : Nat} {x : V} (h : (l.map V.int)[i]? = some x) : ∃ z, l[i]? = some z ∧ x = .int z := by
  rw [List.getElem?_map] at h
  cases e : l[i]? with
  | none => rw [e] at h; cases h
  | some z => rw [e] at h; exact ⟨z, rfl, (Option.some.inj h).symm⟩
theorem str_get {l : List Str} {i : Nat} {z : Str} (h : l[i]? = some z) : (l.map V.str)[i]? = some (.str z) := by
  rw [List.getElem?_map, h]
  rfl
theorem int_get {l : List Int} {i : Nat} {z : Int} (h : l[i]? = some z) : (l.map V.int)[i]? = some (.int z) := by
  rw [List.getElem?_map, h]
  rfl
/-! ### letters, orders, rules that are valid -/
def IsL (l : Str) : Prop := ∃ c : Nat, l = ⟨#[c]⟩ ∧ 97 ≤ c ∧ c ≤ 122
structure OrdOk (o : Ord) : Prop where
  nd : o.1.Nodup
  len : o.2.length = o.1.length - 1
  lets : ∀ l ∈ o.1, IsL l
  most : o.1.length ≤ 12
  str : ∀ s ∈ o.2, 1 ≤ s ∧ s ≤ 3
structure RuleOk (r : Rule) : Prop where
  anch : IsL r.anchor
  lett : IsL r.z
  ne : r.anchor ≠ r.z
  lo : 1 ≤ r.s
  hi : r.s ≤ 3
/-! ### isinstance -/
theorem kit_ii : kitB "int" "int" = some true := by decide +kernel
theorem kit_ib : kitB "int" "bool" = some false := by decide +kernel
theorem kit_ss : kitB "str" "str" = some true := by decide +kernel
theorem kit_tt : kitB "tuple" "tuple" = some true := by decide +kernel
/-! ### comprehensions and loops -/
section
variable {J : It} {n : Nat} {G : Hp → Prop} {Y : Nat → Hp → V → Hp → Prop}
theorem lcM (w : Walk J n G Y) {g : TG} {tt : TT} {te : TE} {vs : List Nat} {σ : L2.St} {H1 : Hp} {D : Addr} {Qd : Hp → Prop} (nD : H1 D = none) (out : Nat → Option V) (hsz : n ≤ sizeLine) (hG : ∀ H, Same H1 H → G H)
    (hs : ∀ i x H H' (R : Option V → Hp → Prop), i < n → Same H1 H → Y i H x H' → (∀ H4, Same H H4 → R (out i) H4) → g x (wipe σ vs) H' fun σ2 H2 => wipe σ2 vs = wipe σ vs ∧ tt σ2 H2 fun b H3 =>
      if b = true then te σ2 H3 fun y H4 => R (some y) H4 else R none H3)
    (hd : ∀ H, Same H1 H → H D = some (.lst ((List.range n).filterMap out)) → Qd H) :
    ∃ W : Nat → Nat → Hp → Prop, (∃ m, W 0 m (upd H1 D (.lst []))) ∧ ∀ i m H, W i m H →
      (J.stop i H ∧ Qd H) ∨ (J.go i H ∧ ∃ Nx : Hp → Prop, (∀ H', Nx H' → ∃ m', m' < m ∧ W (i + 1) m' H') ∧ ∀ x H', J.yld i H x H' → g x (wipe σ vs) H' fun σ2 H2 => wipe σ2 vs = wipe σ vs ∧ tt σ2 H2 fun b H3 =>
        if b = true then te σ2 H3 fun y H4 => ∃ acc, H4 D = some (.lst acc) ∧ acc.length < sizeLine ∧ Nx (upd H4 D (.lst (acc ++ [y]))) else Nx H3) := by
  refine lc_it w (fun i H => Same H1 H ∧ H D = some (.lst ((List.range i).filterMap out))) ⟨same_upd nD, by rw [upd_same]; rfl⟩ (fun i H _ p => hG H p.1) ?_ fun H p => hd H p.1 p.2
  intro i x H H' hi p y
  refine hs i x H H' (fun o H4 => match o with
    | some y => ∃ acc, H4 D = some (.lst acc) ∧ acc.length < sizeLine ∧ (Same H1 (upd H4 D (.lst (acc ++ [y]))) ∧ (upd H4 D (.lst (acc ++ [y]))) D = some (.lst ((List.range (i + 1)).filterMap out)))
    | none => Same H1 H4 ∧ H4 D = some (.lst ((List.range (i + 1)).filterMap out))) hi p.1 y fun H4 s4 => ?_
  have e4 : H4 D = some (.lst ((List.range i).filterMap out)) := s4 _ _ p.2
  have s14 : Same H1 H4 := p.1.trans s4
  have er : (List.range (i + 1)).filterMap out = (List.range i).filterMap out ++ (out i).toList := by
    rw [List.range_succ, List.filterMap_append]
    rw [List.filterMap_cons, List.filterMap_nil]
    cases out i <;> rfl
  cases eo : out i with
  | none =>
    refine ⟨s14, ?_⟩
    rw [er, eo, e4]
    simp
  | some y =>
    refine ⟨_, e4, ?_, same_of s14 nD, ?_⟩
    · refine Nat.lt_of_le_of_lt (List.length_filterMap_le _ _) ?_
      rw [List.length_range]
      exact Nat.lt_of_lt_of_le hi hsz
    · rw [upd_same, er, eo]
      rfl
end
theorem fm_range {α β : Type} (p : α → Option β) : ∀ xs : List α, (List.range xs.length).filterMap (fun i => (xs[i]?).bind p) = xs.filterMap p := by
  intro xs
  induction xs with
  | nil => rfl
  | cons x r ih =>
    rw [List.length_cons, List.range_succ_eq_map, List.filterMap_cons, List.filterMap_map, List.filterMap_cons]
    have e : ((fun i => ((x :: r)[i]?).bind p) ∘ Nat.succ) = fun i => (r[i]?).bind p := by
      funext i
      simp
    rw [e, ih]
    simp
theorem fm_true (n : Nat) : (List.range n).filterMap (fun _ => some (V.bl true)) = (List.replicate n true).map V.bl := by
  induction n with
  | zero => rfl
  | succ n ih => rw [List.range_succ, List.filterMap_append, ih, List.replicate_succ', List.map_append]; rfl
theorem all_true (n : Nat) : (List.replicate n true).all id = true := by
  simp [List.all_replicate]
theorem le12 {n : Nat} (h : n ≤ 1000) : n ≤ sizeLine := Nat.le_of_lt (small1000 h)
/-- the items made are told by F -/
theorem lcR {β : Type} {J : It} {n : Nat} {G : Hp → Prop} {Y : Nat → Hp → V → Hp → Prop} (w : Walk J n G Y) {g : TG} {tt : TT} {te : TE} {vs : List Nat} {σ : L2.St} {H1 : Hp} {D : Addr} {Qd : Hp → Prop} (nD : H1 D = none)
    (F : Hp → V → β → Prop) (mono : ∀ H H' v b, Same H H' → F H v b → F H' v b) (upd_ : ∀ H v b acc o, F H v b → H D = some (.lst acc) → F (upd H D o) v b) (out : Nat → Option β) (hsz : n ≤ sizeLine) (hG : ∀ H, Same H1 H → G H)
    (hs : ∀ i x H H' (R : Option V → Hp → Prop), i < n → Same H1 H → Y i H x H' → (∀ H4, out i = none → Same H H4 → R none H4) → (∀ H4 v b, out i = some b → Same H H4 → F H4 v b → R (some v) H4) → g x (wipe σ vs) H' fun σ2 H2 => wipe σ2 vs = wipe σ vs ∧ tt σ2 H2 fun b H3 =>
      if b = true then te σ2 H3 fun y H4 => R (some y) H4 else R none H3)
    (hd : ∀ H acc, Same H1 H → H D = some (.lst acc) → Paired (F H) acc ((List.range n).filterMap out) → Qd H) :
    ∃ W : Nat → Nat → Hp → Prop, (∃ m, W 0 m (upd H1 D (.lst []))) ∧ ∀ i m H, W i m H →
      (J.stop i H ∧ Qd H) ∨ (J.go i H ∧ ∃ Nx : Hp → Prop, (∀ H', Nx H' → ∃ m', m' < m ∧ W (i + 1) m' H') ∧ ∀ x H', J.yld i H x H' → g x (wipe σ vs) H' fun σ2 H2 => wipe σ2 vs = wipe σ vs ∧ tt σ2 H2 fun b H3 =>
        if b = true then te σ2 H3 fun y H4 => ∃ acc, H4 D = some (.lst acc) ∧ acc.length < sizeLine ∧ Nx (upd H4 D (.lst (acc ++ [y]))) else Nx H3) := by
  refine lc_it w (fun i H => Same H1 H ∧ ∃ acc, H D = some (.lst acc) ∧ Paired (F H) acc ((List.range i).filterMap out)) ⟨same_upd nD, [], upd_same, .nil⟩ (fun i H _ p => hG H p.1) ?_ fun H p => let ⟨s, acc, e, pr⟩ := p; hd H acc s e pr
  rintro i x H H' hi ⟨s, acc, eD, pr⟩ y
  have er : (List.range (i + 1)).filterMap out = (List.range i).filterMap out ++ (out i).toList := by
    rw [List.range_succ, List.filterMap_append]
    rw [List.filterMap_cons, List.filterMap_nil]
    cases out i <;> rfl
  have hl : acc.length < sizeLine := by
    have h1 : acc.length = ((List.range i).filterMap out).length := Paired.length pr
    have h2 := List.length_filterMap_le out (List.range i)
    rw [List.length_range] at h2
    exact Nat.lt_of_le_of_lt (h1 ▸ h2) (Nat.lt_of_lt_of_le hi hsz)
  refine hs i x H H' (fun o H4 => match o with
    | some y => ∃ acc, H4 D = some (.lst acc) ∧ acc.length < sizeLine ∧ (Same H1 (upd H4 D (.lst (acc ++ [y]))) ∧ ∃ acc', (upd H4 D (.lst (acc ++ [y]))) D = some (.lst acc') ∧ Paired (F (upd H4 D (.lst (acc ++ [y])))) acc' ((List.range (i + 1)).filterMap out))
    | none => Same H1 H4 ∧ ∃ acc', H4 D = some (.lst acc') ∧ Paired (F H4) acc' ((List.range (i + 1)).filterMap out)) hi s y (fun H4 eo s4 => ?_) fun H4 v b eo s4 f => ?_
  · refine ⟨s.trans s4, acc, s4 _ _ eD, ?_⟩
    rw [er, eo]
    simpa using pr.mono fun _ _ => mono _ _ _ _ s4
  · have e4 := s4 _ _ eD
    refine ⟨acc, e4, hl, same_of (s.trans s4) nD, _, upd_same, ?_⟩
    rw [er, eo]
    exact Paired.app (pr.mono fun _ _ q => upd_ _ _ _ _ _ (mono _ _ _ _ s4 q) e4) (.cons (upd_ _ _ _ _ _ f e4) .nil)
theorem fz_updL {H : Hp} {a l : Addr} {xs acc : List V} {o : HO} (h : FzT H a xs) (hl : H l = some (.lst acc)) : FzT (upd H l o) a xs := by
  obtain ⟨ob, e, c⟩ := h
  refine ⟨ob, ?_, c⟩
  rw [upd_ne (ne_of e hl (by intro z; cases z))]
  exact e
theorem fz_updK {H : Hp} {a l : Addr} {xs : List V} {acc : List (Key × V)} {o : HO} (h : FzT H a xs) (hl : H l = some (.dK acc)) : FzT (upd H l o) a xs := by
  obtain ⟨ob, e, c⟩ := h
  refine ⟨ob, ?_, c⟩
  rw [upd_ne (ne_of e hl (by intro z; cases z))]
  exact e
/-- all([.. for x in t]), each true -/
theorem all_lcW {J : It} {n : Nat} {G : Hp → Prop} {Y : Nat → Hp → V → Hp → Prop} (w : Walk J n G Y) {g : TG} {te : TE} {vs : List Nat} {σ : L2.St} {H : Hp} {D : Addr} {Qd : Hp → Prop} (nD : H D = none) (hn : n ≤ 1000) (hG : ∀ H', Same H H' → G H')
    (hs : ∀ (i : Nat) (x : V) (H1 H2 : Hp) (R : V → Hp → Prop), i < n → Same H H1 → Y i H1 x H2 → (∀ H4, Same H1 H4 → R (.bl true) H4) → g x (wipe σ vs) H2 fun σ2 H3 => wipe σ2 vs = wipe σ vs ∧ te σ2 H3 R)
    (q : ∀ H', Same H H' → H' D = some (.lst ((List.replicate n true).map V.bl)) → Qd H') : ∃ W : Nat → Nat → Hp → Prop, (∃ m, W 0 m (upd H D (.lst []))) ∧ ∀ i m H, W i m H →
      (J.stop i H ∧ Qd H) ∨ (J.go i H ∧ ∃ Nx : Hp → Prop, (∀ H', Nx H' → ∃ m', m' < m ∧ W (i + 1) m' H') ∧ ∀ x H', J.yld i H x H' → g x (wipe σ vs) H' fun σ2 H2 => wipe σ2 vs = wipe σ vs ∧ tYes σ2 H2 fun b H3 =>
        if b = true then te σ2 H3 fun y H4 => ∃ acc, H4 D = some (.lst acc) ∧ acc.length < sizeLine ∧ Nx (upd H4 D (.lst (acc ++ [y]))) else Nx H3) := by
  refine lcM w nD (fun _ => some (.bl true)) (le12 hn) hG (fun i x H1 H2 R hi s1 y k => ?_) fun H' s e => ?_
  · exact hs i x H1 H2 (fun v H4 => R (some v) H4) hi s1 y (fun H4 s4 => k H4 s4)
  · rw [fm_true] at e
    exact q H' s e
/-! ### tests whose answer is known -/
theorem qd {Q : VK} {p : Prop} [Decidable p] {H : Hp} (h : p) (q : Q (.bl true) H) : Q (.bl (decide p)) H := by
  rw [decide_eq_true h]
  exact q
theorem iteDT {p : Prop} [Decidable p] {A B : Prop} (h : p) (a : A) : if decide p = true then A else B := by
  rw [if_pos (decide_eq_true h)]
  exact a
theorem iteDF {p : Prop} [Decidable p] {A B : Prop} (h : ¬ p) (b : B) : if decide p = true then A else B := by
  rw [if_neg (by rw [decide_eq_false h]; exact Bool.false_ne_true)]
  exact b
theorem iteNT {p : Prop} [Decidable p] {A B : Prop} (h : ¬ p) (a : A) : if (!decide p) = true then A else B := by
  rw [decide_eq_false h]
  exact iteT a
theorem iteNF {p : Prop} [Decidable p] {A B : Prop} (h : p) (b : B) : if (!decide p) = true then A else B := by
  rw [decide_eq_true h]
  exact iteF b
/-! ### slices -/
theorem cut_upto (xs : List V) (k : Nat) : cutV xs none (some (k : Int)) = xs.take k := by
  unfold cutV
  rw [HT.sIx_none, HT.sIx_nat, List.drop_zero, Nat.sub_zero]
  by_cases h : k ≤ xs.length
  · rw [Nat.min_eq_left h]
  · rw [Nat.min_eq_right (by omega), List.take_length, List.take_of_length_le (by omega)]
theorem cut_from (xs : List V) (k : Nat) : cutV xs (some (k : Int)) none = xs.drop k := by
  unfold cutV
  rw [HT.sIx_none, HT.sIx_nat]
  by_cases h : k ≤ xs.length
  · rw [Nat.min_eq_left h, List.take_of_length_le (by rw [List.length_drop]; omega)]
  · rw [Nat.min_eq_right (by omega), List.drop_of_length_le (by omega), List.drop_of_length_le (by omega), List.take_nil]
theorem cut_but (xs : List V) : cutV xs none (some (-1)) = xs.take (xs.length - 1) := by
  have e : HT.sIx xs.length xs.length (some (-1)) = xs.length - 1 := by
    have h := HT.clip_eq (-1) xs.length xs.length
    rw [if_pos (by decide)] at h
    omega
  unfold cutV
  rw [HT.sIx_none, e, List.drop_zero, Nat.sub_zero]
section
variable {α : Type} {f : α → V} {L M : List α} {i : Int} {k : Nat} {H : Hp} {p : Addr}
theorem fz_upto (h : FzT H p (cutV (L.map f) none (some i))) (e : i = (k : Int)) : FzT H p ((L.take k).map f) := by
  rw [e, cut_upto, ← List.map_take] at h
  exact h
theorem fz_from (h : FzT H p (cutV (L.map f) (some i) none)) (e : i = (k : Int)) : FzT H p ((L.drop k).map f) := by
  rw [e, cut_from, ← List.map_drop] at h
  exact h
theorem fz_but (h : FzT H p (cutV (L.map f) none (some (-1)))) : FzT H p ((L.take (L.length - 1)).map f) := by
  rw [cut_but, List.length_map, ← List.map_take] at h
  exact h
theorem fz_cat (h : FzT H p (L.map f ++ M.map f)) : FzT H p ((L ++ M).map f) := by
  rw [List.map_append]
  exact h
theorem fz_rev (h : FzT H p (L.map f).reverse) : FzT H p (L.reverse.map f) := by
  rw [List.map_reverse]
  exact h
theorem fz_eq (h : FzT H p (L.map f)) (e : L = M) : FzT H p (M.map f) := e ▸ h
end
theorem two_le : 2 ≤ sizeLine := by decide
end Pf
namespace Pf
open PySem PySem.Spec PyProof.Rows L2
section
variable {P : Program} {w : World} {K : PySem.W.Frag} {mg : Str → Option Value} {base : Heap}
/-! ### is_whole, is_level, is_integer -/
def spWhole : Sp := fun vs H Q _ => ∃ i : Int, vs = [.int i] ∧ ∀ H', Same H H' → Q (.bl true) H'
theorem ok_is_whole (T : Txt K mg) : Calls P w K mg base 1 "is_whole" ["value"] spWhole := by
  refine mk_is_whole T (fun vs H Q E h => ?_) (fun cdv A outer s H vs Q E hr h => ?_)
  · obtain ⟨i, rfl, _⟩ := h
    rfl
  · obtain ⟨i, rfl, q⟩ := h
    refine ⟨_, (pss_one (ps_ret (pe_and (pe_callB (call_isiS (K := K) rfl) (by rfl) T.f_isinstance boot_isinstance' (pa_cons (pv 0) (pa_cons (pe_bltn (v := .ty "int") (by rfl) T.f_int boot_int' rfl) pa_nil))) (pe_one (pe_not (pe_callB (call_isiS (K := K) rfl) (by rfl) T.f_isinstance boot_isinstance' (pa_cons (pv 0) (pa_cons (pe_bltn (v := .ty "bool") (by rfl) T.f_bool boot_bool' rfl) pa_nil)))))))), ?_⟩
    exact ⟨_, rfl, _, _, _, _, rfl, .base (.int _), kit_ii, true, rfl, iteT ⟨_, rfl, _, _, _, _, rfl, .base (.int _), kit_ib, false, rfl, q _ (Same.refl _)⟩⟩
theorem ok_is_integer (T : Txt K mg) : Calls P w K mg base 1 "is_integer" ["value"] spWhole := by
  refine mk_is_integer T (fun vs H Q E h => ?_) (fun cdv A outer s H vs Q E hr h => ?_)
  · obtain ⟨i, rfl, _⟩ := h
    rfl
  · obtain ⟨i, rfl, q⟩ := h
    refine ⟨_, (pss_one (ps_ret (pe_and (pe_callB (call_isiS (K := K) rfl) (by rfl) T.f_isinstance boot_isinstance' (pa_cons (pv 0) (pa_cons (pe_bltn (v := .ty "int") (by rfl) T.f_int boot_int' rfl) pa_nil))) (pe_one (pe_not (pe_callB (call_isiS (K := K) rfl) (by rfl) T.f_isinstance boot_isinstance' (pa_cons (pv 0) (pa_cons (pe_bltn (v := .ty "bool") (by rfl) T.f_bool boot_bool' rfl) pa_nil)))))))), ?_⟩
    exact ⟨_, rfl, _, _, _, _, rfl, .base (.int _), kit_ii, true, rfl, iteT ⟨_, rfl, _, _, _, _, rfl, .base (.int _), kit_ib, false, rfl, q _ (Same.refl _)⟩⟩
def spLevel : Sp := fun vs H Q _ => ∃ i : Int, vs = [.int i] ∧ 1 ≤ i ∧ i ≤ 3 ∧ ∀ H', Same H H' → Q (.bl true) H'
theorem ok_is_level (T : Txt K mg) : Calls P w K mg base 2 "is_level" ["value"] spLevel := by
  have C_is_whole := ok_is_whole (P := P) (w := w) (base := base) T
  refine mk_is_level T (fun vs H Q E h => ?_) (fun cdv A outer s H vs Q E hr h => ?_)
  · obtain ⟨i, rfl, _⟩ := h
    rfl
  · obtain ⟨i, rfl, h1, h2, q⟩ := h
    refine ⟨_, (pss_one (ps_ret (pe_and (pe_callC C_is_whole (hr.mono (by decide)) (by rfl) (pa_cons (pv 0) pa_nil)) (pe_one (pe_chain op_le op_le pe_int (pv 0) pe_int))))), ?_⟩
    refine ⟨_, rfl, i, rfl, fun H1 s1 => ⟨true, rfl, iteT ?_⟩⟩
    exact ⟨_, rfl, 1, i, rfl, rfl, _, rfl, iteDT h1 ⟨i, 3, rfl, rfl, qd (Q := Q) h2 (q _ s1)⟩⟩
def spChkLevel : Sp := fun vs H Q _ => ∃ i : Int, vs = [.int i] ∧ 1 ≤ i ∧ i ≤ 3 ∧ ∀ H', Same H H' → Q .non H'
theorem ok_check_level (T : Txt K mg) : Calls P w K mg base 3 "check_level" ["level"] spChkLevel := by
  have C_is_level := ok_is_level (P := P) (w := w) (base := base) T
  refine mk_check_level T (fun vs H Q E h => ?_) (fun cdv A outer s H vs Q E hr h => ?_)
  · obtain ⟨i, rfl, _⟩ := h
    rfl
  · obtain ⟨i, rfl, h1, h2, q⟩ := h
    refine ⟨_, (pss_one (ps_if (pt_not (pt_val (pe_callC C_is_level (hr.mono (by decide)) (by rfl) (pa_cons (pv 0) pa_nil)))) (pss_one ps_never) pss_nil)), ?_⟩
    exact ⟨_, rfl, i, rfl, h1, h2, fun H1 s1 => ⟨true, rfl, iteF (q _ s1)⟩⟩
/-! ### is_letter -/
theorem chars_in (c : Nat) (h1 : 97 ≤ c) (h2 : c ≤ 122) : c ∈ ("abcdefghijklmnopqrstuvwxyz" : Str).cps.toList := by
  have h : ∀ d : Fin 26, 97 + d.val ∈ ("abcdefghijklmnopqrstuvwxyz" : Str).cps.toList := by decide +kernel
  have := h ⟨c - 97, by omega⟩
  rw [show 97 + (c - 97) = c by omega] at this
  exact this
def spLetter : Sp := fun vs H Q _ => ∃ l : Str, vs = [.str l] ∧ IsL l ∧ ∀ H', Same H H' → Q (.bl true) H'
theorem ok_is_letter (T : Txt K mg) : Calls P w K mg base 1 "is_letter" ["value"] spLetter := by
  refine mk_is_letter T (fun vs H Q E h => ?_) (fun cdv A outer s H vs Q E hr h => ?_)
  · obtain ⟨i, rfl, _⟩ := h
    rfl
  · obtain ⟨l, rfl, ⟨c, rfl, h1, h2⟩, q⟩ := h
    have hc := chars_in c h1 h2
    have hl : (⟨#[c]⟩ : Str).length ≤ sizeLine := by
      show 1 ≤ sizeLine
      decide
    refine ⟨_, (pss_cons (ps_if (PW.pt (pw_or (pt_not (pt_val (pe_callB (call_isiS (K := K) rfl) (by rfl) T.f_isinstance boot_isinstance' (pa_cons (pv 0) (pa_cons (pe_bltn (v := .ty "str") (by rfl) T.f_str boot_str' rfl) pa_nil))))) (pw_or (pt_not (pt_chain op_le op_le pe_int (pe_callB (call_lenS (K := K) rfl) (by rfl) T.f_len boot_len' (pa_cons (pv 0) pa_nil)) (pe_gi T.i_LONGEST))) (pw_or1 (pt_cmpR op_notIn_sign (pe_ix ix_str (pv 0) pe_int (fun _ _ => rfl)) (pe_gs T.i_CHARACTERS) (by rfl)))))) (pss_one (ps_ret pe_bl)) pss_nil)
  (pss_one (ps_ret (pe_callB (cr_allK (K := K) rfl rfl) (by rfl) T.f_all boot_all' (pa_cons (pe_lc (own := [("sign", 1)]) (by rfl) sc_is_letter.nd (pi_str (pv 0)) (blkOk_by (own := [("sign", 1)]) (N := N_is_letter) (sc := (defScope s_is_letter)) (by decide +kernel)) (fun _ _ _ _ _ => (pg_name (i := 1) sc_is_letter.nd rfl (by first | exact Or.inl rfl | exact Or.inr rfl))) (fun _ _ _ _ _ => pts_nil) (fun _ _ _ _ _ => (pe_or (pe_cmpR op_in_sign (pv 1) (pe_gs T.i_CHARACTERS) (by rfl)) (pe_one (pe_cmpR op_in_sign (pv 1) (pe_gs T.i_DIGITS) (by rfl)))))) pa_nil))))), ?_⟩
    -- the test
    refine ⟨_, rfl, _, _, _, _, rfl, .base (.str _), kit_ss, true, rfl, iteF ?_⟩
    refine ⟨_, rfl, _, 1, rfl, .inl ⟨_, rfl, hl, rfl⟩, 1, 1, rfl, rfl, _, rfl, iteDT (by decide) ⟨1, 12, rfl, rfl, _, rfl, iteNF (by decide) ?_⟩⟩
    refine ⟨_, rfl, _, 0, c, rfl, rfl, hl, rfl, c, _, rfl, rfl, _, rfl, iteNF hc ?_⟩
    -- all signs
    refine ⟨_, rfl, _, rfl, fun D nD => all_lcW walk_str nD (by show 1 ≤ 1000; decide) (fun _ _ => trivial) (fun i x H1 H2 R hi s1 y k => ?_) fun H1 s1 e => ⟨D, _, rfl, .of e, by rw [all_true]; exact q H1 s1⟩⟩
    obtain ⟨rfl, c', hc', rfl⟩ := y
    have e0 : i = 0 := by
      have : i < 1 := hi
      omega
    subst e0
    have ec : c = c' := Option.some.inj hc'
    subst ec
    refine ⟨rfl, ?_⟩
    refine ⟨_, rfl, c, _, rfl, rfl, _, rfl, iteDT hc (k _ (Same.refl _))⟩
/-! ### are_letters, is_order -/
def spLetters : Sp := fun vs H Q _ => ∃ (a : Addr) (l : List Str), vs = [.ref a] ∧ FzT H a (l.map V.str) ∧ l.length ≤ 12 ∧ l.Nodup ∧ (∀ z ∈ l, IsL z) ∧ ∀ H', Same H H' → Q (.bl true) H'
theorem ok_are_letters (T : Txt K mg) : Calls P w K mg base 2 "are_letters" ["value"] spLetters := by
  have C_is_letter := ok_is_letter (P := P) (w := w) (base := base) T
  refine mk_are_letters T (fun vs H Q E h => ?_) (fun cdv A outer s H vs Q E hr h => ?_)
  · obtain ⟨v, l, rfl, _⟩ := h
    rfl
  · obtain ⟨a, l, rfl, ha, hlen, hnd, hL, q⟩ := h
    refine ⟨_, (pss_cons (ps_if (PW.pt (pw_or (pt_not (pt_val (pe_callB (call_isiS (K := K) rfl) (by rfl) T.f_isinstance boot_isinstance' (pa_cons (pv 0) (pa_cons (pe_bltn (v := .ty "tuple") (by rfl) T.f_tuple boot_tuple' rfl) pa_nil))))) (pw_or (pt_cmpR op_gt (pe_callB (call_lenS (K := K) rfl) (by rfl) T.f_len boot_len' (pa_cons (pv 0) pa_nil)) (pe_gi T.i_MOST) (nomark _)) (pw_or1 (pt_not (pt_val (pe_callB (cr_allK (K := K) rfl rfl) (by rfl) T.f_all boot_all' (pa_cons (pe_lc (own := [("one", 1)]) (by rfl) sc_are_letters.nd (pi_tupK (K := K) rfl (pv 0)) (blkOk_by (own := [("one", 1)]) (N := N_are_letters) (sc := (defScope s_are_letters)) (by decide +kernel)) (fun _ _ _ _ _ => (pg_name (i := 1) sc_are_letters.nd rfl (by first | exact Or.inl rfl | exact Or.inr rfl))) (fun _ _ _ _ _ => pts_nil) (fun _ _ _ _ _ => (pe_callC C_is_letter (hr.mono (by decide)) (by rfl) (pa_cons (pv 1) pa_nil)))) pa_nil)))))))) (pss_one (ps_ret pe_bl)) pss_nil)
  (pss_one (ps_ret (pe_callB (cr_allK (K := K) rfl rfl) (by rfl) T.f_all boot_all' (pa_cons (pe_lc (own := [("one", 1)]) (by rfl) sc_are_letters.nd (pi_tupK (K := K) rfl (pv 0)) (blkOk_by (own := [("one", 1)]) (N := N_are_letters) (sc := (defScope s_are_letters)) (by decide +kernel)) (fun _ _ _ _ _ => (pg_name (i := 1) sc_are_letters.nd rfl (by first | exact Or.inl rfl | exact Or.inr rfl))) (fun _ _ _ _ _ => pts_nil) (fun _ _ _ _ _ => (pe_cmpR op_eqIS (pe_bmS' PySem.F.plainAttrs_tuple PySem.F.slot_tuple_count PySem.F.type_tuple_count mt_tcountS' (pv 0) (pa_cons (pv 1) pa_nil)) pe_int (nomark _)))) pa_nil))))), ?_⟩
    have hml : (l.map V.str).length ≤ 1000 := by rw [List.length_map]; omega
    refine ⟨_, rfl, _, _, _, _, rfl, (ha).ty, kit_tt, true, rfl, iteF ?_⟩
    refine ⟨_, rfl, _, l.length, rfl, .inr (.inr ⟨_, _, rfl, ha, (List.length_map _).symm⟩), _, 12, rfl, rfl, _, rfl, iteDF (by omega) ?_⟩
    -- all([is_letter(one) for one in value])
    refine ⟨_, rfl, a, rfl, ⟨_, ha.sq⟩, fun D nD => all_lcW walk_tup nD hml (fun H' s => (ha.same s).sq) (fun i x H1 H2 R hi s1 y k => ?_) fun H1 s1 e => ⟨D, List.replicate (l.map V.str).length true, rfl, .of e, true, by rw [all_true], iteF ?_⟩⟩
    · obtain ⟨rfl, hx⟩ := y
      obtain ⟨z, hz, rfl⟩ := strs_at hx
      exact ⟨rfl, _, rfl, z, rfl, hL z (List.mem_of_getElem? hz), fun H4 s4 => k H4 s4⟩
    -- all([value.count(one) == 1 for one in value])
    have ha1 := ha.same s1
    refine ⟨_, rfl, a, rfl, ⟨_, ha1.sq⟩, fun D nD => all_lcW walk_tup nD hml (fun H' s => (ha1.same s).sq) (fun i x H2 H3 R hi s2 y k => ?_) fun H2 s2 e => ⟨D, List.replicate (l.map V.str).length true, rfl, .of e, by rw [all_true]; exact q _ (s1.trans s2)⟩⟩
    obtain ⟨rfl, hx⟩ := y
    obtain ⟨z, hz, rfl⟩ := strs_at hx
    have ha2 := ha1.same s2
    refine ⟨rfl, _, rfl, ⟨_, _, rfl, ha2⟩, _, rfl, a, l, z, rfl, rfl, ha2, _, 1, rfl, rfl, ?_⟩
    rw [hnd.count, if_pos (List.mem_of_getElem? hz)]
    exact k _ (Same.refl _)
def spIsOrder : Sp := fun vs H Q _ => ∃ v o, vs = [v] ∧ IsOrd H v o ∧ OrdOk o ∧ ∀ H', Same H H' → Q (.bl true) H'
theorem ok_is_order (T : Txt K mg) : Calls P w K mg base 3 "is_order" ["value"] spIsOrder := by
  have C_are_letters := ok_are_letters (P := P) (w := w) (base := base) T
  have C_is_level := ok_is_level (P := P) (w := w) (base := base) T
  refine mk_is_order T (fun vs H Q E h => ?_) (fun cdv A outer s H vs Q E hr h => ?_)
  · obtain ⟨v, l, rfl, _⟩ := h
    rfl
  · obtain ⟨v, ⟨L, S⟩, rfl, ⟨a, b, c, rfl, ha, hb, hc⟩, ok, q⟩ := h
    refine ⟨_, (pss_cons (ps_if (PW.pt (pw_or (pt_not (pt_val (pe_callB (call_isiS (K := K) rfl) (by rfl) T.f_isinstance boot_isinstance' (pa_cons (pv 0) (pa_cons (pe_bltn (v := .ty "tuple") (by rfl) T.f_tuple boot_tuple' rfl) pa_nil))))) (pw_or (pt_cmpR op_neIS (pe_callB (call_lenS (K := K) rfl) (by rfl) T.f_len boot_len' (pa_cons (pv 0) pa_nil)) pe_int (nomark _)) (pw_or1 (pt_not (pt_val (pe_callC C_are_letters (hr.mono (by decide)) (by rfl) (pa_cons (pe_ix ix_tupS (pv 0) pe_int (fun _ _ => rfl)) pa_nil)))))))) (pss_one (ps_ret pe_bl)) pss_nil)
  (pss_cons (ps_asg (pv 0) (pg_tupK (K := K) (n := 2) rfl rfl (pgs_cons (pg_name (i := 1) sc_is_order.nd rfl (by first | exact Or.inl rfl | exact Or.inr rfl)) (pgs_cons (pg_name (i := 2) sc_is_order.nd rfl (by first | exact Or.inl rfl | exact Or.inr rfl)) pgs_nil))))
  (pss_cons (ps_if (PW.pt (pw_or (pt_not (pt_val (pe_callB (call_isiS (K := K) rfl) (by rfl) T.f_isinstance boot_isinstance' (pa_cons (pv 2) (pa_cons (pe_bltn (v := .ty "tuple") (by rfl) T.f_tuple boot_tuple' rfl) pa_nil))))) (pw_or1 (pt_cmpR op_neIS (pe_callB (call_lenS (K := K) rfl) (by rfl) T.f_len boot_len' (pa_cons (pv 2) pa_nil)) (pe_callB (call_max2 rfl) (by rfl) T.f_max boot_max' (pa_cons pe_int (pa_cons (pe_op op_sub (pe_callB (call_lenS (K := K) rfl) (by rfl) T.f_len boot_len' (pa_cons (pv 1) pa_nil)) pe_int) pa_nil))) (nomark _))))) (pss_one (ps_ret pe_bl)) pss_nil)
  (pss_one (ps_ret (pe_callB (cr_allK (K := K) rfl rfl) (by rfl) T.f_all boot_all' (pa_cons (pe_lc (own := [("one", 3)]) (by rfl) sc_is_order.nd (pi_tupK (K := K) rfl (pv 2)) (blkOk_by (own := [("one", 3)]) (N := N_is_order) (sc := (defScope s_is_order)) (by decide +kernel)) (fun _ _ _ _ _ => (pg_name (i := 3) sc_is_order.nd rfl (by first | exact Or.inl rfl | exact Or.inr rfl))) (fun _ _ _ _ _ => pts_nil) (fun _ _ _ _ _ => (pe_callC C_is_level (hr.mono (by decide)) (by rfl) (pa_cons (pv 3) pa_nil)))) pa_nil))))))), ?_⟩
    refine ⟨_, rfl, _, _, _, _, rfl, (ha).ty, kit_tt, true, rfl, iteF ?_⟩
    refine ⟨_, rfl, _, 2, rfl, .inr (.inr ⟨_, _, rfl, ha, rfl⟩), 2, 2, rfl, rfl, _, rfl, iteNF rfl ?_⟩
    refine ⟨_, rfl, _, _, _, _, _, rfl, rfl, (ha), rfl, (rfl), b, L, rfl, hb, ok.most, ok.nd, ok.lets, fun H1 s1 => ⟨true, rfl, iteF ?_⟩⟩
    have ha1 := ha.same s1
    have hb1 := hb.same s1
    have hc1 := hc.same s1
    -- letters, strengths = value
    refine ⟨_, rfl, a, _, rfl, ha1.sq, rfl, _, _, rfl, _, _, rfl, rfl, ?_⟩
    refine ⟨_, rfl, _, _, _, _, rfl, (hc1).ty, kit_tt, true, rfl, iteF ?_⟩
    refine ⟨_, rfl, _, S.length, rfl, .inr (.inr ⟨_, _, rfl, hc1, (List.length_map _).symm⟩), ?_⟩
    refine ⟨_, rfl, _, L.length, rfl, .inr (.inr ⟨_, _, rfl, hb1, (List.length_map _).symm⟩), _, 1, rfl, rfl, 0, _, rfl, _, _, rfl, rfl, _, rfl, iteNF ?_ ?_⟩
    · have := ok.len
      show (S.length : Int) = if (L.length : Int) - 1 > 0 then (L.length : Int) - 1 else 0
      have e : S.length = L.length - 1 := this
      split <;> omega
    refine ⟨_, rfl, c, rfl, ⟨_, hc1.sq⟩, fun D nD => all_lcW walk_tup nD ?_ (fun H' s => (hc1.same s).sq) (fun i x H2 H3 R hi s2 y k => ?_) fun H2 s2 e => ⟨D, List.replicate (S.map V.int).length true, rfl, .of e, by rw [all_true]; exact q _ (s1.trans s2)⟩⟩
    · have e : S.length = L.length - 1 := ok.len
      have m : L.length ≤ 12 := ok.most
      show (S.map V.int).length ≤ 1000
      rw [List.length_map]
      omega
    · obtain ⟨rfl, hx⟩ := y
      obtain ⟨z, hz, rfl⟩ := ints_at hx
      obtain ⟨g1, g2⟩ := ok.str z (List.mem_of_getElem? hz)
      exact ⟨rfl, _, rfl, z, rfl, g1, g2, fun H4 s4 => k H4 s4⟩
def spChkOrder : Sp := fun vs H Q _ => ∃ v o n, vs = [v, .str n] ∧ IsOrd H v o ∧ OrdOk o ∧ ∀ H', Same H H' → Q .non H'
theorem ok_check_order_orders (T : Txt K mg) : Calls P w K mg base 4 "check_order_orders" ["order", "name"] spChkOrder := by
  have C_is_order := ok_is_order (P := P) (w := w) (base := base) T
  refine mk_check_order_orders T (fun vs H Q E h => ?_) (fun cdv A outer s H vs Q E hr h => ?_)
  · obtain ⟨v, l, n, rfl, _⟩ := h
    rfl
  · obtain ⟨v, o, n, rfl, ho, ok, q⟩ := h
    refine ⟨_, (pss_one (ps_if (pt_not (pt_val (pe_callC C_is_order (hr.mono (by decide)) (by rfl) (pa_cons (pv 0) pa_nil)))) (pss_one ps_never) pss_nil)), ?_⟩
    exact ⟨_, rfl, v, o, rfl, ho, ok, fun H1 s1 => ⟨true, rfl, iteF (q _ s1)⟩⟩
theorem ok_check_order_rules (T : Txt K mg) : Calls P w K mg base 4 "check_order_rules" ["order", "name"] spChkOrder := by
  have C_is_order := ok_is_order (P := P) (w := w) (base := base) T
  refine mk_check_order_rules T (fun vs H Q E h => ?_) (fun cdv A outer s H vs Q E hr h => ?_)
  · obtain ⟨v, l, n, rfl, _⟩ := h
    rfl
  · obtain ⟨v, o, n, rfl, ho, ok, q⟩ := h
    refine ⟨_, (pss_one (ps_if (pt_not (pt_val (pe_callC C_is_order (hr.mono (by decide)) (by rfl) (pa_cons (pv 0) pa_nil)))) (pss_one ps_never) pss_nil)), ?_⟩
    exact ⟨_, rfl, v, o, rfl, ho, ok, fun H1 s1 => ⟨true, rfl, iteF (q _ s1)⟩⟩
end
end Pf
namespace Pf
open PySem
/-! ### places -/
def idx : List Str → Str → Nat
  | [], _ => 0
  | y :: r, z => if y = z then 0 else idx r z + 1
theorem idx_get : ∀ {l : List Str} {z : Str}, z ∈ l → l[idx l z]? = some z
  | y :: r, z, h => by
    unfold idx
    by_cases e : y = z
    · rw [if_pos e, e]; rfl
    · rw [if_neg e]
      have h' : z ∈ r := (List.mem_cons.mp h).resolve_left (fun q => e q.symm)
      simpa using idx_get h'
theorem idx_first : ∀ {l : List Str} {z : Str} {m : Nat}, m < idx l z → l[m]? ≠ some z
  | [], _, m, _ => by simp
  | y :: r, z, m, h => by
    unfold idx at h
    by_cases e : y = z
    · rw [if_pos e] at h; exact absurd h (Nat.not_lt_zero _)
    · rw [if_neg e] at h
      cases m with
      | zero => intro q; exact e (Option.some.inj q)
      | succ m => simpa using idx_first (l := r) (z := z) (m := m) (by omega)
theorem idx_lt {l : List Str} {z : Str} (h : z ∈ l) : idx l z < l.length := (List.getElem?_eq_some_iff.mp (idx_get h)).1
theorem nodup_at {α : Type} {l : List α} (hN : l.Nodup) {i j : Nat} {x : α} (a : l[i]? = some x) (b : l[j]? = some x) : i = j := by
  obtain ⟨h1, e1⟩ := List.getElem?_eq_some_iff.mp a
  obtain ⟨h2, e2⟩ := List.getElem?_eq_some_iff.mp b
  exact (List.getElem_inj hN).mp (e1.trans e2.symm)
theorem nd_rev {α : Type} {l : List α} (h : l.Nodup) : l.reverse.Nodup := by
  unfold List.Nodup at *
  rw [List.pairwise_reverse]
  exact h.imp fun q e => q e.symm
theorem idx_rev {l : List Str} {z : Str} (hN : l.Nodup) (h : z ∈ l) : idx l.reverse z = l.length - 1 - idx l z := by
  have hr : z ∈ l.reverse := List.mem_reverse.mpr h
  have h1 := idx_get hr
  have h2 := idx_get h
  have hl := idx_lt h
  refine nodup_at (nd_rev hN) h1 ?_
  rw [List.getElem?_reverse (by omega), show l.length - 1 - (l.length - 1 - idx l z) = idx l z by omega]
  exact h2
/-! ### the rows of pairs (the strength before a letter, the letter) -/
abbrev Row := List (Int × Str)
def reach : Row → Str → Option Int
  | [], _ => none
  | (s, l) :: r, y => if l = y then some s else (reach r y).map (min s)
def fd : Row → Str → Str → Option Int
  | [], _, _ => none
  | (_, l) :: r, x, y => if l = x then reach r y else fd r x y
def rmP : Row → Str → Row
  | [], _ => []
  | (s, l) :: r, z => if l = z then (match r with
    | [] => []
    | (s', l') :: r' => (min s s', l') :: r') else (s, l) :: rmP r z
theorem map_min (a b : Int) (o : Option Int) : (o.map (min b)).map (min a) = o.map (min (min a b)) := by
  cases o with
  | none => rfl
  | some v =>
    show some (min a (min b v)) = some (min (min a b) v)
    congr 1
    omega
theorem reach_rm : ∀ (P : Row) {z y : Str}, y ≠ z → reach (rmP P z) y = reach P y
  | [], _, _, _ => rfl
  | (s, l) :: r, z, y, h => by
    unfold rmP
    by_cases e : l = z
    · rw [if_pos e]
      have hy : l ≠ y := fun q => h (q.symm.trans e)
      match r with
      | [] => simp [reach, hy]
      | (s', l') :: r' =>
        simp only [reach, if_neg hy]
        by_cases e' : l' = y
        · simp [e']
        · simp only [if_neg e']
          rw [map_min]
    · rw [if_neg e]
      simp only [reach]
      rw [reach_rm r h]
theorem fd_rm : ∀ (P : Row) {z x y : Str}, x ≠ z → y ≠ z → fd (rmP P z) x y = fd P x y
  | [], _, _, _, _, _ => rfl
  | (s, l) :: r, z, x, y, hx, hy => by
    unfold rmP
    by_cases e : l = z
    · rw [if_pos e]
      have hlx : l ≠ x := fun q => hx (q.symm.trans e)
      match r with
      | [] => simp [fd, hlx]
      | (s', l') :: r' => simp [fd, hlx]
    · rw [if_neg e]
      simp only [fd]
      by_cases e' : l = x
      · rw [if_pos e', if_pos e', reach_rm r hy]
      · rw [if_neg e', if_neg e', fd_rm r hx hy]
theorem reach_le : ∀ {P : Row} {s : Int} {l y : Str} {d : Int}, reach ((s, l) :: P) y = some d → d ≤ s
  | P, s, l, y, d, h => by
    unfold reach at h
    split at h
    · exact Int.le_of_eq (Option.some.inj h).symm
    · cases e : reach P y with
      | none => rw [e] at h; cases h
      | some v =>
        rw [e] at h
        have : min s v = d := Option.some.inj h
        omega
/-- put in behind A -/
theorem reach_insA (B : Row) {s : Int} {z y : Str} (hy : y ≠ z) (hB : ∀ p, B.head? = some p → p.1 ≤ s) : ∀ A : Row, reach (A ++ (s, z) :: B) y = reach (A ++ B) y
  | [] => by
    show (if z = y then some s else (reach B y).map (min s)) = reach B y
    rw [if_neg (fun q => hy q.symm)]
    cases e : reach B y with
    | none => rfl
    | some v =>
      match B, hB, e with
      | (s', l') :: B', hB, e =>
        have h1 := reach_le e
        have h2 := hB (s', l') rfl
        have h3 : s' ≤ s := h2
        have : min s v = v := by omega
        show some (min s v) = some v
        rw [this]
  | (s', l') :: A => by
    show reach ((s', l') :: (A ++ (s, z) :: B)) y = reach ((s', l') :: (A ++ B)) y
    unfold reach
    rw [reach_insA B hy hB A]
theorem fd_insA (B : Row) {s : Int} {z x y : Str} (hx : x ≠ z) (hy : y ≠ z) (hB : ∀ p, B.head? = some p → p.1 ≤ s) : ∀ A : Row, fd (A ++ (s, z) :: B) x y = fd (A ++ B) x y
  | [] => by
    show fd ((s, z) :: B) x y = fd B x y
    conv => lhs; unfold fd
    rw [if_neg (fun q => hx q.symm)]
  | (s', l') :: A => by
    show fd ((s', l') :: (A ++ (s, z) :: B)) x y = fd ((s', l') :: (A ++ B)) x y
    unfold fd
    rw [reach_insA B hy hB A, fd_insA B hx hy hB A]
/-- put in ahead of (s0, l) -/
theorem reach_insB (B : Row) {s0 s : Int} {l z y : Str} (hy : y ≠ z) (h : s0 ≤ s) : ∀ A : Row, reach (A ++ (s0, z) :: (s, l) :: B) y = reach (A ++ (s0, l) :: B) y
  | [] => by
    show reach ((s0, z) :: (s, l) :: B) y = reach ((s0, l) :: B) y
    simp only [reach]
    rw [if_neg (fun q => hy q.symm)]
    by_cases e : l = y
    · rw [if_pos e, if_pos e]
      show some (min s0 s) = some s0
      congr 1
      omega
    · rw [if_neg e, if_neg e, map_min]
      congr 2
      omega
  | (s', l') :: A => by
    show reach ((s', l') :: (A ++ (s0, z) :: (s, l) :: B)) y = reach ((s', l') :: (A ++ (s0, l) :: B)) y
    unfold reach
    rw [reach_insB B hy h A]
theorem fd_insB (B : Row) {s0 s : Int} {l z x y : Str} (hx : x ≠ z) (hy : y ≠ z) (h : s0 ≤ s) : ∀ A : Row, fd (A ++ (s0, z) :: (s, l) :: B) x y = fd (A ++ (s0, l) :: B) x y
  | [] => by
    show fd ((s0, z) :: (s, l) :: B) x y = fd ((s0, l) :: B) x y
    simp only [fd]
    rw [if_neg (fun q => hx q.symm)]
  | (s', l') :: A => by
    show fd ((s', l') :: (A ++ (s0, z) :: (s, l) :: B)) x y = fd ((s', l') :: (A ++ (s0, l) :: B)) x y
    unfold fd
    rw [reach_insB B hy h A, fd_insB B hx hy h A]
/-! ### orders as rows -/
/-- o is the row P -/
structure Rep (o : Ord) (P : Row) : Prop where
  lets : o.1 = P.map (·.2)
  str : o.2 = (P.map (·.1)).tail
  hd : ∀ p, P.head? = some p → p.1 = 1
theorem zip_snd {α β : Type} : ∀ (a : List α) (b : List β), b.length ≤ a.length → (List.zip a b).map (·.2) = b
  | _, [], _ => by simp
  | [], _ :: _, h => by simp at h
  | x :: a, y :: b, h => by simp [zip_snd a b (by simpa using h)]
theorem zip_fst {α β : Type} : ∀ (a : List α) (b : List β), a.length ≤ b.length → (List.zip a b).map (·.1) = a
  | [], _, _ => by simp
  | _ :: _, [], h => by simp at h
  | x :: a, y :: b, h => by simp [zip_fst a b (by simpa using h)]
def rowOf (o : Ord) : Row := List.zip (1 :: o.2) o.1
theorem rep_row {o : Ord} (h : o.2.length = o.1.length - 1) (hn : o.1 ≠ []) : Rep o (rowOf o) := by
  have hl : o.1.length ≠ 0 := fun e => hn (List.length_eq_zero_iff.mp e)
  unfold rowOf
  refine ⟨(zip_snd _ _ (by simp; omega)).symm, ?_, ?_⟩
  · rw [zip_fst _ _ (by simp; omega)]
    rfl
  · intro p hp
    match h1 : o.1, hp with
    | y :: r, hp =>
      simp at hp
      rw [← hp]
theorem zip_row : ∀ r : Row, List.zip (r.map (·.1)) (r.map (·.2)) = r
  | [] => rfl
  | p :: r => by
    show (p.1, p.2) :: List.zip (r.map (·.1)) (r.map (·.2)) = p :: r
    rw [zip_row r]
theorem Rep.row {o : Ord} {P : Row} (h : Rep o P) (hn : P ≠ []) : rowOf o = P := by
  obtain ⟨h1, h2, h3⟩ := h
  unfold rowOf
  rw [h1, h2]
  match P, hn, h3 with
  | (s, l) :: r, _, h3 =>
    have e : s = 1 := h3 (s, l) rfl
    subst e
    show (1, l) :: List.zip (r.map (·.1)) (r.map (·.2)) = (1, l) :: r
    rw [zip_row r]
/-- a row cut at its k-th letter -/
theorem cut_row {P : Row} {k : Nat} {z : Str} (h : (P.map (·.2))[k]? = some z) : ∃ A s B, P = A ++ (s, z) :: B ∧ A.length = k := by
  induction P generalizing k with
  | nil => simp at h
  | cons p r ih =>
    cases k with
    | zero =>
      have e : p.2 = z := by simpa using h
      exact ⟨[], p.1, r, by simp [← e], rfl⟩
    | succ k =>
      obtain ⟨A, s, B, e, hl⟩ := ih (k := k) (by simpa using h)
      exact ⟨p :: A, s, B, by rw [e]; rfl, by simp [hl]⟩
theorem rm_cut : ∀ {A : Row} {s : Int} {z : Str} {B : Row}, z ∉ A.map (·.2) → rmP (A ++ (s, z) :: B) z = A ++ (match B with
    | [] => []
    | (s', l') :: B' => (min s s', l') :: B')
  | [], s, z, B, _ => by
    show rmP ((s, z) :: B) z = _
    unfold rmP
    rw [if_pos rfl]
    rfl
  | (s', l') :: A, s, z, B, h => by
    have h1 : ¬ l' = z := fun e => h (by simp [e])
    have h2 : z ∉ A.map (·.2) := fun q => h (by simp at q ⊢; exact .inr q)
    show rmP ((s', l') :: (A ++ (s, z) :: B)) z = _
    unfold rmP
    rw [if_neg h1, rm_cut h2]
    rfl
/-! ### removed -/
def rmS (S : List Int) (n k : Nat) : List Int :=
  if k = 0 then S.drop 1 else if k = n - 1 then S.take (S.length - 1) else S.take (k - 1) ++ [if S.getD k 0 < S.getD (k - 1) 0 then S.getD k 0 else S.getD (k - 1) 0] ++ S.drop (k + 1)
def removedM (o : Ord) (z : Str) : Ord := (o.1.take (idx o.1 z) ++ o.1.drop (idx o.1 z + 1), rmS o.2 o.1.length (idx o.1 z))
theorem rep_removed {o : Ord} {P : Row} {z : Str} (h : Rep o P) (nd : o.1.Nodup) (hz : z ∈ o.1) (hlo : ∀ s ∈ o.2, 1 ≤ s) : Rep (removedM o z) (rmP P z) := by
  obtain ⟨L, S⟩ := o
  obtain ⟨h1, h2, h3⟩ := h
  simp only at h1 h2 nd hz hlo
  have hk := idx_get hz
  have hkl := idx_lt hz
  unfold removedM
  simp only
  generalize hkk : idx L z = k at hk hkl
  have hk' : (P.map (·.2))[k]? = some z := by rw [← h1]; exact hk
  obtain ⟨A, s, B, e, hA⟩ := cut_row hk'
  have hzA : z ∉ A.map (·.2) := by
    intro q
    rw [h1, e, List.map_append] at nd
    have := (List.nodup_append.mp nd).2.2
    exact this z q z (by simp) rfl
  rw [e, rm_cut hzA]
  subst hA
  have eL : L = A.map (·.2) ++ z :: B.map (·.2) := by rw [h1, e]; simp
  have tk : L.take A.length ++ L.drop (A.length + 1) = A.map (·.2) ++ B.map (·.2) := by
    have l1 : (A.map (·.2)).length = A.length := List.length_map _
    rw [eL, List.take_append_of_le_length (by omega), ← l1, List.take_length]
    rw [show (A.map (·.2)).length + 1 = (A.map (·.2) ++ [z]).length by simp, show A.map (·.2) ++ z :: B.map (·.2) = (A.map (·.2) ++ [z]) ++ B.map (·.2) by simp, List.drop_left]
  have lL : L.length = A.length + 1 + B.length := by rw [eL]; simp; omega
  rw [tk, lL]
  match A, B, e, eL, h2, h3 with
  | [], [], e, eL, h2, h3 => exact ⟨rfl, by subst e; subst h2; rfl, fun p hp => by cases hp⟩
  | [], (s', l') :: B', e, eL, h2, h3 =>
    have es : s = 1 := h3 (s, z) (by rw [e]; rfl)
    subst e
    have hs' : 1 ≤ s' := hlo s' (by rw [h2]; simp)
    refine ⟨by simp, ?_, fun p hp => ?_⟩
    · subst h2
      simp [rmS]
    · have hp' : (min s s', l') = p := Option.some.inj hp
      rw [← hp']
      show min s s' = 1
      omega
  | (s0, l0) :: A', [], e, eL, h2, h3 =>
    subst e
    refine ⟨by simp, ?_, fun p hp => h3 p hp⟩
    have e2 : S = A'.map (·.1) ++ [s] := by rw [h2]; simp
    subst e2
    simp [rmS]
  | (s0, l0) :: A', (s', l') :: B', e, eL, h2, h3 =>
    subst e
    refine ⟨by simp, ?_, fun p hp => h3 p hp⟩
    have e2 : S = A'.map (·.1) ++ s :: s' :: B'.map (·.1) := by rw [h2]; simp
    have l1 : (A'.map (·.1)).length = A'.length := List.length_map _
    have g1 : S.getD (A'.length + 1) 0 = s' := by rw [e2]; simp [List.getD_eq_getElem?_getD, List.getElem?_append_right, l1]
    have g0 : S.getD A'.length 0 = s := by rw [e2]; simp [List.getD_eq_getElem?_getD, List.getElem?_append_right, l1]
    have t1 : S.take A'.length = A'.map (·.1) := by rw [e2, ← l1, List.take_left]
    have t2 : S.drop (A'.length + 2) = B'.map (·.1) := by
      rw [e2, show A'.length + 2 = (A'.map (·.1) ++ [s, s']).length by simp, show A'.map (·.1) ++ s :: s' :: B'.map (·.1) = (A'.map (·.1) ++ [s, s']) ++ B'.map (·.1) by simp, List.drop_left]
    show rmS S (A'.length + 1 + 1 + (B'.length + 1)) (A'.length + 1) = _
    unfold rmS
    rw [if_neg (by omega), if_neg (by omega), show A'.length + 1 - 1 = A'.length by omega, g1, g0, t1, show A'.length + 1 + 1 = A'.length + 2 by rfl, t2]
    have em : (if s' < s then s' else s) = min s s' := by
      split <;> omega
    rw [em]
    simp
end Pf
namespace Pf
open PySem
/-! ### put -/
def runM (s : Int) : List Int → Nat
  | [] => 0
  | x :: r => if s < x then runM s r + 1 else 0
theorem runM_le (s : Int) : ∀ l : List Int, runM s l ≤ l.length
  | [] => Nat.le_refl _
  | x :: r => by
    unfold runM
    have := runM_le s r
    split <;> simp <;> omega
theorem runM_end (s : Int) : ∀ l : List Int, runM s l = l.length ∨ ∃ x, l[runM s l]? = some x ∧ x ≤ s
  | [] => .inl rfl
  | x :: r => by
    unfold runM
    by_cases h : s < x
    · rw [if_pos h]
      rcases runM_end s r with e | ⟨y, e, hy⟩
      · exact .inl (by rw [e]; rfl)
      · exact .inr ⟨y, by simpa using e, hy⟩
    · rw [if_neg h]
      exact .inr ⟨x, rfl, by omega⟩
def stop (S : List Int) (s : Int) (a : Nat) : Nat := a + runM s (S.drop a)
theorem stop_step {S : List Int} {s : Int} {a : Nat} {x : Int} (h : S[a]? = some x) (hx : s < x) : stop S s (a + 1) = stop S s a := by
  unfold stop
  obtain ⟨hl, e⟩ := List.getElem?_eq_some_iff.mp h
  rw [List.drop_eq_getElem_cons hl, e]
  conv => rhs; unfold runM
  rw [if_pos hx]
  omega
theorem stop_end {S : List Int} {s : Int} {a : Nat} (h : S.length ≤ a ∨ ∃ x, S[a]? = some x ∧ ¬ s < x) : stop S s a = a := by
  unfold stop
  rcases h with h | ⟨x, h, hx⟩
  · rw [List.drop_of_length_le h]
    rfl
  · obtain ⟨hl, e⟩ := List.getElem?_eq_some_iff.mp h
    rw [List.drop_eq_getElem_cons hl, e]
    unfold runM
    rw [if_neg hx]
    rfl
theorem stop_le {S : List Int} {s : Int} {a : Nat} (h : a ≤ S.length) : stop S s a ≤ S.length := by
  have := runM_le s (S.drop a)
  rw [List.length_drop] at this
  unfold stop
  omega
theorem stop_fin {S : List Int} {s : Int} {a : Nat} (h : a ≤ S.length) : stop S s a = S.length ∨ ∃ x, S[stop S s a]? = some x ∧ x ≤ s := by
  unfold stop
  rcases runM_end s (S.drop a) with e | ⟨x, e, hx⟩
  · rw [List.length_drop] at e
    exact .inl (by omega)
  · rw [List.getElem?_drop] at e
    exact .inr ⟨x, e, hx⟩
def back (S : List Int) (s : Int) : Nat → Nat
  | 0 => 0
  | p + 1 => if s < S.getD p 0 then back S s p else p + 1
theorem back_le (S : List Int) (s : Int) : ∀ p, back S s p ≤ p
  | 0 => Nat.le_refl _
  | p + 1 => by
    unfold back
    have := back_le S s p
    split <;> omega
theorem back_eq (S : List Int) (s : Int) : ∀ p, p ≤ S.length → back S s p = S.length - stop S.reverse s (S.length - p)
  | 0, _ => by
    rw [stop_end (.inl (by rw [List.length_reverse]; omega))]
    unfold back
    omega
  | p + 1, h => by
    have ih := back_eq S s p (by omega)
    have g : S.reverse[S.length - (p + 1)]? = some (S.getD p 0) := by
      rw [List.getElem?_reverse (by omega), show S.length - 1 - (S.length - (p + 1)) = p by omega, List.getD_eq_getElem?_getD, List.getElem?_eq_getElem (by omega)]
      rfl
    unfold back
    by_cases hx : s < S.getD p 0
    · rw [if_pos hx, ih, ← stop_step g hx, show S.length - (p + 1) + 1 = S.length - p by omega]
    · rw [if_neg hx, stop_end (.inr ⟨_, g, hx⟩)]
      omega
def putAt (o : Ord) (k : Nat) (s : Int) (z : Str) : Ord := (o.1.take (k + 1) ++ [z] ++ o.1.drop (k + 1), o.2.take k ++ [s] ++ o.2.drop k)
def putB (o : Ord) (p : Nat) (s : Int) (z : Str) : Ord := (o.1.take p ++ [z] ++ o.1.drop p, o.2.take p ++ [s] ++ o.2.drop p)
def putAfterM (o : Ord) (a : Str) (s : Int) (z : Str) : Ord := putAt o (stop o.2 s (idx o.1 a)) s z
def turnM (o : Ord) : Ord := (o.1.reverse, o.2.reverse)
def baseM (o : Ord) (z : Str) : Ord := if z ∈ o.1 then removedM o z else o
def putM (o : Ord) (r : Rule) : Ord := if r.after then putAfterM (baseM o r.z) r.anchor r.s r.z else turnM (putAfterM (turnM (baseM o r.z)) r.anchor r.s r.z)
theorem turn_put {o : Ord} {k : Nat} {s : Int} {z : Str} (h : o.1.length = o.2.length + 1) (hk : k ≤ o.2.length) : turnM (putAt (turnM o) k s z) = putB o (o.2.length - k) s z := by
  obtain ⟨L, S⟩ := o
  simp only at h hk
  unfold turnM putAt putB
  simp only [List.reverse_append, List.reverse_cons, List.reverse_nil, List.nil_append, List.take_reverse, List.drop_reverse, List.reverse_reverse, Prod.mk.injEq]
  rw [show L.length - (k + 1) = S.length - k by omega]
  simp
theorem rep_after {o : Ord} {P : Row} {k : Nat} {s : Int} {z : Str} (h : Rep o P) (hn : P ≠ []) (hk : k = o.2.length ∨ ∃ x, o.2[k]? = some x ∧ x ≤ s) :
    ∃ A B, P = A ++ B ∧ A ≠ [] ∧ (∀ p, B.head? = some p → p.1 ≤ s) ∧ Rep (putAt o k s z) (A ++ (s, z) :: B) := by
  obtain ⟨L, S⟩ := o
  obtain ⟨h1, h2, h3⟩ := h
  simp only at h1 h2 hk
  match P, hn, h1, h2, h3 with
  | p0 :: Pt, _, h1, h2, h3 =>
    have e1 : L = p0.2 :: Pt.map (·.2) := h1
    have e2 : S = Pt.map (·.1) := h2
    refine ⟨p0 :: Pt.take k, Pt.drop k, by simp, by simp, fun p hp => ?_, ?_, ?_, fun p hp => h3 p hp⟩
    · have hp' : Pt[k]? = some p := by rw [List.head?_drop] at hp; exact hp
      rcases hk with hk | ⟨x, hk, hx⟩
      · have : k < Pt.length := (List.getElem?_eq_some_iff.mp hp').1
        rw [hk, e2, List.length_map] at this
        exact absurd this (Nat.lt_irrefl _)
      · rw [e2, List.getElem?_map, hp'] at hk
        have : p.1 = x := Option.some.inj hk
        omega
    · show L.take (k + 1) ++ [z] ++ L.drop (k + 1) = _
      rw [e1]
      simp
    · show S.take k ++ [s] ++ S.drop k = _
      rw [e2]
      simp
theorem rep_before {o : Ord} {P : Row} {p : Nat} {s : Int} {z : Str} (h : Rep o P) (hp : p < P.length) (hs : 1 ≤ s) (hk : p = 0 ∨ ∃ x, o.2[p - 1]? = some x ∧ x ≤ s) :
    ∃ A s0 l B, P = A ++ (s0, l) :: B ∧ s0 ≤ s ∧ Rep (putB o p s z) (A ++ (s0, z) :: (s, l) :: B) := by
  obtain ⟨L, S⟩ := o
  obtain ⟨h1, h2, h3⟩ := h
  simp only at h1 h2 hk
  have eP : P = P.take p ++ (P[p].1, P[p].2) :: P.drop (p + 1) := by
    conv => lhs; rw [← List.take_append_drop p P, List.drop_eq_getElem_cons hp]
  refine ⟨P.take p, P[p].1, P[p].2, P.drop (p + 1), eP, ?_, ?_, ?_, ?_⟩
  · cases p with
    | zero =>
      have : P[0].1 = 1 := h3 P[0] (by rw [List.head?_eq_getElem?]; exact List.getElem?_eq_getElem hp)
      omega
    | succ p =>
      rcases hk with hk | ⟨x, hk, hx⟩
      · cases hk
      · rw [h2, Nat.add_sub_cancel, List.getElem?_tail, List.getElem?_map, List.getElem?_eq_getElem hp] at hk
        have : P[p + 1].1 = x := Option.some.inj hk
        omega
  · show L.take p ++ [z] ++ L.drop p = _
    have ed : (P.map (·.2)).drop p = P[p].2 :: (P.drop (p + 1)).map (·.2) := by
      rw [← List.map_drop, List.drop_eq_getElem_cons hp]
      rfl
    rw [h1, ed, ← List.map_take]
    simp
  · show S.take p ++ [s] ++ S.drop p = _
    cases p with
    | zero =>
      match P, hp, h2 with
      | p0 :: Pt, hp, h2 =>
        rw [h2]
        simp
    | succ p =>
      match P, hp, h2 with
      | p0 :: Pt, hp, h2 =>
        have hp' : p < Pt.length := by simpa using hp
        have e2 : S = Pt.map (·.1) := h2
        have et : (Pt.map (·.1)).take (p + 1) = (Pt.take p).map (·.1) ++ [Pt[p].1] := by
          rw [List.take_add_one, List.getElem?_map, List.getElem?_eq_getElem hp', ← List.map_take]
          rfl
        rw [e2, et]
        simp
  · intro q hq
    cases p with
    | zero =>
      have e : P[0].1 = 1 := h3 P[0] (by rw [List.head?_eq_getElem?]; exact List.getElem?_eq_getElem hp)
      have : (P[0].1, z) = q := by simpa using hq
      rw [← this]
      exact e
    | succ p =>
      match P, hp, h3, hq with
      | p0 :: Pt, hp, h3, hq => exact h3 q (by simpa using hq)
/-! ### rows that are well -/
structure RowOk (P : Row) : Prop where
  nd : (P.map (·.2)).Nodup
  str : ∀ p ∈ P, 1 ≤ p.1 ∧ p.1 ≤ 3
theorem row_ok {o : Ord} (ok : OrdOk o) (hn : o.1 ≠ []) : Rep o (rowOf o) ∧ RowOk (rowOf o) ∧ rowOf o ≠ [] := by
  have r := rep_row ok.len hn
  refine ⟨r, ⟨by rw [← r.lets]; exact ok.nd, fun p hp => ?_⟩, fun e => ?_⟩
  · obtain ⟨i, hi, e⟩ := List.mem_iff_getElem.mp hp
    cases i with
    | zero =>
      have : p.1 = 1 := r.hd p (by rw [List.head?_eq_getElem?, List.getElem?_eq_getElem hi, e])
      omega
    | succ i =>
      refine ok.str p.1 ?_
      rw [r.str]
      refine List.mem_of_getElem? (i := i) ?_
      rw [List.getElem?_tail, List.getElem?_map, List.getElem?_eq_getElem hi, e]
      rfl
  · have := r.lets
    rw [e] at this
    exact hn this
theorem ord_ok {o : Ord} {P : Row} (r : Rep o P) (k : RowOk P) (hl : ∀ l ∈ P.map (·.2), IsL l) (hm : P.length ≤ 12) : OrdOk o := by
  refine ⟨by rw [r.lets]; exact k.nd, by rw [r.str, r.lets]; simp, by rw [r.lets]; exact hl, by rw [r.lets, List.length_map]; exact hm, fun s hs => ?_⟩
  rw [r.str] at hs
  obtain ⟨p, hp, e⟩ := List.mem_map.mp (List.mem_of_mem_tail hs)
  rw [← e]
  exact k.str p hp
/-- what baseM leaves -/
theorem base_row {o : Ord} {z : Str} (ok : OrdOk o) (hn : o.1 ≠ []) : ∃ P, Rep (baseM o z) P ∧ RowOk P ∧ z ∉ P.map (·.2) ∧ (∀ x, x ∈ P.map (·.2) ↔ x ∈ o.1 ∧ x ≠ z) ∧
    P.length + (if z ∈ o.1 then 1 else 0) = o.1.length ∧ ∀ x y, x ≠ z → y ≠ z → fd P x y = fd (rowOf o) x y := by
  obtain ⟨r, k, _⟩ := row_ok ok hn
  unfold baseM
  by_cases hz : z ∈ o.1
  · rw [if_pos hz, if_pos hz]
    refine ⟨rmP (rowOf o) z, rep_removed r ok.nd hz fun s hs => (ok.str s hs).1, ?_⟩
    have hk : ((rowOf o).map (·.2))[idx o.1 z]? = some z := by rw [← r.lets]; exact idx_get hz
    obtain ⟨A, s, B, e, hA⟩ := cut_row hk
    have nd := k.nd
    rw [e, List.map_append, List.map_cons] at nd
    have nd1 := List.nodup_append.mp nd
    have hzA : z ∉ A.map (·.2) := fun q => nd1.2.2 z q z (by simp) rfl
    have hzB : z ∉ B.map (·.2) := (List.nodup_cons.mp nd1.2.1).1
    have ndB := (List.nodup_cons.mp nd1.2.1).2
    have eL : o.1 = A.map (·.2) ++ z :: B.map (·.2) := by rw [r.lets, e]; simp
    have key : ∃ B' : Row, rmP (rowOf o) z = A ++ B' ∧ B'.map (·.2) = B.map (·.2) ∧ ∀ p ∈ B', 1 ≤ p.1 ∧ p.1 ≤ 3 := by
      have hs : ∀ p ∈ A ++ (s, z) :: B, 1 ≤ p.1 ∧ p.1 ≤ 3 := by rw [← e]; exact k.str
      rw [e, rm_cut hzA]
      match B, hs with
      | [], _ => exact ⟨[], rfl, rfl, fun p hp => by cases hp⟩
      | (s', l') :: B', hs =>
        refine ⟨(min s s', l') :: B', rfl, rfl, fun p hp => ?_⟩
        have q1 := hs (s, z) (by simp)
        have q2 := hs (s', l') (by simp)
        rcases List.mem_cons.mp hp with rfl | hp
        · show 1 ≤ min s s' ∧ min s s' ≤ 3
          have q1' : 1 ≤ s ∧ s ≤ 3 := q1
          have q2' : 1 ≤ s' ∧ s' ≤ 3 := q2
          omega
        · exact hs p (by simp [hp])
    obtain ⟨B', e', eB, hB'⟩ := key
    rw [e']
    have em : (A ++ B').map (·.2) = A.map (·.2) ++ B.map (·.2) := by rw [List.map_append, eB]
    refine ⟨⟨?_, fun p hp => ?_⟩, ?_, fun x => ?_, ?_, fun x y hx hy => ?_⟩
    · rw [em]
      exact List.nodup_append.mpr ⟨nd1.1, ndB, fun a ha b hb => nd1.2.2 a ha b (by simp at hb ⊢; exact .inr hb)⟩
    · rcases List.mem_append.mp hp with hp | hp
      · exact k.str p (by rw [e]; exact List.mem_append_left _ hp)
      · exact hB' p hp
    · rw [em]
      exact fun q => (List.mem_append.mp q).elim hzA hzB
    · rw [em, eL]
      simp only [List.mem_append, List.mem_cons]
      constructor
      · rintro (q | q)
        · exact ⟨.inl q, fun h => hzA (h ▸ q)⟩
        · exact ⟨.inr (.inr q), fun h => hzB (h ▸ q)⟩
      · rintro ⟨q | q | q, hne⟩
        · exact .inl q
        · exact absurd q hne
        · exact .inr q
    · have l1 : (A ++ B').length = A.length + B.length := by
        have := congrArg List.length em
        simpa using this
      rw [l1, eL]
      simp
      omega
    · rw [← e', fd_rm _ hx hy]
  · rw [if_neg hz, if_neg hz]
    refine ⟨rowOf o, r, k, by rw [← r.lets]; exact hz, fun x => ?_, ?_, fun _ _ _ _ => rfl⟩
    · rw [← r.lets]
      exact ⟨fun h => ⟨h, fun e => hz (e ▸ h)⟩, fun h => h.1⟩
    · rw [r.lets]
      simp
def canM (o : Ord) (r : Rule) : Prop := r.anchor ∈ o.1 ∧ (r.z ∈ o.1 ∨ o.1.length < 12)
theorem ins_ok {A B : Row} {s : Int} {z : Str} (k : RowOk (A ++ B)) (hz : z ∉ (A ++ B).map (·.2)) (h1 : 1 ≤ s) (h2 : s ≤ 3) : RowOk (A ++ (s, z) :: B) := by
  refine ⟨?_, fun p hp => ?_⟩
  · have nd := k.nd
    rw [List.map_append] at nd hz ⊢
    have e : ((s, z) :: B).map (·.2) = z :: B.map (·.2) := rfl
    rw [e]
    exact (List.perm_middle.nodup_iff).mpr (List.nodup_cons.mpr ⟨hz, nd⟩)
  · rcases List.mem_append.mp hp with hp | hp
    · exact k.str p (List.mem_append_left _ hp)
    · rcases List.mem_cons.mp hp with rfl | hp
      · exact ⟨h1, h2⟩
      · exact k.str p (List.mem_append_right _ hp)
theorem put_row {o : Ord} {r : Rule} (ok : OrdOk o) (rk : RuleOk r) (can : canM o r) :
    OrdOk (putM o r) ∧ (∀ x, x ∈ (putM o r).1 ↔ x ∈ o.1 ∨ x = r.z) ∧ ∀ x y, x ≠ r.z → y ≠ r.z → fd (rowOf (putM o r)) x y = fd (rowOf o) x y := by
  have hn : o.1 ≠ [] := fun e => by
    have := can.1
    rw [e] at this
    cases this
  obtain ⟨P, rp, k, hz, hm, hl, hf⟩ := base_row (z := r.z) ok hn
  have ha : r.anchor ∈ P.map (·.2) := (hm _).mpr ⟨can.1, rk.ne⟩
  have hPn : P ≠ [] := fun e => by
    rw [e] at ha
    cases ha
  have hPlen : P.length < 12 := by
    rcases can.2 with h | h
    · rw [if_pos h] at hl
      have := ok.most
      omega
    · have : P.length ≤ o.1.length := by omega
      omega
  have hIsL : ∀ l ∈ P.map (·.2), IsL l := fun l h => ok.lets l ((hm l).mp h).1
  -- the row behind
  have go : ∀ P' : Row, Rep (putM o r) P' → RowOk P' → (∀ x, x ∈ P'.map (·.2) ↔ x ∈ P.map (·.2) ∨ x = r.z) → P'.length = P.length + 1 → (∀ x y, x ≠ r.z → y ≠ r.z → fd P' x y = fd P x y) →
      OrdOk (putM o r) ∧ (∀ x, x ∈ (putM o r).1 ↔ x ∈ o.1 ∨ x = r.z) ∧ ∀ x y, x ≠ r.z → y ≠ r.z → fd (rowOf (putM o r)) x y = fd (rowOf o) x y := by
    intro P' rp' k' hm' hl' hf'
    have hn' : P' ≠ [] := fun e => by
      rw [e] at hl'
      cases hl'
    refine ⟨ord_ok rp' k' (fun l h => ?_) (by omega), fun x => ?_, fun x y hx hy => ?_⟩
    · rcases (hm' l).mp h with h | h
      · exact hIsL l h
      · rw [h]
        exact rk.lett
    · rw [rp'.lets, hm', hm]
      constructor
      · rintro (h | h)
        · exact .inl h.1
        · exact .inr h
      · rintro (h | h)
        · by_cases e : x = r.z
          · exact .inr e
          · exact .inl ⟨h, e⟩
        · exact .inr h
    · rw [rp'.row hn', hf' x y hx hy, hf x y hx hy]
  have hlen : (baseM o r.z).1.length = (baseM o r.z).2.length + 1 := by
    rw [rp.lets, rp.str]
    cases P with
    | nil => exact absurd rfl hPn
    | cons _ _ => simp
  have hia : idx (baseM o r.z).1 r.anchor ≤ (baseM o r.z).2.length := by
    have := idx_lt (l := (baseM o r.z).1) (z := r.anchor) (by rw [rp.lets]; exact ha)
    omega
  unfold putM at go ⊢
  by_cases hside : r.after = true
  · simp only [if_pos hside] at go ⊢
    obtain ⟨A, B, e, hA, hB, rp'⟩ := rep_after (k := stop (baseM o r.z).2 r.s (idx (baseM o r.z).1 r.anchor)) (s := r.s) (z := r.z) rp hPn (stop_fin hia)
    subst e
    refine go _ rp' (ins_ok k hz rk.lo rk.hi) (fun x => ?_) (by simp; omega) fun x y hx hy => fd_insA B hx hy hB A
    simp only [List.map_append, List.map_cons, List.mem_append, List.mem_cons]
    constructor
    · rintro (h | h | h)
      · exact .inl (.inl h)
      · exact .inr h
      · exact .inl (.inr h)
    · rintro ((h | h) | h)
      · exact .inl h
      · exact .inr (.inr h)
      · exact .inr (.inl h)
  · simp only [if_neg hside] at go ⊢
    have hia' : idx (turnM (baseM o r.z)).1 r.anchor ≤ (turnM (baseM o r.z)).2.length := by
      have := idx_lt (l := (turnM (baseM o r.z)).1) (z := r.anchor) (by show r.anchor ∈ (baseM o r.z).1.reverse; rw [List.mem_reverse, rp.lets]; exact ha)
      have l1 : (turnM (baseM o r.z)).1.length = (baseM o r.z).1.length := List.length_reverse
      have l2 : (turnM (baseM o r.z)).2.length = (baseM o r.z).2.length := List.length_reverse
      omega
    have l2 : (turnM (baseM o r.z)).2.length = (baseM o r.z).2.length := List.length_reverse
    have hst := stop_le (s := r.s) hia'
    have hfin := stop_fin (s := r.s) hia'
    unfold putAfterM at go ⊢
    generalize stop (turnM (baseM o r.z)).2 r.s (idx (turnM (baseM o r.z)).1 r.anchor) = at_ at hst hfin go ⊢
    rw [turn_put hlen (by omega)] at go ⊢
    have hPl : P.length = (baseM o r.z).2.length + 1 := by
      rw [← hlen, rp.lets, List.length_map]
    obtain ⟨A, s0, l, B, e, hs0, rp'⟩ := rep_before (p := (baseM o r.z).2.length - at_) (s := r.s) (z := r.z) rp (by omega) rk.lo (by
      rcases hfin with e | ⟨x, e, hx⟩
      · exact .inl (by omega)
      · by_cases h0 : (baseM o r.z).2.length - at_ = 0
        · exact .inl h0
        · refine .inr ⟨x, ?_, hx⟩
          rw [show (turnM (baseM o r.z)).2 = (baseM o r.z).2.reverse from rfl, List.getElem?_reverse (by omega)] at e
          rw [show (baseM o r.z).2.length - at_ - 1 = (baseM o r.z).2.length - 1 - at_ by omega]
          exact e)
    subst e
    have k1 : RowOk (A ++ (s0, r.z) :: (r.s, l) :: B) := by
      have kA : RowOk (A ++ (r.s, l) :: B) := by
        refine ⟨?_, fun p hp => ?_⟩
        · have := k.nd
          simpa using this
        · rcases List.mem_append.mp hp with hp | hp
          · exact k.str p (List.mem_append_left _ hp)
          · rcases List.mem_cons.mp hp with rfl | hp
            · exact ⟨rk.lo, rk.hi⟩
            · exact k.str p (by simp [hp])
      have q := k.str (s0, l) (by simp)
      exact ins_ok kA (by simpa using hz) q.1 q.2
    refine go _ rp' k1 (fun x => ?_) (by simp; omega) fun x y hx hy => fd_insB B hx hy hs0 A
    simp only [List.map_append, List.map_cons, List.mem_append, List.mem_cons]
    constructor
    · rintro (h | h | h | h)
      · exact .inl (.inl h)
      · exact .inr h
      · exact .inl (.inr (.inl h))
      · exact .inl (.inr (.inr h))
    · rintro ((h | h | h) | h)
      · exact .inl h
      · exact .inr (.inr (.inl h))
      · exact .inr (.inr (.inr h))
      · exact .inr (.inl h)
/-! ### led -/
def CanAll : Ord → List Rule → Prop
  | _, [] => True
  | o, r :: rs => canM o r ∧ CanAll (putM o r) rs
def ledM (o : Ord) (rs : List Rule) : Ord := rs.foldl putM o
theorem led_row : ∀ {rs : List Rule} {o : Ord}, OrdOk o → (∀ r ∈ rs, RuleOk r) → CanAll o rs →
    OrdOk (ledM o rs) ∧ (∀ x ∈ o.1, x ∈ (ledM o rs).1) ∧ ∀ x y, (∀ r ∈ rs, r.z ≠ x) → (∀ r ∈ rs, r.z ≠ y) → fd (rowOf (ledM o rs)) x y = fd (rowOf o) x y
  | [], o, ok, _, _ => ⟨ok, fun _ h => h, fun _ _ _ _ => rfl⟩
  | r :: rs, o, ok, hr, hc => by
    obtain ⟨ok1, m1, f1⟩ := put_row ok (hr r (by simp)) hc.1
    obtain ⟨ok2, m2, f2⟩ := led_row (rs := rs) (o := putM o r) ok1 (fun q hq => hr q (by simp [hq])) hc.2
    refine ⟨ok2, fun x hx => m2 x ((m1 x).mpr (.inl hx)), fun x y hx hy => ?_⟩
    rw [show ledM o (r :: rs) = ledM (putM o r) rs from rfl, f2 x y (fun q hq => hx q (by simp [hq])) (fun q hq => hy q (by simp [hq])), f1 x y (fun e => hx r (by simp) e.symm) (fun e => hy r (by simp) e.symm)]
end Pf
namespace Pf
open PySem
/-! ### lexicographic orders -/
structure StrictLin {α : Type} (lt : α → α → Bool) : Prop where
  irr : ∀ a, lt a a = false
  tr : ∀ a b c, lt a b = true → lt b c = true → lt a c = true
  tot : ∀ a b, a ≠ b → lt a b = true ∨ lt b a = true
def lexG {α : Type} [DecidableEq α] (lt : α → α → Bool) : List α → List α → Bool
  | [], [] => false
  | [], _ :: _ => true
  | _ :: _, [] => false
  | a :: as, b :: bs => if a = b then lexG lt as bs else lt a b
theorem StrictLin.asym {α : Type} {lt : α → α → Bool} (h : StrictLin lt) {a b : α} (q : lt a b = true) : lt b a = false := by
  cases e : lt b a with
  | false => rfl
  | true =>
    have := h.tr a b a q e
    rw [h.irr] at this
    cases this
section
variable {α : Type} [DecidableEq α] {lt : α → α → Bool}
theorem lexG_irr : ∀ a : List α, lexG lt a a = false
  | [] => rfl
  | a :: as => by
    unfold lexG
    rw [if_pos rfl]
    exact lexG_irr as
theorem lexG_tot (h : StrictLin lt) : ∀ a b : List α, a ≠ b → lexG lt a b = true ∨ lexG lt b a = true
  | [], [], n => absurd rfl n
  | [], _ :: _, _ => .inl rfl
  | _ :: _, [], _ => .inr rfl
  | a :: as, b :: bs, n => by
    unfold lexG
    by_cases e : a = b
    · subst e
      rw [if_pos rfl, if_pos rfl]
      exact lexG_tot h as bs fun q => n (by rw [q])
    · rw [if_neg e, if_neg fun q => e q.symm]
      exact h.tot a b e
theorem lexG_tr (h : StrictLin lt) : ∀ a b c : List α, lexG lt a b = true → lexG lt b c = true → lexG lt a c = true
  | [], [], _, q, _ => by cases q
  | [], _ :: _, [], _, q => by cases q
  | [], _ :: _, _ :: _, _, _ => rfl
  | _ :: _, [], _, q, _ => by cases q
  | _ :: _, _ :: _, [], _, q => by cases q
  | a :: as, b :: bs, c :: cs, q1, q2 => by
    unfold lexG at *
    by_cases e : a = b
    · subst e
      rw [if_pos rfl] at q1
      by_cases e2 : a = c
      · rw [if_pos e2] at q2 ⊢
        exact lexG_tr h as bs cs q1 q2
      · rw [if_neg e2] at q2 ⊢
        exact q2
    · rw [if_neg e] at q1
      by_cases e2 : b = c
      · subst e2
        rw [if_neg e]
        exact q1
      · rw [if_neg e2] at q2
        have t := h.tr a b c q1 q2
        by_cases e3 : a = c
        · subst e3
          rw [h.irr] at t
          cases t
        · rw [if_neg e3]
          exact t
theorem lexG_lin (h : StrictLin lt) : StrictLin (lexG lt) := ⟨lexG_irr, lexG_tr h, lexG_tot h⟩
end
theorem int_lin : StrictLin (fun a b : Int => decide (a < b)) := by
  refine ⟨fun a => decide_eq_false (by omega), fun a b c h1 h2 => ?_, fun a b h => ?_⟩
  · have := of_decide_eq_true h1
    have := of_decide_eq_true h2
    exact decide_eq_true (by omega)
  · rcases Int.lt_trichotomy a b with q | q | q
    · exact .inl (decide_eq_true q)
    · exact absurd q h
    · exact .inr (decide_eq_true q)
abbrev lexI : List Int → List Int → Bool := lexG fun a b => decide (a < b)
abbrev kLt : List (List Int) → List (List Int) → Bool := lexG lexI
theorem kLt_lin : StrictLin kLt := lexG_lin (lexG_lin int_lin)
def cmpM (a b : List (List Int)) : Int := if a = b then 0 else if kLt a b = true then -1 else 1
theorem cmp_lt {a b : List (List Int)} : cmpM a b < 0 ↔ kLt a b = true := by
  unfold cmpM
  by_cases e : a = b
  · subst e
    rw [if_pos rfl, kLt_lin.irr]
    simp
  · rw [if_neg e]
    cases q : kLt a b <;> simp
theorem cmp_le {a b : List (List Int)} : cmpM a b ≤ 0 ↔ kLt b a = false := by
  unfold cmpM
  by_cases e : a = b
  · subst e
    rw [if_pos rfl, kLt_lin.irr]
    simp
  · rw [if_neg e]
    cases q : kLt a b with
    | true => simp [kLt_lin.asym q]
    | false =>
      rcases kLt_lin.tot a b e with z | z
      · rw [q] at z; cases z
      · simp [z]
theorem lt_of_lt_nlt {a b c : List (List Int)} (h1 : kLt a b = true) (h2 : kLt c b = false) : kLt a c = true := by
  by_cases q : b = c
  · exact q ▸ h1
  · rcases kLt_lin.tot b c q with z | z
    · exact kLt_lin.tr a b c h1 z
    · rw [h2] at z; cases z
/-! ### weights -/
abbrev Wt := Int × Int × Int
def stepW (w : Wt) (s : Int) : Wt := if s = 1 then (w.1 + 1, 1, 1) else if s = 2 then (w.1, w.2.1 + 1, 1) else (w.1, w.2.1, w.2.2 + 1)
def wtP : Wt → Row → Str → Option Wt
  | _, [], _ => none
  | w, (s, l) :: r, x => if l = x then some (stepW w s) else wtP (stepW w s) r x
def wt (o : Ord) (x : Str) : Wt := (wtP (0, 0, 0) (rowOf o) x).getD (0, 0, 0)
def relW (d : Int) (a b : Wt) : Prop := (d = 1 ∧ a.1 < b.1) ∨ (d = 2 ∧ a.1 = b.1 ∧ a.2.1 < b.2.1) ∨ (d = 3 ∧ a.1 = b.1 ∧ a.2.1 = b.2.1 ∧ a.2.2 < b.2.2)
theorem rel_step {s : Int} (w : Wt) (h : 1 ≤ s ∧ s ≤ 3) : relW s w (stepW w s) := by
  unfold relW stepW
  rcases (show s = 1 ∨ s = 2 ∨ s = 3 by omega) with rfl | rfl | rfl
  · exact .inl ⟨rfl, by simp; omega⟩
  · exact .inr (.inl ⟨rfl, by simp, by simp; omega⟩)
  · exact .inr (.inr ⟨rfl, by simp, by simp, by simp; omega⟩)
theorem rel_trans {d e : Int} {a b c : Wt} (h1 : relW d a b) (h2 : relW e b c) : relW (min d e) a c := by
  unfold relW at *
  rcases h1 with ⟨rfl, h⟩ | ⟨rfl, h, h'⟩ | ⟨rfl, h, h', h''⟩ <;> rcases h2 with ⟨rfl, k⟩ | ⟨rfl, k, k'⟩ | ⟨rfl, k, k', k''⟩
  · exact .inl ⟨rfl, by omega⟩
  · exact .inl ⟨rfl, by omega⟩
  · exact .inl ⟨rfl, by omega⟩
  · exact .inl ⟨rfl, by omega⟩
  · exact .inr (.inl ⟨rfl, by omega, by omega⟩)
  · exact .inr (.inl ⟨rfl, by omega, by omega⟩)
  · exact .inl ⟨rfl, by omega⟩
  · exact .inr (.inl ⟨rfl, by omega, by omega⟩)
  · exact .inr (.inr ⟨rfl, by omega, by omega, by omega⟩)
theorem reach_wt : ∀ {r : Row} {w : Wt} {y : Str} {d : Int}, (∀ p ∈ r, 1 ≤ p.1 ∧ p.1 ≤ 3) → reach r y = some d → ∃ wy, wtP w r y = some wy ∧ relW d w wy
  | [], _, _, _, _, h => by cases h
  | (s, l) :: r, w, y, d, ok, h => by
    have hs : 1 ≤ s ∧ s ≤ 3 := ok (s, l) (by simp)
    unfold reach at h
    unfold wtP
    by_cases e : l = y
    · rw [if_pos e] at h ⊢
      have : s = d := Option.some.inj h
      exact ⟨_, rfl, this ▸ rel_step w hs⟩
    · rw [if_neg e] at h ⊢
      cases q : reach r y with
      | none => rw [q] at h; cases h
      | some d' =>
        rw [q] at h
        have hd : min s d' = d := Option.some.inj h
        obtain ⟨wy, h1, h2⟩ := reach_wt (w := stepW w s) (fun p hp => ok p (by simp [hp])) q
        exact ⟨wy, h1, hd ▸ rel_trans (rel_step w hs) h2⟩
theorem reach_mem : ∀ {r : Row} {y : Str} {d : Int}, reach r y = some d → y ∈ r.map (·.2)
  | [], _, _, h => by cases h
  | (s, l) :: r, y, d, h => by
    unfold reach at h
    by_cases e : l = y
    · simp [e]
    · rw [if_neg e] at h
      cases q : reach r y with
      | none => rw [q] at h; cases h
      | some d' =>
        have := reach_mem q
        simp at this ⊢
        exact .inr this
theorem mem_reach : ∀ {r : Row} {y : Str}, y ∈ r.map (·.2) → ∃ d, reach r y = some d
  | [], _, h => by cases h
  | (s, l) :: r, y, h => by
    unfold reach
    by_cases e : l = y
    · exact ⟨s, if_pos e⟩
    · rw [if_neg e]
      have h' : y ∈ r.map (·.2) := (List.mem_cons.mp h).resolve_left fun q => e q.symm
      obtain ⟨d, q⟩ := mem_reach h'
      rw [q]
      exact ⟨_, rfl⟩
theorem fd_mem : ∀ {r : Row} {x y : Str} {d : Int}, fd r x y = some d → y ∈ r.map (·.2)
  | [], _, _, _, h => by cases h
  | (s, l) :: r, x, y, d, h => by
    unfold fd at h
    by_cases e : l = x
    · rw [if_pos e] at h
      have := reach_mem h
      simp at this ⊢
      exact .inr this
    · rw [if_neg e] at h
      have := fd_mem h
      simp at this ⊢
      exact .inr this
theorem fd_wt : ∀ {P : Row} {w : Wt} {x y : Str} {d : Int}, (P.map (·.2)).Nodup → (∀ p ∈ P, 1 ≤ p.1 ∧ p.1 ≤ 3) → fd P x y = some d → ∃ wx wy, wtP w P x = some wx ∧ wtP w P y = some wy ∧ relW d wx wy
  | [], _, _, _, _, _, _, h => by cases h
  | (s, l) :: r, w, x, y, d, nd, ok, h => by
    have nd' := List.nodup_cons.mp nd
    unfold fd at h
    unfold wtP
    by_cases e : l = x
    · rw [if_pos e] at h ⊢
      have hy : l ≠ y := fun q => nd'.1 (q ▸ reach_mem h)
      rw [if_neg hy]
      obtain ⟨wy, h1, h2⟩ := reach_wt (w := stepW w s) (fun p hp => ok p (by simp [hp])) h
      exact ⟨_, wy, rfl, h1, h2⟩
    · rw [if_neg e] at h ⊢
      have hy : l ≠ y := fun q => nd'.1 (q ▸ fd_mem h)
      rw [if_neg hy]
      exact fd_wt nd'.2 (fun p hp => ok p (by simp [hp])) h
theorem fd_tot : ∀ {P : Row} {x y : Str}, x ∈ P.map (·.2) → y ∈ P.map (·.2) → x ≠ y → (∃ d, fd P x y = some d) ∨ ∃ d, fd P y x = some d
  | [], _, _, h, _, _ => by cases h
  | (s, l) :: r, x, y, hx, hy, n => by
    unfold fd
    by_cases e : l = x
    · have hy' : y ∈ r.map (·.2) := (List.mem_cons.mp hy).resolve_left fun q => n (e.symm.trans q.symm)
      rw [if_pos e]
      exact .inl (mem_reach hy')
    · have hx' : x ∈ r.map (·.2) := (List.mem_cons.mp hx).resolve_left fun q => e q.symm
      rw [if_neg e]
      by_cases e2 : l = y
      · rw [if_pos e2]
        exact .inr (mem_reach hx')
      · have hy' : y ∈ r.map (·.2) := (List.mem_cons.mp hy).resolve_left fun q => e2 q.symm
        rw [if_neg e2]
        exact fd_tot hx' hy' n
/-- what two letters' weights are to one another is the same in both -/
def Compat (a b a' b' : Wt) : Prop := (a.1 < b.1 ↔ a'.1 < b'.1) ∧ (a.1 = b.1 ↔ a'.1 = b'.1) ∧ (a.1 = b.1 → (a.2.1 < b.2.1 ↔ a'.2.1 < b'.2.1) ∧ (a.2.1 = b.2.1 ↔ a'.2.1 = b'.2.1) ∧
  (a.2.1 = b.2.1 → (a.2.2 < b.2.2 ↔ a'.2.2 < b'.2.2) ∧ (a.2.2 = b.2.2 ↔ a'.2.2 = b'.2.2)))
theorem compat_rel {d : Int} {a b a' b' : Wt} (h : relW d a b) (h' : relW d a' b') : Compat a b a' b' := by
  unfold relW at h h'
  unfold Compat
  rcases h with ⟨rfl, h⟩ | ⟨rfl, h, k⟩ | ⟨rfl, h, k, l⟩ <;> rcases h' with ⟨q, h'⟩ | ⟨q, h', k'⟩ | ⟨q, h', k', l'⟩ <;> first | (exact absurd q (by decide)) | skip
  · omega
  · omega
  · omega
theorem compat_rel' {d : Int} {a b a' b' : Wt} (h : relW d b a) (h' : relW d b' a') : Compat a b a' b' := by
  unfold relW at h h'
  unfold Compat
  rcases h with ⟨rfl, h⟩ | ⟨rfl, h, k⟩ | ⟨rfl, h, k, l⟩ <;> rcases h' with ⟨q, h'⟩ | ⟨q, h', k'⟩ | ⟨q, h', k', l'⟩ <;> first | (exact absurd q (by decide)) | skip
  · omega
  · omega
  · omega
theorem compat_wt {o o' : Ord} {x y : Str} (ok : OrdOk o) (ok' : OrdOk o') (hx : x ∈ o.1) (hy : y ∈ o.1) (hx' : x ∈ o'.1) (hy' : y ∈ o'.1)
    (h1 : fd (rowOf o') x y = fd (rowOf o) x y) (h2 : fd (rowOf o') y x = fd (rowOf o) y x) : Compat (wt o x) (wt o y) (wt o' x) (wt o' y) := by
  have hn : o.1 ≠ [] := fun e => by rw [e] at hx; cases hx
  have hn' : o'.1 ≠ [] := fun e => by rw [e] at hx'; cases hx'
  obtain ⟨r, k, _⟩ := row_ok ok hn
  obtain ⟨r', k', _⟩ := row_ok ok' hn'
  by_cases e : x = y
  · subst e
    unfold Compat
    simp
  · rcases fd_tot (P := rowOf o) (by rw [← r.lets]; exact hx) (by rw [← r.lets]; exact hy) e with ⟨d, q⟩ | ⟨d, q⟩
    · obtain ⟨wx, wy, g1, g2, g3⟩ := fd_wt (w := (0, 0, 0)) k.nd k.str q
      obtain ⟨wx', wy', g1', g2', g3'⟩ := fd_wt (w := (0, 0, 0)) k'.nd k'.str (h1.trans q)
      unfold wt
      rw [g1, g2, g1', g2']
      exact compat_rel g3 g3'
    · obtain ⟨wy, wx, g1, g2, g3⟩ := fd_wt (w := (0, 0, 0)) k.nd k.str q
      obtain ⟨wy', wx', g1', g2', g3'⟩ := fd_wt (w := (0, 0, 0)) k'.nd k'.str (h2.trans q)
      unfold wt
      rw [g1, g2, g1', g2']
      exact compat_rel' g3 g3'
/-! ### keys -/
def compW : Nat → Wt → Int
  | 0, w => w.1
  | 1, w => w.2.1
  | _ + 2, w => w.2.2
def keyM (f : Str → Wt) (u : List Str) (n : Nat) : List (List Int) := (List.range n).map fun k => u.map fun l => compW k (f l)
theorem zip_map_eq {f g : Str → Int} : ∀ {u v : List Str}, u.length = v.length → ((u.map f = v.map g) ↔ ∀ p ∈ u.zip v, f p.1 = g p.2)
  | [], [], _ => by simp
  | [], _ :: _, h => by cases h
  | _ :: _, [], h => by cases h
  | x :: u, y :: v, h => by
    have ih := zip_map_eq (f := f) (g := g) (u := u) (v := v) (by simpa using h)
    simp [ih]
/-- one place of the keys -/
theorem lex_same {f f' : Str → Int} : ∀ {u v : List Str}, (∀ p ∈ u.zip v, (f p.1 < f p.2 ↔ f' p.1 < f' p.2) ∧ (f p.1 = f p.2 ↔ f' p.1 = f' p.2)) →
    (u.map f = v.map f ↔ u.map f' = v.map f') ∧ lexI (u.map f) (v.map f) = lexI (u.map f') (v.map f')
  | [], [], _ => ⟨Iff.rfl, rfl⟩
  | [], _ :: _, _ => ⟨by simp, rfl⟩
  | _ :: _, [], _ => ⟨by simp, rfl⟩
  | x :: u, y :: v, h => by
    obtain ⟨h1, h2⟩ := h (x, y) (by simp)
    obtain ⟨i1, i2⟩ := lex_same (u := u) (v := v) fun p hp => h p (by simp [hp])
    simp only at h1 h2
    refine ⟨by simp only [List.map_cons, List.cons.injEq]; rw [h2, i1], ?_⟩
    show (if f x = f y then lexI (u.map f) (v.map f) else decide (f x < f y)) = (if f' x = f' y then lexI (u.map f') (v.map f') else decide (f' x < f' y))
    by_cases e : f x = f y
    · rw [if_pos e, if_pos (h2.mp e), i2]
    · rw [if_neg e, if_neg fun q => e (h2.mpr q)]
      by_cases q : f x < f y
      · rw [decide_eq_true q, decide_eq_true (h1.mp q)]
      · rw [decide_eq_false q, decide_eq_false fun z => q (h1.mpr z)]
theorem map_zip_eq {f : Str → Int} : ∀ {u v : List Str}, u.map f = v.map f → ∀ p ∈ u.zip v, f p.1 = f p.2
  | [], _, _, p, hp => by simp at hp
  | _ :: _, [], h, _, _ => by simp at h
  | x :: u, y :: v, h, p, hp => by
    simp only [List.map_cons, List.cons.injEq] at h
    rcases List.mem_cons.mp hp with rfl | hp
    · exact h.1
    · exact map_zip_eq h.2 p hp
theorem cmp_same {f f' : Str → Wt} {u v : List Str} {n : Nat} (hn : n ≤ 3) (h : ∀ p ∈ u.zip v, Compat (f p.1) (f p.2) (f' p.1) (f' p.2)) : cmpM (keyM f u n) (keyM f v n) = cmpM (keyM f' u n) (keyM f' v n) := by
  have a := lex_same (f := fun l => compW 0 (f l)) (f' := fun l => compW 0 (f' l)) (u := u) (v := v) fun p hp => ⟨(h p hp).1, (h p hp).2.1⟩
  have b := fun e : (u.map fun l => compW 0 (f l)) = v.map fun l => compW 0 (f l) =>
    lex_same (f := fun l => compW 1 (f l)) (f' := fun l => compW 1 (f' l)) (u := u) (v := v) fun p hp => let q := (h p hp).2.2 (map_zip_eq e p hp); ⟨q.1, q.2.1⟩
  have c := fun (e : (u.map fun l => compW 0 (f l)) = v.map fun l => compW 0 (f l)) (e' : (u.map fun l => compW 1 (f l)) = v.map fun l => compW 1 (f l)) =>
    lex_same (f := fun l => compW 2 (f l)) (f' := fun l => compW 2 (f' l)) (u := u) (v := v) fun p hp => (((h p hp).2.2 (map_zip_eq e p hp)).2.2 (map_zip_eq e' p hp))
  have key : (keyM f u n = keyM f v n ↔ keyM f' u n = keyM f' v n) ∧ kLt (keyM f u n) (keyM f v n) = kLt (keyM f' u n) (keyM f' v n) := by
    have lift : ∀ (k k' m m' : List Int) (r r' t t' : List (List Int)), ((k = m ↔ k' = m') ∧ lexI k m = lexI k' m') → (k = m → (r = t ↔ r' = t') ∧ kLt r t = kLt r' t') →
        (k :: r = m :: t ↔ k' :: r' = m' :: t') ∧ kLt (k :: r) (m :: t) = kLt (k' :: r') (m' :: t') := by
      intro k k' m m' r r' t t' h1 h2
      by_cases e : k = m
      · obtain ⟨g1, g2⟩ := h2 e
        refine ⟨by simp only [List.cons.injEq]; rw [h1.1, g1], ?_⟩
        show (if k = m then kLt r t else lexI k m) = (if k' = m' then kLt r' t' else lexI k' m')
        rw [if_pos e, if_pos (h1.1.mp e), g2]
      · have e' : ¬ k' = m' := fun q => e (h1.1.mpr q)
        refine ⟨by simp [e, e'], ?_⟩
        show (if k = m then kLt r t else lexI k m) = (if k' = m' then kLt r' t' else lexI k' m')
        rw [if_neg e, if_neg e', h1.2]
    have nil2 : (([] : List (List Int)) = [] ↔ ([] : List (List Int)) = []) ∧ kLt [] [] = kLt [] [] := ⟨Iff.rfl, rfl⟩
    rcases (show n = 0 ∨ n = 1 ∨ n = 2 ∨ n = 3 by omega) with rfl | rfl | rfl | rfl
    · exact nil2
    · exact lift _ _ _ _ _ _ _ _ a fun _ => nil2
    · exact lift _ _ _ _ _ _ _ _ a fun e => lift _ _ _ _ _ _ _ _ (b e) fun _ => nil2
    · exact lift _ _ _ _ _ _ _ _ a fun e => lift _ _ _ _ _ _ _ _ (b e) fun e' => lift _ _ _ _ _ _ _ _ (c e e') fun _ => nil2
  unfold cmpM
  by_cases e : keyM f u n = keyM f v n
  · rw [if_pos e, if_pos (key.1.mp e)]
  · rw [if_neg e, if_neg fun q => e (key.1.mpr q), key.2]
/-- two words' comparison at a level -/
def cmpO (o : Ord) (u v : List Str) (n : Nat) : Int := cmpM (keyM (wt o) u n) (keyM (wt o) v n)
/-- words without moved letters are compared alike -/
theorem cmp_calm {o : Ord} {rs : List Rule} {u v : List Str} {n : Nat} (hn : n ≤ 3) (ok : OrdOk o) (hr : ∀ r ∈ rs, RuleOk r) (hc : CanAll o rs) (hu : ∀ x ∈ u, x ∈ o.1 ∧ ∀ r ∈ rs, r.z ≠ x) (hv : ∀ x ∈ v, x ∈ o.1 ∧ ∀ r ∈ rs, r.z ≠ x) :
    cmpO (ledM o rs) u v n = cmpO o u v n := by
  obtain ⟨ok', m, f⟩ := led_row ok hr hc
  refine (cmp_same hn fun p hp => ?_).symm
  obtain ⟨h1, h2⟩ := List.of_mem_zip hp
  obtain ⟨a1, a2⟩ := hu _ h1
  obtain ⟨b1, b2⟩ := hv _ h2
  exact compat_wt ok ok' a1 b1 (m _ a1) (m _ b1) (f _ _ a2 b2) (f _ _ b2 a2)
/-! ### keys as data -/
def dI (l : List Int) : PyData := .tuple (l.map .int)
def dK (k : List (List Int)) : PyData := .tuple (k.map dI)
theorem eqv_ints : ∀ a b : List Int, PyData.eqvAll (a.map .int) (b.map .int) = decide (a = b)
  | [], [] => by simp [PyData.eqvAll]
  | [], _ :: _ => by simp [PyData.eqvAll]
  | _ :: _, [] => by simp [PyData.eqvAll]
  | x :: a, y :: b => by
    have ih := eqv_ints a b
    simp only [List.map_cons, PyData.eqvAll, PyData.eqv, ih]
    by_cases h : x = y <;> by_cases h' : a = b <;> simp [h, h']
theorem eqv_dI (a b : List Int) : PyData.eqv (dI a) (dI b) = decide (a = b) := by
  unfold dI
  rw [PyData.eqv, eqv_ints]
theorem eqv_keys : ∀ a b : List (List Int), PyData.eqvAll (a.map dI) (b.map dI) = decide (a = b)
  | [], [] => by simp [PyData.eqvAll]
  | [], _ :: _ => by simp [PyData.eqvAll]
  | _ :: _, [] => by simp [PyData.eqvAll]
  | x :: a, y :: b => by
    have ih := eqv_keys a b
    simp only [List.map_cons, PyData.eqvAll, eqv_dI, ih]
    by_cases h : x = y <;> by_cases h' : a = b <;> simp [h, h']
theorem eqv_dK (a b : List (List Int)) : PyData.eqv (dK a) (dK b) = decide (a = b) := by
  unfold dK
  rw [PyData.eqv, eqv_keys]
theorem alike_ints : ∀ a b : List Int, PySem.W.alikeAll (a.map .int) (b.map .int) = true
  | [], _ => by simp [PySem.W.alikeAll]
  | _ :: _, [] => by simp [PySem.W.alikeAll]
  | x :: a, y :: b => by simp [PySem.W.alikeAll, PySem.W.alike, alike_ints a b]
theorem alike_dI (a b : List Int) : PySem.W.alike (dI a) (dI b) = true := by
  unfold dI
  rw [PySem.W.alike, alike_ints]
theorem alike_keys : ∀ a b : List (List Int), PySem.W.alikeAll (a.map dI) (b.map dI) = true
  | [], _ => by simp [PySem.W.alikeAll]
  | _ :: _, [] => by simp [PySem.W.alikeAll]
  | x :: a, y :: b => by simp [PySem.W.alikeAll, alike_dI, alike_keys a b]
theorem alike_dK (a b : List (List Int)) : PySem.W.alike (dK a) (dK b) = true := by
  unfold dK
  rw [PySem.W.alike, alike_keys]
theorem toks_nil_nil : PyProof.Rows.lexLt PyProof.Rows.itemOrd (PySem.W.keyToksAll []) (PySem.W.keyToksAll []) = false := by
  simp only [PySem.W.keyToksAll]
  exact PyProof.Rows.lex_irrefl (O := PyProof.Rows.itemOrd) _
theorem toks_nil_cons (y : PyData) (ys : List PyData) : PyProof.Rows.lexLt PyProof.Rows.itemOrd (PySem.W.keyToksAll []) (PySem.W.keyToksAll (y :: ys)) = true := by
  rw [PySem.W.toks_all_cons]
  simp only [PySem.W.keyToksAll]
  rw [PyProof.Rows.lex_diff (O := PyProof.Rows.itemOrd) (by simp)]
  rfl
theorem toks_cons_nil (y : PyData) (ys : List PyData) : PyProof.Rows.lexLt PyProof.Rows.itemOrd (PySem.W.keyToksAll (y :: ys)) (PySem.W.keyToksAll []) = false := by
  rw [PySem.W.toks_all_cons]
  simp only [PySem.W.keyToksAll]
  rw [PyProof.Rows.lex_diff (O := PyProof.Rows.itemOrd) (by simp)]
  rfl
theorem toks_ints : ∀ a b : List Int, PyProof.Rows.lexLt PyProof.Rows.itemOrd (PySem.W.keyToksAll (a.map .int)) (PySem.W.keyToksAll (b.map .int)) = lexI a b
  | [], [] => toks_nil_nil
  | [], _ :: _ => toks_nil_cons _ _
  | _ :: _, [] => toks_cons_nil _ _
  | x :: a, y :: b => by
    show _ = (if x = y then lexI a b else decide (x < y))
    have al : PySem.W.alike (.int x) (.int y) = true := by simp [PySem.W.alike]
    by_cases e : x = y
    · rw [if_pos e, List.map_cons, List.map_cons, PySem.W.dataLt_all_yes al (by simp [PyData.eqv, e]), toks_ints a b]
    · rw [if_neg e, List.map_cons, List.map_cons, PySem.W.dataLt_all_no al (by simp [PyData.eqv, e]), PySem.W.dataLt_int]
theorem lt_dI (a b : List Int) : PySem.W.dataLt (dI a) (dI b) = lexI a b := by
  unfold dI
  rw [PySem.W.dataLt_tuple, toks_ints]
theorem toks_keys : ∀ a b : List (List Int), PyProof.Rows.lexLt PyProof.Rows.itemOrd (PySem.W.keyToksAll (a.map dI)) (PySem.W.keyToksAll (b.map dI)) = kLt a b
  | [], [] => toks_nil_nil
  | [], _ :: _ => toks_nil_cons _ _
  | _ :: _, [] => toks_cons_nil _ _
  | x :: a, y :: b => by
    show _ = (if x = y then kLt a b else lexI x y)
    by_cases e : x = y
    · rw [if_pos e, List.map_cons, List.map_cons, PySem.W.dataLt_all_yes (alike_dI x y) (by rw [eqv_dI, decide_eq_true e]), toks_keys a b]
    · rw [if_neg e, List.map_cons, List.map_cons, PySem.W.dataLt_all_no (alike_dI x y) (by rw [eqv_dI, decide_eq_false e]), lt_dI]
theorem lt_dK (a b : List (List Int)) : PySem.W.dataLt (dK a) (dK b) = kLt a b := by
  unfold dK
  rw [PySem.W.dataLt_tuple, toks_keys]
theorem lay_ints : ∀ a : List Int, PyData.canLayAll0 (a.map .int) = true ∧ PyData.depthAll (a.map .int) = 0
  | [] => by simp [PyData.canLayAll0, PyData.depthAll]
  | x :: a => by simp [PyData.canLayAll0, PyData.depthAll, PyData.canLay0, PyData.depth, lay_ints a]
theorem lay_dI (a : List Int) : PyData.canLay0 (dI a) = true ∧ PyData.depth (dI a) = 1 := by
  unfold dI
  simp [PyData.canLay0, PyData.depth, lay_ints a]
theorem lay_keys : ∀ a : List (List Int), PyData.canLayAll0 (a.map dI) = true ∧ PyData.depthAll (a.map dI) ≤ 1
  | [] => by simp [PyData.canLayAll0, PyData.depthAll]
  | x :: a => by
    have ih := lay_keys a
    simp [PyData.canLayAll0, PyData.depthAll, lay_dI, ih.1]
    omega
theorem lay_dK (a : List (List Int)) : PyData.canLay0 (dK a) = true ∧ PyData.depth (dK a) ≤ 2 := by
  have h := lay_keys a
  unfold dK
  simp [PyData.canLay0, PyData.depth, h.1]
  exact h.2
theorem shaped_dI (a : List Int) : SeqAt.shaped (dI a) = true := by
  have h := lay_dI a
  unfold SeqAt.shaped
  rw [h.1, h.2]
  rfl
theorem shaped_dK (a : List (List Int)) : SeqAt.shaped (dK a) = true := by
  have h := lay_dK a
  unfold SeqAt.shaped
  rw [h.1, decide_eq_true (by omega)]
  rfl
end Pf
namespace Pf
open PySem
/-! ### the sort by insertion -/
def placeM (p : Nat → Bool) : List Nat → Nat
  | [] => 0
  | j :: r => if p j = true then 0 else placeM p r + 1
theorem placeM_le (p : Nat → Bool) : ∀ l : List Nat, placeM p l ≤ l.length
  | [] => Nat.le_refl _
  | j :: r => by
    unfold placeM
    have := placeM_le p r
    split <;> simp <;> omega
theorem placeM_lt (p : Nat → Bool) : ∀ {l : List Nat} {a x : Nat}, a < placeM p l → l[a]? = some x → p x = false
  | [], _, _, h, _ => absurd h (Nat.not_lt_zero _)
  | j :: r, a, x, h, e => by
    unfold placeM at h
    cases q : p j with
    | true => rw [q, if_pos rfl] at h; exact absurd h (Nat.not_lt_zero _)
    | false =>
      rw [q, if_neg Bool.false_ne_true] at h
      cases a with
      | zero => have : j = x := Option.some.inj e; exact this ▸ q
      | succ a => exact placeM_lt p (l := r) (a := a) (by omega) (by simpa using e)
theorem placeM_at (p : Nat → Bool) : ∀ {l : List Nat} {x : Nat}, l[placeM p l]? = some x → p x = true
  | [], _, e => by simp at e
  | j :: r, x, e => by
    unfold placeM at e
    cases q : p j with
    | true =>
      rw [q, if_pos rfl] at e
      have : j = x := Option.some.inj e
      exact this ▸ q
    | false =>
      rw [q, if_neg Bool.false_ne_true] at e
      exact placeM_at p (l := r) (by simpa using e)
/-- found from the front -/
theorem placeM_front (p : Nat → Bool) {l : List Nat} {k : Nat} (h1 : ∀ (a x : Nat), a < k → l[a]? = some x → p x = false) (h2 : k = l.length ∨ ∃ x, l[k]? = some x ∧ p x = true) : k = placeM p l := by
  have hle := placeM_le p l
  rcases Nat.lt_trichotomy k (placeM p l) with q | q | q
  · rcases h2 with h2 | ⟨x, e, hx⟩
    · omega
    · rw [placeM_lt p q e] at hx
      cases hx
  · exact q
  · have hk : k ≤ l.length := by
      rcases h2 with h2 | ⟨x, e, _⟩
      · omega
      · have := (List.getElem?_eq_some_iff.mp e).1
        omega
    have e : l[placeM p l]? = some (l[placeM p l]'(by omega)) := List.getElem?_eq_getElem (by omega)
    have := placeM_at p e
    rw [h1 _ _ q e] at this
    cases this
/-- found from the back -/
theorem placeM_back (p : Nat → Bool) {l : List Nat} {k : Nat} (mono : ∀ (a b x y : Nat), a < b → l[a]? = some x → l[b]? = some y → p x = true → p y = true) (hk : k ≤ l.length) (h1 : ∀ (a x : Nat), k ≤ a → l[a]? = some x → p x = true)
    (h2 : k = 0 ∨ ∃ x, l[k - 1]? = some x ∧ p x = false) : k = placeM p l := by
  refine placeM_front p (fun a x ha e => ?_) ?_
  · rcases h2 with h2 | ⟨y, e2, hy⟩
    · omega
    · cases q : p x with
      | false => rfl
      | true =>
        rcases Nat.lt_or_ge a (k - 1) with z | z
        · rw [mono a (k - 1) x y z e e2 q] at hy
          cases hy
        · have : a = k - 1 := by omega
          subst this
          rw [e] at e2
          cases e2
          rw [q] at hy
          cases hy
  · by_cases z : k = l.length
    · exact .inl z
    · have e : l[k]? = some (l[k]'(by omega)) := List.getElem?_eq_getElem (by omega)
      exact .inr ⟨_, e, h1 k _ (Nat.le_refl _) e⟩
def insM (p : Nat → Bool) (i : Nat) (l : List Nat) : List Nat := l.take (placeM p l) ++ [i] ++ l.drop (placeM p l)
def rowM (lt : Nat → Nat → Bool) : Nat → List Nat
  | 0 => []
  | i + 1 => insM (lt i) i (rowM lt i)
theorem rowM_len (lt : Nat → Nat → Bool) : ∀ n, (rowM lt n).length = n
  | 0 => rfl
  | n + 1 => by
    have := rowM_len lt n
    have h := placeM_le (lt n) (rowM lt n)
    show (insM (lt n) n (rowM lt n)).length = n + 1
    unfold insM
    simp
    omega
theorem rowM_mem (lt : Nat → Nat → Bool) : ∀ {n x : Nat}, x ∈ rowM lt n → x < n
  | 0, x, h => by cases h
  | n + 1, x, h => by
    have h' : x ∈ insM (lt n) n (rowM lt n) := h
    unfold insM at h'
    rcases List.mem_append.mp h' with h' | h'
    · rcases List.mem_append.mp h' with h' | h'
      · have := rowM_mem lt (List.mem_of_mem_take h')
        omega
      · have : x = n := by simpa using h'
        omega
    · have := rowM_mem lt (List.mem_of_mem_drop h')
      omega
/-- sorted: no later one is less -/
def Srt (lt : Nat → Nat → Bool) (l : List Nat) : Prop := l.Pairwise fun x y => lt y x = false
theorem srt_at {lt : Nat → Nat → Bool} {l : List Nat} (h : Srt lt l) {a b x y : Nat} (hab : a < b) (ha : l[a]? = some x) (hb : l[b]? = some y) : lt y x = false := by
  obtain ⟨h1, e1⟩ := List.getElem?_eq_some_iff.mp ha
  obtain ⟨h2, e2⟩ := List.getElem?_eq_some_iff.mp hb
  have := List.pairwise_iff_getElem.mp h a b h1 h2 hab
  rw [e1, e2] at this
  exact this
section
variable {κ : Nat → List (List Int)}
abbrev ltK (κ : Nat → List (List Int)) : Nat → Nat → Bool := fun i j => kLt (κ i) (κ j)
theorem mono_of {l : List Nat} (h : Srt (ltK κ) l) (i : Nat) : ∀ (a b x y : Nat), a < b → l[a]? = some x → l[b]? = some y → ltK κ i x = true → ltK κ i y = true := fun a b x y hab ha hb q =>
  lt_of_lt_nlt q (srt_at h hab ha hb)
theorem srt_row : ∀ n, Srt (ltK κ) (rowM (ltK κ) n)
  | 0 => List.Pairwise.nil
  | n + 1 => by
    have ih := srt_row n
    show List.Pairwise _ (insM (ltK κ n) n (rowM (ltK κ) n))
    generalize rowM (ltK κ) n = l at ih
    unfold insM
    have hsp : l.take (placeM (ltK κ n) l) ++ l.drop (placeM (ltK κ n) l) = l := List.take_append_drop _ _
    have hp : List.Pairwise (fun x y => ltK κ y x = false) (l.take (placeM (ltK κ n) l) ++ l.drop (placeM (ltK κ n) l)) := by rw [hsp]; exact ih
    obtain ⟨p1, p2, p3⟩ := List.pairwise_append.mp hp
    have before : ∀ x ∈ l.take (placeM (ltK κ n) l), ltK κ n x = false := fun x hx => by
      obtain ⟨a, ha, e⟩ := List.mem_iff_getElem.mp hx
      have ha' : a < placeM (ltK κ n) l := by
        rw [List.length_take] at ha
        omega
      refine placeM_lt (ltK κ n) ha' (l := l) ?_
      have : (l.take (placeM (ltK κ n) l))[a]? = some x := by rw [List.getElem?_eq_getElem ha, e]
      rw [List.getElem?_take, if_pos ha'] at this
      exact this
    have after : ∀ y ∈ l.drop (placeM (ltK κ n) l), ltK κ y n = false := fun y hy => by
      obtain ⟨b, hb, e⟩ := List.mem_iff_getElem.mp hy
      have hb' : l[placeM (ltK κ n) l + b]? = some y := by rw [← List.getElem?_drop, List.getElem?_eq_getElem hb, e]
      have hlt : placeM (ltK κ n) l < l.length := by
        have := (List.getElem?_eq_some_iff.mp hb').1
        omega
      have e0 : l[placeM (ltK κ n) l]? = some (l[placeM (ltK κ n) l]'hlt) := List.getElem?_eq_getElem hlt
      have q0 := placeM_at (ltK κ n) e0
      have q : ltK κ n y = true := by
        cases b with
        | zero =>
          rw [Nat.add_zero, e0] at hb'
          cases hb'
          exact q0
        | succ b => exact mono_of ih n _ _ _ _ (by omega) e0 hb' q0
      exact kLt_lin.asym q
    rw [List.append_assoc]
    refine List.pairwise_append.mpr ⟨p1, List.pairwise_append.mpr ⟨List.pairwise_singleton _ _, p2, fun x hx y hy => ?_⟩, fun x hx y hy => ?_⟩
    · have : x = n := by simpa using hx
      subst this
      exact after y hy
    · rcases List.mem_append.mp hy with hy | hy
      · have : y = n := by simpa using hy
        subst this
        exact before x hx
      · exact p3 x hx y hy
end
/-! ### the words by their indexes -/
def keyAt (o : Ord) (ws : List (List Str)) (n : Nat) (i : Nat) : List (List Int) := keyM (wt o) (ws.getD i []) n
abbrev sortedM (o : Ord) (ws : List (List Str)) (n : Nat) : List Nat := rowM (ltK (keyAt o ws n)) ws.length
theorem key_at {o : Ord} {ws : List (List Str)} {n i : Nat} {u : List Str} (h : ws[i]? = some u) : keyAt o ws n i = keyM (wt o) u n := by
  unfold keyAt
  rw [List.getD_eq_getElem?_getD, h]
  rfl
theorem cmp_neg {o : Ord} {ws : List (List Str)} {n i j : Nat} {u v : List Str} (h1 : ws[i]? = some u) (h2 : ws[j]? = some v) : (cmpO o u v n < 0) = (ltK (keyAt o ws n) i j = true) := by
  unfold cmpO
  rw [cmp_lt]
  show _ = (kLt (keyAt o ws n i) (keyAt o ws n j) = true)
  rw [key_at h1, key_at h2]
/-- in the sorted row the earlier one is not more -/
theorem sorted_le {o : Ord} {ws : List (List Str)} {n a b x y : Nat} {u v : List Str} (hab : a < b) (ha : (sortedM o ws n)[a]? = some x) (hb : (sortedM o ws n)[b]? = some y) (hx : ws[x]? = some u) (hy : ws[y]? = some v) : cmpO o u v n ≤ 0 := by
  have h := srt_at (srt_row (κ := keyAt o ws n) ws.length) hab ha hb
  have h' : kLt (keyAt o ws n y) (keyAt o ws n x) = false := h
  rw [key_at hx, key_at hy] at h'
  unfold cmpO
  rw [cmp_le]
  exact h'
end Pf
namespace Pf
open PySem PySem.Spec PyProof.Rows L2
section
variable {P : Program} {w : World} {K : PySem.W.Frag} {mg : Str → Option Value} {base : Heap}
theorem getD_get {S : List Int} {k : Nat} (h : k < S.length) : S[k]? = some (S.getD k 0) := by
  rw [List.getD_eq_getElem?_getD, List.getElem?_eq_getElem h]
  rfl
/-! ### removed -/
def spRemoved : Sp := fun vs H Q _ => ∃ v o z, vs = [v, .str z] ∧ IsOrd H v o ∧ z ∈ o.1 ∧ o.2.length = o.1.length - 1 ∧ o.1.length ≤ 12 ∧ ∀ v' H', Same H H' → IsOrd H' v' (removedM o z) → Q v' H'
theorem ok_removed (T : Txt K mg) : Calls P w K mg base 1 "removed" ["order", "letter"] spRemoved := by
  refine mk_removed T (fun vs H Q E h => ?_) (fun cdv A outer s H vs Q E hr h => ?_)
  · obtain ⟨v, o, z, rfl, _⟩ := h
    rfl
  · obtain ⟨v, ⟨L, S⟩, z, rfl, ⟨a, b, c, rfl, ha, hb, hc⟩, hz, hl, hm, q⟩ := h
    simp only at hb hc hz hl hm
    have hk := idx_lt hz
    refine ⟨_, (pss_cons (ps_asg (pv 0) (pg_tupK (K := K) (n := 2) rfl rfl (pgs_cons (pg_name (i := 2) sc_removed.nd rfl (by first | exact Or.inl rfl | exact Or.inr rfl)) (pgs_cons (pg_name (i := 3) sc_removed.nd rfl (by first | exact Or.inl rfl | exact Or.inr rfl)) pgs_nil))))
  (pss_cons (ps_set (i := 4) sc_removed.nd rfl (by first | exact Or.inl rfl | exact Or.inr rfl) (pe_bmS' PySem.F.plainAttrs_tuple PySem.F.slot_tuple_index PySem.F.type_tuple_index mt_tup_indexS (pv 2) (pa_cons (pv 1) pa_nil)))
  (pss_cons (ps_set (i := 5) sc_removed.nd rfl (by first | exact Or.inl rfl | exact Or.inr rfl) (pe_op op_catS (pe_slice sl_tupS (pv 2) po_none (po_some (pv 4))) (pe_slice sl_tupS (pv 2) (po_some (pe_op op_add (pv 4) pe_int)) po_none)))
  (pss_cons (ps_if (pt_cmpR op_eqIS (pv 4) pe_int (nomark _)) (pss_one (ps_ret (pe_tupS (pa_cons (pv 5) (pa_cons (pe_slice sl_tupS (pv 3) (po_some pe_int) po_none) pa_nil))))) pss_nil)
  (pss_cons (ps_if (pt_cmpR op_eqIS (pv 4) (pe_op op_sub (pe_callB (call_lenS (K := K) rfl) (by rfl) T.f_len boot_len' (pa_cons (pv 2) pa_nil)) pe_int) (nomark _)) (pss_one (ps_ret (pe_tupS (pa_cons (pv 5) (pa_cons (pe_slice sl_tupS (pv 3) po_none (po_some (pe_un un_neg pe_int))) pa_nil))))) pss_nil)
  (pss_one (ps_ret (pe_tupS (pa_cons (pv 5) (pa_cons (pe_op op_catS (pe_op op_catS (pe_slice sl_tupS (pv 3) po_none (po_some (pe_op op_sub (pv 4) pe_int))) (pe_tupS (pa_cons (pe_callB (call_min2 rfl) (by rfl) T.f_min boot_min' (pa_cons (pe_ix ix_tupS (pv 3) (pe_op op_sub (pv 4) pe_int) (fun _ _ => rfl)) (pa_cons (pe_ix ix_tupS (pv 3) (pv 4) (fun _ _ => rfl)) pa_nil))) pa_nil))) (pe_slice sl_tupS (pv 3) (po_some (pe_op op_add (pv 4) pe_int)) po_none)) pa_nil)))))))))), ?_⟩
    refine ⟨_, rfl, a, _, rfl, ha.sq, rfl, _, _, rfl, _, _, rfl, rfl, ?_⟩
    refine ⟨_, rfl, ⟨_, _, rfl, hb⟩, _, rfl, b, L, z, idx L z, rfl, rfl, hb, idx_get hz, fun m hm => idx_first hm, ?_⟩
    -- left = letters[:at] + letters[at + 1:]
    refine ⟨_, rfl, _, rfl, _, rfl, b, _, rfl, hb, fun p1 H1 s1 h1 => ?_⟩
    refine ⟨_, rfl, _, rfl, _, _, rfl, rfl, _, rfl, b, _, rfl, hb.same s1, fun p2 H2 s2 h2 => ?_⟩
    have g1 := (fz_upto (k := idx L z) h1 rfl).same s2
    have g2 := fz_from (k := idx L z + 1) h2 (by omega)
    refine ⟨_, _, _, _, rfl, rfl, g1, g2, le12 (by simp; omega), fun p3 H3 s3 h3 => ?_⟩
    have g3 := fz_cat h3
    have s13 : Same H H3 := s1.trans (s2.trans s3)
    have hc3 := hc.same s13
    have ok : ∀ {p : Addr} {H' : Hp} {cs : Addr} {S' : List Int}, Same H3 H' → FzT H' p [.ref p3, .ref cs] → FzT H' cs (S'.map V.int) → S' = rmS S L.length (idx L z) → Q (.ref p) H' := fun s4 hp hcs e =>
      q _ _ (s13.trans s4) ⟨_, _, _, rfl, hp, g3.same s4, fz_eq hcs e⟩
    -- if at == 0
    refine ⟨_, rfl, _, _, rfl, rfl, _, rfl, ?_⟩
    by_cases h0 : (idx L z : Int) = 0
    · refine iteDT h0 ?_
      have h0' : idx L z = 0 := by omega
      refine ⟨_, rfl, _, rfl, _, rfl, _, _, rfl, hc3, fun p4 H4 s4 h4 => ⟨two_le, fun p5 H5 s5 h5 => ?_⟩⟩
      refine ok (s4.trans s5) h5 ((fz_from (k := 1) h4 rfl).same s5) ?_
      unfold rmS
      rw [if_pos h0']
    refine iteDF h0 ?_
    have h0' : idx L z ≠ 0 := by omega
    -- if at == len(letters) - 1
    refine ⟨_, rfl, _, rfl, _, L.length, rfl, .inr (.inr ⟨_, _, rfl, hb.same s13, (List.length_map _).symm⟩), _, 1, rfl, rfl, _, _, rfl, rfl, _, rfl, ?_⟩
    by_cases h1 : (idx L z : Int) = (L.length : Int) - 1
    · refine iteDT h1 ?_
      refine ⟨_, rfl, _, rfl, 1, rfl, _, rfl, _, _, rfl, hc3, fun p4 H4 s4 h4 => ⟨two_le, fun p5 H5 s5 h5 => ?_⟩⟩
      refine ok (s4.trans s5) h5 ((fz_but h4).same s5) ?_
      unfold rmS
      rw [if_neg h0', if_pos (by omega)]
    refine iteDF h1 ?_
    -- the middle
    refine ⟨_, rfl, _, rfl, _, rfl, _, _, rfl, rfl, _, rfl, _, _, rfl, hc3, fun p4 H4 s4 h4 => ?_⟩
    have hc4 := hc3.same s4
    have i1 : idx L z - 1 < S.length := by omega
    have i2 : idx L z < S.length := by omega
    have e1 : (idx L z : Int) - 1 = ((idx L z - 1 : Nat) : Int) := by omega
    refine ⟨_, rfl, _, rfl, _, _, rfl, rfl, _, _, _, idx L z - 1, _, rfl, rfl, hc4, e1, int_get (getD_get i1), ?_⟩
    refine ⟨_, rfl, _, rfl, _, _, _, idx L z, _, rfl, rfl, hc4, rfl, int_get (getD_get i2), _, _, rfl, ?_⟩
    refine ⟨le12 (by show 1 ≤ 1000; decide), fun p5 H5 s5 h5 => ?_⟩
    have g4 := (fz_upto (k := idx L z - 1) h4 e1).same s5
    have g5 : FzT H5 p5 ([if S.getD (idx L z) 0 < S.getD (idx L z - 1) 0 then S.getD (idx L z) 0 else S.getD (idx L z - 1) 0].map V.int) := h5
    refine ⟨_, _, _, _, rfl, rfl, g4, g5, le12 (by simp; omega), fun p6 H6 s6 h6 => ?_⟩
    have g6 := fz_cat h6
    refine ⟨_, rfl, _, rfl, _, _, rfl, rfl, _, rfl, _, _, rfl, hc4.same (s5.trans s6), fun p7 H7 s7 h7 => ?_⟩
    have g7 := fz_from (k := idx L z + 1) h7 (by omega)
    refine ⟨_, _, _, _, rfl, rfl, g6.same s7, g7, le12 (by simp; omega), fun p8 H8 s8 h8 => ?_⟩
    have g8 := fz_cat h8
    refine ⟨two_le, fun p9 H9 s9 h9 => ?_⟩
    refine ok (s4.trans (s5.trans (s6.trans (s7.trans (s8.trans s9))))) h9 (g8.same s9) ?_
    unfold rmS
    rw [if_neg h0', if_neg (show ¬ idx L z = L.length - 1 by omega)]
/-! ### turned_around -/
def spTurn : Sp := fun vs H Q _ => ∃ v o, vs = [v] ∧ IsOrd H v o ∧ ∀ v' H', Same H H' → IsOrd H' v' (turnM o) → Q v' H'
theorem ok_turned_around (T : Txt K mg) : Calls P w K mg base 1 "turned_around" ["order"] spTurn := by
  refine mk_turned_around T (fun vs H Q E h => ?_) (fun cdv A outer s H vs Q E hr h => ?_)
  · obtain ⟨v, o, rfl, _⟩ := h
    rfl
  · obtain ⟨v, ⟨L, S⟩, rfl, ⟨a, b, c, rfl, ha, hb, hc⟩, q⟩ := h
    refine ⟨_, (pss_one (ps_ret (pe_tupS (pa_cons (pe_revS (pe_ix ix_tupS (pv 0) pe_int (fun _ _ => rfl))) (pa_cons (pe_revS (pe_ix ix_tupS (pv 0) pe_int (fun _ _ => rfl))) pa_nil))))), ?_⟩
    refine ⟨_, rfl, _, _, _, _, _, rfl, rfl, (ha), rfl, (rfl), _, _, rfl, hb, fun p1 H1 s1 h1 => ?_⟩
    refine ⟨_, rfl, _, _, _, _, _, rfl, rfl, (ha.same s1), rfl, (rfl), _, _, rfl, hc.same s1, fun p2 H2 s2 h2 => ⟨two_le, fun p3 H3 s3 h3 => ?_⟩⟩
    exact q _ _ (s1.trans (s2.trans s3)) ⟨_, _, _, rfl, h3, (fz_rev h1).same (s2.trans s3), (fz_rev h2).same s3⟩
/-! ### put_after -/
def spPutAfter : Sp := fun vs H Q _ => ∃ v o a i z, vs = [v, .str a, .int i, .str z] ∧ IsOrd H v o ∧ a ∈ o.1 ∧ o.2.length = o.1.length - 1 ∧ o.1.length ≤ 12 ∧ ∀ v' H', Same H H' → IsOrd H' v' (putAfterM o a i z) → Q v' H'
theorem ok_put_after (T : Txt K mg) : Calls P w K mg base 1 "put_after" ["order", "anchor", "strength", "letter"] spPutAfter := by
  refine mk_put_after T (fun vs H Q E h => ?_) (fun cdv A outer s H vs Q E hr h => ?_)
  · obtain ⟨v, o, x, i, z, rfl, _⟩ := h
    rfl
  · obtain ⟨v, ⟨L, S⟩, x, i, z, rfl, ⟨a, b, c, rfl, ha, hb, hc⟩, hx, hl, hm, q⟩ := h
    simp only at hb hc hx hl hm
    have hk := idx_lt hx
    refine ⟨_, (pss_cons (ps_asg (pv 0) (pg_tupK (K := K) (n := 2) rfl rfl (pgs_cons (pg_name (i := 4) sc_put_after.nd rfl (by first | exact Or.inl rfl | exact Or.inr rfl)) (pgs_cons (pg_name (i := 5) sc_put_after.nd rfl (by first | exact Or.inl rfl | exact Or.inr rfl)) pgs_nil))))
  (pss_cons (ps_set (i := 6) sc_put_after.nd rfl (by first | exact Or.inl rfl | exact Or.inr rfl) (pe_bmS' PySem.F.plainAttrs_tuple PySem.F.slot_tuple_index PySem.F.type_tuple_index mt_tup_indexS (pv 4) (pa_cons (pv 1) pa_nil)))
  (pss_cons (ps_while PassesOwn.never (PW.pt (pw_and (pt_cmpR op_lt (pv 6) (pe_callB (call_lenS (K := K) rfl) (by rfl) T.f_len boot_len' (pa_cons (pv 5) pa_nil)) (nomark _)) (pw_and1 (pt_cmpR op_gt (pe_ix ix_tupS (pv 5) (pv 6) (fun _ _ => rfl)) (pv 2) (nomark _))))) (pss_one (ps_set (i := 6) sc_put_after.nd rfl (by first | exact Or.inl rfl | exact Or.inr rfl) (pe_op op_add (pv 6) pe_int))))
  (pss_cons (ps_set (i := 7) sc_put_after.nd rfl (by first | exact Or.inl rfl | exact Or.inr rfl) (pe_op op_catS (pe_op op_catS (pe_slice sl_tupS (pv 4) po_none (po_some (pe_op op_add (pv 6) pe_int))) (pe_tupS (pa_cons (pv 3) pa_nil))) (pe_slice sl_tupS (pv 4) (po_some (pe_op op_add (pv 6) pe_int)) po_none)))
  (pss_one (ps_ret (pe_tupS (pa_cons (pv 7) (pa_cons (pe_op op_catS (pe_op op_catS (pe_slice sl_tupS (pv 5) po_none (po_some (pv 6))) (pe_tupS (pa_cons (pv 2) pa_nil))) (pe_slice sl_tupS (pv 5) (po_some (pv 6)) po_none)) pa_nil))))))))), ?_⟩
    refine ⟨_, rfl, a, _, rfl, ha.sq, rfl, _, _, rfl, _, _, rfl, rfl, ?_⟩
    refine ⟨_, rfl, ⟨_, _, rfl, hb⟩, _, rfl, b, L, x, idx L x, rfl, rfl, hb, idx_get hx, fun m hm => idx_first hm, ?_⟩
    -- while at < len(strengths) and strengths[at] > strength
    refine ⟨fun m σ H' => ∃ k : Nat, σ = [some (.ref a), some (.str x), some (.int i), some (.str z), some (.ref b), some (.ref c), some (.int (k : Int)), none] ∧ H' = H ∧ m = S.length - k ∧ k ≤ S.length ∧ stop S i k = stop S i (idx L x),
      ⟨_, idx L x, rfl, rfl, rfl, by omega, rfl⟩, fun m σ H' hW => ?_⟩
    obtain ⟨k, rfl, rfl, rfl, hkS, hst⟩ := hW
    -- what stands behind the loop
    have fin : stop S i k = k → ∀ D : Ends, (∀ v' H1, Same H' H1 → IsOrd H1 v' (putAfterM (L, S) x i z) → D.rt v' H1) →
        tSeq (tAsg (tOp rCatS (tOp rCatS (tSl rSlS' (tVar 4) tNoPart (tPart (tOp (rI0 fun i j => .int (i + j)) (tVar 6) (tC (.int 1))))) (tTupS (tCons (tVar 3) tNil))) (tSl rSlS' (tVar 4) (tPart (tOp (rI0 fun i j => .int (i + j)) (tVar 6) (tC (.int 1)))) tNoPart)) (gName 7))
          (tRet (tTupS (tCons (tVar 7) (tCons (tOp rCatS (tOp rCatS (tSl rSlS' (tVar 5) tNoPart (tPart (tVar 6))) (tTupS (tCons (tVar 2) tNil))) (tSl rSlS' (tVar 5) (tPart (tVar 6)) tNoPart)) tNil)))) D
          [some (.ref a), some (.str x), some (.int i), some (.str z), some (.ref b), some (.ref c), some (.int (k : Int)), none] H' := by
      intro hk' D hD
      rw [hk'] at hst
      refine ⟨_, rfl, _, rfl, _, _, rfl, rfl, _, rfl, b, _, rfl, hb, fun p1 H1 s1 h1 => ?_⟩
      have g1 := fz_upto (k := k + 1) h1 (by omega)
      refine ⟨_, rfl, le12 (by show 1 ≤ 1000; decide), fun p2 H2 s2 h2 => ?_⟩
      have g2 : FzT H2 p2 ([z].map V.str) := h2
      refine ⟨_, _, _, _, rfl, rfl, g1.same s2, g2, le12 (by simp; omega), fun p3 H3 s3 h3 => ?_⟩
      have g3 := fz_cat h3
      refine ⟨_, rfl, _, rfl, _, _, rfl, rfl, _, rfl, b, _, rfl, hb.same (s1.trans (s2.trans s3)), fun p4 H4 s4 h4 => ?_⟩
      have g4 := fz_from (k := k + 1) h4 (by omega)
      refine ⟨_, _, _, _, rfl, rfl, g3.same s4, g4, le12 (by simp; omega), fun p5 H5 s5 h5 => ?_⟩
      have g5 := fz_cat h5
      have s15 := s1.trans (s2.trans (s3.trans (s4.trans s5)))
      have hc5 := hc.same s15
      refine ⟨_, rfl, _, rfl, _, rfl, _, rfl, c, _, rfl, hc5, fun p6 H6 s6 h6 => ?_⟩
      have g6 := fz_upto (k := k) h6 rfl
      refine ⟨_, rfl, le12 (by show 1 ≤ 1000; decide), fun p7 H7 s7 h7 => ?_⟩
      have g7 : FzT H7 p7 ([i].map V.int) := h7
      refine ⟨_, _, _, _, rfl, rfl, g6.same s7, g7, le12 (by simp; omega), fun p8 H8 s8 h8 => ?_⟩
      have g8 := fz_cat h8
      refine ⟨_, rfl, _, rfl, _, rfl, c, _, rfl, hc5.same (s6.trans (s7.trans s8)), fun p9 H9 s9 h9 => ?_⟩
      have g9 := fz_from (k := k) h9 rfl
      refine ⟨_, _, _, _, rfl, rfl, g8.same s9, g9, le12 (by simp; omega), fun p10 H10 s10 h10 => ⟨two_le, fun p11 H11 s11 h11 => ?_⟩⟩
      have g10 := fz_cat h10
      have s611 := s6.trans (s7.trans (s8.trans (s9.trans (s10.trans s11))))
      refine hD _ _ (s15.trans s611) ⟨_, _, _, rfl, h11, fz_eq (g5.same s611) ?_, fz_eq (g10.same s11) ?_⟩
      · show _ = (putAt (L, S) (stop S i (idx L x)) i z).1
        rw [← hst]
        rfl
      · show _ = (putAt (L, S) (stop S i (idx L x)) i z).2
        rw [← hst]
        rfl
    refine ⟨_, rfl, _, rfl, _, S.length, rfl, .inr (.inr ⟨_, _, rfl, hc, (List.length_map _).symm⟩), _, _, rfl, rfl, _, rfl, ?_⟩
    by_cases h1 : (k : Int) < (S.length : Int)
    · refine iteDT h1 ?_
      have h1' : k < S.length := by omega
      refine ⟨_, rfl, _, rfl, _, _, _, k, _, rfl, rfl, hc, rfl, int_get (getD_get h1'), _, rfl, _, _, rfl, rfl, _, rfl, ?_⟩
      by_cases h2 : i < S.getD k 0
      · refine iteDT h2 ⟨fun σ' H1 => σ' = [some (.ref a), some (.str x), some (.int i), some (.str z), some (.ref b), some (.ref c), some (.int ((k + 1 : Nat) : Int)), none] ∧ H1 = H', fun σ' H1 hN => ?_, ?_⟩
        · obtain ⟨rfl, rfl⟩ := hN
          exact ⟨S.length - (k + 1), by omega, k + 1, rfl, rfl, rfl, by omega, by rw [stop_step (getD_get h1') h2, hst]⟩
        · exact ⟨_, rfl, _, _, rfl, rfl, rfl, rfl⟩
      · exact iteDF h2 (fin (stop_end (.inr ⟨_, getD_get h1', h2⟩)) _ fun v' H1 s1 ho => q v' H1 s1 ho)
    · exact iteDF h1 (fin (stop_end (.inl (by omega))) _ fun v' H1 s1 ho => q v' H1 s1 ho)
/-! ### put -/
def spPut : Sp := fun vs H Q _ => ∃ v o u r, vs = [v, u] ∧ IsOrd H v o ∧ IsRule H u r ∧ OrdOk o ∧ RuleOk r ∧ canM o r ∧ ∀ v' H', Same H H' → IsOrd H' v' (putM o r) → Q v' H'
theorem side_after (r : Rule) : decide (r.side = "after") = r.after := by
  unfold Rule.side
  cases r.after with
  | true => rfl
  | false => rfl
theorem ok_put (T : Txt K mg) : Calls P w K mg base 2 "put" ["order", "rule"] spPut := by
  have C_turned_around := ok_turned_around (P := P) (w := w) (base := base) T
  have C_removed := ok_removed (P := P) (w := w) (base := base) T
  have C_put_after := ok_put_after (P := P) (w := w) (base := base) T
  refine mk_put T (fun vs H Q E h => ?_) (fun cdv A outer s H vs Q E hr h => ?_)
  · obtain ⟨v, o, u, r, rfl, _⟩ := h
    rfl
  · obtain ⟨v, o, u, r, rfl, ho, ⟨ru, rfl, hu⟩, ok, rk, can, q⟩ := h
    have hn : o.1 ≠ [] := fun e => by
      have := can.1
      rw [e] at this
      cases this
    obtain ⟨R, rp, _, _, hmem, hlen, _⟩ := base_row (z := r.z) ok hn
    have han : r.anchor ∈ (baseM o r.z).1 := by
      rw [rp.lets]
      exact (hmem _).mpr ⟨can.1, rk.ne⟩
    have hll : (baseM o r.z).2.length = (baseM o r.z).1.length - 1 := by
      rw [rp.lets, rp.str]
      simp
    have hmo : (baseM o r.z).1.length ≤ 12 := by
      rw [rp.lets, List.length_map]
      have := ok.most
      omega
    refine ⟨_, (pss_cons (ps_asg (pv 1) (pg_tupK (K := K) (n := 4) rfl rfl (pgs_cons (pg_name (i := 2) sc_put.nd rfl (by first | exact Or.inl rfl | exact Or.inr rfl)) (pgs_cons (pg_name (i := 3) sc_put.nd rfl (by first | exact Or.inl rfl | exact Or.inr rfl)) (pgs_cons (pg_name (i := 4) sc_put.nd rfl (by first | exact Or.inl rfl | exact Or.inr rfl)) (pgs_cons (pg_name (i := 5) sc_put.nd rfl (by first | exact Or.inl rfl | exact Or.inr rfl)) pgs_nil))))))
  (pss_cons (ps_if (pt_cmpR (op_in_strS (K := K) rfl) (pv 5) (pe_ix ix_tupS (pv 0) pe_int (fun _ _ => rfl)) (by rfl)) (pss_one (ps_set (i := 0) sc_put.nd rfl (by first | exact Or.inl rfl | exact Or.inr rfl) (pe_callC C_removed (hr.mono (by decide)) (by rfl) (pa_cons (pv 0) (pa_cons (pv 5) pa_nil))))) pss_nil)
  (pss_cons (ps_if (pt_cmpR op_eqSS (pv 2) pe_str (nomark _)) (pss_one (ps_ret (pe_callC C_put_after (hr.mono (by decide)) (by rfl) (pa_cons (pv 0) (pa_cons (pv 3) (pa_cons (pv 4) (pa_cons (pv 5) pa_nil))))))) pss_nil)
  (pss_one (ps_ret (pe_callC C_turned_around (hr.mono (by decide)) (by rfl) (pa_cons (pe_callC C_put_after (hr.mono (by decide)) (by rfl) (pa_cons (pe_callC C_turned_around (hr.mono (by decide)) (by rfl) (pa_cons (pv 0) pa_nil)) (pa_cons (pv 3) (pa_cons (pv 4) (pa_cons (pv 5) pa_nil))))) pa_nil))))))), ?_⟩
    refine ⟨_, rfl, ru, _, rfl, hu.sq, rfl, _, _, rfl, _, _, rfl, _, _, rfl, _, _, rfl, rfl, ?_⟩
    -- what stands behind the first if
    have fin : ∀ v1 H1 (D : Ends), Same H H1 → IsOrd H1 v1 (baseM o r.z) → (∀ v' H', Same H H' → IsOrd H' v' (putM o r) → D.rt v' H') →
        tSeq (tIfS (tTest (tOp (rS0 fun i j => .bl (decide (i = j))) (tVar 2) (tC (.str "after")))) (tRet (tCall spPutAfter [] E0 (tCons (tVar 0) (tCons (tVar 3) (tCons (tVar 4) (tCons (tVar 5) tNil)))))) tNext)
          (tRet (tCall spTurn [] E0 (tCons (tCall spPutAfter [] E0 (tCons (tCall spTurn [] E0 (tCons (tVar 0) tNil)) (tCons (tVar 3) (tCons (tVar 4) (tCons (tVar 5) tNil))))) tNil))) D
          [some v1, some (.ref ru), some (.str r.side), some (.str r.anchor), some (.int r.s), some (.str r.z)] H1 := by
      intro v1 H1 D s1 h1 hD
      refine ⟨_, rfl, _, _, rfl, rfl, _, rfl, ?_⟩
      rw [side_after r]
      have e : putM o r = if r.after then putAfterM (baseM o r.z) r.anchor r.s r.z else turnM (putAfterM (turnM (baseM o r.z)) r.anchor r.s r.z) := rfl
      cases hA : r.after with
      | true =>
        rw [hA, if_pos rfl] at e
        refine ⟨_, rfl, _, rfl, _, rfl, _, rfl, v1, baseM o r.z, r.anchor, r.s, r.z, rfl, h1, han, hll, hmo, fun v' H' s' ho' => hD v' H' (s1.trans s') ?_⟩
        rw [e]
        exact ho'
      | false =>
        rw [hA, if_neg Bool.false_ne_true] at e
        refine ⟨_, rfl, v1, baseM o r.z, rfl, h1, fun v2 H2 s2 h2 => ?_⟩
        refine ⟨_, rfl, _, rfl, _, rfl, v2, turnM (baseM o r.z), r.anchor, r.s, r.z, rfl, h2, List.mem_reverse.mpr han, ?_, ?_, fun v3 H3 s3 h3 => ?_⟩
        · show (baseM o r.z).2.reverse.length = (baseM o r.z).1.reverse.length - 1
          rw [List.length_reverse, List.length_reverse]
          exact hll
        · show (baseM o r.z).1.reverse.length ≤ 12
          rw [List.length_reverse]
          exact hmo
        refine ⟨v3, _, rfl, h3, fun v' H' s' ho' => hD v' H' (s1.trans (s2.trans (s3.trans s'))) ?_⟩
        rw [e]
        exact ho'
    obtain ⟨a, b, c, rfl, ha, hb, hc⟩ := id ho
    refine ⟨_, rfl, _, rfl, _, _, _, _, _, rfl, rfl, (ha), rfl, (rfl), b, o.1, r.z, rfl, rfl, .inr hb.sq, _, rfl, ?_⟩
    by_cases hz : r.z ∈ o.1
    · refine iteDT hz ⟨_, rfl, _, rfl, _, o, r.z, rfl, ho, hz, ok.len, ok.most, fun v1 H1 s1 h1 => ?_⟩
      refine fin v1 H1 _ s1 ?_ (fun v' H' s' ho' => q v' H' s' ho')
      unfold baseM
      rw [if_pos hz]
      exact h1
    · refine iteDF hz ?_
      refine fin (.ref a) H _ (Same.refl _) ?_ (fun v' H' s' ho' => q v' H' s' ho')
      unfold baseM
      rw [if_neg hz]
      exact ho
/-! ### why_not -/
def spWhy : Sp := fun vs H Q _ => ∃ v o u r, vs = [v, u] ∧ IsOrd H v o ∧ IsRule H u r ∧ canM o r ∧ ∀ H', Same H H' → Q (.str "") H'
theorem ok_why_not (T : Txt K mg) : Calls P w K mg base 1 "why_not" ["order", "rule"] spWhy := by
  refine mk_why_not T (fun vs H Q E h => ?_) (fun cdv A outer s H vs Q E hr h => ?_)
  · obtain ⟨v, o, u, r, rfl, _⟩ := h
    rfl
  · obtain ⟨v, o, u, r, rfl, ⟨a, b, c, rfl, ha, hb, hc⟩, ⟨ru, rfl, hu⟩, can, q⟩ := h
    refine ⟨_, (pss_cons (ps_if (pt_cmpR (op_notIn_strS (K := K) rfl) (pe_ix ix_tupS (pv 1) pe_int (fun _ _ => rfl)) (pe_ix ix_tupS (pv 0) pe_int (fun _ _ => rfl)) (by rfl)) (pss_one (ps_ret pe_str)) pss_nil)
  (pss_one (ps_ret (pe_ifExp (PW.pt (pw_and (pt_cmpR op_ge (pe_callB (call_lenS (K := K) rfl) (by rfl) T.f_len boot_len' (pa_cons (pe_ix ix_tupS (pv 0) pe_int (fun _ _ => rfl)) pa_nil)) (pe_gi T.i_MOST_LETTERS) (nomark _)) (pw_and1 (pt_cmpR (op_notIn_strS (K := K) rfl) (pe_ix ix_tupS (pv 1) pe_int (fun _ _ => rfl)) (pe_ix ix_tupS (pv 0) pe_int (fun _ _ => rfl)) (by rfl))))) pe_str pe_str)))), ?_⟩
    refine ⟨_, rfl, _, _, _, _, _, rfl, rfl, (hu), rfl, (rfl), _, rfl, _, _, _, _, _, rfl, rfl, (ha), rfl, (rfl), b, o.1, r.anchor, rfl, rfl, .inr hb.sq, _, rfl, iteNF can.1 ?_⟩
    refine ⟨_, rfl, _, _, _, _, _, rfl, rfl, (ha), rfl, (rfl), _, o.1.length, rfl, .inr (.inr ⟨_, _, rfl, hb, (List.length_map _).symm⟩), _, 12, rfl, rfl, _, rfl, ?_⟩
    by_cases h12 : (12 : Int) ≤ (o.1.length : Int)
    · refine iteDT h12 ?_
      have hz : r.z ∈ o.1 := by
        rcases can.2 with h | h
        · exact h
        · omega
      refine ⟨_, rfl, _, _, _, _, _, rfl, rfl, (hu), rfl, (rfl), _, rfl, _, _, _, _, _, rfl, rfl, (ha), rfl, (rfl), b, o.1, r.z, rfl, rfl, .inr hb.sq, _, rfl, iteNF hz ?_⟩
      exact q _ (Same.refl _)
    · exact iteDF h12 (q _ (Same.refl _))
/-! ### is_rule, is_rule_list -/
def spIsRule : Sp := fun vs H Q _ => ∃ u r, vs = [u] ∧ IsRule H u r ∧ RuleOk r ∧ ∀ H', Same H H' → Q (.bl true) H'
theorem ok_is_rule (T : Txt K mg) : Calls P w K mg base 2 "is_rule" ["value"] spIsRule := by
  have C_is_integer := ok_is_integer (P := P) (w := w) (base := base) T
  have C_is_letter := ok_is_letter (P := P) (w := w) (base := base) T
  refine mk_is_rule T (fun vs H Q E h => ?_) (fun cdv A outer s H vs Q E hr h => ?_)
  · obtain ⟨u, r, rfl, _⟩ := h
    rfl
  · obtain ⟨u, r, rfl, ⟨ru, rfl, hu⟩, rk, q⟩ := h
    refine ⟨_, (pss_cons (ps_if (PW.pt (pw_or (pt_not (pt_val (pe_callB (call_isiS (K := K) rfl) (by rfl) T.f_isinstance boot_isinstance' (pa_cons (pv 0) (pa_cons (pe_bltn (v := .ty "tuple") (by rfl) T.f_tuple boot_tuple' rfl) pa_nil))))) (pw_or (pt_cmpR op_neIS (pe_callB (call_lenS (K := K) rfl) (by rfl) T.f_len boot_len' (pa_cons (pv 0) pa_nil)) pe_int (nomark _)) (pw_or (pt_not (pt_val (pe_callB (call_isiS (K := K) rfl) (by rfl) T.f_isinstance boot_isinstance' (pa_cons (pe_ix ix_tupS (pv 0) pe_int (fun _ _ => rfl)) (pa_cons (pe_bltn (v := .ty "str") (by rfl) T.f_str boot_str' rfl) pa_nil))))) (pw_or1 (pt_cmpR (op_notIn_strS (K := K) rfl) (pe_ix ix_tupS (pv 0) pe_int (fun _ _ => rfl)) (pe_gr T.i_SIDES) (by rfl))))))) (pss_one (ps_ret pe_bl)) pss_nil)
  (pss_cons (ps_if (PW.pt (pw_or (pt_not (pt_val (pe_callC C_is_letter (hr.mono (by decide)) (by rfl) (pa_cons (pe_ix ix_tupS (pv 0) pe_int (fun _ _ => rfl)) pa_nil)))) (pw_or (pt_not (pt_val (pe_callC C_is_letter (hr.mono (by decide)) (by rfl) (pa_cons (pe_ix ix_tupS (pv 0) pe_int (fun _ _ => rfl)) pa_nil)))) (pw_or1 (pt_cmpR op_eqSS (pe_ix ix_tupS (pv 0) pe_int (fun _ _ => rfl)) (pe_ix ix_tupS (pv 0) pe_int (fun _ _ => rfl)) (nomark _)))))) (pss_one (ps_ret pe_bl)) pss_nil)
  (pss_one (ps_ret (pe_and (pe_callC C_is_integer (hr.mono (by decide)) (by rfl) (pa_cons (pe_ix ix_tupS (pv 0) pe_int (fun _ _ => rfl)) pa_nil)) (pe_one (pe_chain op_le op_le pe_int (pe_ix ix_tupS (pv 0) pe_int (fun _ _ => rfl)) pe_int))))))), ?_⟩
    refine ⟨_, rfl, _, _, _, _, rfl, (hu).ty, kit_tt, true, rfl, iteF ?_⟩
    refine ⟨_, rfl, _, 4, rfl, .inr (.inr ⟨_, _, rfl, hu, rfl⟩), _, 4, rfl, rfl, _, rfl, iteNF rfl ?_⟩
    refine ⟨_, rfl, _, _, _, _, _, rfl, rfl, (hu), rfl, (rfl), _, _, _, _, rfl, .base (.str _), kit_ss, true, rfl, iteF ?_⟩
    refine ⟨_, rfl, _, _, _, _, _, rfl, rfl, (hu), rfl, (rfl), He.ga K "SIDES", ["after", "before"], r.side, rfl, rfl, .inr (T.sides _), _, rfl, iteNF ?_ ?_⟩
    · unfold Rule.side
      cases r.after with
      | true => simp
      | false => simp
    refine ⟨_, rfl, _, _, _, _, _, rfl, rfl, (hu), rfl, (rfl), r.anchor, rfl, rk.anch, fun H1 s1 => ⟨true, rfl, iteF ?_⟩⟩
    have hu1 := hu.same s1
    refine ⟨_, rfl, _, _, _, _, _, rfl, rfl, (hu1), rfl, (rfl), r.z, rfl, rk.lett, fun H2 s2 => ⟨true, rfl, iteF ?_⟩⟩
    have hu2 := hu1.same s2
    refine ⟨_, rfl, _, _, _, _, _, rfl, rfl, (hu2), rfl, (rfl), _, rfl, _, _, _, _, _, rfl, rfl, (hu2), rfl, (rfl), r.anchor, r.z, rfl, rfl, _, rfl, iteDF rk.ne ?_⟩
    refine ⟨_, rfl, _, _, _, _, _, rfl, rfl, (hu2), rfl, (rfl), r.s, rfl, fun H3 s3 => ⟨true, rfl, iteT ?_⟩⟩
    have hu3 := hu2.same s3
    refine ⟨_, rfl, _, _, _, _, _, rfl, rfl, (hu3), rfl, (rfl), 1, r.s, rfl, rfl, _, rfl, iteDT rk.lo ⟨r.s, 3, rfl, rfl, qd (Q := Q) rk.hi (q _ (s1.trans (s2.trans s3)))⟩⟩
def spIsRules : Sp := fun vs H Q _ => ∃ u rs, vs = [u] ∧ IsRules H u rs ∧ rs.length ≤ 20 ∧ (∀ r ∈ rs, RuleOk r) ∧ ∀ H', Same H H' → Q (.bl true) H'
theorem ok_is_rule_list (T : Txt K mg) : Calls P w K mg base 3 "is_rule_list" ["value"] spIsRules := by
  have C_is_rule := ok_is_rule (P := P) (w := w) (base := base) T
  refine mk_is_rule_list T (fun vs H Q E h => ?_) (fun cdv A outer s H vs Q E hr h => ?_)
  · obtain ⟨u, r, rfl, _⟩ := h
    rfl
  · obtain ⟨u, rs, rfl, ⟨ru, us, rfl, hu, pr⟩, hlen, hok, q⟩ := h
    refine ⟨_, (pss_one (ps_ret (pe_and (pe_callB (call_isiS (K := K) rfl) (by rfl) T.f_isinstance boot_isinstance' (pa_cons (pv 0) (pa_cons (pe_bltn (v := .ty "tuple") (by rfl) T.f_tuple boot_tuple' rfl) pa_nil))) (pe_and (pe_cmpR op_le (pe_callB (call_lenS (K := K) rfl) (by rfl) T.f_len boot_len' (pa_cons (pv 0) pa_nil)) (pe_gi T.i_MOST_RULES) (nomark _)) (pe_one (pe_callB (cr_allK (K := K) rfl rfl) (by rfl) T.f_all boot_all' (pa_cons (pe_lc (own := [("rule", 1)]) (by rfl) sc_is_rule_list.nd (pi_tupK (K := K) rfl (pv 0)) (blkOk_by (own := [("rule", 1)]) (N := N_is_rule_list) (sc := (defScope s_is_rule_list)) (by decide +kernel)) (fun _ _ _ _ _ => (pg_name (i := 1) sc_is_rule_list.nd rfl (by first | exact Or.inl rfl | exact Or.inr rfl))) (fun _ _ _ _ _ => pts_nil) (fun _ _ _ _ _ => (pe_callC C_is_rule (hr.mono (by decide)) (by rfl) (pa_cons (pv 1) pa_nil)))) pa_nil))))))), ?_⟩
    have el : us.length = rs.length := Paired.length pr
    refine ⟨_, rfl, _, _, _, _, rfl, (hu).ty, kit_tt, true, rfl, iteT ?_⟩
    refine ⟨_, rfl, _, us.length, rfl, .inr (.inr ⟨_, _, rfl, hu, rfl⟩), _, 20, rfl, rfl, _, rfl, iteDT (by omega) ?_⟩
    refine ⟨_, rfl, ru, rfl, ⟨_, hu.sq⟩, fun D nD => all_lcW walk_tup nD (by omega) (fun H' s => (hu.same s).sq) (fun i x H1 H2 R hi s1 y k => ?_) fun H1 s1 e => ⟨D, _, rfl, .of e, by rw [all_true]; exact q _ s1⟩⟩
    obtain ⟨rfl, hx⟩ := y
    obtain ⟨r, hr1, hr2⟩ := Paired.ta pr hx
    exact ⟨rfl, _, rfl, x, r, rfl, hr2.mono s1, hok r (List.mem_of_getElem? hr1), fun H4 s4 => k H4 s4⟩
/-! ### led -/
theorem take_succ {α : Type} {l : List α} {i : Nat} {x : α} (h : l[i]? = some x) : l.take (i + 1) = l.take i ++ [x] := by
  rw [List.take_add_one, h]
  rfl
theorem led_take {o : Ord} {rs : List Rule} {i : Nat} {r : Rule} (h : rs[i]? = some r) : ledM o (rs.take (i + 1)) = putM (ledM o (rs.take i)) r := by
  unfold ledM
  rw [take_succ h, List.foldl_append]
  rfl
theorem can_at : ∀ {rs : List Rule} {o : Ord} {i : Nat} {r : Rule}, OrdOk o → (∀ r ∈ rs, RuleOk r) → CanAll o rs → rs[i]? = some r → canM (ledM o (rs.take i)) r ∧ OrdOk (ledM o (rs.take i))
  | [], _, _, _, _, _, _, h => by simp at h
  | r0 :: rs, o, 0, r, ok, _, hc, h => by
    have e : r0 = r := Option.some.inj h
    subst e
    exact ⟨hc.1, ok⟩
  | r0 :: rs, o, i + 1, r, ok, hr, hc, h =>
    can_at (rs := rs) (o := putM o r0) (put_row ok (hr r0 (by simp)) hc.1).1 (fun q hq => hr q (by simp [hq])) hc.2 (by simpa using h)
def spLed : Sp := fun vs H Q _ => ∃ v o u rs, vs = [v, u] ∧ IsOrd H v o ∧ IsRules H u rs ∧ OrdOk o ∧ rs.length ≤ 20 ∧ (∀ r ∈ rs, RuleOk r) ∧ CanAll o rs ∧ ∀ v' H', Same H H' → IsOrd H' v' (ledM o rs) → Q v' H'
theorem ok_led (T : Txt K mg) : Calls P w K mg base 5 "led" ["order", "rules"] spLed := by
  have C_check_order_rules := ok_check_order_rules (P := P) (w := w) (base := base) T
  have C_is_rule_list := ok_is_rule_list (P := P) (w := w) (base := base) T
  have C_why_not := ok_why_not (P := P) (w := w) (base := base) T
  have C_put := ok_put (P := P) (w := w) (base := base) T
  refine mk_led T (fun vs H Q E h => ?_) (fun cdv A outer s H vs Q E hr h => ?_)
  · obtain ⟨v, o, u, r, rfl, _⟩ := h
    rfl
  · obtain ⟨v, o, u, rs, rfl, ho, hrs, ok, hlen, hok, hcan, q⟩ := h
    refine ⟨_, (pss_cons (ps_expr (pe_callC C_check_order_rules (hr.mono (by decide)) (by rfl) (pa_cons (pv 0) (pa_cons pe_str pa_nil))))
  (pss_cons (ps_if (pt_not (pt_val (pe_callC C_is_rule_list (hr.mono (by decide)) (by rfl) (pa_cons (pv 1) pa_nil)))) (pss_one ps_never) pss_nil)
  (pss_cons (ps_for PassesOwn.never rfl (pi_enumTK (K := K) rfl (by rfl) T.f_enumerate (pa_cons (pv 1) pa_nil)) (pg_tupK (K := K) (n := 2) rfl rfl (pgs_cons (pg_name (i := 2) sc_led.nd rfl (by first | exact Or.inl rfl | exact Or.inr rfl)) (pgs_cons (pg_name (i := 3) sc_led.nd rfl (by first | exact Or.inl rfl | exact Or.inr rfl)) pgs_nil)))
  (pss_cons (ps_set (i := 4) sc_led.nd rfl (by first | exact Or.inl rfl | exact Or.inr rfl) (pe_callC C_why_not (hr.mono (by decide)) (by rfl) (pa_cons (pv 0) (pa_cons (pv 3) pa_nil))))
  (pss_cons (ps_if (pt_cmpR op_neSS (pv 4) pe_str (nomark _)) (pss_one ps_never) pss_nil)
  (pss_one (ps_set (i := 0) sc_led.nd rfl (by first | exact Or.inl rfl | exact Or.inr rfl) (pe_callC C_put (hr.mono (by decide)) (by rfl) (pa_cons (pv 0) (pa_cons (pv 3) pa_nil))))))))
  (pss_one (ps_ret (pv 0)))))), ?_⟩
    refine ⟨_, rfl, v, o, _, rfl, ho, ok, fun H1 s1 => ?_⟩
    refine ⟨_, rfl, u, rs, rfl, hrs.mono s1, hlen, hok, fun H2 s2 => ⟨true, rfl, iteF ?_⟩⟩
    have s12 := s1.trans s2
    obtain ⟨ru, us, rfl, hu, pr⟩ := hrs.mono s12
    have el : us.length = rs.length := Paired.length pr
    refine ⟨_, rfl, ru, us, rfl, hu.sq, for_it (walk_enumT (xs := us)) (fun i σ H' => ∃ v' x1 x2 x3, σ = [some v', some (.ref ru), x1, x2, x3] ∧ Same H2 H' ∧ IsOrd H' v' (ledM o (rs.take i)))
      ⟨v, none, none, none, rfl, Same.refl _, ho.mono s12⟩ (fun i σ H' _ p => ?_) (fun i x σ H3 H4 hi p y => ?_) (fun σ H' p => ?_)⟩
    · obtain ⟨_, _, _, _, _, s', _⟩ := p
      exact (hu.same s').sq
    · obtain ⟨v', x1, x2, x3, rfl, s3, ho3⟩ := p
      obtain ⟨tt, y1, y2, rfl, nT, rfl, f1, f2⟩ := y
      obtain ⟨r, hr1, hr2⟩ := Paired.ta pr f2
      obtain ⟨cm, okm⟩ := can_at ok hok hcan hr1
      have sT : Same H3 (upd H3 tt (.tup [y1, y2])) := same_upd nT
      have hrT := hr2.mono (s3.trans sT)
      -- index, rule = the pair
      refine ⟨tt, [y1, y2], rfl, .inl (.inl upd_same), rfl, _, _, rfl, _, _, rfl, rfl, ?_⟩
      refine ⟨_, rfl, _, rfl, v', ledM o (rs.take i), y2, r, rfl, ho3.mono sT, hrT, cm, fun H5 s5 => ?_⟩
      refine ⟨_, rfl, _, _, rfl, rfl, _, rfl, iteNF rfl ?_⟩
      refine ⟨_, rfl, _, rfl, v', ledM o (rs.take i), y2, r, rfl, ho3.mono (sT.trans s5), hrT.mono s5, okm, hok r (List.mem_of_getElem? hr1), cm, fun v6 H6 s6 h6 => ?_⟩
      refine ⟨v6, _, _, _, rfl, s3.trans (sT.trans (s5.trans s6)), ?_⟩
      rw [led_take hr1]
      exact h6
    · obtain ⟨v', x1, x2, x3, rfl, s3, ho3⟩ := p
      rw [el, List.take_length] at ho3
      exact ⟨v', rfl, q v' H' (s12.trans s3) ho3⟩
end
end Pf
namespace Pf
open PySem PySem.Spec PyProof.Rows L2
section
variable {P : Program} {w : World} {K : PySem.W.Frag} {mg : Str → Option Value} {base : Heap}
/-! ### words of an order -/
structure WordOk (o : Ord) (u : List Str) : Prop where
  mem : ∀ x ∈ u, x ∈ o.1
  len : u.length ≤ 12
def spHas : Sp := fun vs H Q _ => ∃ v o x u, vs = [v, x] ∧ IsOrd H v o ∧ IsWrd H x u ∧ WordOk o u ∧ ∀ H', Same H H' → Q (.bl true) H'
theorem ok_has_letters (T : Txt K mg) : Calls P w K mg base 1 "has_letters" ["order", "value"] spHas := by
  refine mk_has_letters T (fun vs H Q E h => ?_) (fun cdv A outer s H vs Q E hr h => ?_)
  · obtain ⟨v, o, x, u, rfl, _⟩ := h
    rfl
  · obtain ⟨v, o, x, u, rfl, ⟨a, b, c, rfl, ha, hb, hc⟩, ⟨y, rfl, hy⟩, wk, q⟩ := h
    have hlen := wk.len
    refine ⟨_, (pss_cons (ps_if (PW.pt (pw_or (pt_not (pt_val (pe_callB (call_isiS (K := K) rfl) (by rfl) T.f_isinstance boot_isinstance' (pa_cons (pv 1) (pa_cons (pe_bltn (v := .ty "tuple") (by rfl) T.f_tuple boot_tuple' rfl) pa_nil))))) (pw_or1 (pt_cmpR op_gt (pe_callB (call_lenS (K := K) rfl) (by rfl) T.f_len boot_len' (pa_cons (pv 1) pa_nil)) (pe_gi T.i_LONGEST_WORD) (nomark _))))) (pss_one (ps_ret pe_bl)) pss_nil)
  (pss_one (ps_ret (pe_callB (cr_allK (K := K) rfl rfl) (by rfl) T.f_all boot_all' (pa_cons (pe_lc (own := [("letter", 2)]) (by rfl) sc_has_letters.nd (pi_tupK (K := K) rfl (pv 1)) (blkOk_by (own := [("letter", 2)]) (N := N_has_letters) (sc := (defScope s_has_letters)) (by decide +kernel)) (fun _ _ _ _ _ => (pg_name (i := 2) sc_has_letters.nd rfl (by first | exact Or.inl rfl | exact Or.inr rfl))) (fun _ _ _ _ _ => pts_nil) (fun _ _ _ _ _ => (pe_and (pe_callB (call_isiS (K := K) rfl) (by rfl) T.f_isinstance boot_isinstance' (pa_cons (pv 2) (pa_cons (pe_bltn (v := .ty "str") (by rfl) T.f_str boot_str' rfl) pa_nil))) (pe_one (pe_cmpR (op_in_strS (K := K) rfl) (pv 2) (pe_ix ix_tupS (pv 0) pe_int (fun _ _ => rfl)) (by rfl)))))) pa_nil))))), ?_⟩
    refine ⟨_, rfl, _, _, _, _, rfl, (hy).ty, kit_tt, true, rfl, iteF ?_⟩
    refine ⟨_, rfl, _, u.length, rfl, .inr (.inr ⟨_, _, rfl, hy, (List.length_map _).symm⟩), _, 12, rfl, rfl, _, rfl, iteDF (by omega) ?_⟩
    refine ⟨_, rfl, y, rfl, ⟨_, hy.sq⟩, fun D nD => all_lcW walk_tup nD (by rw [List.length_map]; omega) (fun H' s => (hy.same s).sq) (fun i z H1 H2 R hi s1 yy k => ?_) fun H1 s1 e => ⟨D, _, rfl, .of e, by rw [all_true]; exact q _ s1⟩⟩
    obtain ⟨rfl, hz⟩ := yy
    obtain ⟨l, hl, rfl⟩ := strs_at hz
    have ha1 := ha.same s1
    have hb1 := hb.same s1
    exact ⟨rfl, _, rfl, _, _, _, _, rfl, .base (.str _), kit_ss, true, rfl, iteT ⟨_, rfl, _, rfl, _, _, _, _, _, rfl, rfl, (ha1), rfl, (rfl), b, o.1, l, rfl, rfl, .inr hb1.sq, qd (Q := R) (wk.mem l (List.mem_of_getElem? hl)) (k _ (Same.refl _))⟩⟩
def spIsWord : Sp := fun vs H Q _ => ∃ v o x u, vs = [v, x] ∧ IsOrd H v o ∧ OrdOk o ∧ IsWrd H x u ∧ WordOk o u ∧ ∀ H', Same H H' → Q (.bl true) H'
theorem ok_is_word (T : Txt K mg) : Calls P w K mg base 5 "is_word" ["order", "value"] spIsWord := by
  have C_check_order_orders := ok_check_order_orders (P := P) (w := w) (base := base) T
  have C_has_letters := ok_has_letters (P := P) (w := w) (base := base) T
  refine mk_is_word T (fun vs H Q E h => ?_) (fun cdv A outer s H vs Q E hr h => ?_)
  · obtain ⟨v, o, x, u, rfl, _⟩ := h
    rfl
  · obtain ⟨v, o, x, u, rfl, ho, ok, hx, wk, q⟩ := h
    refine ⟨_, (pss_cons (ps_expr (pe_callC C_check_order_orders (hr.mono (by decide)) (by rfl) (pa_cons (pv 0) (pa_cons pe_str pa_nil))))
  (pss_one (ps_ret (pe_callC C_has_letters (hr.mono (by decide)) (by rfl) (pa_cons (pv 0) (pa_cons (pv 1) pa_nil)))))), ?_⟩
    refine ⟨_, rfl, v, o, _, rfl, ho, ok, fun H1 s1 => ?_⟩
    exact ⟨_, rfl, _, rfl, v, o, x, u, rfl, ho.mono s1, hx.mono s1, wk, fun H2 s2 => q _ (s1.trans s2)⟩
def spChkWord : Sp := fun vs H Q _ => ∃ v o x u n, vs = [v, x, .str n] ∧ IsOrd H v o ∧ IsWrd H x u ∧ WordOk o u ∧ ∀ H', Same H H' → Q .non H'
theorem ok_check_word (T : Txt K mg) : Calls P w K mg base 2 "check_word" ["order", "word", "name"] spChkWord := by
  have C_has_letters := ok_has_letters (P := P) (w := w) (base := base) T
  refine mk_check_word T (fun vs H Q E h => ?_) (fun cdv A outer s H vs Q E hr h => ?_)
  · obtain ⟨v, o, x, u, n, rfl, _⟩ := h
    rfl
  · obtain ⟨v, o, x, u, n, rfl, ho, hx, wk, q⟩ := h
    refine ⟨_, (pss_one (ps_if (pt_not (pt_val (pe_callC C_has_letters (hr.mono (by decide)) (by rfl) (pa_cons (pv 0) (pa_cons (pv 1) pa_nil))))) (pss_one ps_never) pss_nil)), ?_⟩
    exact ⟨_, rfl, _, rfl, v, o, x, u, rfl, ho, hx, wk, fun H1 s1 => ⟨true, rfl, iteF (q _ s1)⟩⟩
/-! ### all_weights -/
def wtup (x : Wt) : List V := [.int x.1, .int x.2.1, .int x.2.2]
def IsTold (H : Hp) (v : V) (o : Ord) : Prop := ∃ d kvs, v = .ref d ∧ H d = some (.dK kvs) ∧ ∀ x ∈ o.1, ∃ t, valV kvs (Sum.inr x) = some (.ref t) ∧ FzT H t (wtup (wt o x))
theorem IsTold.mono {H H' : Hp} {v : V} {o : Ord} (s : Same H H') : IsTold H v o → IsTold H' v o := fun ⟨d, kvs, e, h1, h2⟩ => ⟨d, kvs, e, s _ _ h1, fun x hx => let ⟨t, a, b⟩ := h2 x hx; ⟨t, a, b.same s⟩⟩
theorem wtP_at : ∀ {ss : List Int} {L : List Str} {x0 : Wt} {j : Nat} {x : Str}, ss.length = L.length → L.Nodup → L[j]? = some x → wtP x0 (List.zip ss L) x = some ((ss.take (j + 1)).foldl stepW x0)
  | [], [], _, _, _, _, _, h => by simp at h
  | [], _ :: _, _, _, _, e, _, _ => by cases e
  | _ :: _, [], _, _, _, e, _, _ => by cases e
  | s :: ss, l :: L, x0, 0, x, e, nd, h => by
    have : l = x := Option.some.inj h
    show (if l = x then some (stepW x0 s) else _) = _
    rw [if_pos this]
    rfl
  | s :: ss, l :: L, x0, j + 1, x, e, nd, h => by
    have nd' := List.nodup_cons.mp nd
    have hx : L[j]? = some x := by simpa using h
    have : ¬ l = x := fun q => nd'.1 (q ▸ List.mem_of_getElem? hx)
    show (if l = x then some (stepW x0 s) else wtP (stepW x0 s) (List.zip ss L) x) = _
    rw [if_neg this, wtP_at (by simpa using e) nd'.2 hx]
    rfl
def accW (o : Ord) (i : Nat) : Wt := ((1 :: o.2).take i).foldl stepW (0, 0, 0)
theorem wt_at {o : Ord} {j : Nat} {x : Str} (ok : OrdOk o) (h : o.1[j]? = some x) : wt o x = accW o (j + 1) := by
  have hl := (List.getElem?_eq_some_iff.mp h).1
  unfold wt rowOf accW
  rw [wtP_at (by have := ok.len; simp; omega) ok.nd h]
  rfl
theorem acc_succ {o : Ord} {i : Nat} {s : Int} (h : (1 :: o.2)[i]? = some s) : accW o (i + 1) = stepW (accW o i) s := by
  unfold accW
  rw [List.take_add_one, h, List.foldl_append]
  rfl
def spWeights : Sp := fun vs H Q _ => ∃ v o, vs = [v] ∧ IsOrd H v o ∧ OrdOk o ∧ ∀ v' H', Same H H' → IsTold H' v' o → Q v' H'
theorem ok_all_weights (T : Txt K mg) : Calls P w K mg base 1 "all_weights" ["order"] spWeights := by
  refine mk_all_weights T (fun vs H Q E h => ?_) (fun cdv A outer s H vs Q E hr h => ?_)
  · obtain ⟨v, o, rfl, _⟩ := h
    rfl
  · obtain ⟨v, ⟨L, S⟩, rfl, ⟨a, b, c, rfl, ha, hb, hc⟩, ok, q⟩ := h
    simp only at hb hc
    have hlen : S.length = L.length - 1 := ok.len
    have hmost : L.length ≤ 12 := ok.most
    have hnd : L.Nodup := ok.nd
    refine ⟨_, (pss_cons (ps_set (i := 1) sc_all_weights.nd rfl (by first | exact Or.inl rfl | exact Or.inr rfl) pe_dnewK)
  (pss_cons (ps_set (i := 2) sc_all_weights.nd rfl (by first | exact Or.inl rfl | exact Or.inr rfl) (pe_tupS (pa_cons pe_int (pa_cons pe_int (pa_cons pe_int pa_nil)))))
  (pss_cons (ps_for PassesOwn.never rfl (pi_enumTK (K := K) rfl (by rfl) T.f_enumerate (pa_cons (pe_ix ix_tupS (pv 0) pe_int (fun _ _ => rfl)) pa_nil)) (pg_tupK (K := K) (n := 2) rfl rfl (pgs_cons (pg_name (i := 3) sc_all_weights.nd rfl (by first | exact Or.inl rfl | exact Or.inr rfl)) (pgs_cons (pg_name (i := 4) sc_all_weights.nd rfl (by first | exact Or.inl rfl | exact Or.inr rfl)) pgs_nil)))
  (pss_cons (ps_set (i := 5) sc_all_weights.nd rfl (by first | exact Or.inl rfl | exact Or.inr rfl) (pe_ifExp (pt_cmpR op_eqIS (pv 3) pe_int (nomark _)) pe_int (pe_ix ix_tupS (pe_ix ix_tupS (pv 0) pe_int (fun _ _ => rfl)) (pe_op op_sub (pv 3) pe_int) (fun _ _ => rfl))))
  (pss_cons (ps_asg (pv 2) (pg_tupK (K := K) (n := 3) rfl rfl (pgs_cons (pg_name (i := 6) sc_all_weights.nd rfl (by first | exact Or.inl rfl | exact Or.inr rfl)) (pgs_cons (pg_name (i := 7) sc_all_weights.nd rfl (by first | exact Or.inl rfl | exact Or.inr rfl)) (pgs_cons (pg_name (i := 8) sc_all_weights.nd rfl (by first | exact Or.inl rfl | exact Or.inr rfl)) pgs_nil)))))
  (pss_cons (ps_if (pt_cmpR op_eqIS (pv 5) pe_int (nomark _)) (pss_one (ps_set (i := 2) sc_all_weights.nd rfl (by first | exact Or.inl rfl | exact Or.inr rfl) (pe_tupS (pa_cons (pe_op op_add (pv 6) pe_int) (pa_cons pe_int (pa_cons pe_int pa_nil)))))) (pss_one (ps_if (pt_cmpR op_eqIS (pv 5) pe_int (nomark _)) (pss_one (ps_set (i := 2) sc_all_weights.nd rfl (by first | exact Or.inl rfl | exact Or.inr rfl) (pe_tupS (pa_cons (pv 6) (pa_cons (pe_op op_add (pv 7) pe_int) (pa_cons pe_int pa_nil)))))) (pss_one (ps_set (i := 2) sc_all_weights.nd rfl (by first | exact Or.inl rfl | exact Or.inr rfl) (pe_tupS (pa_cons (pv 6) (pa_cons (pv 7) (pa_cons (pe_op op_add (pv 8) pe_int) pa_nil)))))))))
  (pss_one (ps_dput (hu_of hr) (pv 1) (pv 4) (pv 2) rfl))))))
  (pss_one (ps_ret (pv 1)))))), ?_⟩
    refine fun d nd => ?_
    have s0 : Same H (upd H d (.dK [])) := same_upd nd
    refine ⟨by show 3 ≤ sizeLine; decide, fun t0 H0 s1 ht0 => ?_⟩
    have s01 := s0.trans s1
    have hd0 : H0 d = some (.dK []) := s1 _ _ upd_same
    refine ⟨_, rfl, _, _, _, _, _, rfl, rfl, (ha.same s01), rfl, (rfl), b, _, rfl, (hb.same s01).sq, for_it (walk_enumT (xs := L.map V.str)) (fun i σ H' => ∃ t kvs x3 x4 x5 x6 x7 x8, σ = [some (.ref a), some (.ref d), some (.ref t), x3, x4, x5, x6, x7, x8] ∧ Same H H' ∧ H' d = some (.dK kvs) ∧ kvs.length ≤ i ∧
        FzT H' t (wtup (accW (L, S) i)) ∧ ∀ j x, j < i → L[j]? = some x → ∃ t', valV kvs (Sum.inr x) = some (.ref t') ∧ FzT H' t' (wtup (accW (L, S) (j + 1))))
      ⟨t0, [], none, none, none, none, none, none, rfl, s01, hd0, Nat.le_refl _, ht0, fun j x hj => absurd hj (Nat.not_lt_zero _)⟩ (fun i σ H' _ p => ?_) (fun i x σ H3 H4 hi p y => ?_) (fun σ H' p => ?_)⟩
    · obtain ⟨_, _, _, _, _, _, _, _, _, s', _⟩ := p
      exact (hb.same s').sq
    · obtain ⟨t, kvs, x3, x4, x5, x6, x7, x8, rfl, s3, hd3, hkl, ht3, hj3⟩ := p
      obtain ⟨tt, y1, y2, rfl, nT, rfl, f1, f2⟩ := y
      obtain ⟨l, hl, rfl⟩ := strs_at f2
      obtain rfl : y1 = .int (i : Nat) := (Option.some.inj f1).symm
      rw [List.length_map] at hi
      have sT : Same H3 (upd H3 tt (.tup [.int (i : Nat), .str l])) := same_upd nT
      have s3T := s3.trans sT
      refine ⟨tt, _, rfl, .inl (.inl upd_same), rfl, _, _, rfl, _, _, rfl, rfl, ?_⟩
      -- strength
      have hsi : ∃ z, (1 :: S)[i]? = some z := ⟨_, List.getElem?_eq_getElem (by simp; omega)⟩
      obtain ⟨z, hz⟩ := hsi
      -- what stands behind strength = ..
      have fin : ∀ (D : Ends), (∀ t' x3 x4 x5 x6 x7 x8 H' kvs', Same H H' → H' d = some (.dK kvs') → kvs'.length ≤ i + 1 → FzT H' t' (wtup (accW (L, S) (i + 1))) →
            (∀ j x, j < i + 1 → L[j]? = some x → ∃ t', valV kvs' (Sum.inr x) = some (.ref t') ∧ FzT H' t' (wtup (accW (L, S) (j + 1)))) →
            D.nx [some (.ref a), some (.ref d), some (.ref t'), x3, x4, x5, x6, x7, x8] H') →
          tSeq (tAsg (tVar 2) (gTup K 3 (gCons (gName 6) (gCons (gName 7) (gCons (gName 8) gNil)))))
            (tSeq (tIfS (tTest (tOp (rI0 fun i j => .bl (decide (i = j))) (tVar 5) (tC (.int 1)))) (tAsg (tTupS (tCons (tOp (rI0 fun i j => .int (i + j)) (tVar 6) (tC (.int 1))) (tCons (tC (.int 1)) (tCons (tC (.int 1)) tNil)))) (gName 2))
              (tIfS (tTest (tOp (rI0 fun i j => .bl (decide (i = j))) (tVar 5) (tC (.int 2)))) (tAsg (tTupS (tCons (tVar 6) (tCons (tOp (rI0 fun i j => .int (i + j)) (tVar 7) (tC (.int 1))) (tCons (tC (.int 1)) tNil)))) (gName 2))
                (tAsg (tTupS (tCons (tVar 6) (tCons (tVar 7) (tCons (tOp (rI0 fun i j => .int (i + j)) (tVar 8) (tC (.int 1))) tNil)))) (gName 2))))
              (sDPut (tVar 1) (tVar 4) (tVar 2))) D
            [some (.ref a), some (.ref d), some (.ref t), some (.int (i : Nat)), some (.str l), some (.int z), x6, x7, x8] (upd H3 tt (.tup [.int (i : Nat), .str l])) := by
        intro D hD
        have htT := ht3.same sT
        refine ⟨_, rfl, t, _, rfl, htT.sq, rfl, _, _, rfl, _, _, rfl, _, _, rfl, rfl, ?_⟩
        -- behind the ifs: the store
        have store : ∀ t' H5 x6 x7 x8, Same (upd H3 tt (.tup [.int (i : Nat), .str l])) H5 → FzT H5 t' (wtup (accW (L, S) (i + 1))) →
            sDPut (tVar 1) (tVar 4) (tVar 2) D [some (.ref a), some (.ref d), some (.ref t'), some (.int (i : Nat)), some (.str l), some (.int z), x6, x7, x8] H5 := by
          intro t' H5 x6 x7 x8 s5 ht5
          have s35 := s3T.trans s5
          have sT5 := sT.trans s5
          have hd5 : H5 d = some (.dK kvs) := sT5 _ _ hd3
          refine ⟨_, rfl, _, rfl, _, rfl, d, _, rfl, DPut.k (k := Sum.inr l) hd5 (small1000 (by omega)), ?_⟩
          refine hD t' _ _ _ _ _ _ _ _ (same_of s35 nd) upd_same ?_ (fz_updK ht5 hd5) fun j x hj hx => ?_
          · have := length_putK kvs (Sum.inr l : Key) (.ref t')
            omega
          · rw [valV_put]
            by_cases e : x = l
            · subst e
              have : j = i := nodup_at hnd hx hl
              subst this
              exact ⟨t', if_pos rfl, fz_updK ht5 hd5⟩
            · have hji : j < i := by
                rcases (show j < i ∨ j = i by omega) with h | h
                · exact h
                · subst h
                  rw [hl] at hx
                  exact absurd (Option.some.inj hx).symm e
              obtain ⟨t2, g1, g2⟩ := hj3 j x hji hx
              refine ⟨t2, ?_, fz_updK (g2.same sT5) hd5⟩
              rw [if_neg (fun q => e (Sum.inr.inj q))]
              exact g1
        have est : accW (L, S) (i + 1) = stepW (accW (L, S) i) z := acc_succ hz
        refine ⟨_, rfl, _, _, rfl, rfl, _, rfl, ?_⟩
        by_cases z1 : z = 1
        · refine iteDT z1 ⟨_, rfl, _, _, rfl, rfl, by show 3 ≤ sizeLine; decide, fun t' H5 s5 ht' => store t' H5 _ _ _ s5 ?_⟩
          rw [est]
          unfold stepW wtup
          rw [if_pos z1]
          exact ht'
        refine iteDF z1 ⟨_, rfl, _, _, rfl, rfl, _, rfl, ?_⟩
        by_cases z2 : z = 2
        · refine iteDT z2 ⟨_, rfl, _, rfl, _, _, rfl, rfl, by show 3 ≤ sizeLine; decide, fun t' H5 s5 ht' => store t' H5 _ _ _ s5 ?_⟩
          rw [est]
          unfold stepW wtup
          rw [if_neg z1, if_pos z2]
          exact ht'
        · refine iteDF z2 ⟨_, rfl, _, rfl, _, rfl, _, _, rfl, rfl, by show 3 ≤ sizeLine; decide, fun t' H5 s5 ht' => store t' H5 _ _ _ s5 ?_⟩
          rw [est]
          unfold stepW wtup
          rw [if_neg z1, if_neg z2]
          exact ht'
      refine ⟨_, rfl, _, _, rfl, rfl, _, rfl, ?_⟩
      by_cases h0 : ((i : Nat) : Int) = 0
      · have h0' : i = 0 := by omega
        subst h0'
        have : z = 1 := (Option.some.inj hz).symm
        subst this
        exact iteDT h0 (fin _ fun t' x3 x4 x5 x6 x7 x8 H' kvs' h1 h2 h3 h4 h5 => ⟨t', kvs', x3, x4, x5, x6, x7, x8, rfl, h1, h2, h3, h4, h5⟩)
      · refine iteDF h0 ⟨_, rfl, _, _, _, _, _, rfl, rfl, (ha.same s3T), rfl, (rfl), _, rfl, _, _, rfl, rfl, _, _, _, i - 1, _, rfl, rfl, hc.same s3T, by omega, int_get (z := z) ?_, (fin _ fun t' x3 x4 x5 x6 x7 x8 H' kvs' h1 h2 h3 h4 h5 => ⟨t', kvs', x3, x4, x5, x6, x7, x8, rfl, h1, h2, h3, h4, h5⟩)⟩
        have : i = (i - 1) + 1 := by omega
        rw [this] at hz
        simpa using hz
    · obtain ⟨t, kvs, x3, x4, x5, x6, x7, x8, rfl, s3, hd3, hkl, ht3, hj3⟩ := p
      rw [List.length_map] at hj3
      refine ⟨_, rfl, q _ _ s3 ⟨d, kvs, rfl, hd3, fun x hx => ?_⟩⟩
      obtain ⟨j, hjl, e⟩ := List.mem_iff_getElem.mp hx
      have hx' : L[j]? = some x := by rw [List.getElem?_eq_getElem hjl, e]
      obtain ⟨t', g1, g2⟩ := hj3 j x hjl hx'
      refine ⟨t', g1, ?_⟩
      rw [wt_at ok hx']
      exact g2
/-! ### keys -/
def IsRow (H : Hp) (v : V) (l : List Int) : Prop := ∃ p, v = .ref p ∧ FzT H p (l.map V.int)
def IsKey (H : Hp) (v : V) (k : List (List Int)) : Prop := ∃ a vs, v = .ref a ∧ FzT H a vs ∧ Paired (IsRow H) vs k
theorem IsKey.mono {H H' : Hp} {v : V} {k : List (List Int)} (s : Same H H') : IsKey H v k → IsKey H' v k := fun ⟨a, vs, e, h1, h2⟩ => ⟨a, vs, e, h1.same s, h2.mono fun _ _ ⟨p, e, h⟩ => ⟨p, e, h.same s⟩⟩
theorem dp_ints {H : Hp} : ∀ l : List Int, DpAll K H (l.map V.int) (l.map .int)
  | [] => .nil
  | x :: l => .cons (.int x) (dp_ints l)
theorem dp_rows {H : Hp} : ∀ {vs : List V} {k : List (List Int)}, Paired (IsRow H) vs k → DpAll K H vs (k.map dI)
  | _, _, .nil => .nil
  | _, _, .cons ⟨p, e, h⟩ t => .cons (e ▸ .tup h.sq (dp_ints _)) (dp_rows t)
theorem dp_key {H : Hp} {v : V} {k : List (List Int)} (h : IsKey H v k) : Dp K H v (dK k) := by
  obtain ⟨a, vs, rfl, h1, h2⟩ := h
  exact .tup h1.sq (dp_rows h2)
def spKeyBy : Sp := fun vs H Q _ => ∃ d o x u n, vs = [d, x, .int ((n : Nat) : Int)] ∧ IsTold H d o ∧ IsWrd H x u ∧ WordOk o u ∧ n ≤ 3 ∧ ∀ v' H', Same H H' → IsKey H' v' (keyM (wt o) u n) → Q v' H'
theorem ok_key_by (T : Txt K mg) : Calls P w K mg base 1 "key_by" ["told", "word", "level"] spKeyBy := by
  refine mk_key_by T (fun vs H Q E h => ?_) (fun cdv A outer s H vs Q E hr h => ?_)
  · obtain ⟨d, o, x, u, n, rfl, _⟩ := h
    rfl
  · obtain ⟨_, o, _, u, n, rfl, ⟨d, kvs, rfl, hd, hv⟩, ⟨y, rfl, hy⟩, wk, hn, q⟩ := h
    refine ⟨_, (pss_one (ps_ret (pe_callTy (call_tuple_ofS (K := K) rfl) (by rfl) T.f_tuple boot_tuple' (pa_cons (pe_lc (own := [("at", 3)]) (by rfl) sc_key_by.nd (pi_range1 (by rfl) T.f_range (pa_cons (pv 2) pa_nil)) (blkOk_by (own := [("at", 3)]) (N := N_key_by) (sc := (defScope s_key_by)) (by decide +kernel)) (fun _ _ _ _ _ => (pg_name (i := 3) sc_key_by.nd rfl (by first | exact Or.inl rfl | exact Or.inr rfl))) (fun _ _ _ _ _ => pts_nil) (fun _ _ _ _ _ => (pe_callTy (call_tuple_ofS (K := K) rfl) (by rfl) T.f_tuple boot_tuple' (pa_cons (pe_lc (own := [("letter", 4)]) (by rfl) sc_key_by.nd (pi_tupK (K := K) rfl (pv 1)) (blkOk_by (own := [("letter", 4)]) (N := N_key_by) (sc := (relS _ (defScope s_key_by))) (by decide +kernel)) (fun _ _ _ _ _ => (pg_name (i := 4) sc_key_by.nd rfl (by first | exact Or.inl rfl | exact Or.inr rfl))) (fun _ _ _ _ _ => pts_nil) (fun _ _ _ _ _ => (pe_ix ix_tupS (pe_dget (hu_of hr) (pv 0) (pv 4) (fun _ _ => rfl)) (pv 3) (fun _ _ => rfl)))) pa_nil)))) pa_nil)))), ?_⟩
    refine ⟨_, rfl, _, rfl, by omega, by omega, fun D nD => lcR walk_range nD (fun H v l => IsRow H v l) (fun H H' v b s ⟨p, e, h⟩ => ⟨p, e, h.same s⟩) (fun H v b acc o ⟨p, e, h⟩ hl => ⟨p, e, fz_updL h hl⟩) (fun i => some (u.map fun l => compW i (wt o l)))
      (le12 (by omega)) (fun _ _ => trivial) (fun i x H1 H2 R hi s1 yy _ k => ?_) fun H1 acc s1 e pr => ⟨D, acc, rfl, .of e, fun p H2 s2 hp => ?_⟩⟩
    · obtain ⟨rfl, rfl⟩ := yy
      refine ⟨rfl, ?_⟩
      have hy1 := hy.same s1
      have hd1 := s1 _ _ hd
      refine ⟨_, rfl, y, rfl, ⟨_, hy1.sq⟩, fun D2 nD2 => lcM walk_tup nD2 (fun j => (u[j]?).bind fun l => some (.int (compW i (wt o l)))) (le12 (by rw [List.length_map]; have := wk.len; omega)) (fun H' s => (hy1.same s).sq) (fun j x H3 H4 R2 hj s3 yy k2 => ?_) fun H3 s3 e3 => ?_⟩
      · obtain ⟨rfl, hx⟩ := yy
        obtain ⟨l, hl, rfl⟩ := strs_at hx
        obtain ⟨t, g1, g2⟩ := hv l (wk.mem l (List.mem_of_getElem? hl))
        have hd3 := s3 _ _ hd1
        have hget : DGet H4 d (.str l) (some (.ref t)) := by
          have := DGet.k (k := (Sum.inr l : Key)) hd3
          rw [g1] at this
          exact this
        refine ⟨rfl, _, rfl, _, rfl, d, .ref t, rfl, hget, _, rfl, t, _, _, i, .int (compW i (wt o l)), rfl, rfl, g2.same (s1.trans s3), by omega, ?_, ?_⟩
        · unfold wtup
          rcases (show i = 0 ∨ i = 1 ∨ i = 2 by omega) with rfl | rfl | rfl <;> rfl
        · have := k2 H4 (Same.refl _)
          rw [hl] at this
          exact this
      · have el : (u.map V.str).length = u.length := List.length_map _
        rw [el, fm_range (fun l => some (V.int (compW i (wt o l)))) u] at e3
        refine ⟨D2, u.map fun l => V.int (compW i (wt o l)), rfl, .of ?_, fun p H5 s5 hp => ?_⟩
        · rw [e3, List.filterMap_eq_map']
        · refine k H5 (.ref p) _ rfl (s3.trans s5) ⟨p, rfl, ?_⟩
          rw [List.map_map]
          exact hp
    · refine q _ _ (s1.trans s2) ⟨p, acc, rfl, hp, ?_⟩
      have en : ((n : Int) - 0).toNat = n ∨ (n : Int).toNat = n := .inr (by omega)
      have pr' := pr.mono fun _ _ (z : IsRow H1 _ _) => (let ⟨p, e, h⟩ := z; (⟨p, e, h.same s2⟩ : IsRow H2 _ _))
      rw [List.filterMap_eq_map'] at pr'
      exact pr'
def spKeyOf : Sp := fun vs H Q _ => ∃ v o x u n, vs = [v, x, .int ((n : Nat) : Int)] ∧ IsOrd H v o ∧ OrdOk o ∧ IsWrd H x u ∧ WordOk o u ∧ n ≤ 3 ∧ ∀ v' H', Same H H' → IsKey H' v' (keyM (wt o) u n) → Q v' H'
theorem ok_key_of (T : Txt K mg) : Calls P w K mg base 2 "key_of" ["order", "word", "level"] spKeyOf := by
  have C_key_by := ok_key_by (P := P) (w := w) (base := base) T
  have C_all_weights := ok_all_weights (P := P) (w := w) (base := base) T
  refine mk_key_of T (fun vs H Q E h => ?_) (fun cdv A outer s H vs Q E hr h => ?_)
  · obtain ⟨d, o, x, u, n, rfl, _⟩ := h
    rfl
  · obtain ⟨v, o, x, u, n, rfl, ho, ok, hx, wk, hn, q⟩ := h
    refine ⟨_, (pss_one (ps_ret (pe_callC C_key_by (hr.mono (by decide)) (by rfl) (pa_cons (pe_callC C_all_weights (hr.mono (by decide)) (by rfl) (pa_cons (pv 0) pa_nil)) (pa_cons (pv 1) (pa_cons (pv 2) pa_nil)))))), ?_⟩
    refine ⟨_, rfl, v, o, rfl, ho, ok, fun d H1 s1 hd => ?_⟩
    exact ⟨_, rfl, _, rfl, d, o, x, u, n, rfl, hd, hx.mono s1, wk, hn, fun v' H' s' hk => q v' H' (s1.trans s') hk⟩
/-! ### result, compared, compare -/
def spResult : Sp := fun vs H Q _ => ∃ v k v2 k2, vs = [v, v2] ∧ IsKey H v k ∧ IsKey H v2 k2 ∧ ∀ H', Same H H' → Q (.int (cmpM k k2)) H'
theorem ok_result (T : Txt K mg) : Calls P w K mg base 1 "result" ["first", "second"] spResult := by
  refine mk_result T (fun vs H Q E h => ?_) (fun cdv A outer s H vs Q E hr h => ?_)
  · obtain ⟨v, k, v2, k2, rfl, _⟩ := h
    rfl
  · obtain ⟨v, k, v2, k2, rfl, h1, h2, q⟩ := h
    refine ⟨_, (pss_cons (ps_if (pt_cmpR (op_eqDK (K := K) rfl hr.units) (pv 0) (pv 1) (nomark _)) (pss_one (ps_ret pe_int)) pss_nil)
  (pss_one (ps_ret (pe_ifExp (pt_cmpR (op_ltDK (K := K) rfl hr.units) (pv 0) (pv 1) (nomark _)) (pe_un un_neg pe_int) pe_int)))), ?_⟩
    refine ⟨_, rfl, _, rfl, dK k, dK k2, dp_key h1, dp_key h2, shaped_dK k, shaped_dK k2, _, rfl, ?_⟩
    rw [eqv_dK]
    have q' := q H (Same.refl _)
    unfold cmpM at q'
    by_cases e : k = k2
    · rw [if_pos e] at q'
      exact iteDT e q'
    rw [if_neg e] at q'
    refine iteDF e ⟨_, rfl, _, rfl, dK k, dK k2, dp_key h1, dp_key h2, alike_dK k k2, by unfold dK; simp, ?_, _, rfl, ?_⟩
    · have := (lay_dK k).2
      omega
    rw [lt_dK]
    cases z : kLt k k2 with
    | true =>
      rw [z, if_pos rfl] at q'
      exact ⟨1, rfl, q'⟩
    | false =>
      rw [z, if_neg Bool.false_ne_true] at q'
      exact q'
def spCompared : Sp := fun vs H Q _ => ∃ v o x u y u2 n, vs = [v, x, y, .int ((n : Nat) : Int)] ∧ IsOrd H v o ∧ OrdOk o ∧ IsWrd H x u ∧ WordOk o u ∧ IsWrd H y u2 ∧ WordOk o u2 ∧ n ≤ 3 ∧ ∀ H', Same H H' → Q (.int (cmpO o u u2 n)) H'
theorem ok_compared (T : Txt K mg) : Calls P w K mg base 3 "compared" ["order", "first", "second", "level"] spCompared := by
  have C_result := ok_result (P := P) (w := w) (base := base) T
  have C_key_of := ok_key_of (P := P) (w := w) (base := base) T
  refine mk_compared T (fun vs H Q E h => ?_) (fun cdv A outer s H vs Q E hr h => ?_)
  · obtain ⟨d, o, x, u, y, u2, n, rfl, _⟩ := h
    rfl
  · obtain ⟨v, o, x, u, y, u2, n, rfl, ho, ok, hx, wk, hy, wk2, hn, q⟩ := h
    refine ⟨_, (pss_one (ps_ret (pe_callC C_result (hr.mono (by decide)) (by rfl) (pa_cons (pe_callC C_key_of (hr.mono (by decide)) (by rfl) (pa_cons (pv 0) (pa_cons (pv 1) (pa_cons (pv 3) pa_nil)))) (pa_cons (pe_callC C_key_of (hr.mono (by decide)) (by rfl) (pa_cons (pv 0) (pa_cons (pv 2) (pa_cons (pv 3) pa_nil)))) pa_nil))))), ?_⟩
    refine ⟨_, rfl, _, rfl, _, rfl, v, o, x, u, n, rfl, ho, ok, hx, wk, hn, fun k1 H1 s1 hk1 => ?_⟩
    refine ⟨_, rfl, _, rfl, _, rfl, v, o, y, u2, n, rfl, ho.mono s1, ok, hy.mono s1, wk2, hn, fun k2 H2 s2 hk2 => ?_⟩
    exact ⟨k1, _, k2, _, rfl, hk1.mono s2, hk2, fun H3 s3 => q H3 (s1.trans (s2.trans s3))⟩
def spCompare : Sp := fun vs H Q _ => ∃ v o x u y u2 n, vs = [v, x, y, .int ((n : Nat) : Int)] ∧ IsOrd H v o ∧ OrdOk o ∧ IsWrd H x u ∧ WordOk o u ∧ IsWrd H y u2 ∧ WordOk o u2 ∧ 1 ≤ n ∧ n ≤ 3 ∧ ∀ H', Same H H' → Q (.int (cmpO o u u2 n)) H'
theorem ok_compare (T : Txt K mg) : Calls P w K mg base 5 "compare" ["order", "first", "second", "level"] spCompare := by
  have C_check_order_orders := ok_check_order_orders (P := P) (w := w) (base := base) T
  have C_check_word := ok_check_word (P := P) (w := w) (base := base) T
  have C_check_level := ok_check_level (P := P) (w := w) (base := base) T
  have C_compared := ok_compared (P := P) (w := w) (base := base) T
  refine mk_compare T (fun vs H Q E h => ?_) (fun cdv A outer s H vs Q E hr h => ?_)
  · obtain ⟨d, o, x, u, y, u2, n, rfl, _⟩ := h
    rfl
  · obtain ⟨v, o, x, u, y, u2, n, rfl, ho, ok, hx, wk, hy, wk2, hn1, hn, q⟩ := h
    refine ⟨_, (pss_cons (ps_expr (pe_callC C_check_order_orders (hr.mono (by decide)) (by rfl) (pa_cons (pv 0) (pa_cons pe_str pa_nil))))
  (pss_cons (ps_expr (pe_callC C_check_word (hr.mono (by decide)) (by rfl) (pa_cons (pv 0) (pa_cons (pv 1) (pa_cons pe_str pa_nil)))))
  (pss_cons (ps_expr (pe_callC C_check_word (hr.mono (by decide)) (by rfl) (pa_cons (pv 0) (pa_cons (pv 2) (pa_cons pe_str pa_nil)))))
  (pss_cons (ps_expr (pe_callC C_check_level (hr.mono (by decide)) (by rfl) (pa_cons (pv 3) pa_nil)))
  (pss_one (ps_ret (pe_callC C_compared (hr.mono (by decide)) (by rfl) (pa_cons (pv 0) (pa_cons (pv 1) (pa_cons (pv 2) (pa_cons (pv 3) pa_nil))))))))))), ?_⟩
    refine ⟨_, rfl, v, o, _, rfl, ho, ok, fun H1 s1 => ?_⟩
    refine ⟨_, rfl, _, rfl, v, o, x, u, _, rfl, ho.mono s1, hx.mono s1, wk, fun H2 s2 => ?_⟩
    have s12 := s1.trans s2
    refine ⟨_, rfl, _, rfl, v, o, y, u2, _, rfl, ho.mono s12, hy.mono s12, wk2, fun H3 s3 => ?_⟩
    have s13 := s12.trans s3
    refine ⟨_, rfl, (n : Int), rfl, by omega, by omega, fun H4 s4 => ?_⟩
    have s14 := s13.trans s4
    exact ⟨_, rfl, _, rfl, _, rfl, _, rfl, v, o, x, u, y, u2, n, rfl, ho.mono s14, ok, hx.mono s14, wk, hy.mono s14, wk2, hn, fun H5 s5 => q H5 (s14.trans s5)⟩
end
end Pf
namespace Pf
open PySem PySem.Spec PyProof.Rows L2
section
variable {P : Program} {w : World} {K : PySem.W.Frag} {mg : Str → Option Value} {base : Heap}
/-! ### the arguments of effects and staying -/
structure ChgOk (o : Ord) (rs : List Rule) : Prop where
  ok : OrdOk o
  few : rs.length ≤ 20
  rok : ∀ r ∈ rs, RuleOk r
  can : CanAll o rs
structure WsOk (o : Ord) (ws : List (List Str)) : Prop where
  few : ws.length ≤ 12
  wok : ∀ u ∈ ws, WordOk o u
theorem WsOk.at {o : Ord} {ws : List (List Str)} (h : WsOk o ws) {i : Nat} {u : List Str} (e : ws[i]? = some u) : WordOk o u := h.wok u (List.mem_of_getElem? e)
theorem ChgOk.behind {o : Ord} {rs : List Rule} (c : ChgOk o rs) : OrdOk (ledM o rs) := (led_row c.ok c.rok c.can).1
theorem ChgOk.word {o : Ord} {rs : List Rule} (c : ChgOk o rs) {u : List Str} (h : WordOk o u) : WordOk (ledM o rs) u := ⟨fun x hx => (led_row c.ok c.rok c.can).2.1 x (h.mem x hx), h.len⟩
theorem ChgOk.words {o : Ord} {rs : List Rule} (c : ChgOk o rs) {ws : List (List Str)} (h : WsOk o ws) : WsOk (ledM o rs) ws := ⟨h.few, fun u hu => c.word (h.wok u hu)⟩
def spChkChange : Sp := fun vs H Q _ => ∃ v o u rs, vs = [v, u] ∧ IsOrd H v o ∧ IsRules H u rs ∧ ChgOk o rs ∧ ∀ H', Same H H' → Q .non H'
theorem ok_check_change (T : Txt K mg) : Calls P w K mg base 5 "check_change" ["order", "rules"] spChkChange := by
  have C_check_order_rules := ok_check_order_rules (P := P) (w := w) (base := base) T
  have C_is_rule_list := ok_is_rule_list (P := P) (w := w) (base := base) T
  refine mk_check_change T (fun vs H Q E h => ?_) (fun cdv A outer s H vs Q E hr h => ?_)
  · obtain ⟨v, o, u, rs, rfl, _⟩ := h
    rfl
  · obtain ⟨v, o, u, rs, rfl, ho, hrs, c, q⟩ := h
    refine ⟨_, (pss_cons (ps_expr (pe_callC C_check_order_rules (hr.mono (by decide)) (by rfl) (pa_cons (pv 0) (pa_cons pe_str pa_nil))))
  (pss_one (ps_if (pt_not (pt_val (pe_callC C_is_rule_list (hr.mono (by decide)) (by rfl) (pa_cons (pv 1) pa_nil)))) (pss_one ps_never) pss_nil))), ?_⟩
    refine ⟨_, rfl, v, o, _, rfl, ho, c.ok, fun H1 s1 => ?_⟩
    exact ⟨_, rfl, u, rs, rfl, hrs.mono s1, c.few, c.rok, fun H2 s2 => ⟨true, rfl, iteF (q _ (s1.trans s2))⟩⟩
def spNewOrder : Sp := fun vs H Q _ => ∃ v o u rs x ws n, vs = [v, u, x, .int ((n : Nat) : Int)] ∧ IsOrd H v o ∧ IsRules H u rs ∧ ChgOk o rs ∧ IsWrds H x ws ∧ WsOk o ws ∧ 1 ≤ n ∧ n ≤ 3 ∧ ∀ v' H', Same H H' → IsOrd H' v' (ledM o rs) → Q v' H'
theorem ok_new_order (T : Txt K mg) : Calls P w K mg base 6 "new_order" ["order", "rules", "words", "level"] spNewOrder := by
  have C_check_change := ok_check_change (P := P) (w := w) (base := base) T
  have C_led := ok_led (P := P) (w := w) (base := base) T
  have C_is_integer := ok_is_integer (P := P) (w := w) (base := base) T
  have C_is_word := ok_is_word (P := P) (w := w) (base := base) T
  refine mk_new_order T (fun vs H Q E h => ?_) (fun cdv A outer s H vs Q E hr h => ?_)
  · obtain ⟨v, o, u, rs, x, ws, n, rfl, _⟩ := h
    rfl
  · obtain ⟨v, o, u, rs, x, ws, n, rfl, ho, hrs, c, ⟨y, us, rfl, hy, pr⟩, wk, hn1, hn, q⟩ := h
    have el : us.length = ws.length := Paired.length pr
    have few := wk.few
    refine ⟨_, (pss_cons (ps_expr (pe_callC C_check_change (hr.mono (by decide)) (by rfl) (pa_cons (pv 0) (pa_cons (pv 1) pa_nil))))
  (pss_cons (ps_if (PW.pt (pw_or (pt_not (pt_val (pe_callB (call_isiS (K := K) rfl) (by rfl) T.f_isinstance boot_isinstance' (pa_cons (pv 2) (pa_cons (pe_bltn (v := .ty "tuple") (by rfl) T.f_tuple boot_tuple' rfl) pa_nil))))) (pw_or (pt_cmpR op_gt (pe_callB (call_lenS (K := K) rfl) (by rfl) T.f_len boot_len' (pa_cons (pv 2) pa_nil)) (pe_gi T.i_MOST_WORDS) (nomark _)) (pw_or1 (pt_not (pt_val (pe_callB (cr_allK (K := K) rfl rfl) (by rfl) T.f_all boot_all' (pa_cons (pe_lc (own := [("word", 4)]) (by rfl) sc_new_order.nd (pi_tupK (K := K) rfl (pv 2)) (blkOk_by (own := [("word", 4)]) (N := N_new_order) (sc := (defScope s_new_order)) (by decide +kernel)) (fun _ _ _ _ _ => (pg_name (i := 4) sc_new_order.nd rfl (by first | exact Or.inl rfl | exact Or.inr rfl))) (fun _ _ _ _ _ => pts_nil) (fun _ _ _ _ _ => (pe_callC C_is_word (hr.mono (by decide)) (by rfl) (pa_cons (pv 0) (pa_cons (pv 4) pa_nil))))) pa_nil)))))))) (pss_one ps_never) pss_nil)
  (pss_cons (ps_if (PW.pt (pw_or (pt_not (pt_val (pe_callC C_is_integer (hr.mono (by decide)) (by rfl) (pa_cons (pv 3) pa_nil)))) (pw_or1 (pt_not (pt_chain op_le op_le pe_int (pv 3) pe_int))))) (pss_one ps_never) pss_nil)
  (pss_one (ps_ret (pe_callC C_led (hr.mono (by decide)) (by rfl) (pa_cons (pv 0) (pa_cons (pv 1) pa_nil)))))))), ?_⟩
    refine ⟨_, rfl, _, rfl, v, o, u, rs, rfl, ho, hrs, c, fun H1 s1 => ?_⟩
    have hy1 := hy.same s1
    refine ⟨_, rfl, _, _, _, _, rfl, (hy1).ty, kit_tt, true, rfl, iteF ?_⟩
    refine ⟨_, rfl, _, us.length, rfl, .inr (.inr ⟨_, _, rfl, hy1, rfl⟩), _, 12, rfl, rfl, _, rfl, iteDF (by omega) ?_⟩
    refine ⟨_, rfl, y, rfl, ⟨_, hy1.sq⟩, fun D nD => all_lcW walk_tup nD (by omega) (fun H' s => (hy1.same s).sq) (fun i z H2 H3 R hi s2 yy k => ?_) fun H2 s2 e => ⟨D, List.replicate us.length true, rfl, .of e, true, by rw [all_true], iteF ?_⟩⟩
    · obtain ⟨rfl, hz⟩ := yy
      obtain ⟨l, hl, hw⟩ := Paired.ta pr hz
      exact ⟨rfl, _, rfl, _, rfl, v, o, z, l, rfl, ho.mono (s1.trans s2), c.ok, hw.mono (s1.trans s2), wk.at hl, fun H4 s4 => k H4 s4⟩
    have s12 := s1.trans s2
    refine ⟨_, rfl, (n : Int), rfl, fun H3 s3 => ⟨true, rfl, iteF ?_⟩⟩
    refine ⟨_, rfl, 1, (n : Int), rfl, rfl, _, rfl, iteDT (by omega) ⟨(n : Int), 3, rfl, rfl, _, rfl, iteNF (by omega) ?_⟩⟩
    have s13 := s12.trans s3
    exact ⟨_, rfl, _, rfl, v, o, u, rs, rfl, ho.mono s13, hrs.mono s13, c.ok, c.few, c.rok, c.can, fun v' H' s' h' => q v' H' (s13.trans s') h'⟩
/-! ### moved_in -/
def movedM (o : Ord) (rs : List Rule) : List Str := o.1.filter fun l => decide (l ∈ rs.map Rule.z)
theorem filt_strs (p : Str → Bool) : ∀ L : List Str, (L.map V.str).filterMap (fun x => match x with
    | .str z => if p z = true then some (V.str z) else none
    | _ => none) = (L.filter p).map V.str
  | [] => rfl
  | z :: L => by
    rw [List.map_cons, List.filterMap_cons, List.filter_cons]
    cases h : p z with
    | true => simp [h, filt_strs p L]
    | false => simp [h, filt_strs p L]
def spMoved : Sp := fun vs H Q _ => ∃ v o u rs, vs = [v, u] ∧ IsOrd H v o ∧ IsRules H u rs ∧ ChgOk o rs ∧ ∀ v' H', Same H H' → IsWrd H' v' (movedM o rs) → Q v' H'
theorem ok_moved_in (T : Txt K mg) : Calls P w K mg base 6 "moved_in" ["order", "rules"] spMoved := by
  have C_check_change := ok_check_change (P := P) (w := w) (base := base) T
  have C_led := ok_led (P := P) (w := w) (base := base) T
  refine mk_moved_in T (fun vs H Q E h => ?_) (fun cdv A outer s H vs Q E hr h => ?_)
  · obtain ⟨v, o, u, rs, rfl, _⟩ := h
    rfl
  · obtain ⟨v, o, u, rs, rfl, ho, hrs, c, q⟩ := h
    refine ⟨_, (pss_cons (ps_expr (pe_callC C_check_change (hr.mono (by decide)) (by rfl) (pa_cons (pv 0) (pa_cons (pv 1) pa_nil))))
  (pss_cons (ps_expr (pe_callC C_led (hr.mono (by decide)) (by rfl) (pa_cons (pv 0) (pa_cons (pv 1) pa_nil))))
  (pss_cons (ps_set (i := 2) sc_moved_in.nd rfl (by first | exact Or.inl rfl | exact Or.inr rfl) (pe_lc (own := [("rule", 3)]) (by rfl) sc_moved_in.nd (pi_tupK (K := K) rfl (pv 1)) (blkOk_by (own := [("rule", 3)]) (N := N_moved_in) (sc := (defScope s_moved_in)) (by decide +kernel)) (fun _ _ _ _ _ => (pg_name (i := 3) sc_moved_in.nd rfl (by first | exact Or.inl rfl | exact Or.inr rfl))) (fun _ _ _ _ _ => pts_nil) (fun _ _ _ _ _ => (pe_ix ix_tupS (pv 3) pe_int (fun _ _ => rfl)))))
  (pss_one (ps_ret (pe_callTy (call_tuple_ofS (K := K) rfl) (by rfl) T.f_tuple boot_tuple' (pa_cons (pe_lc (own := [("letter", 4)]) (by rfl) sc_moved_in.nd (pi_tupK (K := K) rfl (pe_ix ix_tupS (pv 0) pe_int (fun _ _ => rfl))) (blkOk_by (own := [("letter", 4)]) (N := N_moved_in) (sc := (defScope s_moved_in)) (by decide +kernel)) (fun _ _ _ _ _ => (pg_name (i := 4) sc_moved_in.nd rfl (by first | exact Or.inl rfl | exact Or.inr rfl))) (fun _ _ _ _ _ => (pts_one (pt_cmpR (op_in_strS (K := K) rfl) (pv 4) (pv 2) (by rfl)))) (fun _ _ _ _ _ => (pv 4))) pa_nil))))))), ?_⟩
    refine ⟨_, rfl, _, rfl, v, o, u, rs, rfl, ho, hrs, c, fun H1 s1 => ?_⟩
    refine ⟨_, rfl, _, rfl, v, o, u, rs, rfl, ho.mono s1, hrs.mono s1, c.ok, c.few, c.rok, c.can, fun v2 H2 s2 _ => ?_⟩
    have s12 := s1.trans s2
    obtain ⟨y, us, rfl, hy, pr⟩ := hrs.mono s12
    have el : us.length = rs.length := Paired.length pr
    have few := c.few
    refine ⟨_, rfl, y, rfl, ⟨_, hy.sq⟩, fun D nD => lcM walk_tup nD (fun i => (rs[i]?).bind fun r => some (.str r.z)) (le12 (by omega)) (fun H' s => (hy.same s).sq) (fun i z H3 H4 R hi s3 yy k => ?_) fun H3 s3 e3 => ?_⟩
    · obtain ⟨rfl, hz⟩ := yy
      obtain ⟨r, hr1, ra, rfl, hr2⟩ := Paired.ta pr hz
      have := k H4 (Same.refl _)
      rw [hr1] at this
      exact ⟨rfl, _, rfl, _, _, _, _, _, rfl, rfl, (hr2.same s3), rfl, (rfl), this⟩
    rw [el, fm_range (fun r : Rule => some (V.str r.z)) rs, List.filterMap_eq_map'] at e3
    obtain ⟨a, b, cc, rfl, ha, hb, hc⟩ := ho.mono (s12.trans s3)
    have hmost := c.ok.most
    -- tuple([letter for letter in order[0] if letter in moved])
    refine ⟨_, rfl, _, _, _, _, _, rfl, rfl, (ha), rfl, (rfl), b, rfl, ⟨_, hb.sq⟩, fun D2 nD2 => lcM walk_tup nD2 (fun i => ((o.1.map V.str)[i]?).bind fun x => match x with
        | .str z => if decide (z ∈ rs.map Rule.z) = true then some (V.str z) else none
        | _ => none) (le12 (by rw [List.length_map]; omega)) (fun H' s => (hb.same s).sq) (fun i z H4 H5 R hi s4 yy k => ?_) fun H4 s4 e4 => ?_⟩
    · obtain ⟨rfl, hz⟩ := yy
      obtain ⟨l, hl, rfl⟩ := strs_at hz
      have eD := s4 _ _ e3
      have hk := k H5 (Same.refl _)
      rw [hz] at hk
      refine ⟨rfl, _, rfl, _, rfl, D, rs.map Rule.z, l, rfl, rfl, .inl (.of ?_), _, rfl, ?_⟩
      · rw [List.map_map]
        exact eD
      · by_cases hm : l ∈ rs.map Rule.z
        · refine iteDT hm ⟨_, rfl, ?_⟩
          have h2 : (some (V.str l)).bind (fun x => match x with
              | .str z => if decide (z ∈ rs.map Rule.z) = true then some (V.str z) else none
              | _ => none) = some (V.str l) := by
            show (if decide (l ∈ rs.map Rule.z) = true then some (V.str l) else none) = some (V.str l)
            rw [if_pos (decide_eq_true hm)]
          rw [h2] at hk
          exact hk
        · refine iteDF hm ?_
          have h2 : (some (V.str l)).bind (fun x => match x with
              | .str z => if decide (z ∈ rs.map Rule.z) = true then some (V.str z) else none
              | _ => none) = none := by
            show (if decide (l ∈ rs.map Rule.z) = true then some (V.str l) else none) = none
            rw [if_neg (by rw [decide_eq_false hm]; exact Bool.false_ne_true)]
          rw [h2] at hk
          exact hk
    · rw [fm_range, filt_strs (fun z => decide (z ∈ rs.map Rule.z)) o.1] at e4
      exact ⟨D2, _, rfl, .of e4, fun p H5 s5 hp => q _ _ (s12.trans (s3.trans (s4.trans s5))) ⟨p, rfl, hp⟩⟩
/-! ### changed_pairs -/
def IsPr (H : Hp) (v : V) (p : Nat × Nat) : Prop := ∃ a, v = .ref a ∧ FzT H a [.int (p.1 : Nat), .int (p.2 : Nat)]
theorem IsPr.mono {H H' : Hp} {v : V} {p : Nat × Nat} (s : Same H H') : IsPr H v p → IsPr H' v p := fun ⟨a, e, h⟩ => ⟨a, e, h.same s⟩
theorem IsPr.updL {H : Hp} {v : V} {p : Nat × Nat} {l : Addr} {acc : List V} {o : HO} (h : IsPr H v p) (hl : H l = some (.lst acc)) : IsPr (upd H l o) v p := let ⟨a, e, q⟩ := h; ⟨a, e, fz_updL q hl⟩
/-- a pair that the two orders compare differently -/
def Chg (o o' : Ord) (ws : List (List Str)) (n : Nat) (p : Nat × Nat) : Prop := ∃ u v, ws[p.1]? = some u ∧ ws[p.2]? = some v ∧ cmpO o u v n ≠ cmpO o' u v n
def spChanged : Sp := fun vs H Q _ => ∃ v o u rs x ws n, vs = [v, u, x, .int ((n : Nat) : Int)] ∧ IsOrd H v o ∧ IsRules H u rs ∧ ChgOk o rs ∧ IsWrds H x ws ∧ WsOk o ws ∧ 1 ≤ n ∧ n ≤ 3 ∧
  ∀ p H' vs prs, Same H H' → H p = none → H' p = some (.lst vs) → Paired (IsPr H') vs prs → (∀ z ∈ prs, Chg o (ledM o rs) ws n z) → Q (.ref p) H'
theorem ok_changed_pairs (T : Txt K mg) : Calls P w K mg base 7 "changed_pairs" ["order", "rules", "words", "level"] spChanged := by
  have C_new_order := ok_new_order (P := P) (w := w) (base := base) T
  have C_compared := ok_compared (P := P) (w := w) (base := base) T
  refine mk_changed_pairs T (fun vs H Q E h => ?_) (fun cdv A outer s H vs Q E hr h => ?_)
  · obtain ⟨v, o, u, rs, x, ws, n, rfl, _⟩ := h
    rfl
  · obtain ⟨v, o, u, rs, x, ws, n, rfl, ho, hrs, c, hws, wk, hn1, hn, q⟩ := h
    have few := wk.few
    have ok' := c.behind
    refine ⟨_, (pss_cons (ps_set (i := 4) sc_changed_pairs.nd rfl (by first | exact Or.inl rfl | exact Or.inr rfl) (pe_callC C_new_order (hr.mono (by decide)) (by rfl) (pa_cons (pv 0) (pa_cons (pv 1) (pa_cons (pv 2) (pa_cons (pv 3) pa_nil))))))
  (pss_cons (ps_set (i := 5) sc_changed_pairs.nd rfl (by first | exact Or.inl rfl | exact Or.inr rfl) (pe_lstS pa_nil))
  (pss_cons (ps_for PassesOwn.never rfl (pi_enumTK (K := K) rfl (by rfl) T.f_enumerate (pa_cons (pv 2) pa_nil)) (pg_tupK (K := K) (n := 2) rfl rfl (pgs_cons (pg_name (i := 6) sc_changed_pairs.nd rfl (by first | exact Or.inl rfl | exact Or.inr rfl)) (pgs_cons (pg_name (i := 7) sc_changed_pairs.nd rfl (by first | exact Or.inl rfl | exact Or.inr rfl)) pgs_nil)))
  (pss_one (ps_for PassesOwn.never rfl (pi_range2 (by rfl) T.f_range (pa_cons (pe_op op_add (pv 6) pe_int) (pa_cons (pe_callB (call_lenS (K := K) rfl) (by rfl) T.f_len boot_len' (pa_cons (pv 2) pa_nil)) pa_nil))) (pg_name (i := 8) sc_changed_pairs.nd rfl (by first | exact Or.inl rfl | exact Or.inr rfl))
  (pss_one (ps_if (pt_cmpR op_neIS (pe_callC C_compared (hr.mono (by decide)) (by rfl) (pa_cons (pv 0) (pa_cons (pv 7) (pa_cons (pe_ix ix_tupS (pv 2) (pv 8) (fun _ _ => rfl)) (pa_cons (pv 3) pa_nil))))) (pe_callC C_compared (hr.mono (by decide)) (by rfl) (pa_cons (pv 4) (pa_cons (pv 7) (pa_cons (pe_ix ix_tupS (pv 2) (pv 8) (fun _ _ => rfl)) (pa_cons (pv 3) pa_nil))))) (nomark _)) (pss_one (ps_expr (pe_bmK (K := K) rfl PySem.F.plainAttrs_list PySem.F.slot_list_append PySem.F.type_list_append mt_append (pv 5) (pa_cons (pe_tupS (pa_cons (pv 6) (pa_cons (pv 8) pa_nil))) pa_nil)))) pss_nil)))))
  (pss_one (ps_ret (pv 5)))))), ?_⟩
    refine ⟨_, rfl, _, rfl, _, rfl, _, rfl, v, o, u, rs, x, ws, n, rfl, ho, hrs, c, hws, wk, hn1, hn, fun v1 H1 s1 ho1 => ?_⟩
    refine ⟨Nat.zero_le _, fun l H2 s2 nl e2 => ?_⟩
    have s12 := s1.trans s2
    have nl0 : H l = none := Same.free s1 nl
    obtain ⟨y, us, rfl, hy, pr⟩ := hws.mono s12
    have el : us.length = ws.length := Paired.length pr
    have ho2 := ho.mono s12
    have ho12 := ho1.mono s2
    -- the state between two turns
    refine ⟨_, rfl, y, us, rfl, hy.sq, for_it (walk_enumT (xs := us)) (fun i σ H' => ∃ x6 x7 x8 vs prs, σ = [some v, some u, some (.ref y), some (.int (n : Int)), some v1, some (.ref l), x6, x7, x8] ∧ Same H1 H' ∧ FzT H' y us ∧ Paired (IsWrd H') us ws ∧ IsOrd H' v o ∧ IsOrd H' v1 (ledM o rs) ∧
        H' l = some (.lst vs) ∧ vs.length ≤ i * 12 ∧ Paired (IsPr H') vs prs ∧ ∀ z ∈ prs, Chg o (ledM o rs) ws n z)
      ⟨none, none, none, [], [], rfl, s2, hy, pr, ho2, ho12, e2, Nat.zero_le _, .nil, fun z hz => by cases hz⟩ (fun i σ H' _ p => ?_) (fun i z H3 H4 H5 hi p yy => ?_) (fun σ H' p => ?_)⟩
    · obtain ⟨_, _, _, _, _, _, _, hy', _⟩ := p
      exact hy'.sq
    · obtain ⟨x6, x7, x8, vs, prs, rfl, s4, hy4, pr4, ho4, ho14, e4, hl4, pp4, hp4⟩ := p
      obtain ⟨tt, y1, y2, rfl, nT, rfl, f1, f2⟩ := yy
      obtain rfl : y1 = .int (i : Nat) := (Option.some.inj f1).symm
      obtain ⟨uw, hu1, hu2⟩ := Paired.ta pr4 f2
      have sT : Same H4 (upd H4 tt (.tup [.int (i : Nat), y2])) := same_upd nT
      refine ⟨tt, _, rfl, .inl (.inl upd_same), rfl, _, _, rfl, _, _, rfl, rfl, ?_⟩
      have wu := wk.at hu1
      refine ⟨_, rfl, _, _, rfl, rfl, _, rfl, _, us.length, rfl, .inr (.inr ⟨_, _, rfl, hy4.same sT, rfl⟩), _, _, rfl, ⟨by omega, by omega, by omega, by omega⟩,
        for_it walk_range (fun j σ H' => ∃ x8 vs prs, σ = [some v, some u, some (.ref y), some (.int (n : Int)), some v1, some (.ref l), some (.int (i : Nat)), some y2, x8] ∧ Same H1 H' ∧ FzT H' y us ∧ Paired (IsWrd H') us ws ∧ IsOrd H' v o ∧ IsOrd H' v1 (ledM o rs) ∧
          H' l = some (.lst vs) ∧ vs.length ≤ i * 12 + j ∧ Paired (IsPr H') vs prs ∧ ∀ z ∈ prs, Chg o (ledM o rs) ws n z)
        ⟨_, vs, prs, rfl, s4.trans sT, hy4.same sT, pr4.mono (fun _ _ => IsWrd.mono sT), ho4.mono sT, ho14.mono sT, sT _ _ e4, by omega, pp4.mono (fun _ _ => IsPr.mono sT), hp4⟩ (fun _ _ _ _ _ => trivial) (fun j z H3 H6 H7 hj p yy => ?_) (fun σ H' p => ?_)⟩
      · obtain ⟨x8, vs, prs, rfl, s5, hy5, pr5, ho5, ho15, e5, hl5, pp5, hp5⟩ := p
        obtain ⟨rfl, rfl⟩ := yy
        have hjl : i + 1 + j < us.length := by omega
        have hw : ∃ w2, ws[i + 1 + j]? = some w2 := ⟨_, List.getElem?_eq_getElem (by omega)⟩
        obtain ⟨w2, hw2⟩ := hw
        obtain ⟨z2, g1, g2⟩ := Paired.at pr5 hw2
        obtain ⟨y2', g3, g4⟩ := Paired.at pr5 hu1
        have ey : y2 = y2' := Option.some.inj (f2.symm.trans g3)
        subst ey
        have wu2 := wk.at hw2
        -- the two comparisons
        refine ⟨_, rfl, _, rfl, _, rfl, _, rfl, _, _, _, i + 1 + j, z2, rfl, rfl, hy5, by omega, g1, _, rfl, v, o, y2, uw, z2, w2, n, rfl, ho5, c.ok, g4, wu, g2, wu2, hn, fun H8 s8 => ?_⟩
        refine ⟨_, rfl, _, rfl, _, rfl, _, rfl, _, _, _, i + 1 + j, z2, rfl, rfl, hy5.same s8, by omega, g1, _, rfl, v1, ledM o rs, y2, uw, z2, w2, n, rfl, ho15.mono s8, ok', g4.mono s8, c.word wu, g2.mono s8, c.word wu2, hn, fun H9 s9 => ?_⟩
        have s89 := s8.trans s9
        have e9 := s89 _ _ e5
        refine ⟨_, _, rfl, rfl, _, rfl, ?_⟩
        by_cases hne : cmpO o uw w2 n = cmpO (ledM o rs) uw w2 n
        · refine iteNF hne ?_
          exact ⟨_, vs, prs, rfl, s5.trans s89, hy5.same s89, pr5.mono (fun _ _ => IsWrd.mono s89), ho5.mono s89, ho15.mono s89, e9, by omega, pp5.mono (fun _ _ => IsPr.mono s89), hp5⟩
        · refine iteNT hne ?_
          refine ⟨_, rfl, .inl ⟨rfl, _, .of e9⟩, _, rfl, _, rfl, by show 2 ≤ sizeLine; decide, fun p H10 s10 hp => ?_⟩
          have e10 := s10 _ _ e9
          have s810 := s89.trans s10
          refine ⟨l, vs, _, rfl, rfl, e10, small1000 (by omega), ?_⟩
          refine ⟨_, vs ++ [.ref p], prs ++ [(i, i + 1 + j)], rfl, same_of (s5.trans s810) nl, fz_updL (hy5.same s810) e10, ?_, ?_, ?_, upd_same, by simp; omega, ?_, fun z hz => ?_⟩
          · refine pr5.mono fun _ _ h => ?_
            obtain ⟨a, e, h⟩ := h
            exact ⟨a, e, fz_updL (h.same s810) e10⟩
          · obtain ⟨a, b, cc, e, h1, h2, h3⟩ := ho5.mono s810
            exact ⟨a, b, cc, e, fz_updL h1 e10, fz_updL h2 e10, fz_updL h3 e10⟩
          · obtain ⟨a, b, cc, e, h1, h2, h3⟩ := ho15.mono s810
            exact ⟨a, b, cc, e, fz_updL h1 e10, fz_updL h2 e10, fz_updL h3 e10⟩
          · refine Paired.app (pp5.mono fun _ _ h => (h.mono s810).updL e10) (.cons ⟨p, rfl, ?_⟩ .nil)
            have hp' : FzT H10 p [.int ((i : Nat) : Int), .int ((i + 1 + j : Nat) : Int)] := by
              have ei : (((i : Nat) : Int) + 1 + (j : Nat) : Int) = ((i + 1 + j : Nat) : Int) := by omega
              rw [← ei]
              exact hp
            exact fz_updL hp' e10
          · rcases List.mem_append.mp hz with hz | hz
            · exact hp5 z hz
            · have : z = (i, i + 1 + j) := by simpa using hz
              subst this
              exact ⟨uw, w2, hu1, hw2, hne⟩
      · obtain ⟨x8, vs, prs, rfl, s5, hy5, pr5, ho5, ho15, e5, hl5, pp5, hp5⟩ := p
        exact ⟨_, _, _, vs, prs, rfl, s5, hy5, pr5, ho5, ho15, e5, by omega, pp5, hp5⟩
    · obtain ⟨x6, x7, x8, vs, prs, rfl, s4, hy4, pr4, ho4, ho14, e4, hl4, pp4, hp4⟩ := p
      exact ⟨_, rfl, q l H' vs prs (s1.trans s4) nl0 e4 pp4 hp4⟩
/-! ### sorted_indexes, follows -/
def idxs (l : List Nat) : List V := l.map fun j => .int ((j : Nat) : Int)
theorem idxs_at {l : List Nat} {i : Nat} {j : Nat} (h : l[i]? = some j) : (idxs l)[i]? = some (.int ((j : Nat) : Int)) := by
  unfold idxs
  rw [List.getElem?_map, h]
  rfl
def spSorted : Sp := fun vs H Q _ => ∃ v o x ws n, vs = [v, x, .int ((n : Nat) : Int)] ∧ IsOrd H v o ∧ OrdOk o ∧ IsWrds H x ws ∧ WsOk o ws ∧ n ≤ 3 ∧
  ∀ p H', Same H H' → H p = none → H' p = some (.lst (idxs (sortedM o ws n))) → Q (.ref p) H'
theorem ok_sorted_indexes (T : Txt K mg) : Calls P w K mg base 4 "sorted_indexes" ["order", "words", "level"] spSorted := by
  have C_compared := ok_compared (P := P) (w := w) (base := base) T
  refine mk_sorted_indexes T (fun vs H Q E h => ?_) (fun cdv A outer s H vs Q E hr h => ?_)
  · obtain ⟨v, o, x, ws, n, rfl, _⟩ := h
    rfl
  · obtain ⟨v, o, x, ws, n, rfl, ho, ok, ⟨y, us, rfl, hy, pr⟩, wk, hn, q⟩ := h
    have few := wk.few
    have el : us.length = ws.length := Paired.length pr
    refine ⟨_, (pss_cons (ps_set (i := 3) sc_sorted_indexes.nd rfl (by first | exact Or.inl rfl | exact Or.inr rfl) (pe_lstS pa_nil))
  (pss_cons (ps_for PassesOwn.never rfl (pi_enumTK (K := K) rfl (by rfl) T.f_enumerate (pa_cons (pv 1) pa_nil)) (pg_tupK (K := K) (n := 2) rfl rfl (pgs_cons (pg_name (i := 4) sc_sorted_indexes.nd rfl (by first | exact Or.inl rfl | exact Or.inr rfl)) (pgs_cons (pg_name (i := 5) sc_sorted_indexes.nd rfl (by first | exact Or.inl rfl | exact Or.inr rfl)) pgs_nil)))
  (pss_cons (ps_set (i := 6) sc_sorted_indexes.nd rfl (by first | exact Or.inl rfl | exact Or.inr rfl) (pe_callB (call_lenS (K := K) rfl) (by rfl) T.f_len boot_len' (pa_cons (pv 3) pa_nil)))
  (pss_cons (ps_while PassesOwn.never (PW.pt (pw_and (pt_cmpR op_gt (pv 6) pe_int (nomark _)) (pw_and1 (pt_cmpR op_lt (pe_callC C_compared (hr.mono (by decide)) (by rfl) (pa_cons (pv 0) (pa_cons (pv 5) (pa_cons (pe_ix ix_tupS (pv 1) (pe_ix (ix_listS (K := K) rfl) (pv 3) (pe_op op_sub (pv 6) pe_int) (fun _ _ => rfl)) (fun _ _ => rfl)) (pa_cons (pv 2) pa_nil))))) pe_int (nomark _))))) (pss_one (ps_set (i := 6) sc_sorted_indexes.nd rfl (by first | exact Or.inl rfl | exact Or.inr rfl) (pe_op op_sub (pv 6) pe_int))))
  (pss_one (ps_expr (pe_bmK (K := K) rfl PySem.F.plainAttrs_list PySem.F.slot_list_insert PySem.F.type_list_insert mt_insert (pv 3) (pa_cons (pv 6) (pa_cons (pv 4) pa_nil))))))))
  (pss_one (ps_ret (pv 3))))), ?_⟩
    refine ⟨Nat.zero_le _, fun l H1 s1 nl e1 => ?_⟩
    refine ⟨_, rfl, y, us, rfl, (hy.same s1).sq, for_it (walk_enumT (xs := us)) (fun i σ H' => ∃ x4 x5 x6, σ = [some v, some (.ref y), some (.int (n : Int)), some (.ref l), x4, x5, x6] ∧ Same H H' ∧ H' l = some (.lst (idxs (rowM (ltK (keyAt o ws n)) i))))
      ⟨none, none, none, rfl, s1, e1⟩ (fun i σ H' _ p => ?_) (fun i z σ H3 H4 hi p yy => ?_) (fun σ H' p => ?_)⟩
    · obtain ⟨_, _, _, _, s', _⟩ := p
      exact (hy.same s').sq
    · obtain ⟨x4, x5, x6, rfl, s3, e3⟩ := p
      obtain ⟨tt, y1, y2, rfl, nT, rfl, f1, f2⟩ := yy
      obtain rfl : y1 = .int (i : Nat) := (Option.some.inj f1).symm
      obtain ⟨uw, hu1, hu2⟩ := Paired.ta pr f2
      have wu := wk.at hu1
      have sT : Same H3 (upd H3 tt (.tup [.int (i : Nat), y2])) := same_upd nT
      refine ⟨tt, _, rfl, .inl (.inl upd_same), rfl, _, _, rfl, _, _, rfl, rfl, ?_⟩
      have s3T := s3.trans sT
      have eT := sT _ _ e3
      have hrl := rowM_len (ltK (keyAt o ws n)) i
      have hmem : ∀ a j : Nat, (rowM (ltK (keyAt o ws n)) i)[a]? = some j → j < i := fun a j e => rowM_mem _ (List.mem_of_getElem? e)
      have srt := srt_row (κ := keyAt o ws n) i
      have hnext : rowM (ltK (keyAt o ws n)) (i + 1) = insM (ltK (keyAt o ws n) i) i (rowM (ltK (keyAt o ws n)) i) := rfl
      generalize rowM (ltK (keyAt o ws n)) i = row at eT hrl hmem srt hnext
      refine ⟨_, rfl, _, row.length, rfl, .inr (.inl ⟨_, _, rfl, .of eT, (List.length_map _).symm⟩), ?_⟩
      -- while place > 0 and ..
      refine ⟨fun m σ H' => ∃ k : Nat, σ = [some v, some (.ref y), some (.int (n : Int)), some (.ref l), some (.int (i : Nat)), some y2, some (.int (k : Nat))] ∧ Same H H' ∧ H' l = some (.lst (idxs row)) ∧ k = m ∧ k ≤ row.length ∧ ∀ (a x : Nat), k ≤ a → row[a]? = some x → ltK (keyAt o ws n) i x = true,
        ⟨_, row.length, rfl, s3T, eT, rfl, Nat.le_refl _, fun a x ha e => ?_⟩, fun m σ H' hW => ?_⟩
      · have := (List.getElem?_eq_some_iff.mp e).1
        omega
      obtain ⟨k, rfl, s5, e5, rfl, hkl, hall⟩ := hW
      have ins : k = placeM (ltK (keyAt o ws n) i) row → ∀ (H6 : Hp) (D : Ends), Same H H6 → H6 l = some (.lst (idxs row)) → (∀ x4 x5 x6 H7, Same H H7 → H7 l = some (.lst (idxs (insM (ltK (keyAt o ws n) i) i row))) → D.nx [some v, some (.ref y), some (.int (n : Int)), some (.ref l), x4, x5, x6] H7) →
          tDrop (tBM K "list" (fun x vs H Q => ∃ (l : Addr) (xs : List V) (i : Int) (y : V), x = .ref l ∧ vs = [.int i, y] ∧ H l = some (.lst xs) ∧ xs.length < sizeLine ∧ 0 ≤ i ∧ i < 2 ^ 63 ∧ Q .non (upd H l (.lst (xs.take i.toNat ++ [y] ++ xs.drop i.toNat)))) (tVar 3) (tCons (tVar 6) (tCons (tVar 4) tNil))) D
            [some v, some (.ref y), some (.int (n : Int)), some (.ref l), some (.int (i : Nat)), some y2, some (.int (k : Nat))] H6 := by
        intro hk H6 D s6 e6 hD
        refine ⟨_, rfl, .inl ⟨rfl, _, .of e6⟩, _, rfl, _, rfl, l, _, (k : Int), _, rfl, rfl, e6, ?_, by omega, by omega, ?_⟩
        · unfold idxs
          rw [List.length_map]
          exact small1000 (by omega)
        · refine hD _ _ _ _ (same_of s6 nl) ?_
          rw [upd_same]
          unfold insM idxs
          rw [← hk]
          simp
      refine ⟨_, rfl, _, _, rfl, rfl, _, rfl, ?_⟩
      by_cases h0 : (0 : Int) < (k : Nat)
      · refine iteDT h0 ?_
        have hk1 : k - 1 < row.length := by omega
        have hj : row[k - 1]? = some (row[k - 1]'hk1) := List.getElem?_eq_getElem hk1
        generalize row[k - 1]'hk1 = j at hj
        have hji := hmem _ _ hj
        have hw : ∃ w2, ws[j]? = some w2 := ⟨_, List.getElem?_eq_getElem (by omega)⟩
        obtain ⟨w2, hw2⟩ := hw
        obtain ⟨z2, g1, g2⟩ := Paired.at pr hw2
        refine ⟨_, rfl, _, rfl, _, rfl, _, rfl, _, rfl, _, _, rfl, rfl, _, _, _, k - 1, _, rfl, rfl, .of e5, by omega, idxs_at hj, _, _, _, j, z2, rfl, rfl, hy.same s5, rfl, g1, _, rfl,
          v, o, y2, uw, z2, w2, n, rfl, ho.mono s5, ok, hu2.mono s5, wu, g2.mono s5, wk.at hw2, hn, fun H6 s6 => ?_⟩
        refine ⟨_, _, rfl, rfl, _, rfl, ?_⟩
        have s56 := s5.trans s6
        have e6 := s6 _ _ e5
        by_cases hlt : cmpO o uw w2 n < 0
        · refine iteDT hlt ⟨fun σ' H' => σ' = [some v, some (.ref y), some (.int (n : Int)), some (.ref l), some (.int (i : Nat)), some y2, some (.int ((k - 1 : Nat) : Int))] ∧ H' = H6, fun σ' H' hN => ?_, ?_⟩
          · obtain ⟨rfl, rfl⟩ := hN
            refine ⟨k - 1, by omega, k - 1, rfl, s56, e6, rfl, by omega, fun a x ha e => ?_⟩
            by_cases hak : a = k - 1
            · subst hak
              rw [hj] at e
              cases e
              rw [cmp_neg hu1 hw2] at hlt
              exact hlt
            · exact hall a x (by omega) e
          · refine ⟨_, rfl, _, _, rfl, rfl, ?_, rfl⟩
            show [some v, some (.ref y), some (.int (n : Int)), some (.ref l), some (.int (i : Nat)), some y2, some (.int ((k : Nat) - 1 : Int))] = _
            rw [show ((k : Nat) - 1 : Int) = ((k - 1 : Nat) : Int) by omega]
        · refine iteDF hlt (ins ?_ H6 _ s56 e6 ?_)
          rotate_left 1
          · exact fun x4 x5 x6 H7 s7 e7 => ⟨x4, x5, x6, rfl, s7, by rw [hnext]; exact e7⟩
          refine placeM_back _ (mono_of srt i) hkl hall (.inr ⟨j, hj, ?_⟩)
          rw [cmp_neg hu1 hw2] at hlt
          cases q2 : ltK (keyAt o ws n) i j with
          | true => exact absurd q2 hlt
          | false => rfl
      · refine iteDF h0 (ins ?_ H' _ s5 e5 ?_)
        rotate_left 1
        · exact fun x4 x5 x6 H7 s7 e7 => ⟨x4, x5, x6, rfl, s7, by rw [hnext]; exact e7⟩
        exact placeM_back _ (mono_of srt i) hkl hall (.inl (by omega))
    · obtain ⟨x4, x5, x6, rfl, s3, e3⟩ := p
      rw [el] at e3
      exact ⟨_, rfl, q l H' s3 (Same.free (Same.refl _) nl) e3⟩
def spFollows : Sp := fun vs H Q _ => ∃ v o x ws n i j u u2, vs = [v, x, .int ((n : Nat) : Int), .int ((i : Nat) : Int), .int ((j : Nat) : Int)] ∧ IsOrd H v o ∧ OrdOk o ∧ IsWrds H x ws ∧ ws[i]? = some u ∧ ws[j]? = some u2 ∧ WordOk o u ∧ WordOk o u2 ∧ n ≤ 3 ∧
  ∀ H', Same H H' → Q (.bl (decide (cmpO o u u2 n ≤ 0))) H'
theorem ok_follows (T : Txt K mg) : Calls P w K mg base 4 "follows" ["behind", "words", "level", "first", "second"] spFollows := by
  have C_compared := ok_compared (P := P) (w := w) (base := base) T
  refine mk_follows T (fun vs H Q E h => ?_) (fun cdv A outer s H vs Q E hr h => ?_)
  · obtain ⟨v, o, x, ws, n, i, j, u, u2, rfl, _⟩ := h
    rfl
  · obtain ⟨v, o, x, ws, n, i, j, u, u2, rfl, ho, ok, ⟨y, us, rfl, hy, pr⟩, hi, hj, wu, wu2, hn, q⟩ := h
    obtain ⟨z1, f1, f2⟩ := Paired.at pr hi
    obtain ⟨z2, g1, g2⟩ := Paired.at pr hj
    refine ⟨_, (pss_one (ps_ret (pe_cmpR op_le (pe_callC C_compared (hr.mono (by decide)) (by rfl) (pa_cons (pv 0) (pa_cons (pe_ix ix_tupS (pv 1) (pv 3) (fun _ _ => rfl)) (pa_cons (pe_ix ix_tupS (pv 1) (pv 4) (fun _ _ => rfl)) (pa_cons (pv 2) pa_nil))))) pe_int (nomark _)))), ?_⟩
    exact ⟨_, rfl, _, rfl, _, rfl, _, _, _, i, z1, rfl, rfl, hy, rfl, f1, _, rfl, _, rfl, _, _, _, j, z2, rfl, rfl, hy, rfl, g1, _, rfl, v, o, z1, u, z2, u2, n, rfl, ho, ok, f2, wu, g2, wu2, hn, fun H1 s1 => ⟨_, _, rfl, rfl, q H1 s1⟩⟩
end
end Pf
namespace Pf
open PySem PySem.Spec PyProof.Rows L2
section
variable {P : Program} {w : World} {K : PySem.W.Frag} {mg : Str → Option Value} {base : Heap}
/-! ### heights_of -/
def upTo (n : Nat) : List Int := (List.range n).map fun i => ((i : Nat) : Int) + 1
theorem upTo_len (n : Nat) : (upTo n).length = n := by unfold upTo; rw [List.length_map, List.length_range]
theorem upTo_succ (n : Nat) : upTo (n + 1) = upTo n ++ [((n : Nat) : Int) + 1] := by
  unfold upTo
  rw [List.range_succ, List.map_append]
  rfl
theorem upTo_at {n k : Nat} (h : k < n) : (upTo n)[k]? = some (((k : Nat) : Int) + 1) := by
  unfold upTo
  rw [List.getElem?_map, List.getElem?_range h]
  rfl
theorem upTo_mem {n : Nat} {x : Int} (h : x ∈ upTo n) : 1 ≤ x ∧ x ≤ n := by
  unfold upTo at h
  obtain ⟨i, hi, rfl⟩ := List.mem_map.mp h
  have := List.mem_range.mp hi
  omega
theorem upTo_max {n : Nat} {m : Int} (h1 : m ∈ [(0 : Int)] ++ upTo n) (h2 : ∀ y ∈ [(0 : Int)] ++ upTo n, y ≤ m) : m = n := by
  have hle : m ≤ n := by
    rcases List.mem_append.mp h1 with z | z
    · have : m = 0 := by simpa using z
      omega
    · exact (upTo_mem z).2
  cases n with
  | zero =>
    have := h2 0 (by simp)
    omega
  | succ n =>
    have := h2 (((n : Nat) : Int) + 1) (List.mem_append_right _ (by rw [upTo_succ]; simp))
    omega
/-- each word follows each earlier one in the row -/
def Rowed (o : Ord) (ws : List (List Str)) (n : Nat) (row : List Nat) : Prop := (∀ x ∈ row, x < ws.length) ∧ ∀ (a b x y : Nat) (u v : List Str), a < b → row[a]? = some x → row[b]? = some y → ws[x]? = some u → ws[y]? = some v → cmpO o u v n ≤ 0
theorem Rowed.at {o : Ord} {ws : List (List Str)} {n : Nat} {row : List Nat} (h : Rowed o ws n row) {a x : Nat} (e : row[a]? = some x) : ∃ u, ws[x]? = some u := ⟨_, List.getElem?_eq_getElem (h.1 x (List.mem_of_getElem? e))⟩
theorem idxs_take {row : List Nat} {i : Nat} {z : V} (h : (idxs row)[i]? = some z) : ∃ x, row[i]? = some x ∧ z = .int ((x : Nat) : Int) := by
  unfold idxs at h
  rw [List.getElem?_map] at h
  cases e : row[i]? with
  | none => rw [e] at h; cases h
  | some x => rw [e] at h; exact ⟨x, rfl, (Option.some.inj h).symm⟩
theorem idxs_len (row : List Nat) : (idxs row).length = row.length := List.length_map _
def spHeights : Sp := fun vs H Q _ => ∃ v o x ws n r row, vs = [v, x, .int ((n : Nat) : Int), .ref r] ∧ IsOrd H v o ∧ OrdOk o ∧ IsWrds H x ws ∧ WsOk o ws ∧ n ≤ 3 ∧ H r = some (.lst (idxs row)) ∧ row.length ≤ 12 ∧ Rowed o ws n row ∧
  ∀ p H', Same H H' → H p = none → H' p = some (.lst ((upTo row.length).map V.int)) → Q (.ref p) H'
theorem fm_upTo {m n : Nat} (h : m ≤ n) : (List.range m).filterMap (fun k => ((upTo n).map V.int)[k]?) = (upTo m).map V.int := by
  induction m with
  | zero => rfl
  | succ m ih =>
    rw [List.range_succ, List.filterMap_append, ih (by omega), upTo_succ m, List.map_append, List.filterMap_cons, int_get (upTo_at (show m < n by omega))]
    rfl
theorem ok_heights_of (T : Txt K mg) : Calls P w K mg base 5 "heights_of" ["behind", "words", "level", "row"] spHeights := by
  have C_follows := ok_follows (P := P) (w := w) (base := base) T
  refine mk_heights_of T (fun vs H Q E h => ?_) (fun cdv A outer s H vs Q E hr h => ?_)
  · obtain ⟨v, o, x, ws, n, r, row, rfl, _⟩ := h
    rfl
  · obtain ⟨v, o, x, ws, n, r, row, rfl, ho, ok, hws, wk, hn, er, hrl, rw_, q⟩ := h
    refine ⟨_, (pss_cons (ps_set (i := 4) sc_heights_of.nd rfl (by first | exact Or.inl rfl | exact Or.inr rfl) (pe_lstS pa_nil))
  (pss_cons (ps_for PassesOwn.never rfl (pi_enumK (K := K) rfl (by rfl) T.f_enumerate (pa_cons (pv 3) pa_nil)) (pg_tupK (K := K) (n := 2) rfl rfl (pgs_cons (pg_name (i := 5) sc_heights_of.nd rfl (by first | exact Or.inl rfl | exact Or.inr rfl)) (pgs_cons (pg_name (i := 6) sc_heights_of.nd rfl (by first | exact Or.inl rfl | exact Or.inr rfl)) pgs_nil)))
  (pss_cons (ps_setLc (i := 7) (own := [("k", 8)]) (by rfl) sc_heights_of.nd rfl rfl (sw_true rfl rfl rfl (by decide +kernel)) (pi_range1 (by rfl) T.f_range (pa_cons (pv 5) pa_nil)) (blkOk_by (own := [("k", 8)]) (N := N_heights_of) (sc := (defScope s_heights_of)) (by decide +kernel)) (fun _ _ _ _ _ => (pg_name (i := 8) sc_heights_of.nd rfl (by first | exact Or.inl rfl | exact Or.inr rfl))) (fun _ _ _ _ _ => (pts_one (pt_val (pe_callC C_follows (hr.mono (by decide)) (by rfl) (pa_cons (pv 0) (pa_cons (pv 1) (pa_cons (pv 2) (pa_cons (pe_ix (ix_listS (K := K) rfl) (pv 3) (pv 8) (fun _ _ => rfl)) (pa_cons (pv 6) pa_nil))))))))) (fun _ _ _ _ _ => (pe_ix (ix_listS (K := K) rfl) (pv 4) (pv 8) (fun _ _ => rfl))))
  (pss_one (ps_expr (pe_bmK (K := K) rfl PySem.F.plainAttrs_list PySem.F.slot_list_append PySem.F.type_list_append mt_append (pv 4) (pa_cons (pe_op op_add (pe_callB (cr_maxK (K := K) rfl rfl) (by rfl) T.f_max boot_max' (pa_cons (pe_op op_catLS (pe_lstS (pa_cons pe_int pa_nil)) (pv 7)) pa_nil)) pe_int) pa_nil))))))
  (pss_one (ps_ret (pv 4))))), ?_⟩
    refine ⟨Nat.zero_le _, fun l H1 s1 nl e1 => ?_⟩
    refine ⟨_, rfl, r, _, rfl, .of (s1 _ _ er), for_it (walk_enum (xs := idxs row)) (fun i σ H' => ∃ x5 x6 x7 x8, σ = [some v, some x, some (.int (n : Int)), some (.ref r), some (.ref l), x5, x6, x7, x8] ∧ Same H H' ∧ H' l = some (.lst ((upTo i).map V.int)))
      ⟨none, none, none, none, rfl, s1, e1⟩ (fun i σ H' _ p => ?_) (fun i z σ H3 H4 hi p yy => ?_) (fun σ H' p => ?_)⟩
    · obtain ⟨_, _, _, _, _, s', _⟩ := p
      exact .of (s' _ _ er)
    · obtain ⟨x5, x6, x7, x8, rfl, s3, e3⟩ := p
      obtain ⟨tt, y1, y2, rfl, nT, rfl, f1, f2⟩ := yy
      obtain rfl : y1 = .int (i : Nat) := (Option.some.inj f1).symm
      obtain ⟨b, hb, rfl⟩ := idxs_take f2
      rw [idxs_len] at hi
      have sT : Same H3 (upd H3 tt (.tup [.int (i : Nat), .int ((b : Nat) : Int)])) := same_upd nT
      refine ⟨tt, _, rfl, .inl (.inl upd_same), rfl, _, _, rfl, _, _, rfl, rfl, ?_⟩
      have s3T := s3.trans sT
      have eT := sT _ _ e3
      refine ⟨_, rfl, _, rfl, by omega, by omega, fun D nD => lcM walk_range nD (fun k => ((upTo i).map V.int)[k]?) (le12 (by omega)) (fun _ _ => trivial) (fun k z H5 H6 R hk s5 yy kk => ?_) fun H5 s5 e5 => ?_⟩
      · obtain ⟨rfl, rfl⟩ := yy
        have hk' : k < i := by omega
        have ha : row[k]? = some (row[k]'(by omega)) := List.getElem?_eq_getElem (by omega)
        generalize row[k]'(by omega) = a at ha
        obtain ⟨u, hu⟩ := rw_.at ha
        obtain ⟨u2, hu2⟩ := rw_.at hb
        have sr := s3T.trans s5
        have hle := rw_.2 k i a b u u2 hk' ha hb hu hu2
        have ek : ((0 : Int) + (k : Nat)) = ((k : Nat) : Int) := by omega
        have hk1 := int_get (upTo_at (n := i) hk')
        refine ⟨rfl, _, rfl, _, rfl, _, rfl, _, rfl, _, rfl, _, _, _, k, _, rfl, rfl, .of (sr _ _ er), ek, idxs_at ha, _, rfl, v, o, x, ws, n, a, b, u, u2, rfl, ho.mono sr, ok, hws.mono sr, hu, hu2, wk.at hu, wk.at hu2, hn, fun H7 s7 => ?_⟩
        refine ⟨_, rfl, iteDT hle ?_⟩
        refine ⟨_, rfl, _, rfl, _, _, _, k, _, rfl, rfl, .of (s7 _ _ (s5 _ _ eT)), ek, hk1, ?_⟩
        have := kk H7 s7
        rw [hk1] at this
        exact this
      · have e5' := e5
        rw [show ((i : Nat) : Int).toNat = i by omega, fm_upTo (Nat.le_refl i)] at e5'
        have s35 := s3T.trans s5
        refine ⟨_, rfl, .inl ⟨rfl, _, .of (s5 _ _ eT)⟩, ?_⟩
        refine ⟨by show 1 ≤ sizeLine; decide, fun p1 H6 s6 n6 e6 => ?_⟩
        have hzl : (1 : Nat) + ((upTo i).map V.int).length ≤ sizeLine := by
          rw [List.length_map, upTo_len]
          exact le12 (by omega)
        refine ⟨_, rfl, p1, D, [.int 0], _, rfl, rfl, e6, s6 _ _ e5', hzl, fun p2 H7 s7 n7 e7 => ?_⟩
        refine ⟨p2, [0] ++ upTo i, rfl, .of (by rw [List.map_append]; exact e7), by rw [List.length_append]; show 0 < 1 + _; omega, fun m hm1 hm2 => ?_⟩
        obtain rfl := upTo_max hm1 hm2
        have s37 := s35.trans (s6.trans s7)
        have e7' := s7 _ _ (s6 _ _ (s5 _ _ eT))
        refine ⟨_, _, rfl, rfl, l, _, _, rfl, rfl, e7', small1000 (by rw [List.length_map, upTo_len]; omega), _, _, _, _, rfl, same_of s37 nl, ?_⟩
        rw [upd_same, upTo_succ, List.map_append]
        rfl
    · obtain ⟨x5, x6, x7, x8, rfl, s3, e3⟩ := p
      rw [idxs_len] at e3
      exact ⟨_, rfl, q l H' s3 nl e3⟩
/-! ### staying -/
def IsIdx (H : Hp) (v : V) (l : List Nat) : Prop := ∃ a, v = .ref a ∧ FzT H a (idxs l)
theorem IsIdx.mono {H H' : Hp} {v : V} {l : List Nat} (s : Same H H') : IsIdx H v l → IsIdx H' v l := fun ⟨a, e, h⟩ => ⟨a, e, h.same s⟩
theorem IsIdx.updL {H : Hp} {v : V} {m : List Nat} {l : Addr} {acc : List V} {o : HO} (h : IsIdx H v m) (hl : H l = some (.lst acc)) : IsIdx (upd H l o) v m := let ⟨a, e, q⟩ := h; ⟨a, e, fz_updL q hl⟩
def upk (R : List Nat) (k : Nat) : List Nat := (R.take k).reverse
theorem upk_succ {R : List Nat} {k x : Nat} (h : R[k]? = some x) : upk R (k + 1) = x :: upk R k := by
  unfold upk
  rw [List.take_add_one, h]
  simp
theorem upk_len {R : List Nat} {k : Nat} (h : k ≤ R.length) : (upk R k).length = k := by
  unfold upk
  rw [List.length_reverse, List.length_take]
  omega
def ups (R : List Nat) (i : Nat) : List (List Nat) := (List.range i).map fun k => upk R (k + 1)
theorem ups_at {R : List Nat} {i k : Nat} (h : k < i) : (ups R i)[k]? = some (upk R (k + 1)) := by
  unfold ups
  rw [List.getElem?_map, List.getElem?_range h]
  rfl
theorem ups_succ (R : List Nat) (i : Nat) : ups R (i + 1) = ups R i ++ [upk R (i + 1)] := by
  unfold ups
  rw [List.range_succ, List.map_append]
  rfl
theorem ups_len (R : List Nat) (i : Nat) : (ups R i).length = i := by
  unfold ups
  rw [List.length_map, List.length_range]
/-- the change leaves these words as they were -/
def Calm (o : Ord) (rs : List Rule) (ws : List (List Str)) (n : Nat) : Prop := ∀ u ∈ ws, ∀ v ∈ ws, cmpO (ledM o rs) u v n = cmpO o u v n
theorem sorted_rowed (o : Ord) (ws : List (List Str)) (n : Nat) : Rowed o ws n (sortedM o ws n) :=
  ⟨fun x hx => rowM_mem _ hx, fun a b x y u v hab ha hb hu hv => sorted_le hab ha hb hu hv⟩
theorem Rowed.calm {o : Ord} {rs : List Rule} {ws : List (List Str)} {n : Nat} {row : List Nat} (h : Rowed o ws n row) (c : Calm o rs ws n) : Rowed (ledM o rs) ws n row :=
  ⟨h.1, fun a b x y u v hab ha hb hu hv => by rw [c u (List.mem_of_getElem? hu) v (List.mem_of_getElem? hv)]; exact h.2 a b x y u v hab ha hb hu hv⟩
theorem Rowed.back {o : Ord} {ws : List (List Str)} {n : Nat} {row : List Nat} (h : Rowed o ws n row) {a b x y : Nat} {u v : List Str} (hab : a < b) (ha : row.reverse[b]? = some x) (hb : row.reverse[a]? = some y) (hx : ws[x]? = some u) (hy : ws[y]? = some v) : cmpO o u v n ≤ 0 := by
  have hl : b < row.length := by
    have := (List.getElem?_eq_some_iff.mp ha).1
    rwa [List.length_reverse] at this
  rw [List.getElem?_reverse (by omega)] at ha hb
  exact h.2 _ _ x y u v (by omega) ha hb hx hy
def spStaying : Sp := fun vs H Q _ => ∃ v o u rs x ws n, vs = [v, u, x, .int ((n : Nat) : Int)] ∧ IsOrd H v o ∧ IsRules H u rs ∧ ChgOk o rs ∧ IsWrds H x ws ∧ WsOk o ws ∧ 1 ≤ n ∧ n ≤ 3 ∧ Calm o rs ws n ∧
  ∀ p H', Same H H' → FzT H' p (idxs (sortedM o ws n)) → Q (.ref p) H'
theorem ok_staying (T : Txt K mg) : Calls P w K mg base 7 "staying" ["order", "rules", "words", "level"] spStaying := by
  have C_new_order := ok_new_order (P := P) (w := w) (base := base) T
  have C_sorted_indexes := ok_sorted_indexes (P := P) (w := w) (base := base) T
  have C_follows := ok_follows (P := P) (w := w) (base := base) T
  refine mk_staying T (fun vs H Q E h => ?_) (fun cdv A outer s H vs Q E hr h => ?_)
  · obtain ⟨v, o, u, rs, x, ws, n, rfl, _⟩ := h
    rfl
  · obtain ⟨v, o, u, rs, x, ws, n, rfl, ho, hrs, c, hws, wk, hn1, hn, calm, q⟩ := h
    have few := wk.few
    refine ⟨_, (pss_cons (ps_set (i := 4) sc_staying.nd rfl (by first | exact Or.inl rfl | exact Or.inr rfl) (pe_callC C_new_order (hr.mono (by decide)) (by rfl) (pa_cons (pv 0) (pa_cons (pv 1) (pa_cons (pv 2) (pa_cons (pv 3) pa_nil))))))
  (pss_cons (ps_set (i := 5) sc_staying.nd rfl (by first | exact Or.inl rfl | exact Or.inr rfl) (pe_revLK (K := K) rfl (pe_callC C_sorted_indexes (hr.mono (by decide)) (by rfl) (pa_cons (pv 0) (pa_cons (pv 2) (pa_cons (pv 3) pa_nil))))))
  (pss_cons (ps_set (i := 6) sc_staying.nd rfl (by first | exact Or.inl rfl | exact Or.inr rfl) (pe_lstS pa_nil))
  (pss_cons (ps_for PassesOwn.never rfl (pi_enumK (K := K) rfl (by rfl) T.f_enumerate (pa_cons (pv 5) pa_nil)) (pg_tupK (K := K) (n := 2) rfl rfl (pgs_cons (pg_name (i := 7) sc_staying.nd rfl (by first | exact Or.inl rfl | exact Or.inr rfl)) (pgs_cons (pg_name (i := 8) sc_staying.nd rfl (by first | exact Or.inl rfl | exact Or.inr rfl)) pgs_nil)))
  (pss_cons (ps_set (i := 9) sc_staying.nd rfl (by first | exact Or.inl rfl | exact Or.inr rfl) (pe_tupS pa_nil))
  (pss_cons (ps_for PassesOwn.never rfl (pi_range1 (by rfl) T.f_range (pa_cons (pv 7) pa_nil)) (pg_name (i := 10) sc_staying.nd rfl (by first | exact Or.inl rfl | exact Or.inr rfl))
  (pss_one (ps_if (PW.pt (pw_and (pt_val (pe_callC C_follows (hr.mono (by decide)) (by rfl) (pa_cons (pv 4) (pa_cons (pv 2) (pa_cons (pv 3) (pa_cons (pv 8) (pa_cons (pe_ix (ix_listS (K := K) rfl) (pv 5) (pv 10) (fun _ _ => rfl)) pa_nil))))))) (pw_and1 (pt_cmpR op_ge (pe_callB (call_lenS (K := K) rfl) (by rfl) T.f_len boot_len' (pa_cons (pe_ix (ix_listS (K := K) rfl) (pv 6) (pv 10) (fun _ _ => rfl)) pa_nil)) (pe_callB (call_lenS (K := K) rfl) (by rfl) T.f_len boot_len' (pa_cons (pv 9) pa_nil)) (nomark _))))) (pss_one (ps_set (i := 9) sc_staying.nd rfl (by first | exact Or.inl rfl | exact Or.inr rfl) (pe_ix (ix_listS (K := K) rfl) (pv 6) (pv 10) (fun _ _ => rfl)))) pss_nil)))
  (pss_one (ps_expr (pe_bmK (K := K) rfl PySem.F.plainAttrs_list PySem.F.slot_list_append PySem.F.type_list_append mt_append (pv 6) (pa_cons (pe_op op_catS (pe_tupS (pa_cons (pv 8) pa_nil)) (pv 9)) pa_nil)))))))
  (pss_cons (ps_set (i := 11) sc_staying.nd rfl (by first | exact Or.inl rfl | exact Or.inr rfl) (pe_tupS pa_nil))
  (pss_cons (ps_for PassesOwn.never rfl (pi_listK (K := K) rfl (pv 6)) (pg_name (i := 12) sc_staying.nd rfl (by first | exact Or.inl rfl | exact Or.inr rfl))
  (pss_one (ps_if (pt_cmpR op_ge (pe_callB (call_lenS (K := K) rfl) (by rfl) T.f_len boot_len' (pa_cons (pv 12) pa_nil)) (pe_callB (call_lenS (K := K) rfl) (by rfl) T.f_len boot_len' (pa_cons (pv 11) pa_nil)) (nomark _)) (pss_one (ps_set (i := 11) sc_staying.nd rfl (by first | exact Or.inl rfl | exact Or.inr rfl) (pv 12))) pss_nil)))
  (pss_one (ps_ret (pv 11))))))))), ?_⟩
    refine ⟨_, rfl, _, rfl, _, rfl, _, rfl, v, o, u, rs, x, ws, n, rfl, ho, hrs, c, hws, wk, hn1, hn, fun v1 H1 s1 ho1 => ?_⟩
    refine ⟨_, rfl, _, rfl, _, rfl, v, o, x, ws, n, rfl, ho.mono s1, c.ok, hws.mono s1, wk, hn, fun r0 H2 s2 _ e2 => ⟨r0, _, rfl, .of e2, fun r nr => ?_⟩⟩
    have sr : Same H1 (upd H2 r (.lst (idxs (sortedM o ws n)).reverse)) := s2.trans (same_upd nr)
    have er : (upd H2 r (.lst (idxs (sortedM o ws n)).reverse)) r = some (.lst (idxs (sortedM o ws n).reverse)) := by
      rw [upd_same]
      unfold idxs
      rw [List.map_reverse]
    have hrow := (sorted_rowed o ws n).calm calm
    have hrl : (sortedM o ws n).length = ws.length := rowM_len _ _
    have hqq : ∀ p H', Same H H' → FzT H' p (idxs (upk (sortedM o ws n).reverse (sortedM o ws n).reverse.length)) → Q (.ref p) H' := by
      intro p H' s h
      refine q p H' s ?_
      unfold upk at h
      rw [List.take_length, List.reverse_reverse] at h
      exact h
    have hmem : ∀ a ∈ (sortedM o ws n).reverse, ∃ z, ws[a]? = some z := fun a ha => ⟨_, List.getElem?_eq_getElem (hrow.1 a (List.mem_reverse.mp ha))⟩
    have hback := fun {a b x y : Nat} {u v : List Str} => @Rowed.back _ _ _ _ hrow a b x y u v
    have hRl : (sortedM o ws n).reverse.length = ws.length := by rw [List.length_reverse, hrl]
    generalize upd H2 r (.lst (idxs (sortedM o ws n)).reverse) = H3 at sr er
    generalize (sortedM o ws n).reverse = R at er hqq hmem hback hRl
    clear hrow hrl q s2 e2
    have s13 := s1.trans sr
    refine ⟨Nat.zero_le _, fun l H4 s4 nl e4 => ?_⟩
    have ho3 := ho1.mono sr
    have hws3 := hws.mono s13
    have nl0 := Same.free s13 nl
    refine ⟨_, rfl, r, _, rfl, .of (s4 _ _ er), for_it (walk_enum (xs := idxs R)) (fun i σ H' => ∃ x7 x8 x9 x10 vs, σ = [some v, some u, some x, some (.int (n : Int)), some v1, some (.ref r), some (.ref l), x7, x8, x9, x10, none, none] ∧ Same H3 H' ∧ H' l = some (.lst vs) ∧ Paired (IsIdx H') vs (ups R i))
      ⟨none, none, none, none, [], rfl, s4, e4, .nil⟩ (fun i σ H' _ p => ?_) (fun i z H5 H6 H7 hi p yy => ?_) (fun σ H' p => ?_)⟩
    · obtain ⟨_, _, _, _, _, _, s', _⟩ := p
      exact .of (s' _ _ er)
    · obtain ⟨x7, x8, x9, x10, vs, rfl, s5, e5, pr⟩ := p
      obtain ⟨tt, y1, y2, rfl, nT, rfl, f1, f2⟩ := yy
      obtain rfl : y1 = .int (i : Nat) := (Option.some.inj f1).symm
      obtain ⟨b, hb, rfl⟩ := idxs_take f2
      rw [idxs_len] at hi
      have sT : Same H6 (upd H6 tt (.tup [.int (i : Nat), .int ((b : Nat) : Int)])) := same_upd nT
      refine ⟨tt, _, rfl, .inl (.inl upd_same), rfl, _, _, rfl, _, _, rfl, rfl, ?_⟩
      have s5T := s5.trans sT
      have eT := sT _ _ e5
      have prT := pr.mono fun _ _ => IsIdx.mono sT
      have hvl : vs.length = i := (Paired.length pr).trans (ups_len R i)
      obtain ⟨wb, hwb⟩ := hmem b (List.mem_of_getElem? hb)
      refine ⟨Nat.zero_le _, fun p0 H8 s8 h8 => ?_⟩
      have s58 := s5T.trans s8
      refine ⟨_, rfl, _, rfl, by omega, by omega, for_it walk_range (fun k σ H' => ∃ x10 p, σ = [some v, some u, some x, some (.int (n : Int)), some v1, some (.ref r), some (.ref l), some (.int (i : Nat)), some (.int ((b : Nat) : Int)), some (.ref p), x10, none, none] ∧ Same H3 H' ∧
          H' l = some (.lst vs) ∧ Paired (IsIdx H') vs (ups R i) ∧ FzT H' p (idxs (upk R k)))
        ⟨_, p0, rfl, s58, s8 _ _ eT, prT.mono (fun _ _ => IsIdx.mono s8), h8⟩ (fun _ _ _ _ _ => trivial) (fun k z H9 Ha Hb hk p yy => ?_) (fun σ H' p => ?_)⟩
      · obtain ⟨x10, p, rfl, s9, e9, pr9, h9⟩ := p
        obtain ⟨rfl, rfl⟩ := yy
        have hk' : k < i := by omega
        have ek : ((0 : Int) + (k : Nat)) = ((k : Nat) : Int) := by omega
        have ha : R[k]? = some (R[k]'(by omega)) := List.getElem?_eq_getElem (by omega)
        generalize R[k]'(by omega) = a at ha
        obtain ⟨wa, hwa⟩ := hmem a (List.mem_of_getElem? ha)
        have hle := hback hk' hb ha hwb hwa
        obtain ⟨z, g1, p2, rfl, g2⟩ := Paired.at pr9 (ups_at (R := R) hk')
        refine ⟨_, rfl, _, rfl, _, rfl, _, rfl, _, rfl, _, rfl, _, _, _, k, _, rfl, rfl, .of (s9 _ _ er), ek, idxs_at ha, v1, ledM o rs, x, ws, n, b, a, wb, wa, rfl, ho3.mono s9, c.behind, hws3.mono s9, hwb, hwa, c.word (wk.at hwb), c.word (wk.at hwa), hn, fun Hc sc => ?_⟩
        refine ⟨_, rfl, iteDT hle ?_⟩
        have e9c := sc _ _ e9
        refine ⟨_, rfl, _, rfl, _, _, _, k, _, rfl, rfl, .of e9c, ek, g1, _, _, rfl, .inr (.inr ⟨_, _, rfl, g2.same sc, rfl⟩), _, rfl, _, _, rfl, .inr (.inr ⟨_, _, rfl, h9.same sc, rfl⟩), _, _, rfl, rfl, _, rfl, iteDT ?_ ?_⟩
        · rw [idxs_len, idxs_len, upk_len (by omega), upk_len (by omega)]
          omega
        · exact ⟨_, rfl, _, rfl, _, _, _, k, _, rfl, rfl, .of e9c, ek, g1, _, p2, rfl, s9.trans sc, e9c, pr9.mono (fun _ _ => IsIdx.mono sc), g2.same sc⟩
      · obtain ⟨x10, p, rfl, s9, e9, pr9, h9⟩ := p
        rw [show ((i : Nat) : Int).toNat = i by omega] at h9
        refine ⟨_, rfl, .inl ⟨rfl, _, .of e9⟩, _, rfl, by show 1 ≤ sizeLine; decide, fun t1 Hd sd hd => ⟨_, rfl, t1, p, _, _, rfl, rfl, hd, h9.same sd, ?_, fun t2 He se he => ?_⟩⟩
        · rw [idxs_len, upk_len (by omega)]
          exact le12 (by show 1 + i ≤ 1000; omega)
        · have sde := sd.trans se
          have e9e := sde _ _ e9
          refine ⟨l, vs, _, rfl, rfl, e9e, small1000 (by omega), ?_⟩
          refine ⟨_, _, _, _, _, rfl, same_of (s9.trans sde) nl, upd_same, ?_⟩
          rw [ups_succ]
          refine Paired.app (pr9.mono fun _ _ h => (h.mono sde).updL e9e) (.cons ⟨t2, rfl, fz_updL ?_ e9e⟩ .nil)
          rw [upk_succ hb]
          exact he
    · obtain ⟨x7, x8, x9, x10, vs, rfl, s5, e5, pr⟩ := p
      rw [idxs_len] at pr
      have hvl : vs.length = R.length := (Paired.length pr).trans (ups_len R _)
      refine ⟨Nat.zero_le _, fun p0 H8 s8 h8 => ?_⟩
      have s58 := s5.trans s8
      refine ⟨_, rfl, l, rfl, ⟨_, .of (s8 _ _ e5)⟩, for_it (walk_list (xs := vs)) (fun k σ H' => ∃ x12 p, σ = [some v, some u, some x, some (.int (n : Int)), some v1, some (.ref r), some (.ref l), x7, x8, x9, x10, some (.ref p), x12] ∧ Same H8 H' ∧ FzT H' p (idxs (upk R k)))
        ⟨_, p0, rfl, Same.refl _, h8⟩ (fun i σ H' _ p => ?_) (fun k z H9 Ha Hb hk p yy => ?_) (fun σ H' p => ?_)⟩
      · obtain ⟨_, _, _, s', _⟩ := p
        exact .of (s' _ _ (s8 _ _ e5))
      · obtain ⟨x12, p, rfl, s9, h9⟩ := p
        obtain ⟨rfl, hz⟩ := yy
        rw [hvl] at hk
        obtain ⟨m, hm1, hm2⟩ := Paired.ta pr hz
        rw [ups_at hk] at hm1
        cases hm1
        obtain ⟨p2, rfl, g2⟩ := hm2.mono (s8.trans s9)
        refine ⟨_, rfl, _, _, rfl, .inr (.inr ⟨_, _, rfl, g2, rfl⟩), _, rfl, _, _, rfl, .inr (.inr ⟨_, _, rfl, h9, rfl⟩), _, _, rfl, rfl, _, rfl, iteDT ?_ ?_⟩
        · rw [idxs_len, idxs_len, upk_len (by omega), upk_len (by omega)]
          omega
        · exact ⟨_, rfl, _, p2, rfl, s9, g2⟩
      · obtain ⟨x12, p, rfl, s9, h9⟩ := p
        rw [hvl] at h9
        exact ⟨_, rfl, hqq p H' (s13.trans (s58.trans s9)) h9⟩
/-! ### cover_for -/
def spCover : Sp := fun vs H Q _ => ∃ v o u rs x ws n, vs = [v, u, x, .int ((n : Nat) : Int)] ∧ IsOrd H v o ∧ IsRules H u rs ∧ ChgOk o rs ∧ IsWrds H x ws ∧ WsOk o ws ∧ 1 ≤ n ∧ n ≤ 3 ∧ Calm o rs ws n ∧
  ∀ p H' ys, Same H H' → FzT H' p ys → ys.length = ws.length → Q (.ref p) H'
theorem ok_cover_for (T : Txt K mg) : Calls P w K mg base 7 "cover_for" ["order", "rules", "words", "level"] spCover := by
  have C_new_order := ok_new_order (P := P) (w := w) (base := base) T
  have C_sorted_indexes := ok_sorted_indexes (P := P) (w := w) (base := base) T
  have C_heights_of := ok_heights_of (P := P) (w := w) (base := base) T
  refine mk_cover_for T (fun vs H Q E h => ?_) (fun cdv A outer s H vs Q E hr h => ?_)
  · obtain ⟨v, o, u, rs, x, ws, n, rfl, _⟩ := h
    rfl
  · obtain ⟨v, o, u, rs, x, ws, n, rfl, ho, hrs, c, hws, wk, hn1, hn, calm, q⟩ := h
    have few := wk.few
    refine ⟨_, (pss_cons (ps_set (i := 4) sc_cover_for.nd rfl (by first | exact Or.inl rfl | exact Or.inr rfl) (pe_callC C_new_order (hr.mono (by decide)) (by rfl) (pa_cons (pv 0) (pa_cons (pv 1) (pa_cons (pv 2) (pa_cons (pv 3) pa_nil))))))
  (pss_cons (ps_set (i := 5) sc_cover_for.nd rfl (by first | exact Or.inl rfl | exact Or.inr rfl) (pe_callC C_sorted_indexes (hr.mono (by decide)) (by rfl) (pa_cons (pv 0) (pa_cons (pv 2) (pa_cons (pv 3) pa_nil)))))
  (pss_cons (ps_set (i := 6) sc_cover_for.nd rfl (by first | exact Or.inl rfl | exact Or.inr rfl) (pe_callC C_heights_of (hr.mono (by decide)) (by rfl) (pa_cons (pv 4) (pa_cons (pv 2) (pa_cons (pv 3) (pa_cons (pv 5) pa_nil))))))
  (pss_cons (ps_set (i := 7) sc_cover_for.nd rfl (by first | exact Or.inl rfl | exact Or.inr rfl) (pe_lstS pa_nil))
  (pss_cons (ps_for PassesOwn.never rfl (pi_range2 (by rfl) T.f_range (pa_cons pe_int (pa_cons (pe_op op_add (pe_callB (cr_maxK (K := K) rfl rfl) (by rfl) T.f_max boot_max' (pa_cons (pe_op op_catLS (pe_lstS (pa_cons pe_int pa_nil)) (pv 6)) pa_nil)) pe_int) pa_nil))) (pg_name (i := 8) sc_cover_for.nd rfl (by first | exact Or.inl rfl | exact Or.inr rfl))
  (pss_one (ps_expr (pe_bmK (K := K) rfl PySem.F.plainAttrs_list PySem.F.slot_list_append PySem.F.type_list_append mt_append (pv 7) (pa_cons (pe_callTy (call_tuple_ofS (K := K) rfl) (by rfl) T.f_tuple boot_tuple' (pa_cons (pe_lc (own := [("index", 9), ("own", 10)]) (by rfl) sc_cover_for.nd (pi_zipK (K := K) rfl (by rfl) T.f_zip (pa_cons (pv 5) (pa_cons (pv 6) pa_nil))) (blkOk_by (own := [("index", 9), ("own", 10)]) (N := N_cover_for) (sc := (defScope s_cover_for)) (by decide +kernel)) (fun _ _ _ _ _ => (pg_tupK (K := K) (n := 2) rfl rfl (pgs_cons (pg_name (i := 9) sc_cover_for.nd rfl (by first | exact Or.inl rfl | exact Or.inr rfl)) (pgs_cons (pg_name (i := 10) sc_cover_for.nd rfl (by first | exact Or.inl rfl | exact Or.inr rfl)) pgs_nil)))) (fun _ _ _ _ _ => (pts_one (pt_cmpR op_eqIS (pv 10) (pv 8) (nomark _)))) (fun _ _ _ _ _ => (pv 9))) pa_nil)) pa_nil)))))
  (pss_one (ps_ret (pe_callTy (call_tuple_ofS (K := K) rfl) (by rfl) T.f_tuple boot_tuple' (pa_cons (pv 7) pa_nil))))))))), ?_⟩
    refine ⟨_, rfl, _, rfl, _, rfl, _, rfl, v, o, u, rs, x, ws, n, rfl, ho, hrs, c, hws, wk, hn1, hn, fun v1 H1 s1 ho1 => ?_⟩
    have hrow := (sorted_rowed o ws n).calm calm
    have hrl : (sortedM o ws n).length = ws.length := rowM_len _ _
    refine ⟨_, rfl, _, rfl, _, rfl, v, o, x, ws, n, rfl, ho.mono s1, c.ok, hws.mono s1, wk, hn, fun r H2 s2 _ e2 => ?_⟩
    generalize sortedM o ws n = row at e2 hrow hrl
    have s12 := s1.trans s2
    refine ⟨_, rfl, _, rfl, _, rfl, _, rfl, v1, ledM o rs, x, ws, n, r, row, rfl, ho1.mono s2, c.behind, hws.mono s12, c.words wk, hn, e2, by omega, hrow, fun g H3 s3 _ e3 => ?_⟩
    have e23 := s3 _ _ e2
    have s13 := s12.trans s3
    refine ⟨Nat.zero_le _, fun l H4 s4 nl e4 => ?_⟩
    refine ⟨by show 1 ≤ sizeLine; decide, fun p1 H6 s6 n6 e6 => ?_⟩
    have hzl : (1 : Nat) + ((upTo row.length).map V.int).length ≤ sizeLine := by
      rw [List.length_map, upTo_len]
      exact le12 (by omega)
    have s46 := s4.trans s6
    refine ⟨_, rfl, p1, g, [.int 0], _, rfl, rfl, e6, s46 _ _ e3, hzl, fun p2 H7 s7 n7 e7 => ?_⟩
    refine ⟨p2, [0] ++ upTo row.length, rfl, .of (by rw [List.map_append]; exact e7), by rw [List.length_append]; show 0 < 1 + _; omega, fun m hm1 hm2 => ?_⟩
    obtain rfl := upTo_max hm1 hm2
    have s47 := s46.trans s7
    have e4' := s7 _ _ (s6 _ _ e4)
    refine ⟨_, _, rfl, rfl, _, _, rfl, ⟨by omega, by omega, by omega, by omega⟩,
      for_it walk_range (fun i σ H' => ∃ x8 x9 x10 vs, σ = [some v, some u, some x, some (.int (n : Int)), some v1, some (.ref r), some (.ref g), some (.ref l), x8, x9, x10] ∧ Same H3 H' ∧ H' l = some (.lst vs) ∧ vs.length = i)
      ⟨none, none, none, [], rfl, s47, e4', rfl⟩ (fun _ _ _ _ _ => trivial) (fun i z H8 H9 Ha hi p yy => ?_) (fun σ H' p => ?_)⟩
    · obtain ⟨x8, x9, x10, vs, rfl, s8, e8, hvl⟩ := p
      obtain ⟨rfl, rfl⟩ := yy
      have erow := s8 _ _ e23
      have ehei := s8 _ _ e3
      refine ⟨_, rfl, .inl ⟨rfl, _, .of e8⟩, _, rfl, _, rfl, r, g, idxs row, (upTo row.length).map V.int, rfl, .of erow, .of ehei, fun D nD => lcM (walk_zip (n := row.length) (by rw [idxs_len, List.length_map, upTo_len]; omega)) nD (fun k => if ((k : Nat) : Int) + 1 = 1 + (i : Nat) then (idxs row)[k]? else none) (le12 (by omega)) (fun H' s => ⟨.of (s _ _ erow), .of (s _ _ ehei)⟩) (fun k z Hb Hc R hk s9 yy kk => ?_) fun Hb sb eb => ?_⟩
      · obtain ⟨tt, y1, y2, rfl, nT, rfl, f1, f2⟩ := yy
        obtain ⟨b, hb, rfl⟩ := idxs_take f1
        have f2' : ((upTo row.length).map V.int)[k]? = some y2 := f2
        rw [int_get (upTo_at hk)] at f2'
        obtain rfl := Option.some.inj f2'
        have sT : Same Hb (upd Hb tt (.tup [.int ((b : Nat) : Int), .int (((k : Nat) : Int) + 1)])) := same_upd nT
        refine ⟨tt, _, rfl, .inl (.inl upd_same), rfl, _, _, rfl, _, _, rfl, rfl, rfl, ?_⟩
        have hk' := kk _ sT
        refine ⟨_, rfl, _, rfl, _, _, rfl, rfl, _, rfl, ?_⟩
        by_cases he : ((k : Nat) : Int) + 1 = 1 + (i : Nat)
        · refine iteDT he ⟨_, rfl, ?_⟩
          rw [if_pos he, idxs_at hb] at hk'
          exact hk'
        · refine iteDF he ?_
          rw [if_neg he] at hk'
          exact hk'
      · refine ⟨D, _, rfl, .of eb, fun t2 Hd sd hd => ?_⟩
        have e8d := sd _ _ (sb _ _ e8)
        exact ⟨l, vs, _, rfl, rfl, e8d, small1000 (by omega), _, _, _, _, rfl, same_of (s8.trans (sb.trans sd)) (Same.free (Same.refl _) nl), upd_same, by rw [List.length_append, hvl]; rfl⟩
    · obtain ⟨x8, x9, x10, vs, rfl, s8, e8, hvl⟩ := p
      exact ⟨_, rfl, l, _, rfl, .of e8, fun p H' s h => q p H' _ (s13.trans (s8.trans s)) h (by omega)⟩
end
end Pf
namespace Pf
open PySem PySem.Spec PyProof.Rows L2
section
variable {P : Program} {w : World} {K : PySem.W.Frag} {mg : Str → Option Value} {base : Heap}
/-! ### tuples are kept -/
def Kp (H H' : Hp) : Prop := ∀ p xs, FzT H p xs → FzT H' p xs
theorem Kp.of {H H' : Hp} (s : Same H H') : Kp H H' := fun _ _ h => h.same s
theorem Kp.upd {H : Hp} {l : Addr} {acc : List V} {o : HO} (hl : H l = some (.lst acc)) : Kp H (upd H l o) := fun _ _ h => fz_updL h hl
theorem Kp.trans {H H' H'' : Hp} (a : Kp H H') (b : Kp H' H'') : Kp H H'' := fun p xs h => b p xs (a p xs h)
theorem IsOrd.kp {H H' : Hp} {v : V} {o : Ord} (k : Kp H H') : IsOrd H v o → IsOrd H' v o := fun ⟨a, b, c, e, h1, h2, h3⟩ => ⟨a, b, c, e, k _ _ h1, k _ _ h2, k _ _ h3⟩
theorem IsWrd.kp {H H' : Hp} {v : V} {o : List Str} (k : Kp H H') : IsWrd H v o → IsWrd H' v o := fun ⟨a, e, h1⟩ => ⟨a, e, k _ _ h1⟩
theorem IsRule.kp {H H' : Hp} {v : V} {o : Rule} (k : Kp H H') : IsRule H v o → IsRule H' v o := fun ⟨a, e, h1⟩ => ⟨a, e, k _ _ h1⟩
theorem IsRules.kp {H H' : Hp} {v : V} {o : List Rule} (k : Kp H H') : IsRules H v o → IsRules H' v o := fun ⟨a, vs, e, h1, h2⟩ => ⟨a, vs, e, k _ _ h1, h2.mono fun _ _ => IsRule.kp k⟩
theorem IsWrds.kp {H H' : Hp} {v : V} {o : List (List Str)} (k : Kp H H') : IsWrds H v o → IsWrds H' v o := fun ⟨a, vs, e, h1, h2⟩ => ⟨a, vs, e, k _ _ h1, h2.mono fun _ _ => IsWrd.kp k⟩
/-! ### the stream -/
structure Sm where
  a : Addr
  l : Addr
  xs : List Int
def Str_ (t : Sm) (H : Hp) : Prop := (∃ (c : Int) (k : Nat), 0 ≤ c ∧ H t.a = some (.lst [.ref t.l, .int c, .int ((k : Nat) : Int)])) ∧ H t.l = some (.lst (t.xs.map V.int))
theorem Str_.ne {t : Sm} {H : Hp} (h : Str_ t H) : t.l ≠ t.a := by
  intro e
  obtain ⟨⟨c, k, _, h1⟩, h2⟩ := h
  rw [e, h1] at h2
  have h3 : [V.ref t.l, .int c, .int ((k : Nat) : Int)] = t.xs.map V.int := (HO.lst.inj (Option.some.inj h2)).symm ▸ rfl
  cases hx : t.xs with
  | nil => rw [hx] at h3; cases h3
  | cons x r => rw [hx] at h3; cases h3
theorem Str_.same {t : Sm} {H H' : Hp} (h : Str_ t H) (s : Same H H') : Str_ t H' := let ⟨⟨c, k, h0, h1⟩, h2⟩ := h; ⟨⟨c, k, h0, s _ _ h1⟩, s _ _ h2⟩
structure Go (t : Sm) (H H' : Hp) : Prop where
  before : Str_ t H
  rest : ∀ b o, b ≠ t.a → H b = some o → H' b = some o
  after : Str_ t H'
theorem Go.of {t : Sm} {H H' : Hp} (h : Str_ t H) (s : Same H H') : Go t H H' := ⟨h, fun b o _ e => s b o e, h.same s⟩
theorem Go.trans {t : Sm} {H H' H'' : Hp} (a : Go t H H') (b : Go t H' H'') : Go t H H'' := ⟨a.before, fun x o ne e => b.rest x o ne (a.rest x o ne e), b.after⟩
theorem Go.sm {t : Sm} {H H' H'' : Hp} (a : Go t H H') (s : Same H' H'') : Go t H H'' := a.trans (.of a.after s)
theorem Go.kp {t : Sm} {H H' : Hp} (g : Go t H H') : Kp H H' := fun p xs h => by
  obtain ⟨ob, e, c⟩ := h
  obtain ⟨⟨_, _, _, h1⟩, _⟩ := g.before
  exact ⟨ob, g.rest p _ (ne_of e h1 (by intro z; cases z)) e, c⟩
theorem Go.free {t : Sm} {H H' : Hp} (g : Go t H H') {p : Addr} (h : H' p = none) : H p = none := by
  cases e : H p with
  | none => rfl
  | some o =>
    exfalso
    by_cases hp : p = t.a
    · subst hp
      obtain ⟨⟨_, _, _, h1⟩, _⟩ := g.after
      rw [h] at h1
      cases h1
    · rw [g.rest p o hp e] at h
      cases h
theorem Str_.na {t : Sm} {H : Hp} (h : Str_ t H) {p : Addr} (hp : H p = none) : p ≠ t.a := by
  rintro rfl
  obtain ⟨⟨_, _, _, h1⟩, _⟩ := h
  rw [hp] at h1
  cases h1
theorem Str_.nl {t : Sm} {H : Hp} (h : Str_ t H) {p : Addr} (hp : H p = none) : p ≠ t.l := by
  rintro rfl
  obtain ⟨_, h1⟩ := h
  rw [hp] at h1
  cases h1
/-- a new place is written -/
theorem Go.put {t : Sm} {H H' : Hp} (g : Go t H H') {p : Addr} {o : HO} (hp : H p = none) : Go t H (upd H' p o) := by
  have na := g.before.na hp
  have nl := g.before.nl hp
  obtain ⟨⟨c, k, h0, h1⟩, h2⟩ := g.after
  exact ⟨g.before, fun b x nb e => by rw [upd_ne (ne_of_none e hp)]; exact g.rest b x nb e, ⟨c, k, h0, by rw [upd_ne (Ne.symm na)]; exact h1⟩, by rw [upd_ne (Ne.symm nl)]; exact h2⟩
/-- the stream is written -/
theorem Str_.set {t : Sm} {H : Hp} (h : Str_ t H) {c : Int} {k : Nat} (hc : 0 ≤ c) : Go t H (upd H t.a (.lst [.ref t.l, .int c, .int ((k : Nat) : Int)])) :=
  ⟨h, fun b x nb e => by rw [upd_ne nb]; exact e, ⟨c, k, hc, upd_same⟩, by rw [upd_ne h.ne]; exact h.2⟩
def spStream : Sp := fun vs H Q _ => ∃ (s : Addr) (xs : List Int), vs = [.ref s] ∧ SqL K H s (xs.map V.int) ∧ ∀ t H', Same H H' → Str_ t H' → Q (.ref t.a) H'
theorem ok_law_stream (T : Txt K mg) : Calls P w K mg base 1 "_law_stream" ["_law_script"] (spStream (K := K)) := by
  refine mk_law_stream T (fun vs H Q E h => ?_) (fun cdv A outer s H vs Q E hr h => ?_)
  · obtain ⟨v, xs, rfl, _⟩ := h
    rfl
  · obtain ⟨v, xs, rfl, hx, q⟩ := h
    refine ⟨_, (pss_one (ps_ret (pe_lstS (pa_cons (pe_callTy (call_list_ofS (K := K) rfl) (by rfl) T.f_list boot_list' (pa_cons (pv 0) pa_nil)) (pa_cons pe_int (pa_cons pe_int pa_nil)))))), ?_⟩
    refine ⟨_, rfl, v, _, rfl, .inl hx, fun l H1 s1 nl e1 => ?_⟩
    exact ⟨le12 (by show 3 ≤ 1000; decide), fun p H2 s2 np e2 => q ⟨p, l, xs⟩ H2 (s1.trans s2) ⟨⟨0, 0, Int.le_refl 0, e2⟩, s2 _ _ e1⟩⟩
def spNext : Sp := fun vs H Q _ => ∃ t m, vs = [.ref t.a, .int ((m : Nat) : Int)] ∧ Str_ t H ∧ 0 < m ∧ m < 1000 ∧ ∀ r H', Go t H H' → r < m → Q (.int ((r : Nat) : Int)) H'
theorem ok_law_next (T : Txt K mg) : Calls P w K mg base 1 "_law_next" ["_law_stream_here", "_law_many"] spNext := by
  refine mk_law_next T (fun vs H Q E h => ?_) (fun cdv A outer s H vs Q E hr h => ?_)
  · obtain ⟨t, m, rfl, _⟩ := h
    rfl
  · obtain ⟨t, m, rfl, st, hm1, hm2, q⟩ := h
    refine ⟨_, (pss_cons (ps_if (pt_cmpR op_eqIS (pe_ix (ix_listS (K := K) rfl) (pv 0) pe_int (fun _ _ => rfl)) pe_int (nomark _)) (pss_cons (ps_set (i := 2) sc_law_next.nd rfl (by first | exact Or.inl rfl | exact Or.inr rfl) (pe_ix (ix_listS (K := K) rfl) (pv 0) pe_int (fun _ _ => rfl)))
  (pss_cons (ps_set (i := 3) sc_law_next.nd rfl (by first | exact Or.inl rfl | exact Or.inr rfl) (pe_op op_add pe_int (pv 2)))
  (pss_cons (ps_if (pt_cmpR op_lt (pv 2) (pe_callB (call_lenS (K := K) rfl) (by rfl) T.f_len boot_len' (pa_cons (pe_ix (ix_listS (K := K) rfl) (pv 0) pe_int (fun _ _ => rfl)) pa_nil)) (nomark _)) (pss_one (ps_set (i := 3) sc_law_next.nd rfl (by first | exact Or.inl rfl | exact Or.inr rfl) (pe_callB call_abs (by rfl) T.f_abs boot_abs' (pa_cons (pe_ix (ix_listS (K := K) rfl) (pe_ix (ix_listS (K := K) rfl) (pv 0) pe_int (fun _ _ => rfl)) (pv 2) (fun _ _ => rfl)) pa_nil)))) pss_nil)
  (pss_cons (ps_if (pt_cmpR op_lt (pv 3) (pe_op op_pow pe_int pe_int) (nomark _)) (pss_cons (ps_set (i := 3) sc_law_next.nd rfl (by first | exact Or.inl rfl | exact Or.inr rfl) (pe_op op_mod (pe_callTy call_int1 (by rfl) T.f_int boot_int' (pa_cons (pe_op op_add (pe_op op_add (pe_op op_mul (pv 3) pe_int) (pe_op op_mul (pv 2) pe_int)) pe_int) pa_nil)) pe_int))
  (pss_one (ps_set (i := 3) sc_law_next.nd rfl (by first | exact Or.inl rfl | exact Or.inr rfl) (pe_op op_add (pe_op op_mul (pe_op op_mod (pe_callTy call_int1 (by rfl) T.f_int boot_int' (pa_cons (pe_op op_add (pe_op op_mul (pv 3) pe_int) pe_int) pa_nil)) pe_int) pe_int) (pv 3))))) pss_nil)
  (pss_cons (ps_asg (pv 3) (pg_sub (pv 0) pe_int set_list))
  (pss_one (ps_asg (pe_op op_add (pv 2) pe_int) (pg_sub (pv 0) pe_int set_list)))))))) pss_nil)
  (pss_cons (ps_set (i := 4) sc_law_next.nd rfl (by first | exact Or.inl rfl | exact Or.inr rfl) (pe_op op_mod (pe_callTy call_int1 (by rfl) T.f_int boot_int' (pa_cons (pe_ix (ix_listS (K := K) rfl) (pv 0) pe_int (fun _ _ => rfl)) pa_nil)) (pv 1)))
  (pss_cons (ps_asg (pe_op op_fdiv (pe_ix (ix_listS (K := K) rfl) (pv 0) pe_int (fun _ _ => rfl)) (pv 1)) (pg_sub (pv 0) pe_int set_list))
  (pss_one (ps_ret (pv 4)))))), ?_⟩
    obtain ⟨⟨c, k, hc, ha⟩, hl⟩ := id st
    -- what stands behind the first if
    have fin : ∀ (D : Ends) (H1 : Hp) (c1 : Int) (k1 : Nat) (x2 x3 : Option V), Go t H H1 → 0 ≤ c1 → H1 t.a = some (.lst [.ref t.l, .int c1, .int ((k1 : Nat) : Int)]) → (∀ v H', (∃ r : Nat, v = .int (r : Nat) ∧ Go t H H' ∧ r < m) → D.rt v H') →
        tSeq (tAsg (tOp (rI (fun x j => 0 < j) fun i j => V.int (i % j)) (tCB (fun xs H Q => (∃ i, xs = [V.int i] ∧ Q (V.int i) H) ∨ ∃ k, xs = [V.bl k] ∧ Q (V.int (if k = true then 1 else 0)) H) (tCons (tOp (rIxLS K) (tVar 0) (tC (V.int 1))) tNil)) (tVar 1)) (gName 4))
          (tSeq (tAsg (tOp (rI CDiv fun i j => V.int (i / j)) (tOp (rIxLS K) (tVar 0) (tC (V.int 1))) (tVar 1)) (gSub (tVar 0) (tC (V.int 1)) rSetL)) (tRet (tVar 4))) D [some (.ref t.a), some (.int (m : Nat)), x2, x3, none] H1 := by
      intro D H1 c1 k1 x2 x3 g1 hc1 h1 hD
      have hm0 : (0 : Int) < ((m : Nat) : Int) := by omega
      refine ⟨_, rfl, _, _, _, 1, _, rfl, rfl, .of h1, rfl, rfl, .inl ⟨_, rfl, _, rfl, _, _, rfl, rfl, hm0, ?_⟩⟩
      refine ⟨_, rfl, _, _, _, 1, _, rfl, rfl, .of h1, rfl, rfl, _, rfl, _, _, rfl, rfl, ⟨hm0, by omega⟩, ?_⟩
      refine ⟨_, rfl, t.a, _, 1, 1, rfl, rfl, h1, rfl, ?_⟩
      have b1 := Int.emod_nonneg c1 (show ((m : Nat) : Int) ≠ 0 by omega)
      have b2 := Int.emod_lt_of_pos c1 hm0
      have hcd : 0 ≤ c1 / ((m : Nat) : Int) := Int.ediv_nonneg hc1 (by omega)
      refine ⟨_, rfl, hD _ _ ⟨(c1 % (m : Nat)).toNat, by rw [Int.toNat_of_nonneg b1], g1.trans (g1.after.set hcd), by omega⟩⟩
    refine ⟨_, rfl, _, _, _, 1, _, rfl, rfl, .of ha, rfl, rfl, _, _, rfl, rfl, _, rfl, ?_⟩
    have done : ∀ v H', (∃ r : Nat, v = .int (r : Nat) ∧ Go t H H' ∧ r < m) → Q v H' := fun v H' ⟨r, e, g, hr⟩ => by
      rw [e]
      exact q r H' g hr
    by_cases h0 : c = 0
    · refine iteDT h0 ?_
      refine ⟨_, rfl, _, _, _, 2, _, rfl, rfl, .of ha, rfl, rfl, _, rfl, _, _, rfl, rfl, ?_⟩
      -- what is stored
      have sto : ∀ (D : Ends) (cell : Int), 0 ≤ cell → (∀ H1 x2 x3, Go t H H1 → H1 t.a = some (.lst [.ref t.l, .int cell, .int ((k + 1 : Nat) : Int)]) → D.nx [some (.ref t.a), some (.int (m : Nat)), x2, x3, none] H1) →
          tSeq (tAsg (tVar 3) (gSub (tVar 0) (tC (V.int 1)) rSetL)) (tAsg (tOp (rI0 fun i j => V.int (i + j)) (tVar 2) (tC (V.int 1))) (gSub (tVar 0) (tC (V.int 2)) rSetL)) D [some (.ref t.a), some (.int (m : Nat)), some (.int ((k : Nat) : Int)), some (.int cell), none] H := by
        intro D cell hcell hD
        refine ⟨_, rfl, _, rfl, t.a, _, 1, 1, rfl, rfl, ha, rfl, ?_⟩
        refine ⟨_, rfl, _, _, rfl, rfl, _, rfl, t.a, _, 2, 2, rfl, rfl, upd_same, rfl, ?_⟩
        have g1 : Go t H (upd H t.a (.lst [.ref t.l, .int cell, .int ((k : Nat) : Int)])) := st.set hcell
        have g2 := g1.trans (g1.after.set (c := cell) (k := k + 1) hcell)
        exact hD _ _ _ g2 upd_same
      -- the mixing
      have mix : ∀ (D : Ends) (cell : Int), 0 ≤ cell → (∀ (cell : Int), 0 ≤ cell → D.nx [some (.ref t.a), some (.int (m : Nat)), some (.int ((k : Nat) : Int)), some (.int cell), none] H) →
          tIfS (tTest (tOp (rI0 fun i j => V.bl (decide (i < j))) (tVar 3) (tOp (rI CPow fun i j => V.int (i ^ j.toNat)) (tC (V.int 10)) (tC (V.int 18)))))
            (tSeq (tAsg (tOp (rI (fun x j => 0 < j) fun i j => V.int (i % j)) (tCB (fun xs H Q => (∃ i, xs = [V.int i] ∧ Q (V.int i) H) ∨ ∃ k, xs = [V.bl k] ∧ Q (V.int (if k = true then 1 else 0)) H) (tCons (tOp (rI0 fun i j => V.int (i + j)) (tOp (rI0 fun i j => V.int (i + j)) (tOp (rI CMul fun i j => V.int (i * j)) (tVar 3) (tC (V.int 48271))) (tOp (rI CMul fun i j => V.int (i * j)) (tVar 2) (tC (V.int 69621)))) (tC (V.int 11))) tNil)) (tC (V.int 2147483647))) (gName 3))
              (tAsg (tOp (rI0 fun i j => V.int (i + j)) (tOp (rI CMul fun i j => V.int (i * j)) (tOp (rI (fun x j => 0 < j) fun i j => V.int (i % j)) (tCB (fun xs H Q => (∃ i, xs = [V.int i] ∧ Q (V.int i) H) ∨ ∃ k, xs = [V.bl k] ∧ Q (V.int (if k = true then 1 else 0)) H) (tCons (tOp (rI0 fun i j => V.int (i + j)) (tOp (rI CMul fun i j => V.int (i * j)) (tVar 3) (tC (V.int 16807))) (tC (V.int 13))) tNil)) (tC (V.int 2147483647))) (tC (V.int 65537))) (tVar 3)) (gName 3))) tNext D [some (.ref t.a), some (.int (m : Nat)), some (.int ((k : Nat) : Int)), some (.int cell), none] H := by
        intro D cell hcell hD
        have cm : ∀ i j : Int, -(2 ^ 64) < j ∧ j < 2 ^ 64 → CMul i j := fun i j h => .inr h
        refine ⟨_, rfl, _, _, rfl, rfl, ⟨by decide, by decide, by decide⟩, _, _, rfl, rfl, _, rfl, ?_⟩
        by_cases hb : cell < 10 ^ 18
        · refine iteDT hb ?_
          have b1 : ∀ x : Int, 0 ≤ x % 2147483647 := fun x => Int.emod_nonneg x (by decide)
          have pos : (0 : Int) < 2147483647 := by decide
          have c1 : (-(2 ^ 64) : Int) < 16807 ∧ (16807 : Int) < 2 ^ 64 := by decide
          have c2 : (-(2 ^ 64) : Int) < 65537 ∧ (65537 : Int) < 2 ^ 64 := by decide
          refine ⟨_, rfl, _, _, rfl, rfl, cm _ _ (by decide), _, rfl, _, _, rfl, rfl, cm _ _ (by decide), _, _, rfl, rfl, _, _, rfl, rfl, .inl ⟨_, rfl, _, _, rfl, rfl, pos, ?_⟩⟩
          refine ⟨_, rfl, _, _, rfl, rfl, cm _ _ c1, _, _, rfl, rfl, .inl ⟨_, rfl, _, _, rfl, rfl, pos, _, _, rfl, rfl, cm _ _ c2, _, rfl, _, _, rfl, rfl, ?_⟩⟩
          exact (hD _ (Int.add_nonneg (Int.mul_nonneg (b1 _) (by decide)) (b1 _)))
        · exact iteDF hb (hD cell hcell)
      refine ⟨_, rfl, _, rfl, _, _, _, 0, _, rfl, rfl, .of ha, rfl, rfl, _, t.xs.length, rfl, .inr (.inl ⟨_, _, rfl, .of hl, (List.length_map _).symm⟩), _, _, rfl, rfl, _, rfl, ?_⟩
      by_cases hk : ((k : Nat) : Int) < ((t.xs.length : Nat) : Int)
      · refine iteDT hk ?_
        have hx : t.xs[k]? = some (t.xs[k]'(by omega)) := List.getElem?_eq_getElem (by omega)
        generalize t.xs[k]'(by omega) = x at hx
        refine ⟨_, rfl, _, _, _, 0, _, rfl, rfl, .of ha, rfl, rfl, _, rfl, _, _, _, k, _, rfl, rfl, .of hl, rfl, int_get hx, _, rfl, ?_⟩
        refine mix _ (if x < 0 then -x else x) (by split <;> omega) fun cell hcell => ?_
        exact sto _ cell hcell fun H1 x2 x3 g1 h1 => fin _ H1 cell (k + 1) x2 x3 g1 hcell h1 done
      · refine iteDF hk ?_
        refine mix _ (7 + ((k : Nat) : Int)) (by omega) fun cell hcell => ?_
        exact sto _ cell hcell fun H1 x2 x3 g1 h1 => fin _ H1 cell (k + 1) x2 x3 g1 hcell h1 done
    · exact iteDF h0 (fin _ H c k none none (.of st (Same.refl _)) hc ha done)
end
end Pf
namespace Pf
open PySem PySem.Spec PyProof.Rows L2
section
variable {P : Program} {w : World} {K : PySem.W.Frag} {mg : Str → Option Value} {base : Heap}
/-! ### _law_shuffled -/
theorem erase_map {α β : Type} (f : α → β) : ∀ (l : List α) (k : Nat), (l.map f).eraseIdx k = (l.eraseIdx k).map f
  | [], _ => rfl
  | _ :: _, 0 => rfl
  | x :: l, k + 1 => by
    rw [List.map_cons, List.eraseIdx_cons_succ, List.eraseIdx_cons_succ, List.map_cons, erase_map f l k]
theorem erase_perm {α : Type} : ∀ {l : List α} {k : Nat} {y : α}, l[k]? = some y → (y :: l.eraseIdx k).Perm l
  | [], _, _, h => by simp at h
  | x :: l, 0, y, h => by
    have : x = y := Option.some.inj h
    rw [this]
    exact List.Perm.refl _
  | x :: l, k + 1, y, h => by
    rw [List.eraseIdx_cons_succ]
    exact (List.Perm.swap x y _).trans (List.Perm.cons x (erase_perm (by simpa using h)))
theorem erase_len {α : Type} {l : List α} {k : Nat} {y : α} (h : l[k]? = some y) : (l.eraseIdx k).length + 1 = l.length := (erase_perm h).length_eq
theorem seq_nat {n i : Nat} (h : i < n) : seqIndex? ((i : Nat) : Int) n = some i := by
  unfold seqIndex?
  have h1 : ¬ ((i : Nat) : Int) < 0 := by omega
  simp only [h1, if_false]
  have h2 : (decide ((0 : Int) ≤ ((i : Nat) : Int)) && decide (((i : Nat) : Int) < ((n : Nat) : Int))) = true := by
    rw [Bool.and_eq_true]
    exact ⟨decide_eq_true (by omega), decide_eq_true (by omega)⟩
  rw [if_pos h2]
  rfl
def spShuffled : Sp := fun vs H Q _ => ∃ (t : Sm) (li : Addr) (L : List Str), vs = [.ref t.a, .ref li] ∧ Str_ t H ∧ H li = some (.lst (L.map V.str)) ∧ L.length ≤ 12 ∧ ∀ p H' (M : List Str), Go t H H' → H p = none → H' p = some (.lst (M.map V.str)) → M.Perm L → Q (.ref p) H'
theorem ok_law_shuffled (T : Txt K mg) : Calls P w K mg base 2 "_law_shuffled" ["_law_stream_here", "_law_items"] spShuffled := by
  have C_law_next := ok_law_next (P := P) (w := w) (base := base) T
  refine mk_law_shuffled T (fun vs H Q E h => ?_) (fun cdv A outer s H vs Q E hr h => ?_)
  · obtain ⟨t, li, L, rfl, _⟩ := h
    rfl
  · obtain ⟨t, li, L, rfl, st, eli, hL, q⟩ := h
    refine ⟨_, (pss_cons (ps_set (i := 2) sc_law_shuffled.nd rfl (by first | exact Or.inl rfl | exact Or.inr rfl) (pe_callTy (call_list_ofS (K := K) rfl) (by rfl) T.f_list boot_list' (pa_cons (pv 1) pa_nil)))
  (pss_cons (ps_set (i := 3) sc_law_shuffled.nd rfl (by first | exact Or.inl rfl | exact Or.inr rfl) (pe_lstS pa_nil))
  (pss_cons (ps_for PassesOwn.never rfl (pi_range1 (by rfl) T.f_range (pa_cons (pe_callB (call_lenS (K := K) rfl) (by rfl) T.f_len boot_len' (pa_cons (pv 1) pa_nil)) pa_nil)) (pg_name (i := 4) sc_law_shuffled.nd rfl (by first | exact Or.inl rfl | exact Or.inr rfl))
  (pss_one (ps_expr (pe_bmK (K := K) rfl PySem.F.plainAttrs_list PySem.F.slot_list_append PySem.F.type_list_append mt_append (pv 3) (pa_cons (pe_bmK (K := K) rfl PySem.F.plainAttrs_list PySem.F.slot_list_pop PySem.F.type_list_pop mt_popAt (pv 2) (pa_cons (pe_callC C_law_next (hr.mono (by decide)) (by rfl) (pa_cons (pv 0) (pa_cons (pe_callB (call_lenS (K := K) rfl) (by rfl) T.f_len boot_len' (pa_cons (pv 2) pa_nil)) pa_nil))) pa_nil)) pa_nil)))))
  (pss_one (ps_ret (pv 3)))))), ?_⟩
    refine ⟨_, rfl, li, _, rfl, .inl (.of eli), fun l1 H1 s1 n1 e1 => ?_⟩
    refine ⟨Nat.zero_le _, fun l2 H2 s2 n2 e2 => ?_⟩
    have n20 : H l2 = none := Same.free s1 n2
    have h12 : l1 ≠ l2 := ne_of_none e1 n2
    have s12 := s1.trans s2
    have na1 := st.na n1
    have na2 := st.na n20
    refine ⟨_, rfl, _, L.length, rfl, .inr (.inl ⟨_, _, rfl, .of (s12 _ _ eli), (List.length_map _).symm⟩), _, rfl, by omega, by omega,
      for_it walk_range (fun i σ H' => ∃ x4 A B, σ = [some (.ref t.a), some (.ref li), some (.ref l1), some (.ref l2), x4] ∧ Go t H H' ∧ H' l1 = some (.lst ((A : List Str).map V.str)) ∧ H' l2 = some (.lst ((B : List Str).map V.str)) ∧ A.length + i = L.length ∧ (A ++ B).Perm L)
      ⟨none, L, [], rfl, .of st s12, s2 _ _ e1, e2, by omega, by rw [List.append_nil]⟩ (fun _ _ _ _ _ => trivial) (fun i z H3 H4 H5 hi p yy => ?_) (fun σ H' p => ?_)⟩
    · obtain ⟨x4, A1, B1, rfl, g, eA, eB, hlen, pm⟩ := p
      obtain ⟨rfl, rfl⟩ := yy
      have hi' : i < L.length := by omega
      refine ⟨_, rfl, .inl ⟨rfl, _, .of eB⟩, _, rfl, .inl ⟨rfl, _, .of eA⟩, _, rfl, _, rfl, _, A1.length, rfl, .inr (.inl ⟨_, _, rfl, .of eA, (List.length_map _).symm⟩), t, A1.length, rfl, g.after, by omega, by omega, fun r H6 g6 hr => ?_⟩
      have eA6 := g6.rest _ _ na1 eA
      have eB6 := g6.rest _ _ na2 eB
      have hy : A1[r]? = some (A1[r]'hr) := List.getElem?_eq_getElem hr
      generalize A1[r]'hr = y at hy
      have hB : B1.length ≤ 12 := by
        have := pm.length_eq
        rw [List.length_append] at this
        omega
      refine ⟨l1, _, (r : Int), r, _, rfl, rfl, eA6, by omega, by omega, by rw [List.length_map]; exact seq_nat hr, str_get hy, ?_⟩
      refine ⟨l2, _, _, rfl, rfl, by rw [upd_ne (Ne.symm h12)]; exact eB6, small1000 (by rw [List.length_map]; omega), ?_⟩
      have g16 := ((g.trans g6).put (o := .lst ((A1.map V.str).eraseIdx r)) n1).put (o := .lst (B1.map V.str ++ [.str y])) n20
      refine ⟨_, A1.eraseIdx r, B1 ++ [y], rfl, g16, ?_, ?_, ?_, ?_⟩
      · rw [upd_ne h12, upd_same, erase_map]
      · rw [upd_same, List.map_append]
        rfl
      · have := erase_len hy
        omega
      · refine List.Perm.trans ?_ pm
        have h3 : (A1.eraseIdx r ++ (B1 ++ [y])).Perm (y :: (A1.eraseIdx r ++ B1)) := by
          rw [← List.append_assoc]
          exact List.perm_append_comm
        exact h3.trans ((erase_perm hy).append_right B1)
    · obtain ⟨x4, A1, B1, rfl, g, eA, eB, hlen, pm⟩ := p
      have hA : A1 = [] := List.length_eq_zero_iff.mp (by omega)
      subst hA
      exact ⟨_, rfl, q l2 H' B1 g n20 eB pm⟩
/-! ### _law_order -/
/-- a comprehension that draws: its items are told -/
theorem lcG {J : It} {n : Nat} {Y : Nat → Hp → V → Hp → Prop} (w : Walk J n (fun _ => True) Y) {g : TG} {te : TE} {vs : List Nat} {σ : L2.St} {H H1 : Hp} {D : Addr} {Qd : Hp → Prop} (t : Sm) (g1 : Go t H H1) (nD : H1 D = none)
    (p : Int → Prop) (hsz : n ≤ sizeLine)
    (hs : ∀ i x H2 H3 (R : V → Hp → Prop), i < n → Go t H H2 → Y i H2 x H3 → (∀ H4 z, Go t H2 H4 → p z → R (.int z) H4) → g x (wipe σ vs) H3 fun σ2 H4 => wipe σ2 vs = wipe σ vs ∧ te σ2 H4 fun y H5 => R y H5)
    (hd : ∀ H2 zs, Go t H H2 → H2 D = some (.lst ((zs : List Int).map V.int)) → zs.length = n → (∀ z ∈ zs, p z) → Qd H2) :
    ∃ W : Nat → Nat → Hp → Prop, (∃ m, W 0 m (upd H1 D (.lst []))) ∧ ∀ i m H, W i m H →
      (J.stop i H ∧ Qd H) ∨ (J.go i H ∧ ∃ Nx : Hp → Prop, (∀ H', Nx H' → ∃ m', m' < m ∧ W (i + 1) m' H') ∧ ∀ x H', J.yld i H x H' → g x (wipe σ vs) H' fun σ2 H2 => wipe σ2 vs = wipe σ vs ∧ tYes σ2 H2 fun b H3 =>
        if b = true then te σ2 H3 fun y H4 => ∃ acc, H4 D = some (.lst acc) ∧ acc.length < sizeLine ∧ Nx (upd H4 D (.lst (acc ++ [y]))) else Nx H3) := by
  have nDH := g1.free nD
  have na := g1.before.na nDH
  refine lc_it w (fun i H2 => Go t H H2 ∧ ∃ zs : List Int, H2 D = some (.lst (zs.map V.int)) ∧ zs.length = i ∧ ∀ z ∈ zs, p z) ⟨g1.put nDH, [], upd_same, rfl, fun z hz => by cases hz⟩ (fun _ _ _ _ => trivial) ?_ fun H2 ⟨s, zs, e, hl, hp⟩ => hd H2 zs s e hl hp
  rintro i x H2 H3 hi ⟨s, zs, eD, hl, hp⟩ y
  refine hs i x H2 H3 _ hi s y fun H4 z g4 pz => ?_
  have e4 := g4.rest _ _ na eD
  refine ⟨_, e4, ?_, (s.trans g4).put nDH, zs ++ [z], ?_, by rw [List.length_append, hl]; rfl, fun v hv => ?_⟩
  · rw [List.length_map]
    omega
  · rw [upd_same, List.map_append]
    rfl
  · rcases List.mem_append.mp hv with hv | hv
    · exact hp v hv
    · have : v = z := by simpa using hv
      exact this ▸ pz
def spOrder : Sp := fun vs H Q _ => ∃ (t : Sm) (li : Addr) (L : List Str) (m : Nat), vs = [.ref t.a, .ref li, .int ((m : Nat) : Int)] ∧ Str_ t H ∧ H li = some (.lst (L.map V.str)) ∧ L.length ≤ 12 ∧ 3 ≤ m ∧ m ≤ L.length ∧ L.Nodup ∧ (∀ l ∈ L, IsL l) ∧
  ∀ v H' o, Go t H H' → IsOrd H' v o → OrdOk o → 3 ≤ o.1.length → o.1.length ≤ L.length → (∀ l ∈ o.1, l ∈ L) → Q v H'
theorem ok_law_order (T : Txt K mg) : Calls P w K mg base 3 "_law_order" ["_law_stream_here", "_law_letters", "_law_most"] spOrder := by
  have C_law_next := ok_law_next (P := P) (w := w) (base := base) T
  have C_law_shuffled := ok_law_shuffled (P := P) (w := w) (base := base) T
  refine mk_law_order T (fun vs H Q E h => ?_) (fun cdv A outer s H vs Q E hr h => ?_)
  · obtain ⟨t, li, L, m, rfl, _⟩ := h
    rfl
  · obtain ⟨t, li, L, m, rfl, st, eli, hL, hm3, hm, nd, hls, q⟩ := h
    refine ⟨_, (pss_cons (ps_set (i := 3) sc_law_order.nd rfl (by first | exact Or.inl rfl | exact Or.inr rfl) (pe_slice (sl_listS (K := K) rfl) (pe_callC C_law_shuffled (hr.mono (by decide)) (by rfl) (pa_cons (pv 0) (pa_cons (pv 1) pa_nil))) po_none (po_some (pv 2))))
  (pss_one (ps_ret (pe_tupS (pa_cons (pe_callTy (call_tuple_ofS (K := K) rfl) (by rfl) T.f_tuple boot_tuple' (pa_cons (pv 3) pa_nil)) (pa_cons (pe_callTy (call_tuple_ofS (K := K) rfl) (by rfl) T.f_tuple boot_tuple' (pa_cons (pe_lc (own := [("_law_k", 4)]) (by rfl) sc_law_order.nd (pi_range1 (by rfl) T.f_range (pa_cons (pe_op op_sub (pe_callB (call_lenS (K := K) rfl) (by rfl) T.f_len boot_len' (pa_cons (pv 3) pa_nil)) pe_int) pa_nil)) (blkOk_by (own := [("_law_k", 4)]) (N := N_law_order) (sc := (defScope s_law_order)) (by decide +kernel)) (fun _ _ _ _ _ => (pg_name (i := 4) sc_law_order.nd rfl (by first | exact Or.inl rfl | exact Or.inr rfl))) (fun _ _ _ _ _ => pts_nil) (fun _ _ _ _ _ => (pe_op op_add pe_int (pe_callC C_law_next (hr.mono (by decide)) (by rfl) (pa_cons (pv 0) (pa_cons pe_int pa_nil)))))) pa_nil)) pa_nil)))))), ?_⟩
    refine ⟨_, rfl, _, rfl, t, li, L, rfl, st, eli, hL, fun p H1 M g1 np e1 pm => ?_⟩
    refine ⟨_, rfl, _, rfl, p, _, rfl, .of e1, fun r H2 s2 nr e2 => ?_⟩
    rw [cut_upto, ← List.map_take] at e2
    have hMl := pm.length_eq
    have hRl : (M.take m).length = m := by rw [List.length_take]; omega
    have hRm : ∀ l ∈ M.take m, l ∈ L := fun l hl => pm.mem_iff.mp (List.mem_of_mem_take hl)
    have hRn : (M.take m).Nodup := List.Sublist.nodup (List.take_sublist m M) (pm.nodup_iff.mpr nd)
    generalize M.take m = R at e2 hRl hRm hRn
    have g2 := g1.sm s2
    refine ⟨_, rfl, r, _, rfl, .of e2, fun t1 H3 s3 h3 => ?_⟩
    have g3 := g2.sm s3
    have e3 := s3 _ _ e2
    refine ⟨_, rfl, _, R.length, rfl, .inr (.inl ⟨_, _, rfl, .of e3, (List.length_map _).symm⟩), _, _, rfl, rfl, _, rfl, by omega, by omega, fun D nD => lcG walk_range t (.of g3.after (Same.refl _)) nD (fun z => 1 ≤ z ∧ z ≤ 3) (le12 (by omega)) (fun i z H4 H5 Rr hi g4 yy k => ?_) fun H4 zs g4 e4 hz hp => ?_⟩
    · obtain ⟨rfl, rfl⟩ := yy
      exact ⟨rfl, _, rfl, t, 3, rfl, g4.after, by omega, by omega, fun r H6 g6 hr => ⟨_, _, rfl, rfl, k _ _ g6 (by omega)⟩⟩
    · refine ⟨D, _, rfl, .of e4, fun t2 H5 s5 h5 => ⟨two_le, fun p9 H6 s6 h6 => ?_⟩⟩
      refine q _ _ (R, zs) (g3.trans ((g4.sm s5).sm s6)) ⟨p9, t1, t2, rfl, h6, ((g4.kp _ _ h3).same s5).same s6, h5.same s6⟩ ⟨hRn, ?_, fun l hl => hls l (hRm l hl), ?_, hp⟩ ?_ ?_ hRm
      · show zs.length = R.length - 1
        omega
      · show R.length ≤ 12
        omega
      · show 3 ≤ R.length
        omega
      · show R.length ≤ L.length
        omega
/-! ### _law_rule -/
def spRule : Sp := fun vs H Q _ => ∃ (t : Sm) (li : Addr) (L : List Str), vs = [.ref t.a, .ref li] ∧ Str_ t H ∧ H li = some (.lst (L.map V.str)) ∧ L.length ≤ 12 ∧ 2 ≤ L.length ∧ L.Nodup ∧ (∀ l ∈ L, IsL l) ∧
  ∀ v H' r, Go t H H' → IsRule H' v r → RuleOk r → Q v H'
theorem ok_law_rule (T : Txt K mg) : Calls P w K mg base 3 "_law_rule" ["_law_stream_here", "_law_letters"] spRule := by
  have C_law_next := ok_law_next (P := P) (w := w) (base := base) T
  have C_law_shuffled := ok_law_shuffled (P := P) (w := w) (base := base) T
  refine mk_law_rule T (fun vs H Q E h => ?_) (fun cdv A outer s H vs Q E hr h => ?_)
  · obtain ⟨t, li, L, rfl, _⟩ := h
    rfl
  · obtain ⟨t, li, L, rfl, st, eli, hL, hL2, nd, hls, q⟩ := h
    refine ⟨_, (pss_cons (ps_asg (pe_slice (sl_listS (K := K) rfl) (pe_callC C_law_shuffled (hr.mono (by decide)) (by rfl) (pa_cons (pv 0) (pa_cons (pv 1) pa_nil))) po_none (po_some pe_int)) (pg_unlK (K := K) (n := 2) rfl rfl (pgs_cons (pg_name (i := 2) sc_law_rule.nd rfl (by first | exact Or.inl rfl | exact Or.inr rfl)) (pgs_cons (pg_name (i := 3) sc_law_rule.nd rfl (by first | exact Or.inl rfl | exact Or.inr rfl)) pgs_nil))))
  (pss_one (ps_ret (pe_tupS (pa_cons (pe_ix (ix_listS (K := K) rfl) (pe_lstS (pa_cons pe_str (pa_cons pe_str pa_nil))) (pe_callC C_law_next (hr.mono (by decide)) (by rfl) (pa_cons (pv 0) (pa_cons pe_int pa_nil))) (fun _ _ => rfl)) (pa_cons (pv 2) (pa_cons (pe_op op_add pe_int (pe_callC C_law_next (hr.mono (by decide)) (by rfl) (pa_cons (pv 0) (pa_cons pe_int pa_nil)))) (pa_cons (pv 3) pa_nil)))))))), ?_⟩
    refine ⟨_, rfl, _, rfl, t, li, L, rfl, st, eli, hL, fun p H1 M g1 np e1 pm => ?_⟩
    have hMl := pm.length_eq
    have hMn := pm.nodup_iff.mpr nd
    have hMs : ∀ l ∈ M, IsL l := fun l hl => hls l (pm.mem_iff.mp hl)
    cases M with
    | nil => exact absurd hMl (by show ¬ (0 = L.length); omega)
    | cons a M =>
      cases M with
      | nil => exact absurd hMl (by show ¬ (1 = L.length); omega)
      | cons z M =>
        have hne : a ≠ z := fun e => (List.nodup_cons.mp hMn).1 (by rw [e]; simp)
        refine ⟨_, rfl, p, _, rfl, .of e1, fun r H2 s2 nr e2 => ?_⟩
        have e2' : H2 r = some (.lst [.str a, .str z]) := by
          have := cut_upto ((a :: z :: M).map V.str) 2
          rw [e2]
          exact congrArg (fun x => some (HO.lst x)) this
        have g2 := g1.sm s2
        refine ⟨r, _, rfl, .of e2', rfl, _, _, rfl, _, _, rfl, rfl, ?_⟩
        refine ⟨two_le, fun l3 H3 s3 n3 e3 => ?_⟩
        have g3 := g2.sm s3
        refine ⟨_, rfl, t, 2, rfl, g3.after, by omega, by omega, fun b H4 g4 hb => ?_⟩
        have e4 := g4.rest _ _ (g2.after.na n3) e3
        have side : ∃ af : Bool, [V.str "after", V.str "before"][b]? = some (.str (if af then "after" else "before")) := by
          rcases (show b = 0 ∨ b = 1 by omega) with rfl | rfl
          · exact ⟨true, rfl⟩
          · exact ⟨false, rfl⟩
        obtain ⟨af, hside⟩ := side
        refine ⟨l3, _, _, b, _, rfl, rfl, .of e4, rfl, hside, _, rfl, _, rfl, t, 3, rfl, g4.after, by omega, by omega, fun c H5 g5 hc => ?_⟩
        refine ⟨_, _, rfl, rfl, _, rfl, le12 (by show 4 ≤ 1000; decide), fun p6 H6 s6 h6 => ?_⟩
        exact q _ _ ⟨af, a, 1 + (c : Nat), z⟩ ((g3.trans (g4.trans g5)).sm s6) ⟨p6, rfl, h6⟩ ⟨hMs a (by simp), hMs z (by simp), hne, by show (1 : Int) ≤ 1 + (c : Nat); omega, by show 1 + ((c : Nat) : Int) ≤ 3; omega⟩
end
end Pf
namespace Pf
open PySem PySem.Spec PyProof.Rows L2
section
variable {P : Program} {w : World} {K : PySem.W.Frag} {mg : Str → Option Value} {base : Heap}
/-! ### _law_without -/
def spWithout : Sp := fun vs H Q _ => ∃ v o z, vs = [v, .str z] ∧ IsOrd H v o ∧ o.2.length = o.1.length - 1 ∧ o.1.length ≤ 12 ∧ ∀ v' H', Same H H' → IsOrd H' v' (baseM o z) → Q v' H'
theorem ok_law_without (T : Txt K mg) : Calls P w K mg base 1 "_law_without" ["_law_order_here", "_law_letter"] spWithout := by
  refine mk_law_without T (fun vs H Q E h => ?_) (fun cdv A outer s H vs Q E hr h => ?_)
  · obtain ⟨v, o, z, rfl, _⟩ := h
    rfl
  · obtain ⟨v, ⟨L, S⟩, z, rfl, ⟨a, b, c, rfl, ha, hb, hc⟩, hl, hm, q⟩ := h
    simp only at hb hc hl hm
    refine ⟨_, (pss_cons (ps_asg (pv 0) (pg_tupK (K := K) (n := 2) rfl rfl (pgs_cons (pg_name (i := 2) sc_law_without.nd rfl (by first | exact Or.inl rfl | exact Or.inr rfl)) (pgs_cons (pg_name (i := 3) sc_law_without.nd rfl (by first | exact Or.inl rfl | exact Or.inr rfl)) pgs_nil))))
  (pss_cons (ps_if (pt_cmpR (op_notIn_strS (K := K) rfl) (pv 1) (pv 2) (by rfl)) (pss_one (ps_ret (pv 0))) pss_nil)
  (pss_cons (ps_set (i := 4) sc_law_without.nd rfl (by first | exact Or.inl rfl | exact Or.inr rfl) (pe_bmS' PySem.F.plainAttrs_tuple PySem.F.slot_tuple_index PySem.F.type_tuple_index mt_tup_indexS (pv 2) (pa_cons (pv 1) pa_nil)))
  (pss_cons (ps_set (i := 5) sc_law_without.nd rfl (by first | exact Or.inl rfl | exact Or.inr rfl) (pe_op op_catS (pe_slice sl_tupS (pv 2) po_none (po_some (pv 4))) (pe_slice sl_tupS (pv 2) (po_some (pe_op op_add (pv 4) pe_int)) po_none)))
  (pss_cons (ps_if (pt_cmpR op_eqIS (pv 4) pe_int (nomark _)) (pss_one (ps_ret (pe_tupS (pa_cons (pv 5) (pa_cons (pe_slice sl_tupS (pv 3) (po_some pe_int) po_none) pa_nil))))) pss_nil)
  (pss_cons (ps_if (pt_cmpR op_eqIS (pv 4) (pe_op op_sub (pe_callB (call_lenS (K := K) rfl) (by rfl) T.f_len boot_len' (pa_cons (pv 2) pa_nil)) pe_int) (nomark _)) (pss_one (ps_ret (pe_tupS (pa_cons (pv 5) (pa_cons (pe_slice sl_tupS (pv 3) po_none (po_some (pe_un un_neg pe_int))) pa_nil))))) pss_nil)
  (pss_one (ps_ret (pe_tupS (pa_cons (pv 5) (pa_cons (pe_op op_catS (pe_op op_catS (pe_slice sl_tupS (pv 3) po_none (po_some (pe_op op_sub (pv 4) pe_int))) (pe_tupS (pa_cons (pe_callB (call_min2 rfl) (by rfl) T.f_min boot_min' (pa_cons (pe_ix ix_tupS (pv 3) (pe_op op_sub (pv 4) pe_int) (fun _ _ => rfl)) (pa_cons (pe_ix ix_tupS (pv 3) (pv 4) (fun _ _ => rfl)) pa_nil))) pa_nil))) (pe_slice sl_tupS (pv 3) (po_some (pe_op op_add (pv 4) pe_int)) po_none)) pa_nil))))))))))), ?_⟩
    refine ⟨_, rfl, a, _, rfl, ha.sq, rfl, _, _, rfl, _, _, rfl, rfl, ?_⟩
    refine ⟨_, rfl, _, rfl, b, L, z, rfl, rfl, .inr hb.sq, _, rfl, ?_⟩
    by_cases hz : z ∈ L
    · refine iteNF hz ?_
      have hk := idx_lt hz
      have eb : baseM (L, S) z = removedM (L, S) z := if_pos hz
      rw [eb] at q
      refine ⟨_, rfl, ⟨_, _, rfl, hb⟩, _, rfl, b, L, z, idx L z, rfl, rfl, hb, idx_get hz, fun m hm => idx_first hm, ?_⟩
      -- left = letters[:at] + letters[at + 1:]
      refine ⟨_, rfl, _, rfl, _, rfl, b, _, rfl, hb, fun p1 H1 s1 h1 => ?_⟩
      refine ⟨_, rfl, _, rfl, _, _, rfl, rfl, _, rfl, b, _, rfl, hb.same s1, fun p2 H2 s2 h2 => ?_⟩
      have g1 := (fz_upto (k := idx L z) h1 rfl).same s2
      have g2 := fz_from (k := idx L z + 1) h2 (by omega)
      refine ⟨_, _, _, _, rfl, rfl, g1, g2, le12 (by simp; omega), fun p3 H3 s3 h3 => ?_⟩
      have g3 := fz_cat h3
      have s13 : Same H H3 := s1.trans (s2.trans s3)
      have hc3 := hc.same s13
      have ok : ∀ {p : Addr} {H' : Hp} {cs : Addr} {S' : List Int}, Same H3 H' → FzT H' p [.ref p3, .ref cs] → FzT H' cs (S'.map V.int) → S' = rmS S L.length (idx L z) → Q (.ref p) H' := fun s4 hp hcs e =>
        q _ _ (s13.trans s4) ⟨_, _, _, rfl, hp, g3.same s4, fz_eq hcs e⟩
      -- if at == 0
      refine ⟨_, rfl, _, _, rfl, rfl, _, rfl, ?_⟩
      by_cases h0 : (idx L z : Int) = 0
      · refine iteDT h0 ?_
        have h0' : idx L z = 0 := by omega
        refine ⟨_, rfl, _, rfl, _, rfl, _, _, rfl, hc3, fun p4 H4 s4 h4 => ⟨two_le, fun p5 H5 s5 h5 => ?_⟩⟩
        refine ok (s4.trans s5) h5 ((fz_from (k := 1) h4 rfl).same s5) ?_
        unfold rmS
        rw [if_pos h0']
      refine iteDF h0 ?_
      have h0' : idx L z ≠ 0 := by omega
      -- if at == len(letters) - 1
      refine ⟨_, rfl, _, rfl, _, L.length, rfl, .inr (.inr ⟨_, _, rfl, hb.same s13, (List.length_map _).symm⟩), _, 1, rfl, rfl, _, _, rfl, rfl, _, rfl, ?_⟩
      by_cases h1 : (idx L z : Int) = (L.length : Int) - 1
      · refine iteDT h1 ?_
        refine ⟨_, rfl, _, rfl, 1, rfl, _, rfl, _, _, rfl, hc3, fun p4 H4 s4 h4 => ⟨two_le, fun p5 H5 s5 h5 => ?_⟩⟩
        refine ok (s4.trans s5) h5 ((fz_but h4).same s5) ?_
        unfold rmS
        rw [if_neg h0', if_pos (by omega)]
      refine iteDF h1 ?_
      -- the middle
      refine ⟨_, rfl, _, rfl, _, rfl, _, _, rfl, rfl, _, rfl, _, _, rfl, hc3, fun p4 H4 s4 h4 => ?_⟩
      have hc4 := hc3.same s4
      have i1 : idx L z - 1 < S.length := by omega
      have i2 : idx L z < S.length := by omega
      have e1 : (idx L z : Int) - 1 = ((idx L z - 1 : Nat) : Int) := by omega
      refine ⟨_, rfl, _, rfl, _, _, rfl, rfl, _, _, _, idx L z - 1, _, rfl, rfl, hc4, e1, int_get (getD_get i1), ?_⟩
      refine ⟨_, rfl, _, rfl, _, _, _, idx L z, _, rfl, rfl, hc4, rfl, int_get (getD_get i2), _, _, rfl, ?_⟩
      refine ⟨le12 (by show 1 ≤ 1000; decide), fun p5 H5 s5 h5 => ?_⟩
      have g4 := (fz_upto (k := idx L z - 1) h4 e1).same s5
      have g5 : FzT H5 p5 ([if S.getD (idx L z) 0 < S.getD (idx L z - 1) 0 then S.getD (idx L z) 0 else S.getD (idx L z - 1) 0].map V.int) := h5
      refine ⟨_, _, _, _, rfl, rfl, g4, g5, le12 (by simp; omega), fun p6 H6 s6 h6 => ?_⟩
      have g6 := fz_cat h6
      refine ⟨_, rfl, _, rfl, _, _, rfl, rfl, _, rfl, _, _, rfl, hc4.same (s5.trans s6), fun p7 H7 s7 h7 => ?_⟩
      have g7 := fz_from (k := idx L z + 1) h7 (by omega)
      refine ⟨_, _, _, _, rfl, rfl, g6.same s7, g7, le12 (by simp; omega), fun p8 H8 s8 h8 => ?_⟩
      have g8 := fz_cat h8
      refine ⟨two_le, fun p9 H9 s9 h9 => ?_⟩
      refine ok (s4.trans (s5.trans (s6.trans (s7.trans (s8.trans s9))))) h9 (g8.same s9) ?_
      unfold rmS
      rw [if_neg h0', if_neg (show ¬ idx L z = L.length - 1 by omega)]
    · refine iteNT hz ⟨_, rfl, q _ _ (Same.refl _) ?_⟩
      have eb : baseM (L, S) z = (L, S) := if_neg hz
      rw [eb]
      exact ⟨a, b, c, rfl, ha, hb, hc⟩
/-! ### _law_put -/
def spLawPut : Sp := fun vs H Q _ => ∃ v o u r, vs = [v, u] ∧ IsOrd H v o ∧ IsRule H u r ∧ OrdOk o ∧ RuleOk r ∧ r.anchor ∈ o.1 ∧ ∀ v' H', Same H H' → IsOrd H' v' (putM o r) → Q v' H'
theorem put_before {o : Ord} {r : Rule} (nd : (baseM o r.z).1.Nodup) (hl : (baseM o r.z).1.length = (baseM o r.z).2.length + 1) (ha : r.anchor ∈ (baseM o r.z).1) (hb : r.after = false) :
    putM o r = putB (baseM o r.z) (back (baseM o r.z).2 r.s (idx (baseM o r.z).1 r.anchor)) r.s r.z := by
  have hk := idx_lt ha
  unfold putM
  rw [hb, if_neg Bool.false_ne_true]
  generalize baseM o r.z = B at nd hl ha hk
  obtain ⟨L, S⟩ := B
  simp only at nd hl ha hk
  unfold putAfterM
  have e1 : idx (turnM (L, S)).1 r.anchor = S.length - idx L r.anchor := by
    show idx L.reverse r.anchor = _
    rw [idx_rev nd ha, hl]
    rfl
  have e2 : (turnM (L, S)).2 = S.reverse := rfl
  rw [e1, e2, turn_put hl, ← back_eq S r.s _ (by omega)]
  have := stop_le (S := S.reverse) (s := r.s) (a := S.length - idx L r.anchor) (by rw [List.length_reverse]; omega)
  rw [List.length_reverse] at this
  exact this
theorem ok_law_put (T : Txt K mg) : Calls P w K mg base 2 "_law_put" ["_law_order_here", "_law_rule_here"] spLawPut := by
  have C_law_without := ok_law_without (P := P) (w := w) (base := base) T
  refine mk_law_put T (fun vs H Q E h => ?_) (fun cdv A outer s H vs Q E hr h => ?_)
  · obtain ⟨v, o, u, r, rfl, _⟩ := h
    rfl
  · obtain ⟨v, o, u, r, rfl, ho, ⟨ru, rfl, hu⟩, ok, rk, hanc, q⟩ := h
    have hn : o.1 ≠ [] := fun e => by
      rw [e] at hanc
      cases hanc
    obtain ⟨R, rp, rok, _, hmem, hlen, _⟩ := base_row (z := r.z) ok hn
    have han : r.anchor ∈ (baseM o r.z).1 := by
      rw [rp.lets]
      exact (hmem _).mpr ⟨hanc, rk.ne⟩
    have hll : (baseM o r.z).2.length = (baseM o r.z).1.length - 1 := by
      rw [rp.lets, rp.str]
      simp
    have hmo : (baseM o r.z).1.length ≤ 12 := by
      rw [rp.lets, List.length_map]
      have := ok.most
      omega
    have hnd : (baseM o r.z).1.Nodup := by
      rw [rp.lets]
      exact rok.nd
    have hk := idx_lt han
    have hl1 : (baseM o r.z).1.length = (baseM o r.z).2.length + 1 := by omega
    have hbef := put_before hnd hl1 han
    have haft : r.after = true → putM o r = putAt (baseM o r.z) (stop (baseM o r.z).2 r.s (idx (baseM o r.z).1 r.anchor)) r.s r.z := fun e => if_pos e
    refine ⟨_, (pss_cons (ps_asg (pv 1) (pg_tupK (K := K) (n := 4) rfl rfl (pgs_cons (pg_name (i := 2) sc_law_put.nd rfl (by first | exact Or.inl rfl | exact Or.inr rfl)) (pgs_cons (pg_name (i := 3) sc_law_put.nd rfl (by first | exact Or.inl rfl | exact Or.inr rfl)) (pgs_cons (pg_name (i := 4) sc_law_put.nd rfl (by first | exact Or.inl rfl | exact Or.inr rfl)) (pgs_cons (pg_name (i := 5) sc_law_put.nd rfl (by first | exact Or.inl rfl | exact Or.inr rfl)) pgs_nil))))))
  (pss_cons (ps_asg (pe_callC C_law_without (hr.mono (by decide)) (by rfl) (pa_cons (pv 0) (pa_cons (pv 5) pa_nil))) (pg_tupK (K := K) (n := 2) rfl rfl (pgs_cons (pg_name (i := 6) sc_law_put.nd rfl (by first | exact Or.inl rfl | exact Or.inr rfl)) (pgs_cons (pg_name (i := 7) sc_law_put.nd rfl (by first | exact Or.inl rfl | exact Or.inr rfl)) pgs_nil))))
  (pss_cons (ps_set (i := 8) sc_law_put.nd rfl (by first | exact Or.inl rfl | exact Or.inr rfl) (pe_bmS' PySem.F.plainAttrs_tuple PySem.F.slot_tuple_index PySem.F.type_tuple_index mt_tup_indexS (pv 6) (pa_cons (pv 3) pa_nil)))
  (pss_cons (ps_if (pt_cmpR op_eqSS (pv 2) pe_str (nomark _)) (pss_cons (ps_set (i := 9) sc_law_put.nd rfl (by first | exact Or.inl rfl | exact Or.inr rfl) (pe_op op_add (pv 8) pe_int))
  (pss_cons (ps_while PassesOwn.never (PW.pt (pw_and (pt_cmpR op_lt (pv 9) (pe_callB (call_lenS (K := K) rfl) (by rfl) T.f_len boot_len' (pa_cons (pv 6) pa_nil)) (nomark _)) (pw_and1 (pt_cmpR op_gt (pe_ix ix_tupS (pv 7) (pe_op op_sub (pv 9) pe_int) (fun _ _ => rfl)) (pv 4) (nomark _))))) (pss_one (ps_set (i := 9) sc_law_put.nd rfl (by first | exact Or.inl rfl | exact Or.inr rfl) (pe_op op_add (pv 9) pe_int))))
  (pss_one (ps_ret (pe_tupS (pa_cons (pe_op op_catS (pe_op op_catS (pe_slice sl_tupS (pv 6) po_none (po_some (pv 9))) (pe_tupS (pa_cons (pv 5) pa_nil))) (pe_slice sl_tupS (pv 6) (po_some (pv 9)) po_none)) (pa_cons (pe_op op_catS (pe_op op_catS (pe_slice sl_tupS (pv 7) po_none (po_some (pe_op op_sub (pv 9) pe_int))) (pe_tupS (pa_cons (pv 4) pa_nil))) (pe_slice sl_tupS (pv 7) (po_some (pe_op op_sub (pv 9) pe_int)) po_none)) pa_nil))))))) pss_nil)
  (pss_cons (ps_set (i := 9) sc_law_put.nd rfl (by first | exact Or.inl rfl | exact Or.inr rfl) (pv 8))
  (pss_cons (ps_while PassesOwn.never (PW.pt (pw_and (pt_cmpR op_gt (pv 9) pe_int (nomark _)) (pw_and1 (pt_cmpR op_gt (pe_ix ix_tupS (pv 7) (pe_op op_sub (pv 9) pe_int) (fun _ _ => rfl)) (pv 4) (nomark _))))) (pss_one (ps_set (i := 9) sc_law_put.nd rfl (by first | exact Or.inl rfl | exact Or.inr rfl) (pe_op op_sub (pv 9) pe_int))))
  (pss_one (ps_ret (pe_tupS (pa_cons (pe_op op_catS (pe_op op_catS (pe_slice sl_tupS (pv 6) po_none (po_some (pv 9))) (pe_tupS (pa_cons (pv 5) pa_nil))) (pe_slice sl_tupS (pv 6) (po_some (pv 9)) po_none)) (pa_cons (pe_op op_catS (pe_op op_catS (pe_slice sl_tupS (pv 7) po_none (po_some (pv 9))) (pe_tupS (pa_cons (pv 4) pa_nil))) (pe_slice sl_tupS (pv 7) (po_some (pv 9)) po_none)) pa_nil))))))))))), ?_⟩
    refine ⟨_, rfl, ru, _, rfl, hu.sq, rfl, _, _, rfl, _, _, rfl, _, _, rfl, _, _, rfl, rfl, ?_⟩
    refine ⟨_, rfl, _, rfl, v, o, r.z, rfl, ho, ok.len, ok.most, fun v1 H1 s1 h1 => ?_⟩
    obtain ⟨a, b, c, rfl, ha, hb, hc⟩ := h1
    generalize baseM o r.z = B at hb hc han hll hmo hnd hk hl1 hbef haft
    obtain ⟨L, S⟩ := B
    simp only at hb hc han hll hmo hnd hk hl1 hbef haft
    refine ⟨a, _, rfl, ha.sq, rfl, _, _, rfl, _, _, rfl, rfl, ?_⟩
    refine ⟨_, rfl, ⟨_, _, rfl, hb⟩, _, rfl, b, L, r.anchor, idx L r.anchor, rfl, rfl, hb, idx_get han, fun m hm => idx_first hm, ?_⟩
    refine ⟨_, rfl, _, _, rfl, rfl, _, rfl, ?_⟩
    rw [side_after r]
    cases hA : r.after with
    | true =>
      have eP := haft hA
      -- what stands behind the loop
      have fin : ∀ (k : Nat) (D : Ends), k ≤ S.length → putM o r = putAt (L, S) k r.s r.z → (∀ v' H', Same H H' → IsOrd H' v' (putM o r) → D.rt v' H') →
          tRet (tTupS (tCons (tOp rCatS (tOp rCatS (tSl rSlS' (tVar 6) tNoPart (tPart (tVar 9))) (tTupS (tCons (tVar 5) tNil))) (tSl rSlS' (tVar 6) (tPart (tVar 9)) tNoPart)) (tCons (tOp rCatS (tOp rCatS (tSl rSlS' (tVar 7) tNoPart (tPart (tOp (rI0 fun i j => .int (i - j)) (tVar 9) (tC (.int 1))))) (tTupS (tCons (tVar 4) tNil))) (tSl rSlS' (tVar 7) (tPart (tOp (rI0 fun i j => .int (i - j)) (tVar 9) (tC (.int 1)))) tNoPart)) tNil))) D
          [some v, some (.ref ru), some (.str r.side), some (.str r.anchor), some (.int r.s), some (.str r.z), some (.ref b), some (.ref c), some (.int ((idx L r.anchor : Nat) : Int)), some (.int ((k + 1 : Nat) : Int))] H1 := by
        intro k D hkS eP hD
        refine ⟨_, rfl, _, rfl, _, rfl, b, _, rfl, hb, fun p1 H2 s2 h2 => ?_⟩
        have g1 := fz_upto (k := k + 1) h2 rfl
        refine ⟨_, rfl, le12 (by show 1 ≤ 1000; decide), fun p2 H3 s3 h3 => ?_⟩
        have g2 : FzT H3 p2 ([r.z].map V.str) := h3
        refine ⟨_, _, _, _, rfl, rfl, g1.same s3, g2, le12 (by simp; omega), fun p3 H4 s4 h4 => ?_⟩
        have g3 := fz_cat h4
        have s24 := s2.trans (s3.trans s4)
        refine ⟨_, rfl, _, rfl, _, rfl, b, _, rfl, hb.same s24, fun p4 H5 s5 h5 => ?_⟩
        have g4 := fz_from (k := k + 1) h5 rfl
        refine ⟨_, _, _, _, rfl, rfl, g3.same s5, g4, le12 (by simp; omega), fun p5 H6 s6 h6 => ?_⟩
        have g5 := fz_cat h6
        have s26 := s24.trans (s5.trans s6)
        have hc6 := hc.same s26
        refine ⟨_, rfl, _, rfl, _, _, rfl, rfl, _, rfl, c, _, rfl, hc6, fun p6 H7 s7 h7 => ?_⟩
        have g6 := fz_upto (k := k) h7 (by omega)
        refine ⟨_, rfl, le12 (by show 1 ≤ 1000; decide), fun p7 H8 s8 h8 => ?_⟩
        have g7 : FzT H8 p7 ([r.s].map V.int) := h8
        refine ⟨_, _, _, _, rfl, rfl, g6.same s8, g7, le12 (by simp; omega), fun p8 H9 s9 h9 => ?_⟩
        have g8 := fz_cat h9
        refine ⟨_, rfl, _, rfl, _, _, rfl, rfl, _, rfl, c, _, rfl, hc6.same (s7.trans (s8.trans s9)), fun p9 Ha sa hsa => ?_⟩
        have g9 := fz_from (k := k) hsa (by omega)
        refine ⟨_, _, _, _, rfl, rfl, g8.same sa, g9, le12 (by simp; omega), fun p10 Hb sb hsb => ⟨two_le, fun p11 Hc sc hsc => ?_⟩⟩
        have g10 := fz_cat hsb
        have s7c := s7.trans (s8.trans (s9.trans (sa.trans (sb.trans sc))))
        refine hD _ _ (s1.trans (s26.trans s7c)) ⟨_, _, _, rfl, hsc, fz_eq (g5.same s7c) ?_, fz_eq (g10.same sc) ?_⟩
        · rw [eP]
          rfl
        · rw [eP]
          rfl
      refine ⟨_, rfl, _, _, rfl, rfl, ?_⟩
      refine ⟨fun m σ H' => ∃ k : Nat, σ = [some v, some (.ref ru), some (.str r.side), some (.str r.anchor), some (.int r.s), some (.str r.z), some (.ref b), some (.ref c), some (.int ((idx L r.anchor : Nat) : Int)), some (.int ((k + 1 : Nat) : Int))] ∧ H' = H1 ∧ m = S.length - k ∧ k ≤ S.length ∧ stop S r.s k = stop S r.s (idx L r.anchor),
        ⟨_, idx L r.anchor, rfl, rfl, rfl, by omega, rfl⟩, fun m σ H' hW => ?_⟩
      obtain ⟨k, rfl, rfl, rfl, hkS, hst⟩ := hW
      refine ⟨_, rfl, _, rfl, _, L.length, rfl, .inr (.inr ⟨_, _, rfl, hb, (List.length_map _).symm⟩), _, _, rfl, rfl, _, rfl, ?_⟩
      by_cases h1 : (((k + 1 : Nat) : Int) < ((L.length : Nat) : Int))
      · refine iteDT h1 ?_
        have h1' : k < S.length := by omega
        refine ⟨_, rfl, _, rfl, _, _, rfl, rfl, _, _, _, k, _, rfl, rfl, hc, by omega, int_get (getD_get h1'), _, rfl, _, _, rfl, rfl, _, rfl, ?_⟩
        by_cases h2 : r.s < S.getD k 0
        · refine iteDT h2 ⟨fun σ' Hn => σ' = [some v, some (.ref ru), some (.str r.side), some (.str r.anchor), some (.int r.s), some (.str r.z), some (.ref b), some (.ref c), some (.int ((idx L r.anchor : Nat) : Int)), some (.int ((k + 1 + 1 : Nat) : Int))] ∧ Hn = H', fun σ' Hn hN => ?_, ?_⟩
          · obtain ⟨rfl, rfl⟩ := hN
            exact ⟨S.length - (k + 1), by omega, k + 1, rfl, rfl, rfl, by omega, by rw [stop_step (getD_get h1') h2, hst]⟩
          · exact ⟨_, rfl, _, _, rfl, rfl, rfl, rfl⟩
        · refine iteDF h2 (fin k _ hkS ?_ q)
          rw [eP, ← hst, stop_end (.inr ⟨_, getD_get h1', h2⟩)]
      · refine iteDF h1 (fin k _ hkS ?_ q)
        rw [eP, ← hst, stop_end (.inl (by omega))]
    | false =>
      have eP := hbef hA
      have fin : ∀ (k : Nat) (D : Ends), k ≤ S.length → putM o r = putB (L, S) k r.s r.z → (∀ v' H', Same H H' → IsOrd H' v' (putM o r) → D.rt v' H') →
          tRet (tTupS (tCons (tOp rCatS (tOp rCatS (tSl rSlS' (tVar 6) tNoPart (tPart (tVar 9))) (tTupS (tCons (tVar 5) tNil))) (tSl rSlS' (tVar 6) (tPart (tVar 9)) tNoPart)) (tCons (tOp rCatS (tOp rCatS (tSl rSlS' (tVar 7) tNoPart (tPart (tVar 9))) (tTupS (tCons (tVar 4) tNil))) (tSl rSlS' (tVar 7) (tPart (tVar 9)) tNoPart)) tNil))) D
          [some v, some (.ref ru), some (.str r.side), some (.str r.anchor), some (.int r.s), some (.str r.z), some (.ref b), some (.ref c), some (.int ((idx L r.anchor : Nat) : Int)), some (.int ((k : Nat) : Int))] H1 := by
        intro k D hkS eP hD
        refine ⟨_, rfl, _, rfl, _, rfl, b, _, rfl, hb, fun p1 H2 s2 h2 => ?_⟩
        have g1 := fz_upto (k := k) h2 rfl
        refine ⟨_, rfl, le12 (by show 1 ≤ 1000; decide), fun p2 H3 s3 h3 => ?_⟩
        have g2 : FzT H3 p2 ([r.z].map V.str) := h3
        refine ⟨_, _, _, _, rfl, rfl, g1.same s3, g2, le12 (by simp; omega), fun p3 H4 s4 h4 => ?_⟩
        have g3 := fz_cat h4
        have s24 := s2.trans (s3.trans s4)
        refine ⟨_, rfl, _, rfl, _, rfl, b, _, rfl, hb.same s24, fun p4 H5 s5 h5 => ?_⟩
        have g4 := fz_from (k := k) h5 rfl
        refine ⟨_, _, _, _, rfl, rfl, g3.same s5, g4, le12 (by simp; omega), fun p5 H6 s6 h6 => ?_⟩
        have g5 := fz_cat h6
        have s26 := s24.trans (s5.trans s6)
        have hc6 := hc.same s26
        refine ⟨_, rfl, _, rfl, _, rfl, c, _, rfl, hc6, fun p6 H7 s7 h7 => ?_⟩
        have g6 := fz_upto (k := k) h7 (by omega)
        refine ⟨_, rfl, le12 (by show 1 ≤ 1000; decide), fun p7 H8 s8 h8 => ?_⟩
        have g7 : FzT H8 p7 ([r.s].map V.int) := h8
        refine ⟨_, _, _, _, rfl, rfl, g6.same s8, g7, le12 (by simp; omega), fun p8 H9 s9 h9 => ?_⟩
        have g8 := fz_cat h9
        refine ⟨_, rfl, _, rfl, _, rfl, c, _, rfl, hc6.same (s7.trans (s8.trans s9)), fun p9 Ha sa hsa => ?_⟩
        have g9 := fz_from (k := k) hsa (by omega)
        refine ⟨_, _, _, _, rfl, rfl, g8.same sa, g9, le12 (by simp; omega), fun p10 Hb sb hsb => ⟨two_le, fun p11 Hc sc hsc => ?_⟩⟩
        have g10 := fz_cat hsb
        have s7c := s7.trans (s8.trans (s9.trans (sa.trans (sb.trans sc))))
        refine hD _ _ (s1.trans (s26.trans s7c)) ⟨_, _, _, rfl, hsc, fz_eq (g5.same s7c) ?_, fz_eq (g10.same sc) ?_⟩
        · rw [eP]
          rfl
        · rw [eP]
          rfl
      refine ⟨_, rfl, ?_⟩
      refine ⟨fun m σ H' => ∃ k : Nat, σ = [some v, some (.ref ru), some (.str r.side), some (.str r.anchor), some (.int r.s), some (.str r.z), some (.ref b), some (.ref c), some (.int ((idx L r.anchor : Nat) : Int)), some (.int ((k : Nat) : Int))] ∧ H' = H1 ∧ k = m ∧ k ≤ S.length ∧ back S r.s k = back S r.s (idx L r.anchor),
        ⟨_, idx L r.anchor, rfl, rfl, rfl, by omega, rfl⟩, fun m σ H' hW => ?_⟩
      obtain ⟨k, rfl, rfl, rfl, hkS, hst⟩ := hW
      refine ⟨_, rfl, _, _, rfl, rfl, _, rfl, ?_⟩
      by_cases h1 : ((0 : Int) < ((k : Nat) : Int))
      · refine iteDT h1 ?_
        obtain ⟨j, rfl⟩ : ∃ j, k = j + 1 := ⟨k - 1, by omega⟩
        have h1' : j < S.length := by omega
        refine ⟨_, rfl, _, rfl, _, _, rfl, rfl, _, _, _, j, _, rfl, rfl, hc, by omega, int_get (getD_get h1'), _, rfl, _, _, rfl, rfl, _, rfl, ?_⟩
        by_cases h2 : r.s < S.getD j 0
        · refine iteDT h2 ⟨fun σ' Hn => σ' = [some v, some (.ref ru), some (.str r.side), some (.str r.anchor), some (.int r.s), some (.str r.z), some (.ref b), some (.ref c), some (.int ((idx L r.anchor : Nat) : Int)), some (.int ((j : Nat) : Int))] ∧ Hn = H', fun σ' Hn hN => ?_, ?_⟩
          · obtain ⟨rfl, rfl⟩ := hN
            refine ⟨j, by omega, j, rfl, rfl, rfl, by omega, ?_⟩
            rw [← hst]
            unfold back
            rw [if_pos h2]
            cases j <;> rfl
          · refine ⟨_, rfl, _, _, rfl, rfl, ?_, rfl⟩
            show [some v, some (.ref ru), some (.str r.side), some (.str r.anchor), some (.int r.s), some (.str r.z), some (.ref b), some (.ref c), some (.int ((idx L r.anchor : Nat) : Int)), some (.int (((j + 1 : Nat) : Int) - 1))] = _
            rw [show ((j + 1 : Nat) : Int) - 1 = ((j : Nat) : Int) by omega]
        · refine iteDF h2 (fin (j + 1) _ hkS ?_ q)
          rw [eP, ← hst]
          unfold back
          rw [if_neg h2]
      · refine iteDF h1 (fin k _ hkS ?_ q)
        have hk0 : k = 0 := by omega
        subst hk0
        rw [eP, ← hst]
        rfl
end
end Pf
namespace Pf
open PySem PySem.Spec PyProof.Rows L2
section
variable {P : Program} {w : World} {K : PySem.W.Frag} {mg : Str → Option Value} {base : Heap}
/-! ### _law_led, for one rule -/
def spLawLed : Sp := fun vs H Q _ => ∃ v o l x r, vs = [v, .ref l] ∧ IsOrd H v o ∧ OrdOk o ∧ H l = some (.lst [x]) ∧ IsRule H x r ∧ RuleOk r ∧ r.anchor ∈ o.1 ∧ r.z ∈ o.1 ∧ ∀ v' H', Same H H' → IsOrd H' v' (putM o r) → Q v' H'
theorem ok_law_led (T : Txt K mg) : Calls P w K mg base 3 "_law_led" ["_law_order_here", "_law_rules"] spLawLed := by
  have C_law_put := ok_law_put (P := P) (w := w) (base := base) T
  refine mk_law_led T (fun vs H Q E h => ?_) (fun cdv A outer s H vs Q E hr h => ?_)
  · obtain ⟨v, o, l, x, r, rfl, _⟩ := h
    rfl
  · obtain ⟨v, o, l, x, r, rfl, ho, ok, el, hx, rk, hanc, hz, q⟩ := h
    refine ⟨_, (pss_cons (ps_for PassesOwn.never rfl (pi_listK (K := K) rfl (pv 1)) (pg_name (i := 2) sc_law_led.nd rfl (by first | exact Or.inl rfl | exact Or.inr rfl))
  (pss_cons (ps_if (PW.pt (pw_or (pt_cmpR (op_notIn_strS (K := K) rfl) (pe_ix ix_tupS (pv 2) pe_int (fun _ _ => rfl)) (pe_ix ix_tupS (pv 0) pe_int (fun _ _ => rfl)) (by rfl)) (pw_or1 (PW.pt (pw_and (pt_cmpR op_eqIS (pe_callB (call_lenS (K := K) rfl) (by rfl) T.f_len boot_len' (pa_cons (pe_ix ix_tupS (pv 0) pe_int (fun _ _ => rfl)) pa_nil)) pe_int (nomark _)) (pw_and1 (pt_cmpR (op_notIn_strS (K := K) rfl) (pe_ix ix_tupS (pv 2) pe_int (fun _ _ => rfl)) (pe_ix ix_tupS (pv 0) pe_int (fun _ _ => rfl)) (by rfl)))))))) (pss_one (ps_ret pe_non)) pss_nil)
  (pss_one (ps_set (i := 0) sc_law_led.nd rfl (by first | exact Or.inl rfl | exact Or.inr rfl) (pe_callC C_law_put (hr.mono (by decide)) (by rfl) (pa_cons (pv 0) (pa_cons (pv 2) pa_nil)))))))
  (pss_one (ps_ret (pv 0)))), ?_⟩
    refine ⟨_, rfl, l, rfl, ⟨_, .of el⟩, for_it (walk_list (xs := [x])) (fun i σ H' => Same H H' ∧ ((i = 0 ∧ σ = [some v, some (.ref l), none]) ∨ (i = 1 ∧ ∃ v', σ = [some v', some (.ref l), some x] ∧ IsOrd H' v' (putM o r))))
      ⟨Same.refl _, .inl ⟨rfl, rfl⟩⟩ (fun i σ H' _ p => .of (p.1 _ _ el)) (fun i z σ H1 H2 hi p yy => ?_) (fun σ H' p => ?_)⟩
    · obtain ⟨s1, p⟩ := p
      obtain ⟨rfl, hz1⟩ := yy
      rcases p with ⟨rfl, rfl⟩ | ⟨rfl, _⟩
      · have hz1' : x = z := Option.some.inj hz1
        subst hz1'
        obtain ⟨a, b, c, rfl, ha, hb, hc⟩ := ho.mono s1
        obtain ⟨ru, rfl, hu⟩ := hx.mono s1
        refine ⟨_, rfl, _, _, _, _, _, rfl, rfl, (hu), rfl, (rfl), _, rfl, _, _, _, _, _, rfl, rfl, (ha), rfl, (rfl), b, o.1, r.anchor, rfl, rfl, .inr hb.sq, _, rfl, iteNF hanc ?_⟩
        refine ⟨_, rfl, _, _, _, _, _, rfl, rfl, (ha), rfl, (rfl), _, o.1.length, rfl, .inr (.inr ⟨_, _, rfl, hb, (List.length_map _).symm⟩), _, 12, rfl, rfl, _, rfl, ?_⟩
        by_cases h12 : (o.1.length : Int) = 12
        · refine iteDT h12 ⟨_, rfl, _, _, _, _, _, rfl, rfl, (hu), rfl, (rfl), _, rfl, _, _, _, _, _, rfl, rfl, (ha), rfl, (rfl), b, o.1, r.z, rfl, rfl, .inr hb.sq, _, rfl, iteNF hz ?_⟩
          exact ⟨_, rfl, _, rfl, V.ref a, o, V.ref ru, r, rfl, ⟨a, b, c, rfl, ha, hb, hc⟩, ⟨ru, rfl, hu⟩, ok, rk, hanc, fun v' H' s' h' => ⟨s1.trans s', .inr ⟨rfl, v', rfl, h'⟩⟩⟩
        · exact iteDF h12 ⟨_, rfl, _, rfl, V.ref a, o, V.ref ru, r, rfl, ⟨a, b, c, rfl, ha, hb, hc⟩, ⟨ru, rfl, hu⟩, ok, rk, hanc, fun v' H' s' h' => ⟨s1.trans s', .inr ⟨rfl, v', rfl, h'⟩⟩⟩
      · exact absurd hi (by show ¬ (1 < 1); omega)
    · obtain ⟨s1, p⟩ := p
      rcases p with ⟨h, _⟩ | ⟨_, v', rfl, h'⟩
      · cases h
      · exact ⟨_, rfl, q _ _ s1 h'⟩
/-! ### _law_word -/
def spLawWord : Sp := fun vs H Q _ => ∃ (t : Sm) (v : V) (o : Ord) (m : Nat), vs = [.ref t.a, v, .int ((m : Nat) : Int)] ∧ Str_ t H ∧ IsOrd H v o ∧ 1 ≤ o.1.length ∧ o.1.length ≤ 12 ∧ m ≤ 12 ∧ ∀ v' H' u, Go t H H' → IsWrd H' v' u → (∀ x ∈ u, x ∈ o.1) → u.length ≤ m → Q v' H'
theorem ok_law_word (T : Txt K mg) : Calls P w K mg base 2 "_law_word" ["_law_stream_here", "_law_order_here", "_law_most"] spLawWord := by
  have C_law_next := ok_law_next (P := P) (w := w) (base := base) T
  refine mk_law_word T (fun vs H Q E h => ?_) (fun cdv A outer s H vs Q E hr h => ?_)
  · obtain ⟨t, v, o, m, rfl, _⟩ := h
    rfl
  · obtain ⟨t, v, o, m, rfl, st, ⟨a, b, c, rfl, ha, hb, hc⟩, hl1, hl, hm, q⟩ := h
    refine ⟨_, (pss_cons (ps_set (i := 3) sc_law_word.nd rfl (by first | exact Or.inl rfl | exact Or.inr rfl) (pe_lstS pa_nil))
  (pss_cons (ps_for PassesOwn.never rfl (pi_range1 (by rfl) T.f_range (pa_cons (pe_callC C_law_next (hr.mono (by decide)) (by rfl) (pa_cons (pv 0) (pa_cons (pe_op op_add (pv 2) pe_int) pa_nil))) pa_nil)) (pg_name (i := 4) sc_law_word.nd rfl (by first | exact Or.inl rfl | exact Or.inr rfl))
  (pss_one (ps_if (pt_truthK (K := K) rfl (pe_ix ix_tupS (pv 1) pe_int (fun _ _ => rfl)) (by intro _; rfl)) (pss_one (ps_expr (pe_bmK (K := K) rfl PySem.F.plainAttrs_list PySem.F.slot_list_append PySem.F.type_list_append mt_append (pv 3) (pa_cons (pe_ix ix_tupS (pe_ix ix_tupS (pv 1) pe_int (fun _ _ => rfl)) (pe_callC C_law_next (hr.mono (by decide)) (by rfl) (pa_cons (pv 0) (pa_cons (pe_callB (call_lenS (K := K) rfl) (by rfl) T.f_len boot_len' (pa_cons (pe_ix ix_tupS (pv 1) pe_int (fun _ _ => rfl)) pa_nil)) pa_nil))) (fun _ _ => rfl)) pa_nil)))) pss_nil)))
  (pss_one (ps_ret (pe_callTy (call_tuple_ofS (K := K) rfl) (by rfl) T.f_tuple boot_tuple' (pa_cons (pv 3) pa_nil)))))), ?_⟩
    refine ⟨Nat.zero_le _, fun l H1 s1 nl e1 => ?_⟩
    have na := st.na nl
    refine ⟨_, rfl, _, rfl, _, _, rfl, rfl, t, m + 1, rfl, st.same s1, by omega, by omega, fun r H2 g2 hr2 => ?_⟩
    have g02 := (Go.of st s1).trans g2
    refine ⟨_, rfl, by omega, by omega, for_it walk_range (fun i σ H' => ∃ x4 u, σ = [some (.ref t.a), some (.ref a), some (.int (m : Nat)), some (.ref l), x4] ∧ Go t H H' ∧ H' l = some (.lst ((u : List Str).map V.str)) ∧ u.length ≤ i ∧ ∀ x ∈ u, x ∈ o.1)
      ⟨none, [], rfl, g02, g2.rest _ _ na e1, Nat.le_refl _, fun x hx => by cases hx⟩ (fun _ _ _ _ _ => trivial) (fun i z σ H3 H4 hi p yy => ?_) (fun σ H' p => ?_)⟩
    · obtain ⟨x4, u, rfl, g3, e3, hul, hum⟩ := p
      obtain ⟨rfl, rfl⟩ := yy
      have ha3 := g3.kp _ _ ha
      have hb3 := g3.kp _ _ hb
      have hne : (!(o.1.map V.str).isEmpty) = true := by
        cases ho : o.1 with
        | nil => rw [ho] at hl1; exact absurd hl1 (by show ¬ (1 ≤ 0); omega)
        | cons x r => rfl
      refine ⟨_, rfl, _, _, _, _, _, rfl, rfl, (ha3), rfl, (rfl), true, .inr (.inl ⟨_, hb3.sq, hne.symm⟩), iteT ?_⟩
      refine ⟨_, rfl, .inl ⟨rfl, _, .of e3⟩, _, rfl, _, _, _, _, _, rfl, rfl, (ha3), rfl, (rfl), _, rfl, _, rfl, _, _, _, _, _, rfl, rfl, (ha3), rfl, (rfl), _, o.1.length, rfl, .inr (.inr ⟨_, _, rfl, hb3, (List.length_map _).symm⟩), t, o.1.length, rfl, g3.after, by omega, by omega, fun k H5 g5 hk => ?_⟩
      have hx : o.1[k]? = some (o.1[k]'hk) := List.getElem?_eq_getElem hk
      generalize o.1[k]'hk = x at hx
      have e5 := g5.rest _ _ na e3
      refine ⟨_, _, _, k, _, rfl, rfl, g5.kp _ _ hb3, rfl, str_get hx, l, _, _, rfl, rfl, e5, small1000 (by rw [List.length_map]; omega), ?_⟩
      refine ⟨_, u ++ [x], rfl, (g3.trans g5).put nl, ?_, by rw [List.length_append]; show u.length + 1 ≤ i + 1; omega, fun y hy => ?_⟩
      · rw [upd_same, List.map_append]
        rfl
      · rcases List.mem_append.mp hy with hy | hy
        · exact hum y hy
        · have : y = x := by simpa using hy
          exact this ▸ List.mem_of_getElem? hx
    · obtain ⟨x4, u, rfl, g3, e3, hul, hum⟩ := p
      refine ⟨_, rfl, l, _, rfl, .of e3, fun p H4 s4 h4 => q _ _ u (g3.sm s4) ⟨p, rfl, h4⟩ hum (by omega)⟩
end
end Pf
namespace Pf
open PySem PySem.Spec PyProof.Rows L2
section
variable {P : Program} {w : World} {K : PySem.W.Frag} {mg : Str → Option Value} {base : Heap}
/-! ### _law_words -/
def WrdsOk (o : Ord) (us : List (List Str)) : Prop := ∀ u ∈ us, (∀ x ∈ u, x ∈ o.1) ∧ u.length ≤ 3
def spLawWords : Sp := fun vs H Q _ => ∃ (t : Sm) (v : V) (o : Ord) (m : Nat), vs = [.ref t.a, v, .int ((m : Nat) : Int)] ∧ Str_ t H ∧ IsOrd H v o ∧ 1 ≤ o.1.length ∧ o.1.length ≤ 12 ∧ m ≤ 12 ∧ ∀ v' H' us, Go t H H' → IsWrds H' v' us → WrdsOk o us → us.length ≤ m → Q v' H'
theorem ok_law_words (T : Txt K mg) : Calls P w K mg base 3 "_law_words" ["_law_stream_here", "_law_order_here", "_law_most"] spLawWords := by
  have C_law_next := ok_law_next (P := P) (w := w) (base := base) T
  have C_law_word := ok_law_word (P := P) (w := w) (base := base) T
  refine mk_law_words T (fun vs H Q E h => ?_) (fun cdv A outer s H vs Q E hr h => ?_)
  · obtain ⟨t, v, o, m, rfl, _⟩ := h
    rfl
  · obtain ⟨t, v, o, m, rfl, st, ho, hl1, hl, hm, q⟩ := h
    refine ⟨_, (pss_cons (ps_set (i := 3) sc_law_words.nd rfl (by first | exact Or.inl rfl | exact Or.inr rfl) (pe_lstS pa_nil))
  (pss_cons (ps_for PassesOwn.never rfl (pi_range1 (by rfl) T.f_range (pa_cons (pe_callC C_law_next (hr.mono (by decide)) (by rfl) (pa_cons (pv 0) (pa_cons (pe_op op_add (pv 2) pe_int) pa_nil))) pa_nil)) (pg_name (i := 4) sc_law_words.nd rfl (by first | exact Or.inl rfl | exact Or.inr rfl))
  (pss_cons (ps_set (i := 5) sc_law_words.nd rfl (by first | exact Or.inl rfl | exact Or.inr rfl) (pe_callC C_law_word (hr.mono (by decide)) (by rfl) (pa_cons (pv 0) (pa_cons (pv 1) (pa_cons pe_int pa_nil)))))
  (pss_cons (ps_if (PW.pt (pw_and (pt_truthK (K := K) rfl (pv 3) (by intro _; rfl)) (pw_and1 (pt_cmpR op_eqIS (pe_callC C_law_next (hr.mono (by decide)) (by rfl) (pa_cons (pv 0) (pa_cons pe_int pa_nil))) pe_int (nomark _))))) (pss_one (ps_set (i := 5) sc_law_words.nd rfl (by first | exact Or.inl rfl | exact Or.inr rfl) (pe_ix (ix_listS (K := K) rfl) (pv 3) (pe_callC C_law_next (hr.mono (by decide)) (by rfl) (pa_cons (pv 0) (pa_cons (pe_callB (call_lenS (K := K) rfl) (by rfl) T.f_len boot_len' (pa_cons (pv 3) pa_nil)) pa_nil))) (fun _ _ => rfl)))) pss_nil)
  (pss_one (ps_expr (pe_bmK (K := K) rfl PySem.F.plainAttrs_list PySem.F.slot_list_append PySem.F.type_list_append mt_append (pv 3) (pa_cons (pv 5) pa_nil)))))))
  (pss_one (ps_ret (pe_callTy (call_tuple_ofS (K := K) rfl) (by rfl) T.f_tuple boot_tuple' (pa_cons (pv 3) pa_nil)))))), ?_⟩
    refine ⟨Nat.zero_le _, fun l H1 s1 nl e1 => ?_⟩
    have na := st.na nl
    refine ⟨_, rfl, _, rfl, _, _, rfl, rfl, t, m + 1, rfl, st.same s1, by omega, by omega, fun r H2 g2 hr2 => ?_⟩
    have g02 := (Go.of st s1).trans g2
    refine ⟨_, rfl, by omega, by omega, for_it walk_range (fun i σ H' => ∃ x4 x5 vs us, σ = [some (.ref t.a), some v, some (.int (m : Nat)), some (.ref l), x4, x5] ∧ Go t H H' ∧ H' l = some (.lst vs) ∧ us.length ≤ i ∧ Paired (IsWrd H') vs us ∧ WrdsOk o us)
      ⟨none, none, [], [], rfl, g02, g2.rest _ _ na e1, Nat.le_refl _, .nil, fun x hx => by cases hx⟩ (fun _ _ _ _ _ => trivial) (fun i z σ H3 H4 hi p yy => ?_) (fun σ H' p => ?_)⟩
    · obtain ⟨x4, x5, vs, us, rfl, g3, e3, hul, pr, hw⟩ := p
      obtain ⟨rfl, rfl⟩ := yy
      refine ⟨_, rfl, _, rfl, t, v, o, 3, rfl, g3.after, ho.kp g3.kp, hl1, hl, by omega, fun y H5 u g5 hy hu hu3 => ?_⟩
      have e5 := g5.rest _ _ na e3
      have g35 := g3.trans g5
      have pr5 := pr.mono fun _ _ => IsWrd.kp g5.kp
      have hvl : vs.length = us.length := Paired.length pr
      -- what is appended
      have app : ∀ (D : Ends) (H6 : Hp) (y : V) (u : List Str) (i0 : Int), Go t H5 H6 → IsWrd H6 y u → (∀ x ∈ u, x ∈ o.1) → u.length ≤ 3 → (∀ σ H', (∃ x4 x5 vs us, σ = [some (.ref t.a), some v, some (.int (m : Nat)), some (.ref l), x4, x5] ∧ Go t H H' ∧ H' l = some (.lst vs) ∧ us.length ≤ i + 1 ∧ Paired (IsWrd H') vs us ∧ WrdsOk o us) → D.nx σ H') →
          tDrop (tBM K "list" rAppend (tVar 3) (tCons (tVar 5) tNil)) D [some (.ref t.a), some v, some (.int (m : Nat)), some (.ref l), some (.int i0), some y] H6 := by
        intro D H6 y u i0 g6 hy hu hu3 hD
        have e6 := g6.rest _ _ na e5
        refine ⟨_, rfl, .inl ⟨rfl, _, .of e6⟩, _, rfl, l, vs, _, rfl, rfl, e6, small1000 (by omega), hD _ _ ⟨_, _, vs ++ [y], us ++ [u], rfl, (g35.trans g6).put nl, upd_same, by rw [List.length_append]; show us.length + 1 ≤ i + 1; omega, ?_, fun z hz => ?_⟩⟩
        · exact Paired.app (pr5.mono fun _ _ h => IsWrd.kp (Kp.upd e6) (IsWrd.kp g6.kp h)) (.cons (hy.kp (Kp.upd e6)) .nil)
        · rcases List.mem_append.mp hz with hz | hz
          · exact hw z hz
          · have : z = u := by simpa using hz
            exact this ▸ ⟨hu, hu3⟩
      cases vs with
      | nil =>
        refine ⟨_, rfl, false, .inl ⟨_, .of e5, rfl⟩, iteF ?_⟩
        exact app _ H5 y u _ (.of g5.after (Same.refl _)) hy hu hu3 fun σ H' h => h
      | cons x0 vs0 =>
        have hv0 : 0 < (x0 :: vs0).length := Nat.succ_pos _
        have hne : (!(x0 :: vs0).isEmpty) = true := rfl
        generalize x0 :: vs0 = vs at e3 pr e5 pr5 hvl app hv0 hne
        refine ⟨_, rfl, true, .inl ⟨_, .of e5, hne.symm⟩, iteT ?_⟩
        refine ⟨_, rfl, t, 6, rfl, g5.after, by omega, by omega, fun k6 H6 g6 hk6 => ?_⟩
        refine ⟨_, _, rfl, rfl, _, rfl, ?_⟩
        by_cases h1 : ((k6 : Nat) : Int) = 1
        · refine iteDT h1 ?_
          have e6 := g6.rest _ _ na e5
          refine ⟨_, rfl, _, rfl, _, rfl, _, vs.length, rfl, .inr (.inl ⟨_, _, rfl, .of e6, rfl⟩), t, vs.length, rfl, g6.after, hv0, by omega, fun k H7 g7 hk => ?_⟩
          have hx : vs[k]? = some (vs[k]'hk) := List.getElem?_eq_getElem hk
          generalize vs[k]'hk = x at hx
          have e7 := g7.rest _ _ na e6
          obtain ⟨u2, hu2, hx2⟩ := Paired.ta pr5 hx
          have hw2 := hw u2 (List.mem_of_getElem? hu2)
          refine ⟨_, _, _, k, _, rfl, rfl, .of e7, rfl, hx, ?_⟩
          exact app _ H7 x u2 _ (g6.trans g7) (hx2.kp (g6.trans g7).kp) hw2.1 hw2.2 fun σ H' h => h
        · exact iteDF h1 (app _ H6 y u _ g6 (hy.kp g6.kp) hu hu3 fun σ H' h => h)
    · obtain ⟨x4, x5, vs, us, rfl, g3, e3, hul, pr, hw⟩ := p
      refine ⟨_, rfl, l, _, rfl, .of e3, fun p H4 s4 h4 => q _ _ us (g3.sm s4) ⟨p, vs, rfl, h4, pr.mono fun _ _ => IsWrd.mono s4⟩ hw (by omega)⟩
/-! ### _law_given -/
def L8 : List Str := ["a", "b", "c", "d", "e", "x", "y", "z"]
theorem L8_nd : L8.Nodup := by decide +kernel
theorem L8_is : ∀ l ∈ L8, IsL l := by
  have h : ∀ l ∈ L8, ∃ c ∈ [97, 98, 99, 100, 101, 120, 121, 122], l = ⟨#[c]⟩ := by decide +kernel
  intro l hl
  obtain ⟨c, hc, e⟩ := h l hl
  refine ⟨c, e, ?_⟩
  simp only [List.mem_cons, List.not_mem_nil, or_false] at hc
  omega
theorem L8_len : L8.length = 8 := rfl
theorem can_app : ∀ {rs : List Rule} {o : Ord} {r : Rule}, CanAll o rs → canM (ledM o rs) r → CanAll o (rs ++ [r])
  | [], _, _, _, h => ⟨h, trivial⟩
  | _ :: rs, _, _, h, h2 => ⟨h.1, can_app (rs := rs) h.2 h2⟩
theorem led_app (o : Ord) (rs : List Rule) (r : Rule) : ledM o (rs ++ [r]) = putM (ledM o rs) r := by
  unfold ledM
  rw [List.foldl_append]
  rfl
theorem base_le (o : Ord) (z : Str) : (baseM o z).1.length ≤ o.1.length := by
  unfold baseM
  split
  · rename_i h
    have := idx_lt h
    show (o.1.take (idx o.1 z) ++ o.1.drop (idx o.1 z + 1)).length ≤ _
    rw [List.length_append, List.length_take, List.length_drop]
    omega
  · exact Nat.le_refl _
theorem at_len (o : Ord) (k : Nat) (s : Int) (z : Str) : (putAt o k s z).1.length = o.1.length + 1 := by
  show (o.1.take (k + 1) ++ [z] ++ o.1.drop (k + 1)).length = _
  simp only [List.length_append, List.length_take, List.length_drop, List.length_cons, List.length_nil]
  omega
theorem put_len (o : Ord) (r : Rule) : (putM o r).1.length ≤ o.1.length + 1 := by
  have h := base_le o r.z
  unfold putM
  split
  · unfold putAfterM
    rw [at_len]
    omega
  · show (putAfterM (turnM (baseM o r.z)) r.anchor r.s r.z).1.reverse.length ≤ _
    unfold putAfterM
    rw [List.length_reverse, at_len]
    show (baseM o r.z).1.reverse.length + 1 ≤ _
    rw [List.length_reverse]
    omega
def spGiven : Sp := fun vs H Q _ => ∃ (t : Sm) (m : Nat), vs = [.ref t.a, .int ((m : Nat) : Int)] ∧ Str_ t H ∧ m ≤ 12 ∧ ∀ p H' v o u rs v2 x ws (n : Nat), Go t H H' → H' p = some (.lst [v, u, v2, x, .int ((n : Nat) : Int)]) → IsOrd H' v o → IsRules H' u rs → ChgOk o rs → 3 ≤ o.1.length → IsWrds H' x ws → WrdsOk o ws → ws.length ≤ m → 1 ≤ n → n ≤ 3 → Q (.ref p) H'
theorem ok_law_given (T : Txt K mg) : Calls P w K mg base 4 "_law_given" ["_law_stream_here", "_law_most"] spGiven := by
  have C_law_order := ok_law_order (P := P) (w := w) (base := base) T
  have C_law_next := ok_law_next (P := P) (w := w) (base := base) T
  have C_law_rule := ok_law_rule (P := P) (w := w) (base := base) T
  have C_law_words := ok_law_words (P := P) (w := w) (base := base) T
  have C_law_put := ok_law_put (P := P) (w := w) (base := base) T
  refine mk_law_given T (fun vs H Q E h => ?_) (fun cdv A outer s H vs Q E hr h => ?_)
  · obtain ⟨t, m, rfl, _⟩ := h
    rfl
  · obtain ⟨t, m, rfl, st, hm, q⟩ := h
    refine ⟨_, (pss_cons (ps_set (i := 2) sc_law_given.nd rfl (by first | exact Or.inl rfl | exact Or.inr rfl) (pe_lstS (pa_cons pe_str (pa_cons pe_str (pa_cons pe_str (pa_cons pe_str (pa_cons pe_str (pa_cons pe_str (pa_cons pe_str (pa_cons pe_str pa_nil))))))))))
  (pss_cons (ps_set (i := 3) sc_law_given.nd rfl (by first | exact Or.inl rfl | exact Or.inr rfl) (pe_callC C_law_order (hr.mono (by decide)) (by rfl) (pa_cons (pv 0) (pa_cons (pv 2) (pa_cons (pe_op op_add pe_int (pe_callC C_law_next (hr.mono (by decide)) (by rfl) (pa_cons (pv 0) (pa_cons pe_int pa_nil)))) pa_nil)))))
  (pss_cons (ps_set (i := 4) sc_law_given.nd rfl (by first | exact Or.inl rfl | exact Or.inr rfl) (pe_lstS pa_nil))
  (pss_cons (ps_set (i := 5) sc_law_given.nd rfl (by first | exact Or.inl rfl | exact Or.inr rfl) (pv 3))
  (pss_cons (ps_for PassesOwn.never rfl (pi_range1 (by rfl) T.f_range (pa_cons (pe_callC C_law_next (hr.mono (by decide)) (by rfl) (pa_cons (pv 0) (pa_cons pe_int pa_nil))) pa_nil)) (pg_name (i := 6) sc_law_given.nd rfl (by first | exact Or.inl rfl | exact Or.inr rfl))
  (pss_cons (ps_set (i := 7) sc_law_given.nd rfl (by first | exact Or.inl rfl | exact Or.inr rfl) (pe_callC C_law_rule (hr.mono (by decide)) (by rfl) (pa_cons (pv 0) (pa_cons (pv 2) pa_nil))))
  (pss_one (ps_if (pt_cmpR (op_in_strS (K := K) rfl) (pe_ix ix_tupS (pv 7) pe_int (fun _ _ => rfl)) (pe_ix ix_tupS (pv 5) pe_int (fun _ _ => rfl)) (by rfl)) (pss_cons (ps_expr (pe_bmK (K := K) rfl PySem.F.plainAttrs_list PySem.F.slot_list_append PySem.F.type_list_append mt_append (pv 4) (pa_cons (pv 7) pa_nil)))
  (pss_one (ps_set (i := 5) sc_law_given.nd rfl (by first | exact Or.inl rfl | exact Or.inr rfl) (pe_callC C_law_put (hr.mono (by decide)) (by rfl) (pa_cons (pv 5) (pa_cons (pv 7) pa_nil)))))) pss_nil))))
  (pss_one (ps_ret (pe_lstS (pa_cons (pv 3) (pa_cons (pe_callTy (call_tuple_ofS (K := K) rfl) (by rfl) T.f_tuple boot_tuple' (pa_cons (pv 4) pa_nil)) (pa_cons (pv 5) (pa_cons (pe_callC C_law_words (hr.mono (by decide)) (by rfl) (pa_cons (pv 0) (pa_cons (pv 3) (pa_cons (pv 1) pa_nil)))) (pa_cons (pe_op op_add pe_int (pe_callC C_law_next (hr.mono (by decide)) (by rfl) (pa_cons (pv 0) (pa_cons pe_int pa_nil)))) pa_nil))))))))))))), ?_⟩
    refine ⟨le12 (by show 8 ≤ 1000; decide), fun ll H1 s1 nll e1 => ?_⟩
    have nal := st.na nll
    have e1' : H1 ll = some (.lst (L8.map V.str)) := e1
    have g1 := Go.of st s1
    refine ⟨_, rfl, _, rfl, _, rfl, t, 6, rfl, g1.after, by omega, by omega, fun k H2 g2 hk => ?_⟩
    have g12 := g1.trans g2
    have e2 := g2.rest _ _ nal e1'
    refine ⟨_, _, rfl, rfl, t, ll, L8, 3 + k, rfl, g12.after, e2, by decide, by omega, by rw [L8_len]; omega, L8_nd, L8_is, fun v H3 o g3 ho ok ho3 ho8 hoL => ?_⟩
    rw [L8_len] at ho8
    have g13 := g12.trans g3
    have e3 := g3.rest _ _ nal e2
    refine ⟨Nat.zero_le _, fun rl H4 s4 nrl e4 => ?_⟩
    have nrl0 := g13.free nrl
    have nar := st.na nrl0
    have g14 := g13.sm s4
    refine ⟨_, rfl, _, rfl, t, 5, rfl, g14.after, by omega, by omega, fun c H5 g5 hc => ?_⟩
    have g15 := g14.trans g5
    have k35 : Kp H3 H5 := (Kp.of s4).trans g5.kp
    refine ⟨_, rfl, by omega, by omega, for_it walk_range (fun i σ H' => ∃ x6 x7 vb vs rs, σ = [some (.ref t.a), some (.int (m : Nat)), some (.ref ll), some v, some (.ref rl), some vb, x6, x7] ∧ Go t H H' ∧ H' ll = some (.lst (L8.map V.str)) ∧ H' rl = some (.lst vs) ∧ IsOrd H' v o ∧ IsOrd H' vb (ledM o rs) ∧ Paired (IsRule H') vs rs ∧ (∀ r ∈ rs, RuleOk r) ∧ CanAll o rs ∧ rs.length ≤ i ∧ (ledM o rs).1.length ≤ 8 + rs.length)
      ⟨none, none, v, [], [], rfl, g15, g5.rest _ _ nal (s4 _ _ e3), g5.rest _ _ nar e4, ho.kp k35, ho.kp k35, .nil, (fun r hr => by cases hr), trivial, Nat.le_refl _, by show o.1.length ≤ 8 + 0; omega⟩ (fun _ _ _ _ _ => trivial) (fun i z σ H6 H7 hi p yy => ?_) (fun σ H' p => ?_)⟩
    · obtain ⟨x6, x7, vb, vs, rs, rfl, g6, e6, e6r, ho6, hb6, pr, rok, can, hrl, hbl⟩ := p
      obtain ⟨rfl, rfl⟩ := yy
      have hvl : vs.length = rs.length := Paired.length pr
      have hi4 : i < 4 := by omega
      have okb := (led_row ok rok can).1
      refine ⟨_, rfl, _, rfl, t, ll, L8, rfl, g6.after, e6, by decide, by decide, L8_nd, L8_is, fun vr H8 r g8 hr rk => ?_⟩
      obtain ⟨ru, rfl, hu⟩ := id hr
      obtain ⟨b1, b2, b3, rfl, hb1, hb2, hb3⟩ := hb6.kp g8.kp
      have e8 := g8.rest _ _ nal e6
      have e8r := g8.rest _ _ nar e6r
      have g68 := g6.trans g8
      refine ⟨_, rfl, _, _, _, _, _, rfl, rfl, (hu), rfl, (rfl), _, rfl, _, _, _, _, _, rfl, rfl, (hb1), rfl, (rfl), b2, (ledM o rs).1, r.anchor, rfl, rfl, .inr hb2.sq, _, rfl, ?_⟩
      by_cases hanc : r.anchor ∈ (ledM o rs).1
      · refine iteDT hanc ?_
        refine ⟨_, rfl, .inl ⟨rfl, _, .of e8r⟩, _, rfl, rl, vs, _, rfl, rfl, e8r, small1000 (by omega), ?_⟩
        have ku := Kp.upd (o := .lst (vs ++ [.ref ru])) e8r
        have g9 := g68.put (o := .lst (vs ++ [.ref ru])) nrl0
        have hlr : ll ≠ rl := ne_of_none (s1.trans (Same.refl _) |> fun _ => e3) nrl
        refine ⟨_, rfl, _, rfl, V.ref b1, ledM o rs, V.ref ru, r, rfl, ⟨b1, b2, b3, rfl, ku _ _ hb1, ku _ _ hb2, ku _ _ hb3⟩, ⟨ru, rfl, ku _ _ hu⟩, okb, rk, hanc, fun v' H' s' h' => ?_⟩
        have kf := ku.trans (Kp.of s')
        refine ⟨_, _, v', vs ++ [.ref ru], rs ++ [r], rfl, g9.sm s', s' _ _ (by rw [upd_ne hlr]; exact e8), s' _ _ upd_same, (ho6.kp g8.kp).kp kf, by rw [led_app]; exact h', Paired.app (pr.mono fun _ _ h => (h.kp g8.kp).kp kf) (.cons ⟨ru, rfl, kf _ _ hu⟩ .nil), fun y hy => ?_, can_app can ⟨hanc, .inr (by omega)⟩, by rw [List.length_append]; show rs.length + 1 ≤ i + 1; omega, ?_⟩
        · rcases List.mem_append.mp hy with hy | hy
          · exact rok y hy
          · have : y = r := by simpa using hy
            exact this ▸ rk
        · rw [led_app, List.length_append]
          have := put_len (ledM o rs) r
          show _ ≤ 8 + (rs.length + 1)
          omega
      · refine iteDF hanc ?_
        exact ⟨_, _, .ref b1, vs, rs, rfl, g68, e8, e8r, ho6.kp g8.kp, ⟨b1, b2, b3, rfl, hb1, hb2, hb3⟩, pr.mono fun _ _ h => h.kp g8.kp, rok, can, by omega, hbl⟩
    · obtain ⟨x6, x7, vb, vs, rs, rfl, g6, e6, e6r, ho6, hb6, pr, rok, can, hrl, hbl⟩ := p
      refine ⟨_, rfl, _, rfl, rl, _, rfl, .of e6r, fun tr Ha sa ha => ?_⟩
      have g6a := g6.sm sa
      refine ⟨_, rfl, _, rfl, _, rfl, _, rfl, t, v, o, m, rfl, g6a.after, ho6.mono sa, by omega, by omega, hm, fun vw Hb ws gb hw wok wl => ?_⟩
      refine ⟨_, rfl, t, 3, rfl, gb.after, by omega, by omega, fun n Hc gc hn => ?_⟩
      refine ⟨_, _, rfl, rfl, le12 (by show 5 ≤ 1000; decide), fun p Hd sd np ed => ?_⟩
      have kf := (gb.kp.trans gc.kp).trans (Kp.of sd)
      refine q p Hd v o (.ref tr) rs vb vw ws (1 + n) ((g6a.trans (gb.trans gc)).sm sd) ed ((ho6.mono sa).kp kf) ⟨tr, vs, rfl, kf _ _ ha, pr.mono fun _ _ h => (h.mono sa).kp kf⟩ ⟨ok, by omega, rok, can⟩ ho3 (hw.kp (gc.kp.trans (Kp.of sd))) wok wl (by omega) (by omega)
end
end Pf
namespace Pf
open PySem PySem.Spec PyProof.Rows L2
section
variable {P : Program} {w : World} {K : PySem.W.Frag} {mg : Str → Option Value} {base : Heap}
/-! ### _law_sorted -/
def spLawSorted : Sp := fun vs H Q _ => ∃ v o x ws n, vs = [v, x, .int ((n : Nat) : Int)] ∧ IsOrd H v o ∧ OrdOk o ∧ IsWrds H x ws ∧ WsOk o ws ∧ 1 ≤ n ∧ n ≤ 3 ∧
  ∀ p H', Same H H' → H p = none → H' p = some (.lst (idxs (sortedM o ws n))) → Q (.ref p) H'
theorem ok_law_sorted (T : Txt K mg) : Calls P w K mg base 6 "_law_sorted" ["_law_order_here", "_law_words_here", "_law_level"] spLawSorted := by
  have C_compare := ok_compare (P := P) (w := w) (base := base) T
  refine mk_law_sorted T (fun vs H Q E h => ?_) (fun cdv A outer s H vs Q E hr h => ?_)
  · obtain ⟨v, o, x, ws, n, rfl, _⟩ := h
    rfl
  · obtain ⟨v, o, x, ws, n, rfl, ho, ok, ⟨y, us, rfl, hy, pr⟩, wk, hn1, hn, q⟩ := h
    have few := wk.few
    have el : us.length = ws.length := Paired.length pr
    refine ⟨_, (pss_cons (ps_set (i := 3) sc_law_sorted.nd rfl (by first | exact Or.inl rfl | exact Or.inr rfl) (pe_lstS pa_nil))
  (pss_cons (ps_for PassesOwn.never rfl (pi_range1 (by rfl) T.f_range (pa_cons (pe_callB (call_lenS (K := K) rfl) (by rfl) T.f_len boot_len' (pa_cons (pv 1) pa_nil)) pa_nil)) (pg_name (i := 4) sc_law_sorted.nd rfl (by first | exact Or.inl rfl | exact Or.inr rfl))
  (pss_cons (ps_set (i := 5) sc_law_sorted.nd rfl (by first | exact Or.inl rfl | exact Or.inr rfl) (pe_callB (call_lenS (K := K) rfl) (by rfl) T.f_len boot_len' (pa_cons (pv 3) pa_nil)))
  (pss_cons (ps_for PassesOwn.never rfl (pi_range1 (by rfl) T.f_range (pa_cons (pe_callB (call_lenS (K := K) rfl) (by rfl) T.f_len boot_len' (pa_cons (pv 3) pa_nil)) pa_nil)) (pg_name (i := 6) sc_law_sorted.nd rfl (by first | exact Or.inl rfl | exact Or.inr rfl))
  (pss_one (ps_if (pt_cmpR op_lt (pe_callC C_compare (hr.mono (by decide)) (by rfl) (pa_cons (pv 0) (pa_cons (pe_ix ix_tupS (pv 1) (pv 4) (fun _ _ => rfl)) (pa_cons (pe_ix ix_tupS (pv 1) (pe_ix (ix_listS (K := K) rfl) (pv 3) (pv 6) (fun _ _ => rfl)) (fun _ _ => rfl)) (pa_cons (pv 2) pa_nil))))) pe_int (nomark _)) (pss_cons (ps_set (i := 5) sc_law_sorted.nd rfl (by first | exact Or.inl rfl | exact Or.inr rfl) (pv 6))
  (pss_one ps_break)) pss_nil)))
  (pss_one (ps_expr (pe_bmK (K := K) rfl PySem.F.plainAttrs_list PySem.F.slot_list_insert PySem.F.type_list_insert mt_insert (pv 3) (pa_cons (pv 5) (pa_cons (pv 4) pa_nil))))))))
  (pss_one (ps_ret (pv 3))))), ?_⟩
    refine ⟨Nat.zero_le _, fun l H1 s1 nl e1 => ?_⟩
    refine ⟨_, rfl, _, us.length, rfl, .inr (.inr ⟨_, _, rfl, hy.same s1, rfl⟩), _, rfl, by omega, by omega, for_it walk_range (fun i σ H' => ∃ x4 x5 x6, σ = [some v, some (.ref y), some (.int (n : Int)), some (.ref l), x4, x5, x6] ∧ Same H H' ∧ H' l = some (.lst (idxs (rowM (ltK (keyAt o ws n)) i))))
      ⟨none, none, none, rfl, s1, e1⟩ (fun _ _ _ _ _ => trivial) (fun i z σ H3 H4 hi p yy => ?_) (fun σ H' p => ?_)⟩
    · obtain ⟨x4, x5, x6, rfl, s3, e3⟩ := p
      obtain ⟨rfl, rfl⟩ := yy
      have hi' : i < us.length := by omega
      have ei : (0 : Int) + ((i : Nat) : Int) = ((i : Nat) : Int) := by omega
      have hu : ∃ uw, ws[i]? = some uw := ⟨_, List.getElem?_eq_getElem (by omega)⟩
      obtain ⟨uw, hu1⟩ := hu
      obtain ⟨y2, f2, hu2⟩ := Paired.at pr hu1
      have wu := wk.at hu1
      have hrl := rowM_len (ltK (keyAt o ws n)) i
      have hmem : ∀ a j : Nat, (rowM (ltK (keyAt o ws n)) i)[a]? = some j → j < i := fun a j e => rowM_mem _ (List.mem_of_getElem? e)
      have hnext : rowM (ltK (keyAt o ws n)) (i + 1) = insM (ltK (keyAt o ws n) i) i (rowM (ltK (keyAt o ws n)) i) := rfl
      generalize rowM (ltK (keyAt o ws n)) i = row at e3 hrl hmem hnext
      have ins : ∀ (k : Nat), k = placeM (ltK (keyAt o ws n) i) row → ∀ (H6 : Hp) (D : Ends) (k0 : Int) (x6 : Option V), k0 = (k : Nat) → Same H H6 → H6 l = some (.lst (idxs row)) → (∀ x4 x5 x6 H7, Same H H7 → H7 l = some (.lst (idxs (insM (ltK (keyAt o ws n) i) i row))) → D.nx [some v, some (.ref y), some (.int (n : Int)), some (.ref l), x4, x5, x6] H7) →
          tDrop (tBM K "list" (fun x vs H Q => ∃ (l : Addr) (xs : List V) (i : Int) (y : V), x = .ref l ∧ vs = [.int i, y] ∧ H l = some (.lst xs) ∧ xs.length < sizeLine ∧ 0 ≤ i ∧ i < 2 ^ 63 ∧ Q .non (upd H l (.lst (xs.take i.toNat ++ [y] ++ xs.drop i.toNat)))) (tVar 3) (tCons (tVar 5) (tCons (tVar 4) tNil))) D
            [some v, some (.ref y), some (.int (n : Int)), some (.ref l), some (.int (0 + (i : Nat))), some (.int k0), x6] H6 := by
        intro k hk H6 D k0 x6 hk0 s6 e6 hD
        subst hk0
        have hkr : k ≤ row.length := hk ▸ placeM_le _ row
        refine ⟨_, rfl, .inl ⟨rfl, _, .of e6⟩, _, rfl, _, rfl, l, _, (k : Int), _, rfl, rfl, e6, ?_, by omega, by omega, ?_⟩
        · unfold idxs
          rw [List.length_map]
          exact small1000 (by omega)
        · refine hD _ _ _ _ (same_of s6 nl) ?_
          rw [upd_same, ei]
          unfold insM idxs
          rw [← hk]
          simp
      refine ⟨_, rfl, _, row.length, rfl, .inr (.inl ⟨_, _, rfl, .of e3, (List.length_map _).symm⟩), ?_⟩
      refine ⟨_, rfl, _, row.length, rfl, .inr (.inl ⟨_, _, rfl, .of e3, (List.length_map _).symm⟩), _, rfl, by omega, by omega, for_it walk_range (fun k σ H' => ∃ x6, σ = [some v, some (.ref y), some (.int (n : Int)), some (.ref l), some (.int (0 + (i : Nat))), some (.int ((row.length : Nat) : Int)), x6] ∧ Same H H' ∧ H' l = some (.lst (idxs row)) ∧ ∀ (a x : Nat), a < k → row[a]? = some x → ltK (keyAt o ws n) i x = false)
        ⟨_, rfl, s3, e3, fun a x ha => absurd ha (Nat.not_lt_zero _)⟩ (fun _ _ _ _ _ => trivial) (fun k z σ H5 H6 hk p yy => ?_) (fun σ H' p => ?_)⟩
      · obtain ⟨x6, rfl, s5, e5, hall⟩ := p
        obtain ⟨rfl, rfl⟩ := yy
        have hk' : k < row.length := by omega
        have ek : (0 : Int) + ((k : Nat) : Int) = ((k : Nat) : Int) := by omega
        have hj : row[k]? = some (row[k]'hk') := List.getElem?_eq_getElem hk'
        generalize row[k]'hk' = j at hj
        have hji := hmem _ _ hj
        have hw : ∃ w2, ws[j]? = some w2 := ⟨_, List.getElem?_eq_getElem (by omega)⟩
        obtain ⟨w2, hw2⟩ := hw
        obtain ⟨z2, g1, g2⟩ := Paired.at pr hw2
        refine ⟨_, rfl, _, rfl, _, rfl, _, _, _, i, _, rfl, rfl, hy.same s5, ei, f2, _, rfl, _, rfl, _, rfl, _, _, _, k, _, rfl, rfl, .of e5, ek, idxs_at hj, _, _, _, j, z2, rfl, rfl, hy.same s5, rfl, g1, _, rfl,
          v, o, y2, uw, z2, w2, n, rfl, ho.mono s5, ok, hu2.mono s5, wu, g2.mono s5, wk.at hw2, hn1, hn, fun H6 s6 => ?_⟩
        refine ⟨_, _, rfl, rfl, _, rfl, ?_⟩
        have s56 := s5.trans s6
        have e6 := s6 _ _ e5
        by_cases hlt : cmpO o uw w2 n < 0
        · refine iteDT hlt ⟨_, rfl, ?_⟩
          refine ins k ?_ H6 _ (0 + (k : Nat)) _ ek s56 e6 ?_
          · refine placeM_front _ hall (.inr ⟨j, hj, ?_⟩)
            rw [cmp_neg hu1 hw2] at hlt
            exact hlt
          · exact fun x4 x5 x6 H7 s7 e7 => ⟨x4, x5, x6, rfl, s7, by rw [hnext]; exact e7⟩
        · refine iteDF hlt ⟨_, rfl, s56, e6, fun a x ha e => ?_⟩
          rcases Nat.lt_or_ge a k with hak | hak
          · exact hall a x hak e
          · have : a = k := by omega
            subst this
            rw [hj] at e
            cases e
            rw [cmp_neg hu1 hw2] at hlt
            cases q2 : ltK (keyAt o ws n) i j with
            | true => exact absurd q2 hlt
            | false => rfl
      · obtain ⟨x6, rfl, s5, e5, hall⟩ := p
        refine ins row.length ?_ H' _ _ _ rfl s5 e5 ?_
        · refine placeM_front _ (fun a x ha e => hall a x ?_ e) (.inl rfl)
          omega
        · exact fun x4 x5 x6 H7 s7 e7 => ⟨x4, x5, x6, rfl, s7, by rw [hnext]; exact e7⟩
    · obtain ⟨x4, x5, x6, rfl, s3, e3⟩ := p
      rw [show ((us.length : Nat) : Int).toNat = us.length by omega, el] at e3
      exact ⟨_, rfl, q l H' s3 nl e3⟩
end
end Pf
namespace Pf
open PySem PySem.Spec PyProof.Rows L2
section
variable {P : Program} {w : World} {K : PySem.W.Frag} {mg : Str → Option Value} {base : Heap}
/-! ### orders as data -/
def dS (l : List Str) : PyData := .tuple (l.map .str)
def dO (o : Ord) : PyData := .tuple [dS o.1, dI o.2]
theorem eqv_strs : ∀ a b : List Str, PyData.eqvAll (a.map .str) (b.map .str) = decide (a = b)
  | [], [] => by simp [PyData.eqvAll]
  | [], _ :: _ => by simp [PyData.eqvAll]
  | _ :: _, [] => by simp [PyData.eqvAll]
  | x :: a, y :: b => by
    have ih := eqv_strs a b
    simp only [List.map_cons, PyData.eqvAll, PyData.eqv, ih]
    by_cases h : x = y <;> by_cases h' : a = b <;> simp [h, h']
theorem eqv_dS (a b : List Str) : PyData.eqv (dS a) (dS b) = decide (a = b) := by
  unfold dS
  rw [PyData.eqv, eqv_strs]
theorem eqv_dO (a b : Ord) : PyData.eqv (dO a) (dO b) = decide (a = b) := by
  obtain ⟨a1, a2⟩ := a
  obtain ⟨b1, b2⟩ := b
  unfold dO
  simp only [PyData.eqv, PyData.eqvAll, eqv_dS, eqv_dI]
  by_cases h : a1 = b1 <;> by_cases h' : a2 = b2 <;> simp [h, h']
theorem strOk_l {l : Str} (h : IsL l) : PyData.strOk l = true := by
  obtain ⟨c, rfl, h1, h2⟩ := h
  have : decide (c < 0x110000) = true := decide_eq_true (by omega)
  simp [PyData.strOk, this]
theorem lay_strs : ∀ {a : List Str}, (∀ l ∈ a, IsL l) → PyData.canLayAll0 (a.map .str) = true ∧ PyData.depthAll (a.map .str) = 0
  | [], _ => by simp [PyData.canLayAll0, PyData.depthAll]
  | x :: a, h => by
    have ih := lay_strs (a := a) fun l hl => h l (by simp [hl])
    simp [PyData.canLayAll0, PyData.depthAll, PyData.canLay0, PyData.depth, ih, strOk_l (h x (by simp))]
theorem shaped_dO {o : Ord} (h : ∀ l ∈ o.1, IsL l) : SeqAt.shaped (dO o) = true := by
  have h1 := lay_strs h
  have h2 := lay_ints o.2
  unfold dO dS dI SeqAt.shaped
  simp [PyData.canLay0, PyData.depth, PyData.canLayAll0, PyData.depthAll, h1, h2]
theorem dp_strs {H : Hp} : ∀ l : List Str, DpAll K H (l.map V.str) (l.map .str)
  | [] => .nil
  | x :: l => .cons (.str x) (dp_strs l)
theorem dp_ord {H : Hp} {v : V} {o : Ord} (h : IsOrd H v o) : Dp K H v (dO o) := by
  obtain ⟨a, b, c, rfl, h1, h2, h3⟩ := h
  exact .tup h1.sq (.cons (.tup h2.sq (dp_strs _)) (.cons (.tup h3.sq (dp_ints _)) .nil))
def dX (l : List Nat) : PyData := dI (l.map fun j => ((j : Nat) : Int))
theorem dp_idxs {H : Hp} {p : Addr} {l : List Nat} (h : FzT H p (idxs l)) : Dp K H (.ref p) (dX l) := by
  have e : idxs l = (l.map fun j => ((j : Nat) : Int)).map V.int := by
    unfold idxs
    rw [List.map_map]
    rfl
  rw [e] at h
  exact .tup h.sq (dp_ints _)
theorem eqv_dX (l : List Nat) : PyData.eqv (dX l) (dX l) = true := by
  unfold dX
  rw [eqv_dI]
  exact decide_eq_true rfl
theorem shaped_dX (l : List Nat) : SeqAt.shaped (dX l) = true := shaped_dI _
theorem dp_nil {H : Hp} {p : Addr} (h : H p = some (.lst [])) : Dp K H (.ref p) (.list []) := .lst (.of h) .nil
theorem shaped_nil : SeqAt.shaped (.list []) = true := by decide +kernel
theorem eqv_nil : PyData.eqv (.list []) (.list []) = true := by simp [PyData.eqv, PyData.eqvAll]
/-! ### words without moved letters -/
theorem mem_moved {o : Ord} {rs : List Rule} {x : Str} : x ∈ movedM o rs ↔ x ∈ o.1 ∧ ∃ r ∈ rs, r.z = x := by
  unfold movedM
  rw [List.mem_filter, decide_eq_true_iff, List.mem_map]
theorem calm_two {o : Ord} {rs : List Rule} {u v : List Str} {n : Nat} (hn : n ≤ 3) (c : ChgOk o rs) (hu : ∀ x ∈ u, x ∈ o.1 ∧ x ∉ movedM o rs) (hv : ∀ x ∈ v, x ∈ o.1 ∧ x ∉ movedM o rs) : cmpO (ledM o rs) u v n = cmpO o u v n := by
  refine cmp_calm hn c.ok c.rok c.can (fun x hx => ⟨(hu x hx).1, fun r hr e => (hu x hx).2 (mem_moved.mpr ⟨(hu x hx).1, r, hr, e⟩)⟩) (fun x hx => ⟨(hv x hx).1, fun r hr e => (hv x hx).2 (mem_moved.mpr ⟨(hv x hx).1, r, hr, e⟩)⟩)
theorem chg_moved {o : Ord} {rs : List Rule} {ws : List (List Str)} {n : Nat} {p : Nat × Nat} (hn : n ≤ 3) (c : ChgOk o rs) (wk : WsOk o ws) (h : Chg o (ledM o rs) ws n p) :
    ∃ u v, ws[p.1]? = some u ∧ ws[p.2]? = some v ∧ ((u ++ v).map fun z => decide (z ∈ movedM o rs)).any id = true := by
  obtain ⟨u, v, hu, hv, ne⟩ := h
  refine ⟨u, v, hu, hv, ?_⟩
  cases e : ((u ++ v).map fun z => decide (z ∈ movedM o rs)).any id with
  | true => rfl
  | false =>
    exfalso
    have hno : ∀ x ∈ u ++ v, x ∉ movedM o rs := fun x hx hm => by
      have : ((u ++ v).map fun z => decide (z ∈ movedM o rs)).any id = true := by
        rw [List.any_eq_true]
        exact ⟨true, List.mem_map.mpr ⟨x, hx, decide_eq_true hm⟩, rfl⟩
      rw [e] at this
      cases this
    exact ne (calm_two hn c (fun x hx => ⟨(wk.at hu).mem x hx, hno x (List.mem_append_left _ hx)⟩) (fun x hx => ⟨(wk.at hv).mem x hx, hno x (List.mem_append_right _ hx)⟩)).symm
def calmW (o : Ord) (rs : List Rule) (u : List Str) : List Str := u.filter fun z => !decide (z ∈ movedM o rs)
theorem calmW_mem {o : Ord} {rs : List Rule} {u : List Str} {x : Str} (h : x ∈ calmW o rs u) : x ∈ u ∧ x ∉ movedM o rs := by
  obtain ⟨h1, h2⟩ := List.mem_filter.mp h
  exact ⟨h1, fun z => by rw [decide_eq_true z] at h2; cases h2⟩
def calmM (o : Ord) (rs : List Rule) (ws : List (List Str)) : List (List Str) := ws.map (calmW o rs)
theorem calmM_ok {o : Ord} {rs : List Rule} {ws : List (List Str)} (wk : WsOk o ws) : WsOk o (calmM o rs ws) := by
  refine ⟨by unfold calmM; rw [List.length_map]; exact wk.few, fun u hu => ?_⟩
  obtain ⟨u0, h0, rfl⟩ := List.mem_map.mp hu
  have w0 := wk.wok u0 h0
  exact ⟨fun x hx => w0.mem x (calmW_mem hx).1, Nat.le_trans (List.length_filter_le _ _) w0.len⟩
theorem calmM_calm {o : Ord} {rs : List Rule} {ws : List (List Str)} {n : Nat} (hn : n ≤ 3) (c : ChgOk o rs) (wk : WsOk o ws) : Calm o rs (calmM o rs ws) n := by
  have key : ∀ u ∈ calmM o rs ws, ∀ x ∈ u, x ∈ o.1 ∧ x ∉ movedM o rs := fun u hu x hx => by
    obtain ⟨u0, h0, rfl⟩ := List.mem_map.mp hu
    exact ⟨(wk.wok u0 h0).mem x (calmW_mem hx).1, (calmW_mem hx).2⟩
  exact fun u hu v hv => calm_two hn c (key u hu) (key v hv)
theorem calm_of_same {o : Ord} {rs : List Rule} {ws : List (List Str)} {n : Nat} (h : ledM o rs = o) : Calm o rs ws n := fun u _ v _ => by rw [h]
theorem chg_of_same {o : Ord} {rs : List Rule} {ws : List (List Str)} {n : Nat} {prs : List (Nat × Nat)} (h : ledM o rs = o) (hp : ∀ z ∈ prs, Chg o (ledM o rs) ws n z) : prs = [] := by
  cases prs with
  | nil => rfl
  | cons z r =>
    obtain ⟨u, v, _, _, ne⟩ := hp z (by simp)
    rw [h] at ne
    exact absurd rfl ne
end
end Pf
namespace Pf
open PySem PySem.Spec PyProof.Rows L2
section
variable {P : Program} {w : World} {K : PySem.W.Frag} {mg : Str → Option Value} {base : Heap}
/-! ### the law -/
def blS (f : Str → Bool) : V → Option V
  | .str z => some (V.bl (f z))
  | _ => none
theorem bl_strs (f : Str → Bool) : ∀ L : List Str, (L.map V.str).filterMap (blS f) = (L.map f).map V.bl
  | [] => rfl
  | z :: L => by
    rw [List.map_cons, List.filterMap_cons, bl_strs f L]
    rfl
def keepS (p : Str → Bool) : V → Option V
  | .str z => if p z = true then some (V.str z) else none
  | _ => none
theorem filt_keep (p : Str → Bool) : ∀ L : List Str, (L.map V.str).filterMap (keepS p) = (L.filter p).map V.str
  | [] => rfl
  | z :: L => by
    rw [List.map_cons, List.filterMap_cons, List.filter_cons, filt_keep p L]
    have e : keepS p (V.str z) = if p z = true then some (V.str z) else none := rfl
    rw [e]
    cases h : p z with
    | true => simp
    | false => simp
def spLaw (K : PySem.W.Frag) : Sp := fun vs H Q _ => ∃ (s : Addr) (xs : List Int), vs = [.ref s] ∧ SqL K H s (xs.map V.int) ∧ ∀ H', Q (.bl true) H'
theorem IsWrds.at {H : Hp} {y : Addr} {us : List V} {ws : List (List Str)} {i : Nat} {u : List Str} (pr : Paired (IsWrd H) us ws) (e : ws[i]? = some u) : ∃ a, us[i]? = some (.ref a) ∧ FzT H a (u.map V.str) := by
  obtain ⟨z, h1, a, rfl, h2⟩ := Paired.at pr e
  exact ⟨a, h1, h2⟩
theorem nox_ex {X : Cx} {body : List Stmt} {R : TS → Prop} (h : ∃ t, PSs X.nox body t ∧ R t) : ∃ t, PSs X body t ∧ R t := let ⟨t, a, b⟩ := h; ⟨t, a.nox, b⟩
theorem fn_law (T : Txt K mg) {f : Addr} {fd : FuncData} (F : FunD K "law" "law" (defArgs s_law) (defBody s_law) (defScope s_law) [] [] f fd) : FnOk P w K mg base CX0 8 f fd ["_law_script"] (spLaw K) := by
  have C_law_stream := ok_law_stream (P := P) (w := w) (base := base) T
  have C_law_given := ok_law_given (P := P) (w := w) (base := base) T
  have C_moved_in := ok_moved_in (P := P) (w := w) (base := base) T
  have C_changed_pairs := ok_changed_pairs (P := P) (w := w) (base := base) T
  have C_law_sorted := ok_law_sorted (P := P) (w := w) (base := base) T
  have C_law_led := ok_law_led (P := P) (w := w) (base := base) T
  have C_staying := ok_staying (P := P) (w := w) (base := base) T
  have C_cover_for := ok_cover_for (P := P) (w := w) (base := base) T
  refine F.ok sc_law (fun vs H Q E h => ?_) (fun cdv A outer s H vs Q E hr h => nox_ex ?_)
  · obtain ⟨s, xs, rfl, _⟩ := h
    rfl
  · obtain ⟨s0, xs, rfl, hx, q⟩ := h
    refine ⟨_, (pss_cons (ps_set (i := 1) sc_law.nd rfl (by first | exact Or.inl rfl | exact Or.inr rfl) (pe_callC C_law_stream (hr.mono (by decide)) (by rfl) (pa_cons (pv 0) pa_nil)))
  (pss_cons (ps_asg (pe_callC C_law_given (hr.mono (by decide)) (by rfl) (pa_cons (pv 1) (pa_cons pe_int pa_nil))) (pg_unlK (K := K) (n := 5) rfl rfl (pgs_cons (pg_name (i := 2) sc_law.nd rfl (by first | exact Or.inl rfl | exact Or.inr rfl)) (pgs_cons (pg_name (i := 3) sc_law.nd rfl (by first | exact Or.inl rfl | exact Or.inr rfl)) (pgs_cons (pg_name (i := 4) sc_law.nd rfl (by first | exact Or.inl rfl | exact Or.inr rfl)) (pgs_cons (pg_name (i := 5) sc_law.nd rfl (by first | exact Or.inl rfl | exact Or.inr rfl)) (pgs_cons (pg_name (i := 6) sc_law.nd rfl (by first | exact Or.inl rfl | exact Or.inr rfl)) pgs_nil)))))))
  (pss_cons (ps_set (i := 7) sc_law.nd rfl (by first | exact Or.inl rfl | exact Or.inr rfl) (pe_callC C_moved_in (hr.mono (by decide)) (by rfl) (pa_cons (pv 2) (pa_cons (pv 3) pa_nil))))
  (pss_cons (ps_for PassesOwn.never rfl (pi_range2 (by rfl) T.f_range (pa_cons pe_int (pa_cons pe_int pa_nil))) (pg_name (i := 8) sc_law.nd rfl (by first | exact Or.inl rfl | exact Or.inr rfl))
  (pss_one (ps_for PassesOwn.never rfl (pi_listK (K := K) rfl (pe_callC C_changed_pairs (hr.mono (by decide)) (by rfl) (pa_cons (pv 2) (pa_cons (pv 3) (pa_cons (pv 5) (pa_cons (pv 8) pa_nil)))))) (pg_tupK (K := K) (n := 2) rfl rfl (pgs_cons (pg_name (i := 9) sc_law.nd rfl (by first | exact Or.inl rfl | exact Or.inr rfl)) (pgs_cons (pg_name (i := 10) sc_law.nd rfl (by first | exact Or.inl rfl | exact Or.inr rfl)) pgs_nil)))
  (pss_one (ps_if (pt_not (pt_val (pe_callB (cr_anyK (K := K) rfl rfl) (by rfl) T.f_any boot_any' (pa_cons (pe_lc (own := [("_law_letter", 14)]) (by rfl) sc_law.nd (pi_tupK (K := K) rfl (pe_op op_catS (pe_ix ix_tupS (pv 5) (pv 9) (fun _ _ => rfl)) (pe_ix ix_tupS (pv 5) (pv 10) (fun _ _ => rfl)))) (blkOk_by (own := [("_law_letter", 14)]) (N := N_law) (sc := (defScope s_law)) (by decide +kernel)) (fun _ _ _ _ _ => (pg_name (i := 14) sc_law.nd rfl (by first | exact Or.inl rfl | exact Or.inr rfl))) (fun _ _ _ _ _ => pts_nil) (fun _ _ _ _ _ => (pe_cmpR (op_in_strS (K := K) rfl) (pv 14) (pv 7) (by rfl)))) pa_nil)))) (pss_one (ps_ret pe_bl)) pss_nil)))))
  (pss_cons (ps_set (i := 11) sc_law.nd rfl (by first | exact Or.inl rfl | exact Or.inr rfl) (pe_callTy (call_tuple_ofS (K := K) rfl) (by rfl) T.f_tuple boot_tuple' (pa_cons (pe_lc (own := [("_law_word_here", 15)]) (by rfl) sc_law.nd (pi_tupK (K := K) rfl (pv 5)) (blkOk_by (own := [("_law_word_here", 15)]) (N := N_law) (sc := (defScope s_law)) (by decide +kernel)) (fun _ _ _ _ _ => (pg_name (i := 15) sc_law.nd rfl (by first | exact Or.inl rfl | exact Or.inr rfl))) (fun _ _ _ _ _ => pts_nil) (fun _ _ _ _ _ => (pe_callTy (call_tuple_ofS (K := K) rfl) (by rfl) T.f_tuple boot_tuple' (pa_cons (pe_lc (own := [("_law_letter", 14)]) (by rfl) sc_law.nd (pi_tupK (K := K) rfl (pv 15)) (blkOk_by (own := [("_law_letter", 14)]) (N := N_law) (sc := (relS _ (defScope s_law))) (by decide +kernel)) (fun _ _ _ _ _ => (pg_name (i := 14) sc_law.nd rfl (by first | exact Or.inl rfl | exact Or.inr rfl))) (fun _ _ _ _ _ => (pts_one (pt_cmpR (op_notIn_strS (K := K) rfl) (pv 14) (pv 7) (by rfl)))) (fun _ _ _ _ _ => (pv 14))) pa_nil)))) pa_nil)))
  (pss_cons (ps_set (i := 12) sc_law.nd rfl (by first | exact Or.inl rfl | exact Or.inr rfl) (pe_callTy (call_tuple_ofS (K := K) rfl) (by rfl) T.f_tuple boot_tuple' (pa_cons (pe_callC C_law_sorted (hr.mono (by decide)) (by rfl) (pa_cons (pv 2) (pa_cons (pv 11) (pa_cons (pv 6) pa_nil)))) pa_nil)))
  (pss_cons (ps_if (PW.pt (pw_or (pt_cmpR (op_neDK (K := K) rfl hr.units) (pe_callC C_staying (hr.mono (by decide)) (by rfl) (pa_cons (pv 2) (pa_cons (pv 3) (pa_cons (pv 11) (pa_cons (pv 6) pa_nil))))) (pv 12) (nomark _)) (pw_or1 (pt_cmpR op_neIS (pe_callB (call_lenS (K := K) rfl) (by rfl) T.f_len boot_len' (pa_cons (pe_callC C_cover_for (hr.mono (by decide)) (by rfl) (pa_cons (pv 2) (pa_cons (pv 3) (pa_cons (pv 11) (pa_cons (pv 6) pa_nil))))) pa_nil)) (pe_callB (call_lenS (K := K) rfl) (by rfl) T.f_len boot_len' (pa_cons (pv 12) pa_nil)) (nomark _))))) (pss_one (ps_ret pe_bl)) pss_nil)
  (pss_cons (ps_set (i := 12) sc_law.nd rfl (by first | exact Or.inl rfl | exact Or.inr rfl) (pe_callTy (call_tuple_ofS (K := K) rfl) (by rfl) T.f_tuple boot_tuple' (pa_cons (pe_callC C_law_sorted (hr.mono (by decide)) (by rfl) (pa_cons (pv 2) (pa_cons (pv 5) (pa_cons (pv 6) pa_nil)))) pa_nil)))
  (pss_cons (ps_if (PW.pt (pw_or (pt_cmpR (op_neDK (K := K) rfl hr.units) (pe_callC C_staying (hr.mono (by decide)) (by rfl) (pa_cons (pv 2) (pa_cons (pe_tupS pa_nil) (pa_cons (pv 5) (pa_cons (pv 6) pa_nil))))) (pv 12) (nomark _)) (pw_or1 (pt_cmpR (op_neDK (K := K) rfl hr.units) (pe_callC C_changed_pairs (hr.mono (by decide)) (by rfl) (pa_cons (pv 2) (pa_cons (pe_tupS pa_nil) (pa_cons (pv 5) (pa_cons (pv 6) pa_nil))))) (pe_lstS pa_nil) (nomark _))))) (pss_one (ps_ret pe_bl)) pss_nil)
  (pss_cons (ps_set (i := 13) sc_law.nd rfl (by first | exact Or.inl rfl | exact Or.inr rfl) (pe_lstS (pa_cons (pe_tupS (pa_cons pe_str (pa_cons (pe_ix ix_tupS (pe_ix ix_tupS (pv 2) pe_int (fun _ _ => rfl)) pe_int (fun _ _ => rfl)) (pa_cons (pe_ix ix_tupS (pe_ix ix_tupS (pv 2) pe_int (fun _ _ => rfl)) pe_int (fun _ _ => rfl)) (pa_cons (pe_ix ix_tupS (pe_ix ix_tupS (pv 2) pe_int (fun _ _ => rfl)) pe_int (fun _ _ => rfl)) pa_nil))))) pa_nil)))
  (pss_cons (ps_if (pt_cmpR (op_eqDK (K := K) rfl hr.units) (pe_callC C_law_led (hr.mono (by decide)) (by rfl) (pa_cons (pv 2) (pa_cons (pv 13) pa_nil))) (pv 2) (nomark _)) (pss_one (ps_ret (pe_and (pe_cmpR (op_eqDK (K := K) rfl hr.units) (pe_callC C_staying (hr.mono (by decide)) (by rfl) (pa_cons (pv 2) (pa_cons (pe_callTy (call_tuple_ofS (K := K) rfl) (by rfl) T.f_tuple boot_tuple' (pa_cons (pv 13) pa_nil)) (pa_cons (pv 5) (pa_cons (pv 6) pa_nil))))) (pv 12) (nomark _)) (pe_one (pe_cmpR (op_eqDK (K := K) rfl hr.units) (pe_callC C_changed_pairs (hr.mono (by decide)) (by rfl) (pa_cons (pv 2) (pa_cons (pe_callTy (call_tuple_ofS (K := K) rfl) (by rfl) T.f_tuple boot_tuple' (pa_cons (pv 13) pa_nil)) (pa_cons (pv 5) (pa_cons (pv 6) pa_nil))))) (pe_lstS pa_nil) (nomark _)))))) pss_nil)
  (pss_one (ps_ret pe_bl))))))))))))), ?_⟩
    refine ⟨_, rfl, s0, xs, rfl, hx, fun t H1 s1 st1 => ?_⟩
    refine ⟨_, rfl, t, 8, rfl, st1, by omega, fun p H2 v o u rs v2 x ws n g2 e2 ho hrs c ho3 hws wok wl hn1 hn => ?_⟩
    refine ⟨p, _, rfl, .of e2, rfl, _, _, rfl, _, _, rfl, _, _, rfl, _, _, rfl, _, _, rfl, rfl, ?_⟩
    have wk : WsOk o ws := ⟨by omega, fun u hu => ⟨(wok u hu).1, by have := (wok u hu).2; omega⟩⟩
    have few := wk.few
    have hmost := c.ok.most
    clear e2 g2 st1 s1 hx
    refine ⟨_, rfl, _, rfl, v, o, u, rs, rfl, ho, hrs, c, fun vm H3 s3 hm => ?_⟩
    obtain ⟨am, rfl, hm⟩ := hm
    obtain ⟨y, us, rfl, hy, pr⟩ := hws
    have el : us.length = ws.length := Paired.length pr
    -- the pairs that are changed
    refine ⟨_, _, rfl, ⟨by omega, by omega, by omega, by omega⟩, for_it walk_range (fun i σ H' => ∃ x8 x9 x10, σ = [some (.ref s0), some (.ref t.a), some v, some u, some v2, some (.ref y), some (.int (n : Nat)), some (.ref am), x8, x9, x10, none, none, none, none, none] ∧ Same H3 H')
      ⟨none, none, none, rfl, Same.refl _⟩ (fun _ _ _ _ _ => trivial) (fun i z σ H4 H5 hi p yy => ?_) (fun σ H' p => ?_)⟩
    · obtain ⟨x8, x9, x10, rfl, s4⟩ := p
      obtain ⟨rfl, rfl⟩ := yy
      have s24 := s3.trans s4
      have hi3 : 1 + i ≤ 3 := by omega
      refine ⟨_, rfl, _, rfl, _, rfl, _, rfl, v, o, u, rs, .ref y, ws, 1 + i, rfl, ho.mono s24, hrs.mono s24, c, (⟨y, us, rfl, hy.same s24, pr.mono fun _ _ => IsWrd.mono s24⟩ : IsWrds H5 (.ref y) ws), wk, by omega, hi3, fun p H6 vs prs s6 np ep pp hp => ?_⟩
      refine ⟨p, rfl, ⟨_, .of ep⟩, for_it (walk_list (xs := vs)) (fun k σ H' => ∃ x9 x10, σ = [some (.ref s0), some (.ref t.a), some v, some u, some v2, some (.ref y), some (.int (n : Nat)), some (.ref am), some (.int (1 + (i : Nat))), x9, x10, none, none, none, none, none] ∧ Same H6 H')
        ⟨_, _, rfl, Same.refl _⟩ (fun k σ H' _ p => ?_) (fun k z σ H7 H8 hk p yy => ?_) (fun σ H' p => ?_)⟩
      · obtain ⟨_, _, _, s'⟩ := p
        exact .of (s' _ _ ep)
      · obtain ⟨x9, x10, rfl, s7⟩ := p
        obtain ⟨rfl, hz⟩ := yy
        obtain ⟨⟨a, b⟩, hab, ad, rfl, had⟩ := Paired.ta pp hz
        obtain ⟨u1, u2, hu1, hu2, hany⟩ := chg_moved hi3 c wk (hp _ (List.mem_of_getElem? hab))
        have s27 := s24.trans (s6.trans s7)
        have hy7 := hy.same s27
        have pr7 := pr.mono fun _ _ => IsWrd.mono s27
        obtain ⟨a1, g1, f1⟩ := IsWrds.at (y := y) pr7 hu1
        obtain ⟨a2, g2, f2⟩ := IsWrds.at (y := y) pr7 hu2
        have l1 := (wk.at hu1).len
        have l2 := (wk.at hu2).len
        refine ⟨ad, _, rfl, (had.same s7).sq, rfl, _, _, rfl, _, _, rfl, rfl, ?_⟩
        refine ⟨_, rfl, _, rfl, _, _, _, a, _, rfl, rfl, hy7, rfl, g1, _, rfl, _, rfl, _, _, _, b, _, rfl, rfl, hy7, rfl, g2, _, _, _, _, rfl, rfl, f1, f2, le12 (by simp; omega), fun pc H9 s9 hc9 => ?_⟩
        have hc9 := fz_cat hc9
        refine ⟨pc, rfl, ⟨_, hc9.sq⟩, fun D nD => lcM walk_tup nD (fun k => (((u1 ++ u2).map V.str)[k]?).bind (blS fun z => decide (z ∈ movedM o rs))) (le12 (by simp; omega)) (fun H' s => (hc9.same s).sq) (fun k z Ha Hb R hk sa yy kk => ?_) fun Ha sa ea => ?_⟩
        · obtain ⟨rfl, hzz⟩ := yy
          obtain ⟨l, hl, rfl⟩ := strs_at hzz
          have hk' := kk Hb (Same.refl _)
          rw [hzz] at hk'
          have hm9 := hm.same (s4.trans (s6.trans (s7.trans (s9.trans sa))))
          exact ⟨rfl, _, rfl, _, rfl, am, movedM o rs, l, rfl, rfl, .inr hm9.sq, hk'⟩
        · rw [fm_range, bl_strs (fun z => decide (z ∈ movedM o rs))] at ea
          refine ⟨D, _, rfl, .of ea, _, rfl, ?_⟩
          rw [hany]
          exact iteF ⟨_, _, rfl, s7.trans (s9.trans sa)⟩
      · obtain ⟨x9, x10, rfl, s7⟩ := p
        exact ⟨_, _, _, rfl, s4.trans (s6.trans s7)⟩
    · obtain ⟨x8, x9, x10, rfl, s4⟩ := p
      have s24 := s3.trans s4
      have ho4 := ho.mono s24
      have hrs4 := hrs.mono s24
      have hy4 := hy.same s24
      have pr4 : Paired (IsWrd H') us ws := pr.mono fun _ _ => IsWrd.mono s24
      have hm4 := hm.same s4
      clear ho hrs hy pr hm s3 s4 s24
      -- the calm words
      refine ⟨_, rfl, y, rfl, ⟨_, hy4.sq⟩, fun D nD => lcR walk_tup nD (fun H v l => IsWrd H v l) (fun H H' v b s h => h.mono s) (fun H v b acc o ⟨p, e, h⟩ hl => ⟨p, e, fz_updL h hl⟩) (fun i => (ws[i]?).map (calmW o rs))
        (le12 (by omega)) (fun H'' s => (hy4.same s).sq) (fun i z H5 H6 R hi s5 yy _ k => ?_) fun H5 acc s5 e5 p5 => ?_⟩
      · obtain ⟨rfl, hzz⟩ := yy
        obtain ⟨u1, hu1, a1, rfl, f1⟩ := Paired.ta pr4 hzz
        have f1' := f1.same s5
        have l1 := (wk.at hu1).len
        have hm5 := hm4.same s5
        refine ⟨rfl, _, rfl, a1, rfl, ⟨_, f1'.sq⟩, fun D2 nD2 => lcM walk_tup nD2 (fun k => ((u1.map V.str)[k]?).bind (keepS fun z => !decide (z ∈ movedM o rs))) (le12 (by rw [List.length_map]; omega)) (fun H' s => (f1'.same s).sq) (fun i z H7 H8 R2 hi s7 yy kk => ?_) fun H7 s7 e7 => ?_⟩
        · obtain ⟨rfl, hz2⟩ := yy
          obtain ⟨l, hl, rfl⟩ := strs_at hz2
          have hk := kk H8 (Same.refl _)
          rw [hz2] at hk
          refine ⟨rfl, _, rfl, _, rfl, am, movedM o rs, l, rfl, rfl, .inr (hm5.same s7).sq, _, rfl, ?_⟩
          by_cases hmv : l ∈ movedM o rs
          · refine iteNF hmv ?_
            have h2 : (some (V.str l)).bind (keepS fun z => !decide (z ∈ movedM o rs)) = none := by
              show (if (!decide (l ∈ movedM o rs)) = true then some (V.str l) else none) = none
              rw [decide_eq_true hmv]
              rfl
            rw [h2] at hk
            exact hk
          · refine iteNT hmv ⟨_, rfl, ?_⟩
            have h2 : (some (V.str l)).bind (keepS fun z => !decide (z ∈ movedM o rs)) = some (V.str l) := by
              show (if (!decide (l ∈ movedM o rs)) = true then some (V.str l) else none) = some (V.str l)
              rw [decide_eq_false hmv]
              rfl
            rw [h2] at hk
            exact hk
        · rw [fm_range, filt_keep (fun z => !decide (z ∈ movedM o rs)) u1] at e7
          refine ⟨D2, _, rfl, .of e7, fun p H8 s8 h8 => ?_⟩
          exact k H8 (.ref p) (calmW o rs u1) (by rw [hu1]; rfl) (s7.trans s8) ⟨p, rfl, h8⟩
      · have p5' : Paired (IsWrd H5) acc (calmM o rs ws) := by
          have e : (List.range us.length).filterMap (fun i => (ws[i]?).map (calmW o rs)) = calmM o rs ws := by
            rw [el]
            have := fm_range (fun u => some (calmW o rs u)) ws
            rw [List.filterMap_eq_map'] at this
            refine Eq.trans ?_ this
            refine congrArg (fun f => List.filterMap f (List.range ws.length)) (funext fun i => ?_)
            cases ws[i]? <;> rfl
          rw [e] at p5
          exact p5
        refine ⟨D, acc, rfl, .of e5, fun pc H6 s6 hpc => ?_⟩
        have s46 := s5.trans s6
        have hcalm : IsWrds H6 (.ref pc) (calmM o rs ws) := ⟨pc, acc, rfl, hpc, p5'.mono fun _ _ => IsWrd.mono s6⟩
        have ck := calmM_ok (rs := rs) wk
        have cc := calmM_calm hn c wk
        clear p5 p5' e5
        -- the sorted calm words
        refine ⟨_, rfl, _, rfl, _, rfl, v, o, .ref pc, calmM o rs ws, n, rfl, ho4.mono s46, c.ok, hcalm, ck, hn1, hn, fun q1 H7 s7 _ e7 => ⟨q1, _, rfl, .of e7, fun q2 H8 s8 h8 => ?_⟩⟩
        have s68 := s7.trans s8
        have s48 := s46.trans s68
        refine ⟨_, rfl, _, rfl, _, rfl, _, rfl, v, o, u, rs, .ref pc, calmM o rs ws, n, rfl, ho4.mono s48, hrs4.mono s48, c, hcalm.mono s68, ck, hn1, hn, cc, fun q3 H9 s9 h9 => ?_⟩
        refine ⟨_, rfl, _, _, dp_idxs h9, dp_idxs (h8.same s9), shaped_dX _, shaped_dX _, _, rfl, ?_⟩
        rw [eqv_dX]
        refine iteF ?_
        have s69 := s68.trans s9
        have s49 := s48.trans s9
        refine ⟨_, rfl, _, rfl, _, rfl, _, rfl, v, o, u, rs, .ref pc, calmM o rs ws, n, rfl, ho4.mono s49, hrs4.mono s49, c, hcalm.mono s69, ck, hn1, hn, cc, fun q4 Ha ys sa ha hyl => ?_⟩
        have hrl : (idxs (sortedM o (calmM o rs ws) n)).length = ys.length := by
          rw [idxs_len, hyl]
          exact rowM_len _ _
        refine ⟨_, _, rfl, .inr (.inr ⟨_, _, rfl, ha, rfl⟩), _, rfl, _, _, rfl, .inr (.inr ⟨_, _, rfl, (h8.same s9).same sa, rfl⟩), _, _, rfl, rfl, _, rfl, ?_⟩
        rw [hrl]
        refine iteNF rfl ?_
        have s4a := s49.trans sa
        -- the sorted words
        have hws : IsWrds Ha (.ref y) ws := ⟨y, us, rfl, hy4.same s4a, pr4.mono fun _ _ => IsWrd.mono s4a⟩
        have hoa := ho4.mono s4a
        clear hcalm hrl h8 h9 ha e7
        clear pr4 hy4 ho4 hm4 hrs4
        have c0 : ChgOk o [] := ⟨c.ok, Nat.zero_le _, (fun r hr => by cases hr), trivial⟩
        refine ⟨_, rfl, _, rfl, _, rfl, v, o, .ref y, ws, n, rfl, hoa, c.ok, hws, wk, hn1, hn, fun q1 Hb sb _ eb => ⟨q1, _, rfl, .of eb, fun q2 Hc sc hc => ?_⟩⟩
        have sac := sb.trans sc
        -- without rules
        refine ⟨_, rfl, Nat.zero_le _, fun p0 Hd sd hd => ⟨_, rfl, _, rfl, v, o, .ref p0, [], .ref y, ws, n, rfl, hoa.mono (sac.trans sd), ⟨p0, [], rfl, hd, .nil⟩, c0, hws.mono (sac.trans sd), wk, hn1, hn, calm_of_same rfl, fun q3 He se he => ?_⟩⟩
        have sce := sd.trans se
        refine ⟨_, rfl, _, _, dp_idxs he, dp_idxs (hc.same sce), shaped_dX _, shaped_dX _, _, rfl, ?_⟩
        rw [eqv_dX]
        refine iteF ?_
        refine ⟨_, rfl, Nat.zero_le _, fun p1 Hf sf hf => ?_⟩
        have saf := (sac.trans sce).trans sf
        refine ⟨_, rfl, _, rfl, v, o, .ref p1, [], .ref y, ws, n, rfl, hoa.mono saf, ⟨p1, [], rfl, hf, .nil⟩, c0, hws.mono saf, wk, hn1, hn, fun p2 Hg vs prs sg _ eg pp hp => ?_⟩
        have hprs := chg_of_same rfl hp
        subst hprs
        cases pp
        refine ⟨Nat.zero_le _, fun p3 Hh sh _ eh => ⟨.list [], .list [], dp_nil (sh _ _ eg), dp_nil eh, shaped_nil, shaped_nil, _, rfl, ?_⟩⟩
        rw [eqv_nil]
        refine iteF ?_
        -- the rule that puts the second letter behind the first one
        have sah := saf.trans (sg.trans sh)
        have hch := hc.same (sce.trans (sf.trans (sg.trans sh)))
        have hoh := hoa.mono sah
        have hwsh := hws.mono sah
        clear eg eh hf hd he hoa hws hc sah saf
        have hlen := c.ok.len
        have g0 : o.1[0]? = some (o.1[0]'(by omega)) := List.getElem?_eq_getElem (by omega)
        have g1 : o.1[1]? = some (o.1[1]'(by omega)) := List.getElem?_eq_getElem (by omega)
        have g2 : o.2[0]? = some (o.2[0]'(by omega)) := List.getElem?_eq_getElem (by omega)
        generalize o.1[0]'(by omega) = l0 at g0
        generalize o.1[1]'(by omega) = l1 at g1
        generalize o.2[0]'(by omega) = i0 at g2
        have m0 := List.mem_of_getElem? g0
        have m1 := List.mem_of_getElem? g1
        have m2 := c.ok.str _ (List.mem_of_getElem? g2)
        have hne : l0 ≠ l1 := fun e => by
          subst e
          have := nodup_at c.ok.nd g0 g1
          cases this
        have rk : RuleOk ⟨true, l0, i0, l1⟩ := ⟨c.ok.lets _ m0, c.ok.lets _ m1, hne, m2.1, m2.2⟩
        have can : canM o ⟨true, l0, i0, l1⟩ := ⟨m0, .inl m1⟩
        have okp := (put_row c.ok rk can).1
        obtain ⟨oa, ob, oc, rfl, ha, hb, hcc⟩ := id hoh
        refine ⟨_, rfl, _, _, _, _, _, rfl, rfl, (ha), rfl, (rfl), _, _, _, _, _, rfl, rfl, (hb), rfl, (str_get g0), _, rfl, _, _, _, _, _, rfl, rfl, (ha), rfl, (rfl), _, _, _, _, _, rfl, rfl, (hcc), rfl, (int_get g2), _, rfl, _, _, _, _, _, rfl, rfl, (ha), rfl, (rfl), _, _, _, _, _, rfl, rfl, (hb), rfl, (str_get g1), ?_⟩
        refine ⟨le12 (by show 4 ≤ 1000; decide), fun pt Hi si hi => ⟨by show 1 ≤ sizeLine; decide, fun ps Hj sj _ ej => ?_⟩⟩
        have shj := si.trans sj
        have hr0 : IsRule Hj (.ref pt) ⟨true, l0, i0, l1⟩ := ⟨pt, rfl, hi.same sj⟩
        have hoj := hoh.mono shj
        have hwj := hwsh.mono shj
        have hcj := hch.same shj
        refine ⟨_, rfl, _, rfl, .ref oa, o, ps, .ref pt, ⟨true, l0, i0, l1⟩, rfl, hoj, c.ok, ej, hr0, rk, m0, m1, fun v' Hk sk hk => ?_⟩
        refine ⟨_, rfl, dO (putM o ⟨true, l0, i0, l1⟩), dO o, dp_ord hk, dp_ord (hoj.mono sk), shaped_dO okp.lets, shaped_dO c.ok.lets, _, rfl, ?_⟩
        rw [eqv_dO]
        by_cases he : putM o ⟨true, l0, i0, l1⟩ = o
        · refine iteDT he ?_
          have he' : ledM o [⟨true, l0, i0, l1⟩] = o := he
          have rk1 : ∀ r ∈ [(⟨true, l0, i0, l1⟩ : Rule)], RuleOk r := fun r hr => by
            rw [List.mem_singleton.mp hr]
            exact rk
          have c1 : ChgOk o [⟨true, l0, i0, l1⟩] := ⟨c.ok, by show 1 ≤ 20; decide, rk1, ⟨can, trivial⟩⟩
          have ejk := sk _ _ ej
          refine ⟨_, rfl, _, rfl, ps, _, rfl, .of ejk, fun pu Hl sl hl => ?_⟩
          have skl := sk.trans sl
          have hr1 : IsRules Hl (.ref pu) [⟨true, l0, i0, l1⟩] := ⟨pu, _, rfl, hl, .cons (hr0.mono skl) .nil⟩
          refine ⟨_, rfl, _, rfl, .ref oa, o, .ref pu, [⟨true, l0, i0, l1⟩], .ref y, ws, n, rfl, hoj.mono skl, hr1, c1, hwj.mono skl, wk, hn1, hn, calm_of_same he', fun q5 Hm sm hm5 => ?_⟩
          have slm := skl.trans sm
          refine ⟨_, rfl, _, _, dp_idxs hm5, dp_idxs (hcj.same slm), shaped_dX _, shaped_dX _, _, rfl, ?_⟩
          rw [eqv_dX]
          refine iteT ?_
          refine ⟨_, rfl, _, rfl, ps, _, rfl, .of (slm _ _ ej), fun pw Hn sn hn6 => ?_⟩
          have sln := slm.trans sn
          have hr2 : IsRules Hn (.ref pw) [⟨true, l0, i0, l1⟩] := ⟨pw, _, rfl, hn6, .cons (hr0.mono sln) .nil⟩
          refine ⟨_, rfl, _, rfl, .ref oa, o, .ref pw, [⟨true, l0, i0, l1⟩], .ref y, ws, n, rfl, hoj.mono sln, hr2, c1, hwj.mono sln, wk, hn1, hn, fun p7 Ho vs7 prs7 so _ eo pp7 hp7 => ?_⟩
          have hprs7 := chg_of_same he' hp7
          subst hprs7
          cases pp7
          refine ⟨Nat.zero_le _, fun p8 Hp8 sp8 _ ep8 => ⟨.list [], .list [], dp_nil (sp8 _ _ eo), dp_nil ep8, shaped_nil, shaped_nil, ?_⟩⟩
          rw [eqv_nil]
          exact q _
        · exact iteDF he (q _)
end
end Pf
namespace Pf
open PySem PySem.Spec PyProof.Rows L2
theorem facts {P : Program} {w : World} {K : PySem.W.Frag} {h : Heap} {mg : Str → Option Value} {f : Addr} (X : K.In h) (G : h.Ns mainGlobals mg) (hfa : mg ("law" : Str) = some (.ref f)) (c : SaysP K) :
    ∃ fd : FuncData, (∀ (s : Shared) (v : Value), BindsTo s fd ⟨[v], []⟩ [("_law_script", v)]) ∧ ∀ base : Heap, K.In base → base.Ns mainGlobals mg → FnOk P w K mg base CX0 8 f fd ["_law_script"] (spLaw K) := by
  have T : Txt K mg := ⟨⟨h, X, G⟩, c⟩
  obtain ⟨fd, F⟩ := T.says.def_ 48 (d := d_law) rfl
  have e := hfa.symm.trans T.glo_law
  cases e
  have b := FunD.bindsA (ps := ["_law_script"]) F fun _ _ _ _ _ _ us hl => match us, hl with | [_], _ => rfl
  exact ⟨fd, fun s v => b s [v] rfl, fun base _ _ => fn_law T F⟩
end Pf
open PySem PySem.W PySem.Calls PyProof.Rows
theorem PySem.Challenge.cw_fewestrules_k63_whole_untouched_words_holds : PySem.Challenge.rw_fewestrules_k63_whole_untouched_words.Holds := by
  w_on; o_law
  refine HandSHeadRun.head_any (r := Pf.R) (q := view Pf.R.prog [69]) (H := Pf.hookP) (ob := Pf.ob) (M := 4000) (loose := Pf.loose) (d := HandSHeadRun.topDef Pf.R.prog 69) (kwd := []) Pf.ob_eq
    (by kernel_rfl) (fun s => by kernel_rfl) Pf.run (by kernel_rfl) (by kernel_rfl) (by kernel_rfl) (by rfl) (by first | assumption | decide +kernel) (by decide +kernel) ⟨rfl, rfl, rfl, rfl, rfl, by decide +kernel⟩ ?hw ?hc
  case hw => w_witness2
  case hc =>
    refine L2.walk_ofE (l := PySem.Challenge.rw_fewestrules_k63_whole_untouched_words) (n := 63) (k := 8) (x := "_law_script") (CX := L2.CX0) rfl (by decide) (by kernel_rfl) ⟨rfl, by decide, by decide⟩ ?F (fun _ _ _ _ z => z)
    intro w mg fa h Y G hmg0
    obtain ⟨K, KX, c⟩ := Y
    have hmg : mg ("law" : PySem.Str) = some (.ref fa) := by
      have e : (HandSHeadRun.topDef Pf.R.prog 69).name = ("law" : PySem.Str) := by kernel_rfl
      rw [← e]
      exact hmg0
    obtain ⟨fd, hb, hF⟩ := Pf.facts (P := (PySem.Challenge.rw_fewestrules_k63_whole_untouched_words).prog) (w := w) KX G hmg c
    exact ⟨K, fd, Pf.spLaw K, KX, hb, fun H a ns hl _ hS => ⟨a, ns, rfl, hS, fun _ => rfl⟩, hF⟩
