import PyProof.Rows.All
import Wide.All
import OpenK.AllK
import Wide.FinOn
import HandS.ForMost
import HandS.ForExc
import HandS.ExcInit
import HandS.ExcIs
import HandS.ExcField
import HandS.CallSlots
import HandS.Style
import HandS.IsInst
import HandS.Flow
import HandS.Codes
import HandS.StrMore
import HandS.Deep
import HandS.ListEq
import HandS.DeepEq
import HandS.TupAny
import HandS.Defaults
import HandS.Sort
import HandS.Walk
import PyProof.NeKinds
import KE.KSuper
import KE.KExcSuper
import KE.KExcIs
import HandS.ExcBuiltin
import HandS.Steps
import PyProof.StrOps2
import KE.RegKSuper
import KE.RegKIsAll
import PySem.Challenge.RW_sumsworn_k77_texts_that_are_none
set_option Elab.async false
set_option linter.all false
set_option maxRecDepth 100000
set_option maxHeartbeats 4000000
namespace Kt
open PySem PySem.Spec PyProof.Rows L2
/-! ## 1. The text by places, the slots -/
def topS (i : Nat) : Stmt := PySem.Challenge.pw_sumsworn_k77_texts_that_are_none.main.body.getD i (.Pass ⟨0, 0, 0, 0⟩)

abbrev s_words_in : Stmt := topS 11
abbrev n_words_in : List Str := ["text", "found", "at", "end"]
theorem sc_words_in : FnScope n_words_in ["text"] (defScope s_words_in) := ⟨rfl, rfl, rfl, by decide +kernel, rfl, by decide +kernel, by decide +kernel⟩
abbrev s_is_numeral : Stmt := topS 12
abbrev n_is_numeral : List Str := ["word", "sign"]
theorem sc_is_numeral : FnScope n_is_numeral ["word"] (defScope s_is_numeral) := ⟨rfl, rfl, rfl, by decide +kernel, rfl, by decide +kernel, by decide +kernel⟩
abbrev s_R_init : Stmt := inClass (topS 13) 0
abbrev n_R_init : List Str := ["self", "text"]
theorem sc_R_init : FnScope n_R_init ["self", "text"] (defScope s_R_init) := ⟨rfl, rfl, rfl, by decide +kernel, rfl, by decide +kernel, by decide +kernel⟩
abbrev s_R_word : Stmt := inClass (topS 13) 1
abbrev n_R_word : List Str := ["self"]
theorem sc_R_word : FnScope n_R_word ["self"] (defScope s_R_word) := ⟨rfl, rfl, rfl, by decide +kernel, rfl, by decide +kernel, by decide +kernel⟩
abbrev s_R_stop : Stmt := inClass (topS 13) 2
abbrev n_R_stop : List Str := ["self"]
theorem sc_R_stop : FnScope n_R_stop ["self"] (defScope s_R_stop) := ⟨rfl, rfl, rfl, by decide +kernel, rfl, by decide +kernel, by decide +kernel⟩
abbrev s_R_taken : Stmt := inClass (topS 13) 3
abbrev n_R_taken : List Str := ["self", "found"]
theorem sc_R_taken : FnScope n_R_taken ["self"] (defScope s_R_taken) := ⟨rfl, rfl, rfl, by decide +kernel, rfl, by decide +kernel, by decide +kernel⟩
abbrev s_R_goes_on : Stmt := inClass (topS 13) 4
abbrev n_R_goes_on : List Str := ["self", "sign"]
theorem sc_R_goes_on : FnScope n_R_goes_on ["self", "sign"] (defScope s_R_goes_on) := ⟨rfl, rfl, rfl, by decide +kernel, rfl, by decide +kernel, by decide +kernel⟩
abbrev s_R_mark : Stmt := inClass (topS 13) 5
abbrev n_R_mark : List Str := ["self", "sign"]
theorem sc_R_mark : FnScope n_R_mark ["self", "sign"] (defScope s_R_mark) := ⟨rfl, rfl, rfl, by decide +kernel, rfl, by decide +kernel, by decide +kernel⟩
abbrev s_R_numeral : Stmt := inClass (topS 13) 6
abbrev n_R_numeral : List Str := ["self", "most", "word"]
theorem sc_R_numeral : FnScope n_R_numeral ["self", "most"] (defScope s_R_numeral) := ⟨rfl, rfl, rfl, by decide +kernel, rfl, by decide +kernel, by decide +kernel⟩
abbrev s_R_number : Stmt := inClass (topS 13) 7
abbrev n_R_number : List Str := ["self", "least", "most"]
theorem sc_R_number : FnScope n_R_number ["self", "least", "most"] (defScope s_R_number) := ⟨rfl, rfl, rfl, by decide +kernel, rfl, by decide +kernel, by decide +kernel⟩
abbrev s_R_end : Stmt := inClass (topS 13) 8
abbrev n_R_end : List Str := ["self"]
theorem sc_R_end : FnScope n_R_end ["self"] (defScope s_R_end) := ⟨rfl, rfl, rfl, by decide +kernel, rfl, by decide +kernel, by decide +kernel⟩
abbrev s_is_variable_word : Stmt := topS 15
abbrev n_is_variable_word : List Str := ["word"]
theorem sc_is_variable_word : FnScope n_is_variable_word ["word"] (defScope s_is_variable_word) := ⟨rfl, rfl, rfl, by decide +kernel, rfl, by decide +kernel, by decide +kernel⟩
abbrev s_take_variable : Stmt := topS 16
abbrev n_take_variable : List Str := ["reader", "least", "most", "word"]
theorem sc_take_variable : FnScope n_take_variable ["reader", "least", "most"] (defScope s_take_variable) := ⟨rfl, rfl, rfl, by decide +kernel, rfl, by decide +kernel, by decide +kernel⟩
abbrev s_take_literal : Stmt := topS 17
abbrev n_take_literal : List Str := ["reader", "least", "most", "is_flipped"]
theorem sc_take_literal : FnScope n_take_literal ["reader", "least", "most"] (defScope s_take_literal) := ⟨rfl, rfl, rfl, by decide +kernel, rfl, by decide +kernel, by decide +kernel⟩
abbrev s_take_weight : Stmt := topS 18
abbrev n_take_weight : List Str := ["reader", "most"]
theorem sc_take_weight : FnScope n_take_weight ["reader", "most"] (defScope s_take_weight) := ⟨rfl, rfl, rfl, by decide +kernel, rfl, by decide +kernel, by decide +kernel⟩
abbrev s_take_terms : Stmt := topS 19
abbrev n_take_terms : List Str := ["reader", "last", "most", "weight", "found"]
theorem sc_take_terms : FnScope n_take_terms ["reader", "last", "most"] (defScope s_take_terms) := ⟨rfl, rfl, rfl, by decide +kernel, rfl, by decide +kernel, by decide +kernel⟩
abbrev s_take_sum : Stmt := topS 20
abbrev n_take_sum : List Str := ["reader", "last", "most", "terms"]
theorem sc_take_sum : FnScope n_take_sum ["reader", "last", "most"] (defScope s_take_sum) := ⟨rfl, rfl, rfl, by decide +kernel, rfl, by decide +kernel, by decide +kernel⟩
abbrev s_take_price : Stmt := topS 21
abbrev n_take_price : List Str := ["reader", "last", "most", "terms"]
theorem sc_take_price : FnScope n_take_price ["reader", "last", "most"] (defScope s_take_price) := ⟨rfl, rfl, rfl, by decide +kernel, rfl, by decide +kernel, by decide +kernel⟩
abbrev s_read_problem : Stmt := topS 22
abbrev n_read_problem : List Str := ["text", "reader", "many", "price", "sums"]
theorem sc_read_problem : FnScope n_read_problem ["text"] (defScope s_read_problem) := ⟨rfl, rfl, rfl, by decide +kernel, rfl, by decide +kernel, by decide +kernel⟩
abbrev s_law_deck : Stmt := topS 24
abbrev n_law_deck : List Str := ["script", "cell"]
theorem sc_law_deck : FnScope n_law_deck ["script"] (defScope s_law_deck) := ⟨rfl, rfl, rfl, by decide +kernel, rfl, by decide +kernel, by decide +kernel⟩
abbrev s_law_pick : Stmt := topS 25
abbrev n_law_pick : List Str := ["deck", "many", "cells", "cell", "size", "found"]
theorem sc_law_pick : FnScope n_law_pick ["deck", "many"] (defScope s_law_pick) := ⟨rfl, rfl, rfl, by decide +kernel, rfl, by decide +kernel, by decide +kernel⟩
abbrev s_law_alike : Stmt := topS 26
abbrev n_law_alike : List Str := ["told", "due", "waiting", "one", "two", "k"]
theorem sc_law_alike : FnScope n_law_alike ["told", "due"] (defScope s_law_alike) := ⟨rfl, rfl, rfl, by decide +kernel, rfl, by decide +kernel, by decide +kernel⟩
abbrev s_law_sum : Stmt := topS 27
abbrev n_law_sum : List Str := ["deck", "many", "size", "most", "kind", "terms", "variable", "every", "literal", "weight"]
theorem sc_law_sum : FnScope n_law_sum ["deck", "many", "size", "most"] (defScope s_law_sum) := ⟨rfl, rfl, rfl, by decide +kernel, rfl, by decide +kernel, by decide +kernel⟩
abbrev s_law_tied : Stmt := topS 28
abbrev n_law_tied : List Str := ["deck", "many", "sums", "kind", "turn", "first", "second", "one", "other", "price", "terms", "k"]
theorem sc_law_tied : FnScope n_law_tied ["deck", "many"] (defScope s_law_tied) := ⟨rfl, rfl, rfl, by decide +kernel, rfl, by decide +kernel, by decide +kernel⟩
abbrev s_law_split : Stmt := topS 29
abbrev n_law_split : List Str := ["text", "run", "found", "at", "end"]
theorem sc_law_split : FnScope n_law_split ["text"] (defScope s_law_split) := ⟨rfl, rfl, rfl, by decide +kernel, rfl, by decide +kernel, by decide +kernel⟩
abbrev s_law_number_words : Stmt := topS 30
abbrev n_law_number_words : List Str := ["number"]
theorem sc_law_number_words : FnScope n_law_number_words ["number"] (defScope s_law_number_words) := ⟨rfl, rfl, rfl, by decide +kernel, rfl, by decide +kernel, by decide +kernel⟩
abbrev s_law_literal_words : Stmt := topS 31
abbrev n_law_literal_words : List Str := ["literal"]
theorem sc_law_literal_words : FnScope n_law_literal_words ["literal"] (defScope s_law_literal_words) := ⟨rfl, rfl, rfl, by decide +kernel, rfl, by decide +kernel, by decide +kernel⟩
abbrev s_law_terms_words : Stmt := topS 32
abbrev n_law_terms_words : List Str := ["terms", "words", "literal", "weight"]
theorem sc_law_terms_words : FnScope n_law_terms_words ["terms"] (defScope s_law_terms_words) := ⟨rfl, rfl, rfl, by decide +kernel, rfl, by decide +kernel, by decide +kernel⟩
abbrev s_law_problem_words : Stmt := topS 33
abbrev n_law_problem_words : List Str := ["problem", "words", "terms", "degree"]
theorem sc_law_problem_words : FnScope n_law_problem_words ["problem"] (defScope s_law_problem_words) := ⟨rfl, rfl, rfl, by decide +kernel, rfl, by decide +kernel, by decide +kernel⟩
abbrev s_law_spread : Stmt := topS 34
abbrev n_law_spread : List Str := ["deck", "words", "run", "text", "last", "word", "blank"]
theorem sc_law_spread : FnScope n_law_spread ["deck", "words"] (defScope s_law_spread) := ⟨rfl, rfl, rfl, by decide +kernel, rfl, by decide +kernel, by decide +kernel⟩
abbrev s_law_now : Stmt := topS 35
abbrev n_law_now : List Str := ["reader", "words"]
theorem sc_law_now : FnScope n_law_now ["reader"] (defScope s_law_now) := ⟨rfl, rfl, rfl, by decide +kernel, rfl, by decide +kernel, by decide +kernel⟩
abbrev s_law_stop : Stmt := topS 36
abbrev n_law_stop : List Str := ["reader", "words"]
theorem sc_law_stop : FnScope n_law_stop ["reader"] (defScope s_law_stop) := ⟨rfl, rfl, rfl, by decide +kernel, rfl, by decide +kernel, by decide +kernel⟩
abbrev s_law_on : Stmt := topS 37
abbrev n_law_on : List Str := ["reader", "sign"]
theorem sc_law_on : FnScope n_law_on ["reader", "sign"] (defScope s_law_on) := ⟨rfl, rfl, rfl, by decide +kernel, rfl, by decide +kernel, by decide +kernel⟩
abbrev s_law_is_numeral : Stmt := topS 38
abbrev n_law_is_numeral : List Str := ["word", "sign"]
theorem sc_law_is_numeral : FnScope n_law_is_numeral ["word"] (defScope s_law_is_numeral) := ⟨rfl, rfl, rfl, by decide +kernel, rfl, by decide +kernel, by decide +kernel⟩
abbrev s_law_numeral : Stmt := topS 39
abbrev n_law_numeral : List Str := ["reader", "least", "most", "word"]
theorem sc_law_numeral : FnScope n_law_numeral ["reader", "least", "most"] (defScope s_law_numeral) := ⟨rfl, rfl, rfl, by decide +kernel, rfl, by decide +kernel, by decide +kernel⟩
abbrev s_law_number : Stmt := topS 40
abbrev n_law_number : List Str := ["reader"]
theorem sc_law_number : FnScope n_law_number ["reader"] (defScope s_law_number) := ⟨rfl, rfl, rfl, by decide +kernel, rfl, by decide +kernel, by decide +kernel⟩
abbrev s_law_literal : Stmt := topS 41
abbrev n_law_literal : List Str := ["reader", "least", "most", "flipped", "word"]
theorem sc_law_literal : FnScope n_law_literal ["reader", "least", "most"] (defScope s_law_literal) := ⟨rfl, rfl, rfl, by decide +kernel, rfl, by decide +kernel, by decide +kernel⟩
abbrev s_law_terms : Stmt := topS 42
abbrev n_law_terms : List Str := ["reader", "last", "weight", "found"]
theorem sc_law_terms : FnScope n_law_terms ["reader", "last"] (defScope s_law_terms) := ⟨rfl, rfl, rfl, by decide +kernel, rfl, by decide +kernel, by decide +kernel⟩
abbrev s_law_need : Stmt := topS 43
abbrev n_law_need : List Str := ["reader", "sign"]
theorem sc_law_need : FnScope n_law_need ["reader", "sign"] (defScope s_law_need) := ⟨rfl, rfl, rfl, by decide +kernel, rfl, by decide +kernel, by decide +kernel⟩
abbrev s_law_read : Stmt := topS 44
abbrev n_law_read : List Str := ["text", "reader", "many", "price", "sums", "terms"]
theorem sc_law_read : FnScope n_law_read ["text"] (defScope s_law_read) := ⟨rfl, rfl, rfl, by decide +kernel, rfl, by decide +kernel, by decide +kernel⟩
abbrev s_law_told : Stmt := topS 45
abbrev n_law_told : List Str := ["text", "found", "place", "e"]
theorem sc_law_told : FnScope n_law_told ["text"] (defScope s_law_told) := ⟨rfl, rfl, rfl, by decide +kernel, rfl, by decide +kernel, by decide +kernel⟩
abbrev s_law_mixed : Stmt := topS 46
abbrev n_law_mixed : List Str := ["deck", "words", "pool", "found", "turn", "at", "which", "new"]
theorem sc_law_mixed : FnScope n_law_mixed ["deck", "words"] (defScope s_law_mixed) := ⟨rfl, rfl, rfl, by decide +kernel, rfl, by decide +kernel, by decide +kernel⟩
abbrev s_law : Stmt := topS 47
abbrev n_law : List Str := ["script", "deck", "turn", "many", "words", "more", "text"]
theorem sc_law : FnScope n_law ["script"] (defScope s_law) := ⟨rfl, rfl, rfl, by decide +kernel, rfl, by decide +kernel, by decide +kernel⟩
end Kt
namespace Kt
open PySem PySem.Spec PyProof.Rows L2
/-! ## 2. What the top has written -/

structure Txt (K : PySem.W.Frag) (mg : Str → Option Value) : Type where
  z_len : mg "len" = none
  z_all : mg "all" = none
  z_isinstance : mg "isinstance" = none
  z_int : mg "int" = none
  z_str : mg "str" = none
  z_tuple : mg "tuple" = none
  z_list : mg "list" = none
  z_abs : mg "abs" = none
  z_min : mg "min" = none
  z_sum : mg "sum" = none
  z_range : mg "range" = none
  z_sorted : mg "sorted" = none
  z_bool : mg "bool" = none
  z_ValueError : mg "ValueError" = none
  z_super : mg "super" = none
  k_MOST_VARIABLES : Tok
  c_MOST_VARIABLES : mg "MOST_VARIABLES" = some (.int 60 k_MOST_VARIABLES)
  k_MOST_SUMS : Tok
  c_MOST_SUMS : mg "MOST_SUMS" = some (.int 300 k_MOST_SUMS)
  k_MOST_NUMBER : Tok
  c_MOST_NUMBER : mg "MOST_NUMBER" = some (.int 1000000 k_MOST_NUMBER)
  k_LONGEST_NUMERAL : Tok
  c_LONGEST_NUMERAL : mg "LONGEST_NUMERAL" = some (.int 30 k_LONGEST_NUMERAL)
  k_SMALL_LETTERS : Tok
  c_SMALL_LETTERS : mg "SMALL_LETTERS" = some (.str "abcdefghijklmnopqrstuvwxyz" k_SMALL_LETTERS)
  k_DIGITS : Tok
  c_DIGITS : mg "DIGITS" = some (.str "0123456789" k_DIGITS)
  k_BLANKS : Tok
  c_BLANKS : mg "BLANKS" = some (.str " \n" k_BLANKS)
  CR : Addr
  CB : Addr
  CS : Addr
  gCR : mg "Reader" = some (.ref CR)
  gCB : mg "BadText" = some (.ref CB)
  gCS : mg "SumError" = some (.ref CS)
  cl : Cls K CR
  mkR : PySem.W.makesIn K CR = true
  kCR : PySem.W.keepIn K (.ref CR) = true
  no_many : NoAttr K CR "many"
  no_words : NoAttr K CR "words"
  no_at : NoAttr K CR "at"
  f_words_in : Addr
  d_words_in : FuncData
  F_words_in : Fun K "words_in" "words_in" s_words_in f_words_in d_words_in
  g_words_in : mg "words_in" = some (.ref f_words_in)
  f_is_numeral : Addr
  d_is_numeral : FuncData
  F_is_numeral : Fun K "is_numeral" "is_numeral" s_is_numeral f_is_numeral d_is_numeral
  g_is_numeral : mg "is_numeral" = some (.ref f_is_numeral)
  f_R_init : Addr
  d_R_init : FuncData
  F_R_init : Fun K "__init__" "Reader.__init__" s_R_init f_R_init d_R_init
  m_R_init : PySem.W.findIn K (.ref CR) "__init__" = some (some (.ref f_R_init))
  i_R_init : PySem.W.isFn K (.ref f_R_init) = true
  f_R_word : Addr
  d_R_word : FuncData
  F_R_word : Fun K "word" "Reader.word" s_R_word f_R_word d_R_word
  m_R_word : PySem.W.findIn K (.ref CR) "word" = some (some (.ref f_R_word))
  i_R_word : PySem.W.isFn K (.ref f_R_word) = true
  f_R_stop : Addr
  d_R_stop : FuncData
  F_R_stop : Fun K "stop" "Reader.stop" s_R_stop f_R_stop d_R_stop
  m_R_stop : PySem.W.findIn K (.ref CR) "stop" = some (some (.ref f_R_stop))
  i_R_stop : PySem.W.isFn K (.ref f_R_stop) = true
  f_R_taken : Addr
  d_R_taken : FuncData
  F_R_taken : Fun K "taken" "Reader.taken" s_R_taken f_R_taken d_R_taken
  m_R_taken : PySem.W.findIn K (.ref CR) "taken" = some (some (.ref f_R_taken))
  i_R_taken : PySem.W.isFn K (.ref f_R_taken) = true
  f_R_goes_on : Addr
  d_R_goes_on : FuncData
  F_R_goes_on : Fun K "goes_on" "Reader.goes_on" s_R_goes_on f_R_goes_on d_R_goes_on
  m_R_goes_on : PySem.W.findIn K (.ref CR) "goes_on" = some (some (.ref f_R_goes_on))
  i_R_goes_on : PySem.W.isFn K (.ref f_R_goes_on) = true
  f_R_mark : Addr
  d_R_mark : FuncData
  F_R_mark : Fun K "mark" "Reader.mark" s_R_mark f_R_mark d_R_mark
  m_R_mark : PySem.W.findIn K (.ref CR) "mark" = some (some (.ref f_R_mark))
  i_R_mark : PySem.W.isFn K (.ref f_R_mark) = true
  f_R_numeral : Addr
  d_R_numeral : FuncData
  F_R_numeral : Fun K "numeral" "Reader.numeral" s_R_numeral f_R_numeral d_R_numeral
  m_R_numeral : PySem.W.findIn K (.ref CR) "numeral" = some (some (.ref f_R_numeral))
  i_R_numeral : PySem.W.isFn K (.ref f_R_numeral) = true
  f_R_number : Addr
  d_R_number : FuncData
  F_R_number : Fun K "number" "Reader.number" s_R_number f_R_number d_R_number
  m_R_number : PySem.W.findIn K (.ref CR) "number" = some (some (.ref f_R_number))
  i_R_number : PySem.W.isFn K (.ref f_R_number) = true
  f_R_end : Addr
  d_R_end : FuncData
  F_R_end : Fun K "end" "Reader.end" s_R_end f_R_end d_R_end
  m_R_end : PySem.W.findIn K (.ref CR) "end" = some (some (.ref f_R_end))
  i_R_end : PySem.W.isFn K (.ref f_R_end) = true
  f_is_variable_word : Addr
  d_is_variable_word : FuncData
  F_is_variable_word : Fun K "is_variable_word" "is_variable_word" s_is_variable_word f_is_variable_word d_is_variable_word
  g_is_variable_word : mg "is_variable_word" = some (.ref f_is_variable_word)
  f_take_variable : Addr
  d_take_variable : FuncData
  F_take_variable : Fun K "take_variable" "take_variable" s_take_variable f_take_variable d_take_variable
  g_take_variable : mg "take_variable" = some (.ref f_take_variable)
  f_take_literal : Addr
  d_take_literal : FuncData
  F_take_literal : Fun K "take_literal" "take_literal" s_take_literal f_take_literal d_take_literal
  g_take_literal : mg "take_literal" = some (.ref f_take_literal)
  f_take_weight : Addr
  d_take_weight : FuncData
  F_take_weight : Fun K "take_weight" "take_weight" s_take_weight f_take_weight d_take_weight
  g_take_weight : mg "take_weight" = some (.ref f_take_weight)
  f_take_terms : Addr
  d_take_terms : FuncData
  F_take_terms : Fun K "take_terms" "take_terms" s_take_terms f_take_terms d_take_terms
  g_take_terms : mg "take_terms" = some (.ref f_take_terms)
  f_take_sum : Addr
  d_take_sum : FuncData
  F_take_sum : Fun K "take_sum" "take_sum" s_take_sum f_take_sum d_take_sum
  g_take_sum : mg "take_sum" = some (.ref f_take_sum)
  f_take_price : Addr
  d_take_price : FuncData
  F_take_price : Fun K "take_price" "take_price" s_take_price f_take_price d_take_price
  g_take_price : mg "take_price" = some (.ref f_take_price)
  f_read_problem : Addr
  d_read_problem : FuncData
  F_read_problem : Fun K "read_problem" "read_problem" s_read_problem f_read_problem d_read_problem
  g_read_problem : mg "read_problem" = some (.ref f_read_problem)
  f_law_deck : Addr
  d_law_deck : FuncData
  F_law_deck : Fun K "_law_deck" "_law_deck" s_law_deck f_law_deck d_law_deck
  g_law_deck : mg "_law_deck" = some (.ref f_law_deck)
  f_law_pick : Addr
  d_law_pick : FuncData
  F_law_pick : Fun K "_law_pick" "_law_pick" s_law_pick f_law_pick d_law_pick
  g_law_pick : mg "_law_pick" = some (.ref f_law_pick)
  f_law_alike : Addr
  d_law_alike : FuncData
  F_law_alike : Fun K "_law_alike" "_law_alike" s_law_alike f_law_alike d_law_alike
  g_law_alike : mg "_law_alike" = some (.ref f_law_alike)
  f_law_sum : Addr
  d_law_sum : FuncData
  F_law_sum : Fun K "_law_sum" "_law_sum" s_law_sum f_law_sum d_law_sum
  g_law_sum : mg "_law_sum" = some (.ref f_law_sum)
  f_law_tied : Addr
  d_law_tied : FuncData
  F_law_tied : Fun K "_law_tied" "_law_tied" s_law_tied f_law_tied d_law_tied
  g_law_tied : mg "_law_tied" = some (.ref f_law_tied)
  f_law_split : Addr
  d_law_split : FuncData
  F_law_split : Fun K "_law_split" "_law_split" s_law_split f_law_split d_law_split
  g_law_split : mg "_law_split" = some (.ref f_law_split)
  f_law_number_words : Addr
  d_law_number_words : FuncData
  F_law_number_words : Fun K "_law_number_words" "_law_number_words" s_law_number_words f_law_number_words d_law_number_words
  g_law_number_words : mg "_law_number_words" = some (.ref f_law_number_words)
  f_law_literal_words : Addr
  d_law_literal_words : FuncData
  F_law_literal_words : Fun K "_law_literal_words" "_law_literal_words" s_law_literal_words f_law_literal_words d_law_literal_words
  g_law_literal_words : mg "_law_literal_words" = some (.ref f_law_literal_words)
  f_law_terms_words : Addr
  d_law_terms_words : FuncData
  F_law_terms_words : Fun K "_law_terms_words" "_law_terms_words" s_law_terms_words f_law_terms_words d_law_terms_words
  g_law_terms_words : mg "_law_terms_words" = some (.ref f_law_terms_words)
  f_law_problem_words : Addr
  d_law_problem_words : FuncData
  F_law_problem_words : Fun K "_law_problem_words" "_law_problem_words" s_law_problem_words f_law_problem_words d_law_problem_words
  g_law_problem_words : mg "_law_problem_words" = some (.ref f_law_problem_words)
  f_law_spread : Addr
  d_law_spread : FuncData
  F_law_spread : Fun K "_law_spread" "_law_spread" s_law_spread f_law_spread d_law_spread
  g_law_spread : mg "_law_spread" = some (.ref f_law_spread)
  f_law_now : Addr
  d_law_now : FuncData
  F_law_now : Fun K "_law_now" "_law_now" s_law_now f_law_now d_law_now
  g_law_now : mg "_law_now" = some (.ref f_law_now)
  f_law_stop : Addr
  d_law_stop : FuncData
  F_law_stop : Fun K "_law_stop" "_law_stop" s_law_stop f_law_stop d_law_stop
  g_law_stop : mg "_law_stop" = some (.ref f_law_stop)
  f_law_on : Addr
  d_law_on : FuncData
  F_law_on : Fun K "_law_on" "_law_on" s_law_on f_law_on d_law_on
  g_law_on : mg "_law_on" = some (.ref f_law_on)
  f_law_is_numeral : Addr
  d_law_is_numeral : FuncData
  F_law_is_numeral : Fun K "_law_is_numeral" "_law_is_numeral" s_law_is_numeral f_law_is_numeral d_law_is_numeral
  g_law_is_numeral : mg "_law_is_numeral" = some (.ref f_law_is_numeral)
  f_law_numeral : Addr
  d_law_numeral : FuncData
  F_law_numeral : Fun K "_law_numeral" "_law_numeral" s_law_numeral f_law_numeral d_law_numeral
  g_law_numeral : mg "_law_numeral" = some (.ref f_law_numeral)
  f_law_number : Addr
  d_law_number : FuncData
  F_law_number : Fun K "_law_number" "_law_number" s_law_number f_law_number d_law_number
  g_law_number : mg "_law_number" = some (.ref f_law_number)
  f_law_literal : Addr
  d_law_literal : FuncData
  F_law_literal : Fun K "_law_literal" "_law_literal" s_law_literal f_law_literal d_law_literal
  g_law_literal : mg "_law_literal" = some (.ref f_law_literal)
  f_law_terms : Addr
  d_law_terms : FuncData
  F_law_terms : Fun K "_law_terms" "_law_terms" s_law_terms f_law_terms d_law_terms
  g_law_terms : mg "_law_terms" = some (.ref f_law_terms)
  f_law_need : Addr
  d_law_need : FuncData
  F_law_need : Fun K "_law_need" "_law_need" s_law_need f_law_need d_law_need
  g_law_need : mg "_law_need" = some (.ref f_law_need)
  f_law_read : Addr
  d_law_read : FuncData
  F_law_read : Fun K "_law_read" "_law_read" s_law_read f_law_read d_law_read
  g_law_read : mg "_law_read" = some (.ref f_law_read)
  f_law_told : Addr
  d_law_told : FuncData
  F_law_told : Fun K "_law_told" "_law_told" s_law_told f_law_told d_law_told
  g_law_told : mg "_law_told" = some (.ref f_law_told)
  f_law_mixed : Addr
  d_law_mixed : FuncData
  F_law_mixed : Fun K "_law_mixed" "_law_mixed" s_law_mixed f_law_mixed d_law_mixed
  g_law_mixed : mg "_law_mixed" = some (.ref f_law_mixed)
  f_law : Addr
  d_law : FuncData
  F_law : Fun K "law" "law" s_law f_law d_law
  g_law : mg "law" = some (.ref f_law)
section
variable {K : PySem.W.Frag} {mg : Str → Option Value}
theorem Txt.b_words_in (T : Txt K mg) : Binds K T.d_words_in ["text"] [] := T.F_words_in.binds fun _ _ _ _ _ _ us hl => match us, hl with | [_], _ => rfl
theorem Txt.b_is_numeral (T : Txt K mg) : Binds K T.d_is_numeral ["word"] [] := T.F_is_numeral.binds fun _ _ _ _ _ _ us hl => match us, hl with | [_], _ => rfl
theorem Txt.b_R_init (T : Txt K mg) : Binds K T.d_R_init ["self", "text"] [] := T.F_R_init.binds fun _ _ _ _ _ _ us hl => match us, hl with | [_, _], _ => rfl
theorem Txt.b_R_word (T : Txt K mg) : Binds K T.d_R_word ["self"] [] := T.F_R_word.binds fun _ _ _ _ _ _ us hl => match us, hl with | [_], _ => rfl
theorem Txt.h_R_word (T : Txt K mg) : Meth K T.CR "word" T.f_R_word := ⟨T.m_R_word, T.i_R_word, T.F_R_word.kp⟩
theorem Txt.b_R_stop (T : Txt K mg) : Binds K T.d_R_stop ["self"] [] := T.F_R_stop.binds fun _ _ _ _ _ _ us hl => match us, hl with | [_], _ => rfl
theorem Txt.h_R_stop (T : Txt K mg) : Meth K T.CR "stop" T.f_R_stop := ⟨T.m_R_stop, T.i_R_stop, T.F_R_stop.kp⟩
theorem Txt.b_R_taken (T : Txt K mg) : Binds K T.d_R_taken ["self"] [] := T.F_R_taken.binds fun _ _ _ _ _ _ us hl => match us, hl with | [_], _ => rfl
theorem Txt.h_R_taken (T : Txt K mg) : Meth K T.CR "taken" T.f_R_taken := ⟨T.m_R_taken, T.i_R_taken, T.F_R_taken.kp⟩
theorem Txt.b_R_goes_on (T : Txt K mg) : Binds K T.d_R_goes_on ["self", "sign"] [] := T.F_R_goes_on.binds fun _ _ _ _ _ _ us hl => match us, hl with | [_, _], _ => rfl
theorem Txt.h_R_goes_on (T : Txt K mg) : Meth K T.CR "goes_on" T.f_R_goes_on := ⟨T.m_R_goes_on, T.i_R_goes_on, T.F_R_goes_on.kp⟩
theorem Txt.b_R_mark (T : Txt K mg) : Binds K T.d_R_mark ["self", "sign"] [] := T.F_R_mark.binds fun _ _ _ _ _ _ us hl => match us, hl with | [_, _], _ => rfl
theorem Txt.h_R_mark (T : Txt K mg) : Meth K T.CR "mark" T.f_R_mark := ⟨T.m_R_mark, T.i_R_mark, T.F_R_mark.kp⟩
theorem Txt.b_R_numeral (T : Txt K mg) : Binds K T.d_R_numeral ["self", "most"] [] := T.F_R_numeral.binds fun _ _ _ _ _ _ us hl => match us, hl with | [_, _], _ => rfl
theorem Txt.h_R_numeral (T : Txt K mg) : Meth K T.CR "numeral" T.f_R_numeral := ⟨T.m_R_numeral, T.i_R_numeral, T.F_R_numeral.kp⟩
theorem Txt.b_R_number (T : Txt K mg) : Binds K T.d_R_number ["self", "least", "most"] [] := T.F_R_number.binds fun _ _ _ _ _ _ us hl => match us, hl with | [_, _, _], _ => rfl
theorem Txt.h_R_number (T : Txt K mg) : Meth K T.CR "number" T.f_R_number := ⟨T.m_R_number, T.i_R_number, T.F_R_number.kp⟩
theorem Txt.b_R_end (T : Txt K mg) : Binds K T.d_R_end ["self"] [] := T.F_R_end.binds fun _ _ _ _ _ _ us hl => match us, hl with | [_], _ => rfl
theorem Txt.h_R_end (T : Txt K mg) : Meth K T.CR "end" T.f_R_end := ⟨T.m_R_end, T.i_R_end, T.F_R_end.kp⟩
theorem Txt.b_is_variable_word (T : Txt K mg) : Binds K T.d_is_variable_word ["word"] [] := T.F_is_variable_word.binds fun _ _ _ _ _ _ us hl => match us, hl with | [_], _ => rfl
theorem Txt.b_take_variable (T : Txt K mg) : Binds K T.d_take_variable ["reader", "least", "most"] [] := T.F_take_variable.binds fun _ _ _ _ _ _ us hl => match us, hl with | [_, _, _], _ => rfl
theorem Txt.b_take_literal (T : Txt K mg) : Binds K T.d_take_literal ["reader", "least", "most"] [] := T.F_take_literal.binds fun _ _ _ _ _ _ us hl => match us, hl with | [_, _, _], _ => rfl
theorem Txt.b_take_weight (T : Txt K mg) : Binds K T.d_take_weight ["reader", "most"] [] := T.F_take_weight.binds fun _ _ _ _ _ _ us hl => match us, hl with | [_, _], _ => rfl
theorem Txt.b_take_terms (T : Txt K mg) : Binds K T.d_take_terms ["reader", "last", "most"] [] := T.F_take_terms.binds fun _ _ _ _ _ _ us hl => match us, hl with | [_, _, _], _ => rfl
theorem Txt.b_take_sum (T : Txt K mg) : Binds K T.d_take_sum ["reader", "last", "most"] [] := T.F_take_sum.binds fun _ _ _ _ _ _ us hl => match us, hl with | [_, _, _], _ => rfl
theorem Txt.b_take_price (T : Txt K mg) : Binds K T.d_take_price ["reader", "last", "most"] [] := T.F_take_price.binds fun _ _ _ _ _ _ us hl => match us, hl with | [_, _, _], _ => rfl
theorem Txt.b_read_problem (T : Txt K mg) : Binds K T.d_read_problem ["text"] [] := T.F_read_problem.binds fun _ _ _ _ _ _ us hl => match us, hl with | [_], _ => rfl
theorem Txt.b_law_deck (T : Txt K mg) : Binds K T.d_law_deck ["script"] [] := T.F_law_deck.binds fun _ _ _ _ _ _ us hl => match us, hl with | [_], _ => rfl
theorem Txt.b_law_pick (T : Txt K mg) : Binds K T.d_law_pick ["deck", "many"] [] := T.F_law_pick.binds fun _ _ _ _ _ _ us hl => match us, hl with | [_, _], _ => rfl
theorem Txt.b_law_alike (T : Txt K mg) : Binds K T.d_law_alike ["told", "due"] [] := T.F_law_alike.binds fun _ _ _ _ _ _ us hl => match us, hl with | [_, _], _ => rfl
theorem Txt.b_law_sum (T : Txt K mg) : Binds K T.d_law_sum ["deck", "many", "size", "most"] [] := T.F_law_sum.binds fun _ _ _ _ _ _ us hl => match us, hl with | [_, _, _, _], _ => rfl
theorem Txt.b_law_tied (T : Txt K mg) : Binds K T.d_law_tied ["deck", "many"] [] := T.F_law_tied.binds fun _ _ _ _ _ _ us hl => match us, hl with | [_, _], _ => rfl
theorem Txt.b_law_split (T : Txt K mg) : Binds K T.d_law_split ["text"] [] := T.F_law_split.binds fun _ _ _ _ _ _ us hl => match us, hl with | [_], _ => rfl
theorem Txt.b_law_number_words (T : Txt K mg) : Binds K T.d_law_number_words ["number"] [] := T.F_law_number_words.binds fun _ _ _ _ _ _ us hl => match us, hl with | [_], _ => rfl
theorem Txt.b_law_literal_words (T : Txt K mg) : Binds K T.d_law_literal_words ["literal"] [] := T.F_law_literal_words.binds fun _ _ _ _ _ _ us hl => match us, hl with | [_], _ => rfl
theorem Txt.b_law_terms_words (T : Txt K mg) : Binds K T.d_law_terms_words ["terms"] [] := T.F_law_terms_words.binds fun _ _ _ _ _ _ us hl => match us, hl with | [_], _ => rfl
theorem Txt.b_law_problem_words (T : Txt K mg) : Binds K T.d_law_problem_words ["problem"] [] := T.F_law_problem_words.binds fun _ _ _ _ _ _ us hl => match us, hl with | [_], _ => rfl
theorem Txt.b_law_spread (T : Txt K mg) : Binds K T.d_law_spread ["deck", "words"] [] := T.F_law_spread.binds fun _ _ _ _ _ _ us hl => match us, hl with | [_, _], _ => rfl
theorem Txt.b_law_now (T : Txt K mg) : Binds K T.d_law_now ["reader"] [] := T.F_law_now.binds fun _ _ _ _ _ _ us hl => match us, hl with | [_], _ => rfl
theorem Txt.b_law_stop (T : Txt K mg) : Binds K T.d_law_stop ["reader"] [] := T.F_law_stop.binds fun _ _ _ _ _ _ us hl => match us, hl with | [_], _ => rfl
theorem Txt.b_law_on (T : Txt K mg) : Binds K T.d_law_on ["reader", "sign"] [] := T.F_law_on.binds fun _ _ _ _ _ _ us hl => match us, hl with | [_, _], _ => rfl
theorem Txt.b_law_is_numeral (T : Txt K mg) : Binds K T.d_law_is_numeral ["word"] [] := T.F_law_is_numeral.binds fun _ _ _ _ _ _ us hl => match us, hl with | [_], _ => rfl
theorem Txt.b_law_numeral (T : Txt K mg) : Binds K T.d_law_numeral ["reader", "least", "most"] [] := T.F_law_numeral.binds fun _ _ _ _ _ _ us hl => match us, hl with | [_, _, _], _ => rfl
theorem Txt.b_law_number (T : Txt K mg) : Binds K T.d_law_number ["reader"] [] := T.F_law_number.binds fun _ _ _ _ _ _ us hl => match us, hl with | [_], _ => rfl
theorem Txt.b_law_literal (T : Txt K mg) : Binds K T.d_law_literal ["reader", "least", "most"] [] := T.F_law_literal.binds fun _ _ _ _ _ _ us hl => match us, hl with | [_, _, _], _ => rfl
theorem Txt.b_law_terms (T : Txt K mg) : Binds K T.d_law_terms ["reader", "last"] [] := T.F_law_terms.binds fun _ _ _ _ _ _ us hl => match us, hl with | [_, _], _ => rfl
theorem Txt.b_law_need (T : Txt K mg) : Binds K T.d_law_need ["reader", "sign"] [] := T.F_law_need.binds fun _ _ _ _ _ _ us hl => match us, hl with | [_, _], _ => rfl
theorem Txt.b_law_read (T : Txt K mg) : Binds K T.d_law_read ["text"] [] := T.F_law_read.binds fun _ _ _ _ _ _ us hl => match us, hl with | [_], _ => rfl
theorem Txt.b_law_told (T : Txt K mg) : Binds K T.d_law_told ["text"] [] := T.F_law_told.binds fun _ _ _ _ _ _ us hl => match us, hl with | [_], _ => rfl
theorem Txt.b_law_mixed (T : Txt K mg) : Binds K T.d_law_mixed ["deck", "words"] [] := T.F_law_mixed.binds fun _ _ _ _ _ _ us hl => match us, hl with | [_, _], _ => rfl
theorem Txt.b_law (T : Txt K mg) : Binds K T.d_law ["script"] [] := T.F_law.binds fun _ _ _ _ _ _ us hl => match us, hl with | [_], _ => rfl
end
end Kt
namespace Kt
open PySem PySem.Spec PyProof.Rows L2
/-! ## 0. Rules whose new heaps are letters -/
/-- a text of code points -/
abbrev tx (l : List Nat) : Str := ⟨l.toArray⟩
/-- a new object, told to Q -/
def New (H : Hp) (o : HO) (Q : VK) : Prop := ∀ p H', H p = none → Same H H' → H' p = some o → Q (.ref p) H'
/-- the object at a becomes o -/
def Chg (H : Hp) (a : Addr) (o : HO) (S : Hp → Prop) : Prop := ∀ H', (∀ b, b ≠ a → H' b = H b) → H' a = some o → S H'
theorem New.all {H : Hp} {o : HO} {Q : VK} (q : New H o Q) : ∀ p, H p = none → Q (.ref p) (upd H p o) := fun p hp =>
  q p _ hp (fun b o' e => by rw [upd_ne (ne_of_none e hp)]; exact e) upd_same
theorem Chg.all {H : Hp} {a : Addr} {o : HO} {S : Hp → Prop} (q : Chg H a o S) : S (upd H a o) := q _ (fun _ hb => upd_ne hb) upd_same
theorem line5 {n : Nat} (h : n ≤ 100000) : n ≤ sizeLine := Nat.le_trans h (by decide)
theorem line5l {n : Nat} (h : n < 100000) : n < sizeLine := Nat.lt_of_lt_of_le h (by decide)
section
variable {X : Cx}
/-- readings closed upwards -/
def upA (t : TA) : TA := fun σ H S => ∃ S' : List V → Hp → Prop, (∀ xs H1, S' xs H1 → S xs H1) ∧ t σ H S'
theorem pa_up {es : List Expr} {t : TA} (h : PA X es t) : PA X es (upA t) := ⟨fun pos pins s σ H Q I ⟨S', m, q⟩ => thn (h.run pos pins s σ H S' I q) fun us s1 ⟨vs, H1, I1, r, q1⟩ => ⟨vs, H1, I1, r, m _ _ q1⟩⟩
theorem pe_imp {e : Expr} {t t' : TE} (h : PE X e t) (k : ∀ σ H Q, t' σ H Q → t σ H Q) : PE X e t' := ⟨fun pins s σ H Q I q => h.run pins s σ H Q I (k _ _ _ q)⟩
def tTupN (t : TA) : TE := fun σ H Q => t σ H fun xs H1 => xs.length ≤ 100000 ∧ New H1 (.tup xs) Q
def tLstN (t : TA) : TE := fun σ H Q => t σ H fun xs H1 => xs.length ≤ 100000 ∧ New H1 (.lst xs) Q
theorem pe_tupN {es : List Expr} {t : TA} {x1} {pos : Pos} (h : PA X es t) : PE X (.Tuple es x1 pos) (tTupN t) := pe_imp (pe_tup (pa_up h)) fun _ _ _ q => ⟨_, fun _ _ ⟨a, b⟩ => ⟨line5 a, b.all⟩, q⟩
theorem pe_lstN {es : List Expr} {t : TA} {pos : Pos} (h : PA X es t) : PE X (.List es pos) (tLstN t) := pe_imp (pe_lst (pa_up h)) fun _ _ _ q => ⟨_, fun _ _ ⟨a, b⟩ => ⟨line5 a, b.all⟩, q⟩
theorem op_imp {f : Value → Value → Sem Value} {r r' : R2} (h : OpR X f r) (k : ∀ x y H Q, r' x y H Q → r x y H Q) : OpR X f r' := fun pins s σ H x y v u Q I rx ry q => h pins s σ H x y v u Q I rx ry (k _ _ _ _ q)
theorem cr_imp {f : Value} {r r' : List V → Hp → VK → Prop} (h : CallR X f r) (k : ∀ xs H Q, r' xs H Q → r xs H Q) : CallR X f r' := fun pins s σ H xs us Q I rx q => h pins s σ H xs us Q I rx (k _ _ _ q)
theorem sl_imp {r r' : V → Option Int → Option Int → Hp → VK → Prop} (h : SlR X r) (k : ∀ x lo hi H Q, r' x lo hi H Q → r x lo hi H Q) : SlR X r' := fun pins s σ H x v vl vu lo hi sl Q I rx hs pl pu q => h pins s σ H x v vl vu lo hi sl Q I rx hs pl pu (k _ _ _ _ _ q)
theorem mt_imp {id : String} {r r' : V → List V → Hp → VK → Prop} (h : MtR X id r) (k : ∀ x xs H Q, r' x xs H Q → r x xs H Q) : MtR X id r' := fun pins s σ H x xs v us Q I rx rv q => h pins s σ H x xs v us Q I rx rv (k _ _ _ _ q)
def rSlLN (K : PySem.W.Frag) : V → Option Int → Option Int → Hp → VK → Prop := fun x lo hi H Q => ∃ a xs, x = .ref a ∧ SqL K H a xs ∧ New H (.lst (cutV xs lo hi)) Q
theorem sl_listN : SlR X (rSlLN X.K) := sl_imp sl_list fun _ _ _ _ _ ⟨a, xs, e, h, q⟩ => ⟨a, xs, e, h, q.all⟩
def rCatN : R2 := fun x y H Q => ∃ l b xs zs, x = .ref l ∧ y = .ref b ∧ H l = some (.lst xs) ∧ H b = some (.lst zs) ∧ xs.length + zs.length ≤ 100000 ∧ New H (.lst (xs ++ zs)) Q
theorem op_catN : OpR X (binaryOp .Add) rCatN := op_imp op_cat fun _ _ _ _ ⟨l, b, xs, zs, e1, e2, h1, h2, hz, q⟩ => ⟨l, b, xs, zs, e1, e2, h1, h2, line5 hz, q.all⟩
def rRepN : R2 := fun x y H Q => ∃ l k xs, x = .ref l ∧ y = .int k ∧ H l = some (.lst xs) ∧ -(2 ^ 63) ≤ k ∧ k < 2 ^ 63 ∧ xs.length * k.toNat ≤ 100000 ∧ New H (.lst (List.replicate k.toNat xs).flatten) Q
theorem op_repN : OpR X (binaryOp .Mult) rRepN := op_imp op_rep fun _ _ _ _ ⟨l, k, xs, e1, e2, h, h1, h2, hz, q⟩ => ⟨l, k, xs, e1, e2, h, h1, h2, line5 hz, q.all⟩
def rTupleN (K : PySem.W.Frag) : List V → Hp → VK → Prop := fun xs H Q => ∃ p ys, xs = [.ref p] ∧ SqL K H p ys ∧ New H (.tup ys) Q
theorem call_tupleN : CallR X (.type "tuple") (rTupleN X.K) := cr_imp call_tuple_of fun _ _ _ ⟨p, ys, e, h, q⟩ => ⟨p, ys, e, .inl ⟨h, q.all⟩⟩
def rListN (K : PySem.W.Frag) : List V → Hp → VK → Prop := fun xs H Q => ∃ p ys, xs = [.ref p] ∧ SqL K H p ys ∧ New H (.lst ys) Q
theorem call_listN : CallR X (.type "list") (rListN X.K) := cr_imp call_list_of fun _ _ _ ⟨p, ys, e, h, q⟩ => ⟨p, ys, e, .inl h, q.all⟩
def rAppN : V → List V → Hp → VK → Prop := fun x vs H Q => ∃ l xs y, x = .ref l ∧ vs = [y] ∧ H l = some (.lst xs) ∧ xs.length < 100000 ∧ Chg H l (.lst (xs ++ [y])) (Q .non)
theorem mt_appN : MtR X "list.append" rAppN := mt_imp mt_append fun _ _ _ _ ⟨l, xs, y, e, e', h, hl, q⟩ => ⟨l, xs, y, e, e', h, line5l hl, q.all⟩
def rPopN : V → List V → Hp → VK → Prop := fun x vs H Q => ∃ l xs y, x = .ref l ∧ vs = [] ∧ H l = some (.lst (xs ++ [y])) ∧ Chg H l (.lst xs) (Q y)
theorem mt_popN : MtR X "list.pop" rPopN := mt_imp mt_pop fun _ _ _ _ ⟨l, xs, y, e, e', h, q⟩ => ⟨l, xs ++ [y], y, e, e', h, by simp, by rw [List.dropLast_concat]; exact q.all⟩
def rPop0N : V → List V → Hp → VK → Prop := fun x vs H Q => ∃ l xs y, x = .ref l ∧ vs = [.int 0] ∧ H l = some (.lst (y :: xs)) ∧ Chg H l (.lst xs) (Q y)
theorem mt_pop0N : MtR X "list.pop" rPop0N := mt_imp mt_popAt fun _ _ _ _ ⟨l, xs, y, e, e', h, q⟩ => ⟨l, y :: xs, 0, 0, y, e, e', h, by decide, by decide, by simp [seqIndex?], rfl, q.all⟩
def rInsN : V → List V → Hp → VK → Prop := fun x vs H Q => ∃ (l : Addr) (xs : List V) (i : Int) (y : V), x = .ref l ∧ vs = [.int i, y] ∧ H l = some (.lst xs) ∧ xs.length < 100000 ∧ 0 ≤ i ∧ i < 100000 ∧ Chg H l (.lst (xs.take i.toNat ++ [y] ++ xs.drop i.toNat)) (Q .non)
theorem mt_insN : MtR X "list.insert" rInsN := mt_imp mt_insert fun _ _ _ _ ⟨l, xs, i, y, e, e', h, hl, h0, h1, q⟩ => ⟨l, xs, i, y, e, e', h, line5l hl, h0, Int.lt_of_lt_of_le h1 (by decide), q.all⟩
def rSetN : TSet := fun o i v H S => ∃ p xs k j, o = .ref p ∧ i = .int k ∧ H p = some (.lst xs) ∧ ixN xs.length k = some j ∧ Chg H p (.lst (xs.set j v)) S
theorem set_listN : PSet X rSetN := fun pins s σ H o i v ov iv u Q I ro ri rv ⟨p, xs, k, j, e1, e2, h, hj, q⟩ => set_list pins s σ H o i v ov iv u Q I ro ri rv ⟨p, xs, k, j, e1, e2, h, hj, q.all⟩
def rSortPN (K : PySem.W.Frag) : List V → Hp → VK → Prop := fun vs H Q => ∃ a xs, vs = [V.ref a] ∧ SqL K H a xs ∧ (∀ x ∈ xs, ∃ t i j, x = V.ref t ∧ H t = some (.tup [.int i, .int j])) ∧ ∀ ys : List V, ys.Perm xs → New H (.lst ys) Q
theorem cr_sortPN : CallR X (.builtin "sorted") (rSortPN X.K) := cr_imp cr_sortedP fun _ _ _ ⟨a, xs, e, h, k, q⟩ => ⟨a, xs, e, h, k, fun ys p hy hp => (q ys hy).all p hp⟩
def rLenSN : List V → Hp → VK → Prop := fun xs H Q => ∃ z, xs = [.str z] ∧ z.length ≤ 100000 ∧ Q (.int z.length) H
theorem call_lenS : CallR X (.builtin "len") rLenSN := cr_imp call_len_str fun _ _ _ ⟨z, e, h, q⟩ => ⟨z, e, line5 h, q⟩
def rLenLN (K : PySem.W.Frag) : List V → Hp → VK → Prop := fun xs H Q => ∃ p ys, xs = [.ref p] ∧ (SqL K H p ys ∨ SqT K H p ys) ∧ Q (.int ys.length) H
theorem call_lenL : CallR X (.builtin "len") (rLenLN X.K) := cr_imp call_len_seq fun _ _ _ q => q
def rInSg : R2 := fun x y H Q => ∃ c z, x = .str (tx [c]) ∧ y = .str z ∧ Q (.bl (decide (c ∈ z.cps.toList))) H
theorem op_inSg : OpR X (compareOp .In) rInSg := op_imp op_in_sign fun _ _ _ _ q => q
def rNinSg : R2 := fun x y H Q => ∃ c z, x = .str (tx [c]) ∧ y = .str z ∧ Q (.bl (!decide (c ∈ z.cps.toList))) H
theorem op_ninSg : OpR X (compareOp .NotIn) rNinSg := op_imp op_notIn_sign fun _ _ _ _ q => q
def rIntS : List V → Hp → VK → Prop := fun xs H Q => ∃ a n, xs = [.str a] ∧ PySem.intText? a = some n ∧ a.length ≤ 640 ∧ Q (.int n) H
theorem call_intS : CallR X (.type "int") rIntS := cr_imp call_int_str fun _ _ _ q => q
def rIntI : List V → Hp → VK → Prop := fun xs H Q => ∃ i, xs = [.int i] ∧ Q (.int i) H
theorem call_intI : CallR X (.type "int") rIntI := cr_imp call_int1 fun _ _ _ q => .inl q
def rIntB : List V → Hp → VK → Prop := fun xs H Q => ∃ b : Bool, xs = [.bl b] ∧ Q (.int (if b then 1 else 0)) H
theorem call_intB : CallR X (.type "int") rIntB := cr_imp call_int1 fun _ _ _ q => .inr q
def rStrI : List V → Hp → VK → Prop := fun xs H Q => ∃ i, xs = [.int i] ∧ i.natAbs.log2 < 1920 ∧ Q (.str (toString i)) H
theorem call_strI : CallR X (.type "str") rStrI := cr_imp call_str_int fun _ _ _ q => q
def rAbsI : List V → Hp → VK → Prop := fun xs H Q => ∃ i, xs = [.int i] ∧ Q (.int (if i < 0 then -i else i)) H
theorem call_absI : CallR X (.builtin "abs") rAbsI := cr_imp call_abs fun _ _ _ q => q
def rMinI : List V → Hp → VK → Prop := fun xs H Q => ∃ i j, xs = [.int i, .int j] ∧ Q (.int (if j < i then j else i)) H
theorem call_minI (hc : X.calm = true) : CallR X (.builtin "min") rMinI := cr_imp (call_min2 hc) fun _ _ _ q => q
def rCatS : R2 := fun x y H Q => ∃ i j, x = .str i ∧ y = .str j ∧ i.length + j.length ≤ 100000 ∧ Q (.str (i ++ j)) H
theorem op_catS : OpR X (binaryOp .Add) rCatS := op_imp op_add_str fun _ _ _ _ ⟨i, j, e, e', h, q⟩ => ⟨i, j, e, e', line5 h, q⟩
/-- a list compared with the empty one, whatever it holds -/
def rEqNil (K : PySem.W.Frag) : R2 := fun x y H Q => ∃ a b xs, x = .ref a ∧ y = .ref b ∧ SqL K H a xs ∧ SqL K H b [] ∧ Q (.bl xs.isEmpty) H
def rNeNil (K : PySem.W.Frag) : R2 := fun x y H Q => ∃ a b xs, x = .ref a ∧ y = .ref b ∧ SqL K H a xs ∧ SqL K H b [] ∧ Q (.bl (!xs.isEmpty)) H
theorem op_eqNil (hu : X.A.units < cLine) : OpR X (compareOp .Eq) (rEqNil X.K) := by
  intro pins s σ H x y v u Q I rx ry h
  obtain ⟨a, b, xs, e1, e2, ha, hb, q⟩ := h
  subst e1 e2
  cases rx
  cases ry
  obtain ⟨is1, r1, p1, _⟩ := I.list ha
  obtain ⟨is2, r2, p2, _⟩ := I.list hb
  cases r2
  cases r1 with
  | nil => exact SeqAt.RcAt.lists (e := fun _ => true) p1.isList p2.isList rfl hu (fun j h1 _ => by simp at h1) X.prog X.w _ _ ⟨.bl true, H, I, rfl, q⟩
  | cons c t => exact SeqAt.RcAt.lists_lengths p1.isList p2.isList (by simp) hu X.prog X.w _ _ ⟨.bl false, H, I, rfl, q⟩
theorem op_neNil (hu : X.A.units < cLine) : OpR X (compareOp .NotEq) (rNeNil X.K) := by
  intro pins s σ H x y v u Q I rx ry h
  obtain ⟨a, b, xs, e1, e2, ha, hb, q⟩ := h
  subst e1 e2
  cases rx
  cases ry
  obtain ⟨is1, r1, p1, _⟩ := I.list ha
  obtain ⟨is2, r2, p2, _⟩ := I.list hb
  cases r2
  cases r1 with
  | nil => exact SeqAt.RcNeAt.lists (e := fun _ => true) p1.isList p2.isList rfl hu (fun j h1 _ => by simp at h1) X.prog X.w _ _ ⟨.bl false, H, I, rfl, q⟩
  | cons c t => exact SeqAt.RcNeAt.lists_lengths p1.isList p2.isList (by simp) hu X.prog X.w _ _ ⟨.bl true, H, I, rfl, q⟩
theorem pe_gs {x z : Str} {t : Tok} {pos : Pos} (hg : Gl X x) (hm : X.mg x = some (.str z t)) (hd : (x == ("__debug__" : Str)) = false := by decide) : PE X (.Name x pos) (tC (.str z)) := pe_glob hg hm ⟨_, rfl⟩ hd
theorem pe_gi {x : Str} {i : Int} {t : Tok} {pos : Pos} (hg : Gl X x) (hm : X.mg x = some (.int i t)) (hd : (x == ("__debug__" : Str)) = false := by decide) : PE X (.Name x pos) (tC (.int i)) := pe_glob hg hm ⟨_, rfl⟩ hd
end
/-! ## 0b. Readings, step by step -/
section
variable {σ : L2.St} {H : Hp} {Q : VK} {D : Ends} {t u : TS} {te ta tb tc : TE} {tt tu : TT} {tA tr : TA} {v x y : V} {i j l : Nat} {g : TG} {K : PySem.W.Frag} {f : Str}
variable {n : L2.St → Hp → Prop} {rt : VK} {bk ct : L2.St → Hp → Prop} {r r' : R2}
theorem r_seq (h : t { D with nx := u D } σ H) : tSeq t u D σ H := h
/-- a word between two statements -/
theorem r_mid (M : L2.St → Hp → Prop) (h1 : ∀ σ' H', M σ' H' → u D σ' H') (h2 : ∀ n : L2.St → Hp → Prop, (∀ σ' H', M σ' H' → n σ' H') → t { D with nx := n } σ H) : tSeq t u D σ H := h2 (u D) h1
theorem r_next (h : D.nx σ H) : tNext D σ H := h
theorem r_nx (h : n σ H) : (Ends.mk n rt bk ct).nx σ H := h
theorem r_rt (h : rt v H) : (Ends.mk n rt bk ct).rt v H := h
theorem r_asg (h : te σ H fun x H1 => g x σ H1 D.nx) : tAsg te g D σ H := h
theorem r_gname {S : L2.St → Hp → Prop} (h : S (σ.set i (some v)) H) : gName i v σ H S := h
theorem r_gcons {g : TG} {gs : TGs} {vs : List V} {S : L2.St → Hp → Prop} (h : g v σ H fun σ' H' => gs vs σ' H' S) : gCons g gs (v :: vs) σ H S := ⟨v, vs, rfl, h⟩
theorem r_gnil {S : L2.St → Hp → Prop} (h : S σ H) : gNil [] σ H S := ⟨rfl, h⟩
theorem r_gtup {n : Nat} {gs : TGs} {a : Addr} {xs : List V} {S : L2.St → Hp → Prop} (h : SqT K H a xs) (hl : xs.length = n) (q : gs xs σ H S) : gTup K n gs (.ref a) σ H S := ⟨a, xs, rfl, h, hl, q⟩
theorem r_gsub {to ti : TE} {ts : TSet} {S : L2.St → Hp → Prop} (q : to σ H fun o H1 => ti σ H1 fun i H2 => ts o i v H2 fun H3 => S σ H3) : gSub to ti ts v σ H S := q
theorem r_par (h : tA σ H fun vs H1 => ∃ v w, vs = [v, w] ∧ D.nx ((σ.set i (some v)).set j (some w)) H1) : tPar i j tA D σ H := h
theorem r_par3 (h : tA σ H fun vs H1 => ∃ u v w, vs = [u, v, w] ∧ D.nx (((σ.set i (some u)).set j (some v)).set l (some w)) H1) : tPar3 i j l tA D σ H := h
theorem r_two {P : V → V → Prop} {a b : V} (h : P a b) : ∃ v w, ([a, b] : List V) = [v, w] ∧ P v w := ⟨a, b, rfl, h⟩
theorem r_three {P : V → V → V → Prop} {a b c : V} (h : P a b c) : ∃ u v w, ([a, b, c] : List V) = [u, v, w] ∧ P u v w := ⟨a, b, c, rfl, h⟩
theorem r_var (h : σ[i]? = some (some v)) (q : Q v H) : tVar i σ H Q := ⟨v, h, q⟩
theorem r_c (q : Q v H) : tC v σ H Q := q
theorem r_nil {S : List V → Hp → Prop} (q : S [] H) : tNil σ H S := q
theorem r_cons {S : List V → Hp → Prop} (q : ta σ H fun x H1 => tr σ H1 fun xs H2 => S (x :: xs) H2) : tCons ta tr σ H S := q
theorem r_op (q : ta σ H fun x H1 => tb σ H1 fun y H2 => r x y H2 Q) : tOp r ta tb σ H Q := q
theorem r_un {r : V → Hp → VK → Prop} (q : ta σ H fun x H1 => r x H1 Q) : tUn r ta σ H Q := q
theorem r_test {S : Bool → Hp → Prop} (q : te σ H fun x H' => ∃ k, x = .bl k ∧ S k H') : tTest te σ H S := q
theorem r_tB {S : Bool → Hp → Prop} (q : te σ H fun x H' => ∃ k, x = .bl k ∧ S k H') : tB te σ H S := q
theorem r_bl {P : Bool → Prop} {b : Bool} (q : P b) : ∃ k, V.bl b = .bl k ∧ P k := ⟨b, rfl, q⟩
theorem r_or {S : Bool → Hp → Prop} (q : tt σ H fun c H1 => if c = true then S true H1 else tu σ H1 S) : tOr tt tu σ H S := q
theorem r_and {S : Bool → Hp → Prop} (q : tt σ H fun c H1 => if c = true then tu σ H1 S else S false H1) : tAnd tt tu σ H S := q
theorem r_not {S : Bool → Hp → Prop} (q : tt σ H fun c H1 => S (!c) H1) : tNot tt σ H S := q
theorem r_orV (q : ta σ H fun x H1 => ∃ c, x = .bl c ∧ if c = true then Q (.bl true) H1 else tb σ H1 Q) : tOrV ta tb σ H Q := q
theorem r_andV (q : ta σ H fun x H1 => ∃ c, x = .bl c ∧ if c = true then tb σ H1 Q else Q (.bl false) H1) : tAndV ta tb σ H Q := q
theorem r_if (q : tt σ H fun c H1 => if c = true then ta σ H1 Q else tb σ H1 Q) : tIf tt ta tb σ H Q := q
theorem r_ifS (q : tt σ H fun b H1 => if b = true then t D σ H1 else u D σ H1) : tIfS tt t u D σ H := q
/-- an if whose test comes to b -/
theorem r_ifB (b : Bool) (ht : ∀ S : Bool → Hp → Prop, S b H → tt σ H S) (h1 : b = true → t D σ H) (h2 : b = false → u D σ H) : tIfS tt t u D σ H := ht _ (by
  cases b with
  | true => rw [if_pos rfl]; exact h1 rfl
  | false => rw [if_neg Bool.false_ne_true]; exact h2 rfl)
theorem r_ret (q : te σ H D.rt) : tRet te D σ H := q
theorem r_drop (q : te σ H fun _ H1 => D.nx σ H1) : tDrop te D σ H := q
theorem r_aug {ti : TIp} (h : σ[i]? = some (some x)) (q : te σ H fun y H1 => ti x y H1 fun z H2 => D.nx (σ.set i (some z)) H2) : tAug i te ti D σ H := ⟨x, h, q⟩
theorem r_ipI {fn : Int → Int → Int} {a b : Int} (q : Q (.int (fn a b)) H) : ipI fn (.int a) (.int b) H Q := ⟨a, b, rfl, rfl, q⟩
theorem r_I0 {fn : Int → Int → V} {a b : Int} (q : Q (fn a b) H) : rI0 fn (.int a) (.int b) H Q := ⟨a, b, rfl, rfl, q⟩
theorem r_I {C : Int → Int → Prop} {fn : Int → Int → V} {a b : Int} (c : C a b) (q : Q (fn a b) H) : rI C fn (.int a) (.int b) H Q := ⟨a, b, rfl, rfl, c, q⟩
theorem r_U {fn : Int → V} {a : Int} (q : Q (fn a) H) : rU fn (.int a) H Q := ⟨a, rfl, q⟩
theorem dec_str {a b : Str} : decide (V.str a = V.str b) = decide (a = b) := decide_eq_decide.mpr ⟨fun e => V.str.inj e, fun e => by rw [e]⟩
theorem dec_int {a b : Int} : decide (V.int a = V.int b) = decide (a = b) := decide_eq_decide.mpr ⟨fun e => V.int.inj e, fun e => by rw [e]⟩
theorem r_eqs {a b : Str} (q : Q (.bl (decide (a = b))) H) : rEq (.str a) (.str b) H Q := ⟨rfl, by rw [dec_str]; exact q⟩
theorem r_nes {a b : Str} (q : Q (.bl (!decide (a = b))) H) : rNe (.str a) (.str b) H Q := ⟨rfl, by rw [dec_str]; exact q⟩
theorem r_eqi {a b : Int} (q : Q (.bl (decide (a = b))) H) : rEq (.int a) (.int b) H Q := ⟨rfl, by rw [dec_int]; exact q⟩
theorem r_nei {a b : Int} (q : Q (.bl (!decide (a = b))) H) : rNe (.int a) (.int b) H Q := ⟨rfl, by rw [dec_int]; exact q⟩
theorem r_chain (q : ta σ H fun x H1 => tb σ H1 fun y H2 => r x y H2 fun z H3 => ∃ k, z = .bl k ∧ (if k = true then tc σ H3 fun w' H4 => r' y w' H4 Q else Q (.bl false) H3)) : tChain r r' ta tb tc σ H Q := q
theorem r_cb {r : List V → Hp → VK → Prop} (q : tA σ H fun vs H1 => r vs H1 Q) : tCB r tA σ H Q := q
theorem r_tup (q : tA σ H fun xs H1 => xs.length ≤ 100000 ∧ New H1 (.tup xs) Q) : tTupN tA σ H Q := q
theorem r_lst (q : tA σ H fun xs H1 => xs.length ≤ 100000 ∧ New H1 (.lst xs) Q) : tLstN tA σ H Q := q
theorem r_new {o : HO} (q : ∀ p H', H p = none → Same H H' → H' p = some o → Q (.ref p) H') : New H o Q := q
theorem r_chg {a : Addr} {o : HO} {S : Hp → Prop} (q : ∀ H', (∀ b, b ≠ a → H' b = H b) → H' a = some o → S H') : Chg H a o S := q
theorem r_sl {r : V → Option Int → Option Int → Hp → VK → Prop} {tl th : TO} (q : te σ H fun x H1 => tl σ H1 fun l H2 => th σ H2 fun u H3 => r x l u H3 Q) : tSl r te tl th σ H Q := q
theorem r_part {S : Option Int → Hp → Prop} (q : te σ H fun x H1 => ∃ i, x = .int i ∧ S (some i) H1) : tPart te σ H S := q
theorem r_int {P : Int → Prop} {a : Int} (q : P a) : ∃ i, V.int a = .int i ∧ P i := ⟨a, rfl, q⟩
theorem r_nopart {S : Option Int → Hp → Prop} (q : S none H) : tNoPart σ H S := q
theorem r_bm {T : String} {r : V → List V → Hp → VK → Prop} (q : te σ H fun x H1 => tyV K T x H1 ∧ tA σ H1 fun xs H2 => r x xs H2 Q) : tBM K T r te tA σ H Q := q
theorem r_bm0 {T : String} {r : V → List V → Hp → VK → Prop} (q : te σ H fun x H1 => tyV K T x H1 ∧ r x [] H1 Q) : tBM0 K T r te σ H Q := q
theorem r_tyl {a : Addr} {xs : List V} {P : Prop} (h : H a = some (.lst xs)) (q : P) : tyV K "list" (.ref a) H ∧ P := ⟨.inl ⟨rfl, _, SqL.of h⟩, q⟩
theorem r_app {a : Addr} {xs : List V} (h : H a = some (.lst xs)) (hl : xs.length < 100000) (q : Chg H a (.lst (xs ++ [y])) (Q .non)) : rAppN (.ref a) [y] H Q := ⟨a, xs, y, rfl, rfl, h, hl, q⟩
theorem r_cat {a b : Addr} {xs ys : List V} (h : H a = some (.lst xs)) (h' : H b = some (.lst ys)) (hl : xs.length + ys.length ≤ 100000) (q : New H (.lst (xs ++ ys)) Q) : rCatN (.ref a) (.ref b) H Q := ⟨a, b, xs, ys, rfl, rfl, h, h', hl, q⟩
theorem r_eqNil {a b : Addr} {xs : List V} (ha : SqL K H a xs) (hb : SqL K H b []) (q : Q (.bl xs.isEmpty) H) : rEqNil K (.ref a) (.ref b) H Q := ⟨a, b, xs, rfl, rfl, ha, hb, q⟩
theorem r_neNil {a b : Addr} {xs : List V} (ha : SqL K H a xs) (hb : SqL K H b []) (q : Q (.bl (!xs.isEmpty)) H) : rNeNil K (.ref a) (.ref b) H Q := ⟨a, b, xs, rfl, rfl, ha, hb, q⟩
theorem r_slS {z : Str} {lo hi : Option Int} (h : z.length ≤ 100000) (q : Q (.str (cutS z lo hi)) H) : rSlS (.str z) lo hi H Q := ⟨z, rfl, line5 h, q⟩
theorem r_ixS {z : Str} {i : Int} {c : Nat} (h : atI z.cps.toList i = some c) (hz : z.length ≤ 100000) (q : Q (.str (tx [c])) H) : rIxS (.str z) (.int i) H Q := ⟨z, i, c, rfl, rfl, line5 hz, h, q⟩
theorem r_ixT {a : Addr} {xs : List V} {i : Int} (h : SqT K H a xs) (e : atI xs i = some v) (q : Q v H) : rIxT K (.ref a) (.int i) H Q := ⟨a, xs, i, v, rfl, rfl, h, e, q⟩
theorem r_ixL {a : Addr} {xs : List V} {i : Int} (h : SqL K H a xs) (e : atI xs i = some v) (q : Q v H) : rIxL K (.ref a) (.int i) H Q := ⟨a, xs, i, v, rfl, rfl, h, e, q⟩
theorem r_inSg {c : Nat} {z : Str} (q : Q (.bl (decide (c ∈ z.cps.toList))) H) : rInSg (.str (tx [c])) (.str z) H Q := ⟨c, z, rfl, rfl, q⟩
theorem r_ninSg {c : Nat} {z : Str} (q : Q (.bl (!decide (c ∈ z.cps.toList))) H) : rNinSg (.str (tx [c])) (.str z) H Q := ⟨c, z, rfl, rfl, q⟩
theorem r_lenS {z : Str} (hz : z.length ≤ 100000) (q : Q (.int z.length) H) : rLenSN [.str z] H Q := ⟨z, rfl, hz, q⟩
theorem r_lenL {p : Addr} {ys : List V} (h : SqL K H p ys) (q : Q (.int ys.length) H) : rLenLN K [.ref p] H Q := ⟨p, ys, rfl, .inl h, q⟩
theorem r_lenT {p : Addr} {ys : List V} (h : SqT K H p ys) (q : Q (.int ys.length) H) : rLenLN K [.ref p] H Q := ⟨p, ys, rfl, .inr h, q⟩
theorem r_intS {a : Str} {n : Int} (e : PySem.intText? a = some n) (h : a.length ≤ 640) (q : Q (.int n) H) : rIntS [.str a] H Q := ⟨a, n, rfl, e, h, q⟩
theorem r_intI {a : Int} (q : Q (.int a) H) : rIntI [.int a] H Q := ⟨a, rfl, q⟩
theorem r_intB {b : Bool} (q : Q (.int (if b then 1 else 0)) H) : rIntB [.bl b] H Q := ⟨b, rfl, q⟩
theorem r_strI {a : Int} (h : a.natAbs.log2 < 1920) (q : Q (.str (toString a)) H) : rStrI [.int a] H Q := ⟨a, rfl, h, q⟩
theorem r_absI {a : Int} (q : Q (.int (if a < 0 then -a else a)) H) : rAbsI [.int a] H Q := ⟨a, rfl, q⟩
theorem r_minI {a b : Int} (q : Q (.int (if b < a then b else a)) H) : rMinI [.int a, .int b] H Q := ⟨a, b, rfl, q⟩
theorem r_catS {a b : Str} (h : a.length + b.length ≤ 100000) (q : Q (.str (a ++ b)) H) : rCatS (.str a) (.str b) H Q := ⟨a, b, rfl, rfl, h, q⟩
theorem r_fld {f : Str} (q : te σ H fun x H1 => ∃ a C dx fs v, x = .ref a ∧ H1 a = some (.ins C dx fs) ∧ Cls K C ∧ NoAttr K C f ∧ fs.lookup f = some v ∧ Q v H1) : tFld K te f σ H Q := q
theorem r_fldV {a C dx : Addr} {fs : List (Str × V)} {f : Str} (h : H a = some (.ins C dx fs)) (c : Cls K C) (n : NoAttr K C f) (l : fs.lookup f = some v) (q : Q v H) :
    ∃ a' C dx fs v, V.ref a = .ref a' ∧ H a' = some (.ins C dx fs) ∧ Cls K C ∧ NoAttr K C f ∧ fs.lookup f = some v ∧ Q v H := ⟨a, C, dx, fs, v, rfl, h, c, n, l, q⟩
/-- while, by a word and a measure; the step is shown for whatever the loop asks of the test -/
theorem r_while (Pv : L2.St → Hp → Prop) (μ : L2.St → Hp → Nat) (h0 : Pv σ H)
    (hs : ∀ σ H, Pv σ H → ∀ S : Bool → Hp → Prop, (∀ b H1, (b = true → t ⟨fun σ' H' => Pv σ' H' ∧ μ σ' H' < μ σ H, D.rt, D.nx, fun σ' H' => Pv σ' H' ∧ μ σ' H' < μ σ H⟩ σ H1) → (b = false → D.nx σ H1) → S b H1) → tt σ H S) : tWhile tt t D σ H := by
  refine ⟨fun m σ H => m = μ σ H ∧ Pv σ H, ⟨_, rfl, h0⟩, ?_⟩
  rintro m σ H ⟨rfl, p⟩
  refine hs σ H p _ (fun b H1 q1 q2 => ?_)
  cases b with
  | true =>
    rw [if_pos rfl]
    exact ⟨_, fun σ' H' ⟨p', l⟩ => ⟨_, l, rfl, p'⟩, q1 rfl⟩
  | false =>
    rw [if_neg Bool.false_ne_true]
    exact q2 rfl
end
/-! loops and comprehensions over a walk -/
section
variable {J : It} {n : Nat} {G : Hp → Prop} {Y : Nat → Hp → V → Hp → Prop} {σ : L2.St} {H H1 : Hp} {Q : VK} {D : Ends} {g : TG} {tb : TS} {tt : TT} {te : TE} {vs : List Nat} {wi : TI} {y : V}
def LcG (J : It) (H1 : Hp) (g : TG) (tt : TT) (te : TE) (vs : List Nat) (σ : L2.St) (Q : VK) : Prop := ∀ D, H1 D = none → ∃ W : Nat → Nat → Hp → Prop, (∃ m, W 0 m (upd H1 D (.lst []))) ∧ ∀ i m H, W i m H →
  (J.stop i H ∧ Q (.ref D) H) ∨ (J.go i H ∧ ∃ Nx : Hp → Prop, (∀ H', Nx H' → ∃ m', m' < m ∧ W (i + 1) m' H') ∧ ∀ x H', J.yld i H x H' → g x (wipe σ vs) H' fun σ2 H2 => wipe σ2 vs = wipe σ vs ∧ tt σ2 H2 fun b H3 =>
    if b = true then te σ2 H3 fun y H4 => ∃ acc, H4 D = some (.lst acc) ∧ acc.length < sizeLine ∧ Nx (upd H4 D (.lst (acc ++ [y]))) else Nx H3)
def Acc (H : Hp) (D : Addr) (y : V) (N : Hp → Prop) : Prop := ∃ acc, H D = some (.lst acc) ∧ acc.length < sizeLine ∧ N (upd H D (.lst (acc ++ [y])))
def ForG (J : It) (H1 : Hp) (g : TG) (tb : TS) (D : Ends) (σ : L2.St) : Prop := ∃ W : Nat → Nat → L2.St → Hp → Prop, (∃ m, W 0 m σ H1) ∧ ∀ i m σ H, W i m σ H →
  (J.stop i H ∧ D.nx σ H) ∨ (J.go i H ∧ ∃ N : L2.St → Hp → Prop, (∀ σ' H', N σ' H' → ∃ m', m' < m ∧ W (i + 1) m' σ' H') ∧ ∀ x H', J.yld i H x H' → g x σ H' fun σ2 H2 => tb { D with nx := N, ct := N, bk := D.nx } σ2 H2)
theorem r_lc (q : wi σ H fun J H1 => LcG J H1 g tt te vs σ Q) : tLc wi g tt te vs σ H Q := q
theorem r_iStr {i : Nat} {z : Str} {R : It → Hp → Prop} (h : σ[i]? = some (some (.str z))) (q : R (Its z) H) : iStr (tVar i) σ H R := ⟨_, h, z, rfl, q⟩
theorem r_iList {K : PySem.W.Frag} {i : Nat} {a : Addr} {xs : List V} {R : It → Hp → Prop} (h : σ[i]? = some (some (.ref a))) (hl : SqL K H a xs) (q : R (Itl K a) H) : iList K (tVar i) σ H R := ⟨_, h, a, rfl, ⟨_, hl⟩, q⟩
theorem r_iTup {K : PySem.W.Frag} {i : Nat} {a : Addr} {xs : List V} {R : It → Hp → Prop} (h : σ[i]? = some (some (.ref a))) (hl : SqT K H a xs) (q : R (Itt K a) H) : iTup K (tVar i) σ H R := ⟨_, h, a, rfl, ⟨_, hl⟩, q⟩
theorem r_iRng {ta : TA} {R : It → Hp → Prop} (q : ta σ H fun vs H1 => ∃ j : Int, vs = [.int j] ∧ -(2 ^ 62) ≤ j ∧ j < 2 ^ 62 ∧ R (Itr 0 j.toNat) H1) : iRng1 ta σ H R := q
theorem r_for (q : wi σ H fun J H1 => ForG J H1 g tb D σ) : tFor wi g tb D σ H := q
theorem r_lcW (w : Walk J n G Y) (Pv : Addr → Nat → Hp → Prop) (h0 : ∀ D H', H1 D = none → Same H1 H' → H' D = some (.lst []) → Pv D 0 H') (hG : ∀ D i H, H1 D = none → i ≤ n → Pv D i H → G H)
    (hs : ∀ D i x H H', H1 D = none → i < n → Pv D i H → Y i H x H' → g x (wipe σ vs) H' fun σ2 H2 => wipe σ2 vs = wipe σ vs ∧ tt σ2 H2 fun b H3 => if b = true then te σ2 H3 fun y H4 => Acc H4 D y (Pv D (i + 1)) else Pv D (i + 1) H3)
    (hd : ∀ D H, H1 D = none → Pv D n H → Q (.ref D) H) : LcG J H1 g tt te vs σ Q := fun D hD =>
  lc_it w (Pv D) (h0 D _ hD (fun b o' e => by rw [upd_ne (ne_of_none e hD)]; exact e) upd_same) (fun i H => hG D i H hD) (fun i x H H' => hs D i x H H' hD) (fun H => hd D H hD)
theorem r_acc {D : Addr} {acc : List V} {N : Hp → Prop} (h : H D = some (.lst acc)) (hl : acc.length < 100000) (q : Chg H D (.lst (acc ++ [y])) N) : Acc H D y N := ⟨acc, h, line5l hl, q.all⟩
theorem r_yes {S : Bool → Hp → Prop} (q : S true H) : tYes σ H S := q
theorem r_forW (w : Walk J n G Y) (Pv : Nat → L2.St → Hp → Prop) (h0 : Pv 0 σ H1) (hG : ∀ i σ H, i ≤ n → Pv i σ H → G H)
    (hs : ∀ i x σ H H', i < n → Pv i σ H → Y i H x H' → g x σ H' fun σ2 H2 => tb ⟨Pv (i + 1), D.rt, D.nx, Pv (i + 1)⟩ σ2 H2) (hd : ∀ σ H, Pv n σ H → D.nx σ H) : ForG J H1 g tb D σ :=
  for_it w Pv h0 hG hs hd
end
/-- the number in a slot, for measures -/
def natAt (σ : L2.St) (i : Nat) : Nat := match σ[i]? with
  | some (some (.int n)) => n.toNat
  | _ => 0
theorem iteB {c : Bool} {A B : Prop} (h1 : c = true → A) (h2 : c = false → B) : if c = true then A else B := by
  cases c with
  | true => rw [if_pos rfl]; exact h1 rfl
  | false => rw [if_neg Bool.false_ne_true]; exact h2 rfl
theorem iteBT {c : Bool} {A B : Prop} (h : c = true) (q : A) : if c = true then A else B := by rw [if_pos h]; exact q
theorem iteBF {c : Bool} {A B : Prop} (h : c = false) (q : B) : if c = true then A else B := by rw [if_neg (by rw [h]; decide)]; exact q
/-- from the place a on, behind the list's own changes -/
theorem same_but {H H1 H2 : Hp} {l : Addr} (s : Same H H1) (l0 : H l = none) (e : ∀ b, b ≠ l → H2 b = H1 b) : Same H H2 := fun b o q => by
  rw [e b (ne_of_none q l0)]
  exact s b o q
theorem tup_but {H1 H2 : Hp} {l : Addr} {xs : List V} (h : H1 l = some (.lst xs)) (e : ∀ b, b ≠ l → H2 b = H1 b) : ∀ t ys, H1 t = some (.tup ys) → H2 t = some (.tup ys) := fun t ys q => by
  rw [e t (ne_of q h (fun z => nomatch z))]
  exact q
theorem tup_same {H1 H2 : Hp} (s : Same H1 H2) : ∀ t ys, H1 t = some (.tup ys) → H2 t = some (.tup ys) := fun t ys q => s t _ q
end Kt
local macro_rules | `(tactic| walk_at "rd") => `(tactic| repeat (first
  | with_reducible refine Kt.r_op ?_
  | with_reducible refine Kt.r_var (by with_unfolding_all rfl) ?_
  | with_reducible refine Kt.r_c ?_
  | with_reducible refine Kt.r_I0 ?_
  | with_reducible refine Kt.r_test ?_
  | with_reducible refine Kt.r_bl ?_
  | with_reducible refine Kt.r_cons ?_
  | with_reducible refine Kt.r_nil ?_
  | with_reducible refine Kt.r_cb ?_
  | with_reducible refine Kt.r_seq ?_
  | with_reducible refine Kt.r_asg ?_
  | with_reducible refine Kt.r_gname ?_
  | with_reducible refine Kt.r_ifS ?_
  | with_reducible refine Kt.r_nx ?_
  | with_reducible refine Kt.r_rt ?_
  | with_reducible refine Kt.r_next ?_
  | with_reducible refine Kt.r_ret ?_
  | with_reducible refine Kt.r_or ?_
  | with_reducible refine Kt.r_and ?_
  | with_reducible refine Kt.r_not ?_
  | with_reducible refine Kt.r_par ?_
  | with_reducible refine Kt.r_par3 ?_
  | with_reducible refine Kt.r_two ?_
  | with_reducible refine Kt.r_three ?_
  | with_reducible refine Kt.r_aug (by with_unfolding_all rfl) ?_
  | with_reducible refine Kt.r_ipI ?_
  | with_reducible refine Kt.r_U ?_
  | with_reducible refine Kt.r_un ?_
  | with_reducible refine Kt.r_eqs ?_
  | with_reducible refine Kt.r_nes ?_
  | with_reducible refine Kt.r_eqi ?_
  | with_reducible refine Kt.r_nei ?_
  | with_reducible refine Kt.r_if ?_
  | with_reducible refine Kt.r_orV ?_
  | with_reducible refine Kt.r_andV ?_
  | with_reducible refine Kt.r_drop ?_
  | with_reducible refine Kt.r_tup ?_
  | with_reducible refine Kt.r_lst ?_
  | with_reducible refine Kt.r_bm ?_
  | with_reducible refine Kt.r_bm0 ?_
  | with_reducible refine Kt.r_sl ?_
  | with_reducible refine Kt.r_part ?_
  | with_reducible refine Kt.r_nopart ?_
  | with_reducible refine Kt.r_int ?_
  | with_reducible refine Kt.r_tB ?_
  | with_reducible refine Kt.r_chain ?_
  | with_reducible refine Kt.r_gcons ?_
  | with_reducible refine Kt.r_gnil ?_
  | with_reducible refine Kt.r_inSg ?_
  | with_reducible refine Kt.r_ninSg ?_
  | with_reducible refine Kt.r_gsub ?_
  | with_reducible refine Kt.r_intI ?_
  | with_reducible refine Kt.r_intB ?_
  | with_reducible refine Kt.r_absI ?_
  | with_reducible refine Kt.r_minI ?_
  | with_reducible refine Kt.r_lc ?_
  | with_reducible refine Kt.r_for ?_
  | with_reducible refine Kt.r_yes ?_
  | with_reducible refine Kt.iteBT rfl ?_
  | with_reducible refine Kt.iteBF rfl ?_))
local macro_rules | `(tactic| walk_at "re") => `(tactic| repeat (first
  | with_reducible refine Kt.r_op ?_
  | with_reducible refine Kt.r_var (by with_unfolding_all rfl) ?_
  | with_reducible refine Kt.r_c ?_
  | with_reducible refine Kt.r_I0 ?_
  | with_reducible refine Kt.r_test ?_
  | with_reducible refine Kt.r_bl ?_
  | with_reducible refine Kt.r_cons ?_
  | with_reducible refine Kt.r_nil ?_
  | with_reducible refine Kt.r_cb ?_
  | with_reducible refine Kt.r_asg ?_
  | with_reducible refine Kt.r_gname ?_
  | with_reducible refine Kt.r_ifS ?_
  | with_reducible refine Kt.r_nx ?_
  | with_reducible refine Kt.r_rt ?_
  | with_reducible refine Kt.r_next ?_
  | with_reducible refine Kt.r_ret ?_
  | with_reducible refine Kt.r_or ?_
  | with_reducible refine Kt.r_and ?_
  | with_reducible refine Kt.r_not ?_
  | with_reducible refine Kt.r_par ?_
  | with_reducible refine Kt.r_par3 ?_
  | with_reducible refine Kt.r_two ?_
  | with_reducible refine Kt.r_three ?_
  | with_reducible refine Kt.r_aug (by with_unfolding_all rfl) ?_
  | with_reducible refine Kt.r_ipI ?_
  | with_reducible refine Kt.r_U ?_
  | with_reducible refine Kt.r_un ?_
  | with_reducible refine Kt.r_eqs ?_
  | with_reducible refine Kt.r_nes ?_
  | with_reducible refine Kt.r_eqi ?_
  | with_reducible refine Kt.r_nei ?_
  | with_reducible refine Kt.r_if ?_
  | with_reducible refine Kt.r_orV ?_
  | with_reducible refine Kt.r_andV ?_
  | with_reducible refine Kt.r_drop ?_
  | with_reducible refine Kt.r_tup ?_
  | with_reducible refine Kt.r_lst ?_
  | with_reducible refine Kt.r_bm ?_
  | with_reducible refine Kt.r_bm0 ?_
  | with_reducible refine Kt.r_sl ?_
  | with_reducible refine Kt.r_part ?_
  | with_reducible refine Kt.r_nopart ?_
  | with_reducible refine Kt.r_int ?_
  | with_reducible refine Kt.r_tB ?_
  | with_reducible refine Kt.r_chain ?_
  | with_reducible refine Kt.r_gcons ?_
  | with_reducible refine Kt.r_gnil ?_
  | with_reducible refine Kt.r_inSg ?_
  | with_reducible refine Kt.r_ninSg ?_
  | with_reducible refine Kt.r_gsub ?_
  | with_reducible refine Kt.r_intI ?_
  | with_reducible refine Kt.r_intB ?_
  | with_reducible refine Kt.r_absI ?_
  | with_reducible refine Kt.r_minI ?_
  | with_reducible refine Kt.r_lc ?_
  | with_reducible refine Kt.r_for ?_
  | with_reducible refine Kt.r_yes ?_
  | with_reducible refine Kt.iteBT rfl ?_
  | with_reducible refine Kt.iteBF rfl ?_))
namespace Kt
open PySem PySem.Spec PyProof.Rows L2
/-! ## 3. Words of a text -/
/-- small letters and digits -/
def isRun (c : Nat) : Bool := decide (97 ≤ c ∧ c ≤ 122) || decide (48 ≤ c ∧ c ≤ 57)
def isBlank (c : Nat) : Bool := decide (c = 32) || decide (c = 10)
/-- how many more signs belong to the word that begins with c -/
def more (c : Nat) (r : List Nat) : Nat := if isRun c then (r.takeWhile isRun).length else 0
/-- the words of a text, with their places -/
def splitW (at_ : Nat) : List Nat → List (Str × Nat)
  | [] => []
  | c :: r => (if isBlank c then [] else [(tx (c :: r.take (more c r)), at_)]) ++ splitW (at_ + 1 + more c r) (r.drop (more c r))
termination_by l => l.length
decreasing_by simp only [List.length_drop, List.length_cons]; omega
theorem more_le (c : Nat) (r : List Nat) : more c r ≤ r.length := by
  unfold more
  split
  · exact (List.takeWhile_sublist _).length_le
  · exact Nat.zero_le _
theorem low_mem (c : Nat) : decide (c ∈ ("abcdefghijklmnopqrstuvwxyz" : Str).cps.toList) = decide (97 ≤ c ∧ c ≤ 122) := by
  have e : ("abcdefghijklmnopqrstuvwxyz" : Str).cps.toList = [97,98,99,100,101,102,103,104,105,106,107,108,109,110,111,112,113,114,115,116,117,118,119,120,121,122] := by decide +kernel
  rw [e]
  simp only [List.mem_cons, List.not_mem_nil, or_false]
  exact decide_eq_decide.mpr (by omega)
theorem dig_mem (c : Nat) : decide (c ∈ ("0123456789" : Str).cps.toList) = decide (48 ≤ c ∧ c ≤ 57) := by
  have e : ("0123456789" : Str).cps.toList = [48,49,50,51,52,53,54,55,56,57] := by decide +kernel
  rw [e]
  simp only [List.mem_cons, List.not_mem_nil, or_false]
  exact decide_eq_decide.mpr (by omega)
theorem run_mem (c : Nat) : decide (c ∈ ("abcdefghijklmnopqrstuvwxyz0123456789" : Str).cps.toList) = isRun c := by
  have e : ("abcdefghijklmnopqrstuvwxyz0123456789" : Str).cps.toList = [97,98,99,100,101,102,103,104,105,106,107,108,109,110,111,112,113,114,115,116,117,118,119,120,121,122,48,49,50,51,52,53,54,55,56,57] := by decide +kernel
  rw [e]
  unfold isRun
  rw [← Bool.decide_or]
  simp only [List.mem_cons, List.not_mem_nil, or_false]
  exact decide_eq_decide.mpr (by omega)
theorem blank_mem (c : Nat) : decide (c ∈ (" \n" : Str).cps.toList) = isBlank c := by
  have e : (" \n" : Str).cps.toList = [32, 10] := by decide +kernel
  rw [e]
  unfold isBlank
  rw [← Bool.decide_or]
  simp only [List.mem_cons, List.not_mem_nil, or_false]
/-- how far a run goes on from a place -/
theorem run_step (cs : List Nat) (e : Nat) (c : Nat) (h : cs[e]? = some c) (hc : isRun c = true) :
    ((cs.drop e).takeWhile isRun).length = ((cs.drop (e + 1)).takeWhile isRun).length + 1 := by
  rw [List.drop_eq_getElem_cons (List.getElem?_eq_some_iff.mp h).1, (List.getElem?_eq_some_iff.mp h).2, List.takeWhile_cons, if_pos hc, List.length_cons]
theorem run_stop (cs : List Nat) (e : Nat) (c : Nat) (h : cs[e]? = some c) (hc : isRun c = false) :
    ((cs.drop e).takeWhile isRun).length = 0 := by
  rw [List.drop_eq_getElem_cons (List.getElem?_eq_some_iff.mp h).1, (List.getElem?_eq_some_iff.mp h).2, List.takeWhile_cons, if_neg (by rw [hc]; decide)]
  rfl
theorem split_at (cs : List Nat) (a : Nat) (c : Nat) (h : cs[a]? = some c) :
    splitW a (cs.drop a) = (if isBlank c then [] else [(tx ((cs.drop a).take (more c (cs.drop (a + 1)) + 1)), a)]) ++ splitW (a + 1 + more c (cs.drop (a + 1))) (cs.drop (a + 1 + more c (cs.drop (a + 1)))) := by
  have d : cs.drop a = c :: cs.drop (a + 1) := by
    rw [List.drop_eq_getElem_cons (List.getElem?_eq_some_iff.mp h).1, (List.getElem?_eq_some_iff.mp h).2]
  rw [d]
  conv => lhs; unfold splitW
  rw [List.drop_drop, List.take_succ_cons]
/-- in the heap: a word with its place; a list of such -/
def PairAt (H : Hp) (v : V) (p : Str × Nat) : Prop := ∃ t, v = .ref t ∧ H t = some (.tup [.str p.1, .int p.2])
def WordsAt (H : Hp) (l : Addr) (W : List (Str × Nat)) : Prop := ∃ ts : List V, H l = some (.lst ts) ∧ Paired (PairAt H) ts W
theorem PairAt.mono {H H' : Hp} {v : V} {p : Str × Nat} (h : PairAt H v p) (k : ∀ t xs, H t = some (.tup xs) → H' t = some (.tup xs)) : PairAt H' v p := by
  obtain ⟨t, e, q⟩ := h
  exact ⟨t, e, k _ _ q⟩
theorem Paired.snoc {α β : Type} {F : α → β → Prop} {x : α} {y : β} : ∀ {l : List α} {m : List β}, Paired F l m → F x y → Paired F (l ++ [x]) (m ++ [y])
  | _, _, .nil, h => .cons h .nil
  | _, _, .cons a t, h => .cons a (Paired.snoc t h)
theorem Paired.mono {α β : Type} {F G : α → β → Prop} (k : ∀ x y, F x y → G x y) : ∀ {l : List α} {m : List β}, Paired F l m → Paired G l m
  | _, _, .nil => .nil
  | _, _, .cons a t => .cons (k _ _ a) (Paired.mono k t)
theorem Paired.at_ {α β : Type} {F : α → β → Prop} : ∀ {l : List α} {m : List β} {i : Nat} {y : β}, Paired F l m → m[i]? = some y → ∃ x, l[i]? = some x ∧ F x y
  | _, _, i, y, .nil, h => by simp at h
  | _, _, 0, y, .cons a t, h => by simp at h; subst h; exact ⟨_, rfl, a⟩
  | _, _, i + 1, y, .cons a t, h => by
    obtain ⟨x, e, q⟩ := Paired.at_ (i := i) (y := y) t (by simpa using h)
    exact ⟨x, by simpa using e, q⟩
theorem WordsAt.mono {H H' : Hp} {l : Addr} {W : List (Str × Nat)} (h : WordsAt H l W) (e : H' l = H l) (k : ∀ t xs, H t = some (.tup xs) → H' t = some (.tup xs)) : WordsAt H' l W := by
  obtain ⟨ts, q, r⟩ := h
  exact ⟨ts, e.trans q, Paired.mono (fun _ _ p => p.mono k) r⟩
/-- the promise of words_in and of _law_split -/
def spSplit : Sp := fun vs H Q _ => ∃ z : Str, vs = [.str z] ∧ z.length ≤ 100000 ∧ ∀ H' l, Same H H' → H l = none → WordsAt H' l (splitW 0 z.cps.toList) → Q (.ref l) H'
section
variable {P : Program} {w : World} {K : PySem.W.Frag} {mg : Str → Option Value} {base : Heap}
theorem ok_words_in (T : Txt K mg) : FnOk P w K mg base CX0 1 T.f_words_in T.d_words_in ["text"] spSplit := by
  refine T.F_words_in.ok sc_words_in (fun vs H Q E h => ?_) (fun cdv A outer s H vs Q E hr h => ?_)
  · obtain ⟨z, rfl, _⟩ := h
    rfl
  · obtain ⟨z, rfl, hz, k⟩ := h
    have nd := sc_words_in.nd
    refine ⟨_, pss_cons (ps_par (i := 1) (j := 2) rfl nd rfl rfl (by decide) rfl rfl (pa_cons (pe_lstN pa_nil) (pa_cons pe_int pa_nil)) (by rfl))
      (pss_cons (ps_while PassesOwn.never (pt_cmpR op_lt (pv 2) (pe_callB call_lenS (by rfl) T.z_len PySem.boot_len (pa_cons (pv 0) pa_nil)) (nomark _))
        (pss_cons (ps_set (i := 3) nd rfl (Or.inl rfl) (pe_op op_add (pv 2) pe_int))
        (pss_cons (ps_if (PW.pt (pw_or (pt_cmpR op_inSg (pe_ix ix_str (pv 0) (pv 2) (fun _ _ => rfl)) (pe_gs rfl T.c_SMALL_LETTERS) rfl)
            (pw_or1 (pt_cmpR op_inSg (pe_ix ix_str (pv 0) (pv 2) (fun _ _ => rfl)) (pe_gs rfl T.c_DIGITS) rfl))))
          (pss_one (ps_while PassesOwn.never (PW.pt (pw_and (pt_cmpR op_lt (pv 3) (pe_callB call_lenS (by rfl) T.z_len PySem.boot_len (pa_cons (pv 0) pa_nil)) (nomark _))
              (pw_and1 (PW.pt (pw_or (pt_cmpR op_inSg (pe_ix ix_str (pv 0) (pv 3) (fun _ _ => rfl)) (pe_gs rfl T.c_SMALL_LETTERS) rfl)
                (pw_or1 (pt_cmpR op_inSg (pe_ix ix_str (pv 0) (pv 3) (fun _ _ => rfl)) (pe_gs rfl T.c_DIGITS) rfl)))))))
            (pss_one (ps_aug (i := 3) nd rfl (Or.inl rfl) pe_int ip_add)))) pss_nil)
        (pss_cons (ps_if (pt_cmpR op_ninSg (pe_ix ix_str (pv 0) (pv 2) (fun _ _ => rfl)) (pe_gs rfl T.c_BLANKS) rfl)
          (pss_one (ps_expr (pe_bm PySem.F.plainAttrs_list PySem.F.slot_list_append PySem.F.type_list_append mt_appN (pv 1)
            (pa_cons (pe_tupN (pa_cons (pe_slice sl_str (pv 0) (po_some (pv 2)) (po_some (pv 3))) (pa_cons (pv 2) pa_nil))) pa_nil)))) pss_nil)
        (pss_one (ps_set (i := 2) nd rfl (Or.inl rfl) (pv 3)))))))
      (pss_one (ps_ret (pv 1)))), ?_⟩
    walk_at "rd"
    refine ⟨by simp, r_new fun l H1 l0 s1 hl => ?_⟩
    walk_at "rd"
    have hcl : z.cps.toList.length = z.length := Array.length_toList
    refine r_while (fun σ H' => ∃ (a : Nat) (e : Option V) (W : List (Str × Nat)), σ = [some (.str z), some (.ref l), some (.int a), e] ∧ Same H H' ∧ a ≤ z.length ∧ WordsAt H' l W ∧ W ++ splitW a (z.cps.toList.drop a) = splitW 0 z.cps.toList ∧ W.length ≤ a)
      (fun σ _ => z.length - natAt σ 2) ⟨0, none, [], rfl, s1, Nat.zero_le _, ⟨[], hl, .nil⟩, rfl, Nat.le_refl _⟩ ?_
    rintro σ H2 ⟨a, e, W, rfl, s2, ha, hW, eW, lW⟩ S hS
    walk_at "rd"
    refine r_lenS hz ?_
    walk_at "rd"
    refine hS _ _ (fun hb => ?_) (fun hb => ?_)
    · have hlt : a < z.length := by have := of_decide_eq_true hb; omega
      obtain ⟨c, hc⟩ : ∃ c, z.cps.toList[a]? = some c := ⟨_, List.getElem?_eq_getElem (by rw [hcl]; exact hlt)⟩
      have hix : atI z.cps.toList (a : Int) = some c := atI_nat hc
      have hsp := split_at z.cps.toList a c hc
      obtain ⟨E, hE⟩ : ∃ E, E = a + 1 + more c (z.cps.toList.drop (a + 1)) := ⟨_, rfl⟩
      rw [← hE] at hsp
      have hE2 : E ≤ z.length := by
        have := more_le c (z.cps.toList.drop (a + 1))
        rw [List.length_drop, hcl] at this
        omega
      clear hS hb
      refine r_seq ?_
      walk_at "re"
      refine r_mid (fun σ' H' => H' = H2 ∧ σ' = [some (.str z), some (.ref l), some (.int a), some (.int E)]) ?_ fun n hn => ?_
      · -- the word
        rintro _ _ ⟨rfl, rfl⟩
        refine r_mid (fun σ' H' => σ' = [some (.str z), some (.ref l), some (.int a), some (.int E)] ∧ Same H H' ∧ ∃ W', WordsAt H' l W' ∧ W' ++ splitW E (z.cps.toList.drop E) = splitW 0 z.cps.toList ∧ W'.length ≤ E) ?_ fun n hn => ?_
        · rintro _ H3 ⟨rfl, s3, W', hW', eW', lW'⟩
          walk_at "rd"
          refine ⟨⟨E, _, W', rfl, s3, hE2, hW', eW', lW'⟩, ?_⟩
          show z.length - E < z.length - a
          omega
        · walk_at "rd"
          refine r_ixS hix hz ?_
          walk_at "rd"
          rw [blank_mem]
          obtain ⟨ts, hts, hp⟩ := hW
          have lts : ts.length = W.length := hp.length
          refine iteB (fun hbl => ?_) (fun hbl => ?_)
          · walk_at "rd"
            refine r_tyl hts ?_
            walk_at "rd"
            refine r_slS hz ?_
            walk_at "rd"
            refine ⟨by simp, r_new fun p H3 p0 s3 hp3 => ?_⟩
            walk_at "rd"
            refine r_app (s3 _ _ hts) (by omega) (r_chg fun H4 e4 h4 => ?_)
            walk_at "rd"
            have hbf : isBlank c = false := by simpa using hbl
            rw [hbf] at hsp
            have tb := tup_but (s3 _ _ hts) e4
            refine hn _ _ ⟨rfl, same_but (s2.trans s3) l0 e4, W ++ [(tx ((z.cps.toList.drop a).take (more c (z.cps.toList.drop (a + 1)) + 1)), a)], ⟨_, h4, ?_⟩, ?_, ?_⟩
            · refine Paired.snoc (Paired.mono (fun v w h => h.mono fun t xs q => tb _ _ (s3 _ _ q)) hp) ⟨p, rfl, tb _ _ ?_⟩
              rw [hp3]
              unfold cutS
              rw [HT.sIx_nat, HT.sIx_nat, Nat.min_eq_left ha, Nat.min_eq_left hE2]
              have : E - a = more c (z.cps.toList.drop (a + 1)) + 1 := by omega
              rw [this]
            · rw [List.append_assoc, ← eW, hsp]
              rfl
            · rw [List.length_append, List.length_singleton]
              omega
          · walk_at "rd"
            have hbf : isBlank c = true := by simpa using hbl
            rw [hbf] at hsp
            refine hn _ _ ⟨rfl, s2, W, ⟨ts, hts, hp⟩, ?_, by omega⟩
            rw [← eW, hsp]
            rfl
      · -- how far the run goes
        refine r_ifB (isRun c) (fun S q => ?_) (fun hr => ?_) (fun hr => ?_)
        · walk_at "re"
          refine r_ixS hix hz ?_
          walk_at "re"
          rw [low_mem]
          unfold isRun at q
          refine iteB (fun h1 => ?_) (fun h1 => ?_)
          · rw [h1, Bool.true_or] at q
            exact q
          · walk_at "re"
            refine r_ixS hix hz ?_
            walk_at "re"
            rw [dig_mem]
            rw [h1, Bool.false_or] at q
            exact q
        · -- the loop
          unfold more at hE
          rw [if_pos hr] at hE
          refine r_while (fun σ' H' => ∃ b : Nat, σ' = [some (.str z), some (.ref l), some (.int a), some (.int b)] ∧ H' = H2 ∧ b + ((z.cps.toList.drop b).takeWhile isRun).length = E) (fun σ' _ => z.length - natAt σ' 3) ⟨a + 1, rfl, rfl, by omega⟩ ?_
          rintro _ H3 ⟨b, rfl, rfl, hbE⟩ S hS
          walk_at "re"
          refine r_lenS hz ?_
          walk_at "re"
          by_cases hlb : b < z.length
          · obtain ⟨c', hc'⟩ : ∃ c', z.cps.toList[b]? = some c' := ⟨_, List.getElem?_eq_getElem (by rw [hcl]; exact hlb)⟩
            have hix' : atI z.cps.toList (b : Int) = some c' := atI_nat hc'
            refine iteBT (decide_eq_true (by omega)) ?_
            have fin : S (isRun c') H3 := by
              refine hS _ _ (fun h1 => ?_) (fun h1 => ?_)
              · have := run_step z.cps.toList b c' hc' h1
                walk_at "re"
                refine ⟨⟨b + 1, rfl, rfl, by omega⟩, ?_⟩
                show z.length - (b + 1) < z.length - b
                omega
              · have := run_stop z.cps.toList b c' hc' h1
                refine hn _ _ ⟨rfl, ?_⟩
                rw [show b = E by omega]
            walk_at "re"
            refine r_ixS hix' hz ?_
            walk_at "re"
            rw [low_mem]
            unfold isRun at fin
            refine iteB (fun h1 => ?_) (fun h1 => ?_)
            · rw [h1, Bool.true_or] at fin
              exact fin
            · walk_at "re"
              refine r_ixS hix' hz ?_
              walk_at "re"
              rw [dig_mem]
              rw [h1, Bool.false_or] at fin
              exact fin
          · refine iteBF (decide_eq_false (by omega)) ?_
            refine hS _ _ (fun h1 => by cases h1) (fun h1 => hn _ _ ⟨rfl, ?_⟩)
            rw [List.drop_eq_nil_of_le (by omega)] at hbE
            simp only [List.takeWhile_nil, List.length_nil] at hbE
            rw [show b = E by omega]
        · unfold more at hE
          rw [if_neg (by rw [hr]; decide)] at hE
          refine r_next (hn _ _ ⟨rfl, ?_⟩)
          rw [hE]
          rfl
    · walk_at "rd"
      have e0 : a = z.length := by
        have := of_decide_eq_false hb
        omega
      refine k H2 l s2 l0 ?_
      rw [List.drop_eq_nil_of_le (by omega)] at eW
      have en : splitW a [] = [] := by unfold splitW; rfl
      rw [en, List.append_nil] at eW
      rw [← eW]
      exact hW
end
end Kt
namespace Kt
open PySem PySem.Spec PyProof.Rows L2
/-! ## 4. Numerals -/
def isDig (c : Nat) : Bool := decide (48 ≤ c ∧ c ≤ 57)
def isNum (l : List Nat) : Bool := decide (1 ≤ l.length ∧ l.length ≤ 30) && l.all isDig && (decide (l = [48]) || decide (l[0]? ≠ some 48))
def val (l : List Nat) : Nat := NumText.digitsVal l
/-- the codes of a text -/
abbrev cp (z : Str) : List Nat := z.cps.toList
theorem tx_cp (z : Str) : tx (cp z) = z := by
  obtain ⟨a⟩ := z
  simp
theorem cp_tx (l : List Nat) : cp (tx l) = l := by simp
theorem str_ext {a b : Str} (h : cp a = cp b) : a = b := by rw [← tx_cp a, h, tx_cp]
theorem cp_len (z : Str) : (cp z).length = z.length := Array.length_toList
theorem num_dig {l : List Nat} (h : isNum l = true) : ∀ c ∈ l, 48 ≤ c ∧ c ≤ 57 := by
  unfold isNum at h
  simp only [Bool.and_eq_true, List.all_eq_true] at h
  exact fun c hc => of_decide_eq_true (h.1.2 c hc)
theorem num_len {l : List Nat} (h : isNum l = true) : 1 ≤ l.length ∧ l.length ≤ 30 := by
  unfold isNum at h
  simp only [Bool.and_eq_true] at h
  exact of_decide_eq_true h.1.1
theorem num_int {z : Str} (h : isNum (cp z) = true) : PySem.intText? z = some ((val (cp z) : Nat) : Int) :=
  intText_digits (num_dig h) (by
    have h1 := (num_len h).1
    intro e
    have e2 : (cp z).length = 0 := by rw [show cp z = [] from e]; rfl
    omega) (by
    have := (num_len h).2
    rw [cp_len] at this
    omega)
theorem fold_ge (l : List Nat) : ∀ a : Nat, 1 ≤ a → 1 ≤ l.foldl (fun acc c => acc * 10 + (c - 48)) a := by
  induction l with
  | nil => exact fun a h => h
  | cons c r ih => exact fun a h => ih _ (show 1 ≤ a * 10 + (c - 48) by omega)
theorem num_zero {l : List Nat} (h : isNum l = true) : val l = 0 ↔ l = [48] := by
  constructor
  · intro e
    have hd := num_dig h
    have hl := num_len h
    unfold isNum at h
    simp only [Bool.and_eq_true, Bool.or_eq_true, decide_eq_true_eq] at h
    rcases h.2 with h2 | h2
    · exact h2
    · cases l with
      | nil => simp at hl
      | cons c r =>
        have hc := hd c List.mem_cons_self
        have : c ≠ 48 := fun z => h2 (by rw [z]; rfl)
        have hv : 1 ≤ val (c :: r) := by
          unfold val NumText.digitsVal
          rw [List.foldl_cons]
          exact fold_ge r _ (by omega)
        omega
  · intro e
    rw [e]
    rfl
/-- the promise of is_numeral and of _law_is_numeral -/
def spNum : Sp := fun vs H Q _ => ∃ z : Str, vs = [.str z] ∧ z.length ≤ 100000 ∧ ∀ H', Same H H' → Q (.bl (isNum (cp z))) H'
theorem zero_str (z : Str) : decide (z = ("0" : Str)) = decide (cp z = [48]) := by
  refine decide_eq_decide.mpr ⟨fun e => ?_, fun e => str_ext ?_⟩
  · rw [e]
    decide +kernel
  · rw [e]
    decide +kernel
theorem sign_ne (c : Nat) : decide (tx [c] = ("0" : Str)) = decide (c = 48) := by
  rw [zero_str]
  refine decide_eq_decide.mpr ⟨fun e => ?_, fun e => ?_⟩
  · rw [cp_tx] at e
    exact (List.cons.inj e).1
  · rw [e, cp_tx]
section
variable {P : Program} {w : World} {K : PySem.W.Frag} {mg : Str → Option Value} {base : Heap}
theorem ok_is_numeral (T : Txt K mg) : FnOk P w K mg base CX0 1 T.f_is_numeral T.d_is_numeral ["word"] spNum := by
  refine T.F_is_numeral.ok sc_is_numeral (fun vs H Q E h => ?_) (fun cdv A outer s H vs Q E hr h => ?_)
  · obtain ⟨z, rfl, _⟩ := h
    rfl
  · obtain ⟨z, rfl, hz, k⟩ := h
    have nd := sc_is_numeral.nd
    refine ⟨_, pss_cons (ps_if (PW.pt (pw_or (pt_not (pt_chain op_le op_le pe_int (pe_callB call_lenS (by rfl) T.z_len PySem.boot_len (pa_cons (pv 0) pa_nil)) (pe_gi rfl T.c_LONGEST_NUMERAL)))
        (pw_or1 (pt_not (pt_val (pe_callB (cr_all rfl) (by rfl) T.z_all (by decide +kernel) (pa_cons
          (pe_lc (own := [("sign", 1)]) (g := gName 1) (tt := tYes) rfl nd (pi_str (pv 0)) (blkOk_by (N := n_is_numeral) (sc := defScope s_is_numeral) (by decide +kernel)) (fun _ _ _ _ _ => pg_name (i := 1) nd rfl (Or.inl rfl)) (fun _ _ _ _ _ => pts_nil)
            (fun _ _ _ _ _ => pe_cmpR op_inSg (pv 1) (pe_gs rfl T.c_DIGITS) rfl)) pa_nil)))))))
        (pss_one (ps_ret pe_bl)) pss_nil)
      (pss_one (ps_ret (pe_or (pe_cmpR op_eq (pv 0) pe_str (nomark _)) (pe_one (pe_cmpR op_ne (pe_ix ix_str (pv 0) pe_int (fun _ _ => rfl)) pe_str (nomark _)))))), ?_⟩
    have hl := cp_len z
    refine r_mid (fun σ' H' => σ' = [some (.str z), none] ∧ Same H H' ∧ (decide (1 ≤ (cp z).length ∧ (cp z).length ≤ 30) && (cp z).all isDig) = true) ?_ fun n hn => ?_
    · rintro _ H1 ⟨rfl, s1, hb⟩
      walk_at "re"
      rw [zero_str]
      have e : isNum (cp z) = (decide (cp z = [48]) || decide ((cp z)[0]? ≠ some 48)) := by
        unfold isNum
        rw [hb, Bool.true_and]
      refine iteB (fun h0 => ?_) (fun h0 => ?_)
      · rw [h0, Bool.true_or] at e
        have := k H1 s1
        rw [e] at this
        exact this
      · have hlen : 1 ≤ (cp z).length := by
          rw [Bool.and_eq_true] at hb
          exact (of_decide_eq_true hb.1).1
        obtain ⟨c, hc⟩ : ∃ c, (cp z)[0]? = some c := ⟨_, List.getElem?_eq_getElem (by omega)⟩
        walk_at "re"
        refine r_ixS (atI_nat (j := 0) hc) hz ?_
        walk_at "re"
        rw [sign_ne]
        rw [h0, Bool.false_or, hc] at e
        have := k H1 s1
        rw [e] at this
        have e2 : decide (some c ≠ some 48) = !decide (c = 48) := by
          rw [← decide_not]
          exact decide_eq_decide.mpr ⟨fun h z => h (by rw [z]), fun h z => h (Option.some.inj z)⟩
        rw [e2] at this
        exact this
    · -- the test
      have out : (decide (1 ≤ (cp z).length ∧ (cp z).length ≤ 30) && (cp z).all isDig) = false → ∀ H1, Same H H1 → Q (.bl false) H1 := fun h H1 s1 => by
        have e : isNum (cp z) = false := by
          unfold isNum
          rw [h]
          rfl
        have := k H1 s1
        rw [e] at this
        exact this
      walk_at "re"
      refine r_lenS hz ?_
      walk_at "re"
      by_cases h1 : (1 : Int) ≤ z.length
      · refine iteBT (decide_eq_true h1) ?_
        walk_at "re"
        refine iteB (fun h2 => ?_) (fun h2 => ?_)
        · refine iteBT rfl ?_
          walk_at "re"
          have h3 : ¬ ((z.length : Int) ≤ 30) := by simpa using h2
          refine out ?_ H (Same.refl H)
          rw [Bool.and_eq_false_iff]
          refine .inl (decide_eq_false ?_)
          omega
        · have h3 : (z.length : Int) ≤ 30 := by simpa using h2
          walk_at "re"
          refine r_iStr rfl ?_
          refine r_lcW walk_str (fun D i H' => Same H H' ∧ H' D = some (.lst (((cp z).take i).map fun c => V.bl (isDig c)))) (fun D H' _ s1 hD => ⟨s1, by rw [hD]; rfl⟩) (fun _ _ _ _ _ _ => trivial) ?_ ?_
          · rintro D i x H1 H2 hD hi ⟨s1, hD1⟩ ⟨rfl, c, hc, rfl⟩
            walk_at "re"
            refine ⟨rfl, ?_⟩
            walk_at "re"
            have hc' : (cp z)[i]? = some c := by rw [← hc, Array.getElem?_toList]
            have hli : (((cp z).take i).map fun c => V.bl (isDig c)).length < 100000 := by
              rw [List.length_map, List.length_take]
              have : i < z.length := hi
              omega
            refine r_acc hD1 hli (r_chg fun H3 e3 h3 => ⟨same_but s1 hD e3, ?_⟩)
            rw [h3, List.take_add_one, hc', dig_mem]
            simp [isDig]
          · rintro D H1 hD ⟨s1, hD1⟩
            have hfull : (((cp z).take z.cps.size).map fun c => V.bl (isDig c)) = ((cp z).map isDig).map V.bl := by
              rw [List.take_of_length_le (by rw [hl]; exact Nat.le_refl _), List.map_map]
              rfl
            rw [hfull] at hD1
            walk_at "re"
            refine ⟨D, _, rfl, SqL.of hD1, ?_⟩
            walk_at "re"
            have ea : ((cp z).map isDig).all id = (cp z).all isDig := by
              rw [List.all_map]
              rfl
            rw [ea]
            have h4 : decide (1 ≤ (cp z).length ∧ (cp z).length ≤ 30) = true := decide_eq_true (by omega)
            refine iteB (fun h5 => ?_) (fun h5 => ?_)
            · have h6 : (cp z).all isDig = false := by simpa using h5
              walk_at "re"
              exact out (by rw [h6, Bool.and_false]) H1 s1
            · have h6 : (cp z).all isDig = true := by simpa using h5
              walk_at "re"
              exact hn _ _ ⟨rfl, s1, by rw [h4, h6]; rfl⟩
      · refine iteBF (decide_eq_false h1) ?_
        walk_at "re"
        refine out ?_ H (Same.refl H)
        rw [Bool.and_eq_false_iff]
        refine .inl (decide_eq_false ?_)
        omega
end
end Kt
namespace Kt
open PySem PySem.Spec PyProof.Rows L2
/-! ## 5. The law's own words and numerals -/
theorem empty_str (z : Str) : decide (z = ("" : Str)) = decide (cp z = []) := by
  refine decide_eq_decide.mpr ⟨fun e => ?_, fun e => str_ext ?_⟩
  · rw [e]
    decide +kernel
  · rw [e]
    decide +kernel
section
variable {P : Program} {w : World} {K : PySem.W.Frag} {mg : Str → Option Value} {base : Heap}
theorem ok_law_is_numeral (T : Txt K mg) : FnOk P w K mg base CX0 1 T.f_law_is_numeral T.d_law_is_numeral ["word"] spNum := by
  refine T.F_law_is_numeral.ok sc_law_is_numeral (fun vs H Q E h => ?_) (fun cdv A outer s H vs Q E hr h => ?_)
  · obtain ⟨z, rfl, _⟩ := h
    rfl
  · obtain ⟨z, rfl, hz, k⟩ := h
    have nd := sc_law_is_numeral.nd
    refine ⟨_, pss_cons (ps_if (PW.pt (pw_or (pt_cmpR op_eq (pv 0) pe_str (nomark _)) (pw_or (pt_cmpR op_gt (pe_callB call_lenS (by rfl) T.z_len PySem.boot_len (pa_cons (pv 0) pa_nil)) pe_int (nomark _))
        (pw_or1 (pt_cmpR (op_neNil hr.units0) (pe_lc (own := [("sign", 1)]) (g := gName 1) (tt := tTest (tOp rNinSg (tVar 1) (tC (.str "0123456789")))) rfl nd (pi_str (pv 0)) (blkOk_by (N := n_law_is_numeral) (sc := defScope s_law_is_numeral) (by decide +kernel)) (fun _ _ _ _ _ => pg_name (i := 1) nd rfl (Or.inl rfl))
            (fun _ _ _ _ _ => pts_one (pt_cmpR op_ninSg (pv 1) pe_str rfl)) (fun _ _ _ _ _ => pv 1)) (pe_lstN pa_nil) (nomark _))))))
        (pss_one (ps_ret pe_bl)) pss_nil)
      (pss_one (ps_ret (pe_or (pe_cmpR op_eq (pv 0) pe_str (nomark _)) (pe_one (pe_cmpR op_ne (pe_ix ix_str (pv 0) pe_int (fun _ _ => rfl)) pe_str (nomark _)))))), ?_⟩
    have hl := cp_len z
    refine r_mid (fun σ' H' => σ' = [some (.str z), none] ∧ Same H H' ∧ (decide (1 ≤ (cp z).length ∧ (cp z).length ≤ 30) && (cp z).all isDig) = true) ?_ fun n hn => ?_
    · rintro _ H1 ⟨rfl, s1, hb⟩
      walk_at "re"
      rw [zero_str]
      have e : isNum (cp z) = (decide (cp z = [48]) || decide ((cp z)[0]? ≠ some 48)) := by
        unfold isNum
        rw [hb, Bool.true_and]
      refine iteB (fun h0 => ?_) (fun h0 => ?_)
      · rw [h0, Bool.true_or] at e
        have := k H1 s1
        rw [e] at this
        exact this
      · have hlen : 1 ≤ (cp z).length := by
          rw [Bool.and_eq_true] at hb
          exact (of_decide_eq_true hb.1).1
        obtain ⟨c, hc⟩ : ∃ c, (cp z)[0]? = some c := ⟨_, List.getElem?_eq_getElem (by omega)⟩
        walk_at "re"
        refine r_ixS (atI_nat (j := 0) hc) hz ?_
        walk_at "re"
        rw [sign_ne]
        rw [h0, Bool.false_or, hc] at e
        have := k H1 s1
        rw [e] at this
        have e2 : decide (some c ≠ some 48) = !decide (c = 48) := by
          rw [← decide_not]
          exact decide_eq_decide.mpr ⟨fun h z => h (by rw [z]), fun h z => h (Option.some.inj z)⟩
        rw [e2] at this
        exact this
    · -- the test
      have out : (decide (1 ≤ (cp z).length ∧ (cp z).length ≤ 30) && (cp z).all isDig) = false → ∀ H1, Same H H1 → Q (.bl false) H1 := fun h H1 s1 => by
        have e : isNum (cp z) = false := by
          unfold isNum
          rw [h]
          rfl
        have := k H1 s1
        rw [e] at this
        exact this
      walk_at "re"
      rw [empty_str]
      refine iteB (fun h1 => ?_) (fun h1 => ?_)
      · walk_at "re"
        have : cp z = [] := of_decide_eq_true h1
        refine out ?_ H (Same.refl H)
        rw [Bool.and_eq_false_iff]
        refine .inl (decide_eq_false ?_)
        rw [this]
        simp
      · have h1' : ¬ cp z = [] := of_decide_eq_false h1
        have hpos : 1 ≤ (cp z).length := by
          cases e : cp z with
          | nil => exact absurd e h1'
          | cons c r => simp
        walk_at "re"
        refine r_lenS hz ?_
        walk_at "re"
        refine iteB (fun h2 => ?_) (fun h2 => ?_)
        · walk_at "re"
          have h3 := of_decide_eq_true h2
          refine out ?_ H (Same.refl H)
          rw [Bool.and_eq_false_iff]
          refine .inl (decide_eq_false ?_)
          omega
        · have h3 := of_decide_eq_false h2
          have h4 : decide (1 ≤ (cp z).length ∧ (cp z).length ≤ 30) = true := decide_eq_true (by omega)
          walk_at "re"
          refine r_iStr rfl ?_
          refine r_lcW walk_str (fun D i H' => Same H H' ∧ H' D = some (.lst ((((cp z).take i).filter fun c => !isDig c).map fun c => V.str (tx [c])))) (fun D H' _ s1 hD => ⟨s1, by rw [hD]; rfl⟩) (fun _ _ _ _ _ _ => trivial) ?_ ?_
          · rintro D i x H1 H2 hD hi ⟨s1, hD1⟩ ⟨rfl, c, hc, rfl⟩
            walk_at "re"
            refine ⟨rfl, ?_⟩
            walk_at "re"
            rw [dig_mem]
            have hc' : (cp z)[i]? = some c := by rw [← hc, Array.getElem?_toList]
            refine iteB (fun h5 => ?_) (fun h5 => ?_)
            · walk_at "re"
              have hli : ((((cp z).take i).filter fun c => !isDig c).map fun c => V.str (tx [c])).length < 100000 := by
                have q1 := List.length_filter_le (fun c => !isDig c) ((cp z).take i)
                rw [List.length_take] at q1
                rw [List.length_map]
                have : i < z.length := hi
                omega
              refine r_acc hD1 hli (r_chg fun H3 e3 h3 => ⟨same_but s1 hD e3, ?_⟩)
              have h6 : (!isDig c) = true := h5
              rw [h3, List.take_add_one, hc']
              simp [h6]
            · have h6 : (!isDig c) = false := h5
              refine ⟨s1, ?_⟩
              rw [hD1, List.take_add_one, hc']
              simp [h6]
          · rintro D H1 hD ⟨s1, hD1⟩
            rw [List.take_of_length_le (by rw [hl]; exact Nat.le_refl _)] at hD1
            walk_at "re"
            refine ⟨by simp, r_new fun p H2 p0 s2 hp => ?_⟩
            refine r_neNil (SqL.of (s2 _ _ hD1)) (SqL.of hp) ?_
            walk_at "re"
            have ea : ((((cp z).filter fun c => !isDig c).map fun c => V.str (tx [c])).isEmpty) = (cp z).all isDig := by
              generalize cp z = l
              induction l with
              | nil => rfl
              | cons c r ih =>
                cases hc : isDig c with
                | true => simp only [List.filter_cons, hc, List.all_cons, Bool.not_true, Bool.false_eq_true, if_false, Bool.true_and]; exact ih
                | false => simp [List.filter_cons, hc]
            rw [ea]
            refine iteB (fun h5 => ?_) (fun h5 => ?_)
            · have h6 : (cp z).all isDig = false := by simpa using h5
              walk_at "re"
              exact out (by rw [h6, Bool.and_false]) H2 (s1.trans s2)
            · have h6 : (cp z).all isDig = true := by simpa using h5
              walk_at "re"
              exact hn _ _ ⟨rfl, s1.trans s2, by rw [h4, h6]; rfl⟩
theorem ok_law_split (T : Txt K mg) : FnOk P w K mg base CX0 1 T.f_law_split T.d_law_split ["text"] spSplit := by
  refine T.F_law_split.ok sc_law_split (fun vs H Q E h => ?_) (fun cdv A outer s H vs Q E hr h => ?_)
  · obtain ⟨z, rfl, _⟩ := h
    rfl
  · obtain ⟨z, rfl, hz, k⟩ := h
    have nd := sc_law_split.nd
    refine ⟨_, pss_cons (ps_par3 (i := 1) (j := 2) (l := 3) rfl nd rfl rfl rfl (by decide) (by decide) (by decide) rfl rfl rfl (pa_cons pe_str (pa_cons (pe_lstN pa_nil) (pa_cons pe_int pa_nil))) (by rfl))
      (pss_cons (ps_while PassesOwn.never (pt_cmpR op_lt (pv 3) (pe_callB call_lenS (by rfl) T.z_len PySem.boot_len (pa_cons (pv 0) pa_nil)) (nomark _))
        (pss_cons (ps_set (i := 4) nd rfl (Or.inl rfl) (pe_op op_add (pv 3) pe_int))
        (pss_cons (ps_while PassesOwn.never (PW.pt (pw_and (pt_cmpR op_inSg (pe_ix ix_str (pv 0) (pv 3) (fun _ _ => rfl)) (pv 1) rfl) (pw_and (pt_cmpR op_lt (pv 4) (pe_callB call_lenS (by rfl) T.z_len PySem.boot_len (pa_cons (pv 0) pa_nil)) (nomark _))
              (pw_and1 (pt_cmpR op_inSg (pe_ix ix_str (pv 0) (pv 4) (fun _ _ => rfl)) (pv 1) rfl)))))
            (pss_one (ps_set (i := 4) nd rfl (Or.inl rfl) (pe_op op_add (pv 4) pe_int))))
        (pss_cons (ps_if (pt_cmpR op_ninSg (pe_ix ix_str (pv 0) (pv 3) (fun _ _ => rfl)) pe_str rfl)
          (pss_one (ps_expr (pe_bm PySem.F.plainAttrs_list PySem.F.slot_list_append PySem.F.type_list_append mt_appN (pv 2)
            (pa_cons (pe_tupN (pa_cons (pe_slice sl_str (pv 0) (po_some (pv 3)) (po_some (pv 4))) (pa_cons (pv 3) pa_nil))) pa_nil)))) pss_nil)
        (pss_one (ps_set (i := 3) nd rfl (Or.inl rfl) (pv 4)))))))
      (pss_one (ps_ret (pv 2)))), ?_⟩
    obtain ⟨rn, hrn⟩ : ∃ rn : Str, rn = "abcdefghijklmnopqrstuvwxyz0123456789" := ⟨_, rfl⟩
    have hrun : ∀ c, decide (c ∈ rn.cps.toList) = isRun c := fun c => by rw [hrn]; exact run_mem c
    rw [← hrn]
    clear hrn
    walk_at "rd"
    refine ⟨by simp, r_new fun l H1 l0 s1 hl => ?_⟩
    walk_at "rd"
    have hcl : z.cps.toList.length = z.length := Array.length_toList
    refine r_while (fun σ H' => ∃ (a : Nat) (e : Option V) (W : List (Str × Nat)), σ = [some (.str z), some (.str rn), some (.ref l), some (.int a), e] ∧ Same H H' ∧ a ≤ z.length ∧ WordsAt H' l W ∧ W ++ splitW a (z.cps.toList.drop a) = splitW 0 z.cps.toList ∧ W.length ≤ a)
      (fun σ _ => z.length - natAt σ 3) ⟨0, none, [], rfl, s1, Nat.zero_le _, ⟨[], hl, .nil⟩, rfl, Nat.le_refl _⟩ ?_
    rintro σ H2 ⟨a, e, W, rfl, s2, ha, hW, eW, lW⟩ S hS
    walk_at "rd"
    refine r_lenS hz ?_
    walk_at "rd"
    refine hS _ _ (fun hb => ?_) (fun hb => ?_)
    · have hlt : a < z.length := by have := of_decide_eq_true hb; omega
      obtain ⟨c, hc⟩ : ∃ c, z.cps.toList[a]? = some c := ⟨_, List.getElem?_eq_getElem (by rw [hcl]; exact hlt)⟩
      have hix : atI z.cps.toList (a : Int) = some c := atI_nat hc
      have hsp := split_at z.cps.toList a c hc
      obtain ⟨E, hE⟩ : ∃ E, E = a + 1 + more c (z.cps.toList.drop (a + 1)) := ⟨_, rfl⟩
      rw [← hE] at hsp
      have hE2 : E ≤ z.length := by
        have := more_le c (z.cps.toList.drop (a + 1))
        rw [List.length_drop, hcl] at this
        omega
      clear hS hb
      refine r_seq ?_
      walk_at "re"
      refine r_mid (fun σ' H' => H' = H2 ∧ σ' = [some (.str z), some (.str rn), some (.ref l), some (.int a), some (.int E)]) ?_ fun n hn => ?_
      · -- the word
        rintro _ _ ⟨rfl, rfl⟩
        refine r_mid (fun σ' H' => σ' = [some (.str z), some (.str rn), some (.ref l), some (.int a), some (.int E)] ∧ Same H H' ∧ ∃ W', WordsAt H' l W' ∧ W' ++ splitW E (z.cps.toList.drop E) = splitW 0 z.cps.toList ∧ W'.length ≤ E) ?_ fun n hn => ?_
        · rintro _ H3 ⟨rfl, s3, W', hW', eW', lW'⟩
          walk_at "rd"
          refine ⟨⟨E, _, W', rfl, s3, hE2, hW', eW', lW'⟩, ?_⟩
          show z.length - E < z.length - a
          omega
        · walk_at "rd"
          refine r_ixS hix hz ?_
          walk_at "rd"
          rw [blank_mem]
          obtain ⟨ts, hts, hp⟩ := hW
          have lts : ts.length = W.length := hp.length
          refine iteB (fun hbl => ?_) (fun hbl => ?_)
          · walk_at "rd"
            refine r_tyl hts ?_
            walk_at "rd"
            refine r_slS hz ?_
            walk_at "rd"
            refine ⟨by simp, r_new fun p H3 p0 s3 hp3 => ?_⟩
            walk_at "rd"
            refine r_app (s3 _ _ hts) (by omega) (r_chg fun H4 e4 h4 => ?_)
            walk_at "rd"
            have hbf : isBlank c = false := by simpa using hbl
            rw [hbf] at hsp
            have tb := tup_but (s3 _ _ hts) e4
            refine hn _ _ ⟨rfl, same_but (s2.trans s3) l0 e4, W ++ [(tx ((z.cps.toList.drop a).take (more c (z.cps.toList.drop (a + 1)) + 1)), a)], ⟨_, h4, ?_⟩, ?_, ?_⟩
            · refine Paired.snoc (Paired.mono (fun v w h => h.mono fun t xs q => tb _ _ (s3 _ _ q)) hp) ⟨p, rfl, tb _ _ ?_⟩
              rw [hp3]
              unfold cutS
              rw [HT.sIx_nat, HT.sIx_nat, Nat.min_eq_left ha, Nat.min_eq_left hE2]
              have : E - a = more c (z.cps.toList.drop (a + 1)) + 1 := by omega
              rw [this]
            · rw [List.append_assoc, ← eW, hsp]
              rfl
            · rw [List.length_append, List.length_singleton]
              omega
          · walk_at "rd"
            have hbf : isBlank c = true := by simpa using hbl
            rw [hbf] at hsp
            refine hn _ _ ⟨rfl, s2, W, ⟨ts, hts, hp⟩, ?_, by omega⟩
            rw [← eW, hsp]
            rfl
      · -- how far the run goes
        refine r_while (fun σ' H' => ∃ b : Nat, σ' = [some (.str z), some (.str rn), some (.ref l), some (.int a), some (.int b)] ∧ H' = H2 ∧ (if isRun c then b + ((z.cps.toList.drop b).takeWhile isRun).length else b) = E) (fun σ' _ => z.length - natAt σ' 4) ⟨a + 1, rfl, rfl, ?_⟩ ?_
        · rw [hE]
          unfold more
          split <;> omega
        rintro _ H3 ⟨b, rfl, rfl, hbE⟩ S hS
        walk_at "re"
        refine r_ixS hix hz ?_
        walk_at "re"
        rw [hrun]
        refine iteB (fun hr => ?_) (fun hr => ?_)
        · rw [if_pos hr] at hbE
          walk_at "re"
          refine r_lenS hz ?_
          walk_at "re"
          by_cases hlb : b < z.length
          · obtain ⟨c', hc'⟩ : ∃ c', z.cps.toList[b]? = some c' := ⟨_, List.getElem?_eq_getElem (by rw [hcl]; exact hlb)⟩
            have hix' : atI z.cps.toList (b : Int) = some c' := atI_nat hc'
            refine iteBT (decide_eq_true (by omega)) ?_
            walk_at "re"
            refine r_ixS hix' hz ?_
            walk_at "re"
            rw [hrun]
            refine hS _ _ (fun h1 => ?_) (fun h1 => ?_)
            · have := run_step z.cps.toList b c' hc' h1
              walk_at "re"
              refine ⟨⟨b + 1, rfl, rfl, by rw [if_pos hr]; omega⟩, ?_⟩
              show z.length - (b + 1) < z.length - b
              omega
            · have := run_stop z.cps.toList b c' hc' h1
              refine hn _ _ ⟨rfl, ?_⟩
              rw [show b = E by omega]
          · refine iteBF (decide_eq_false (by omega)) ?_
            refine hS _ _ (fun h1 => by cases h1) (fun h1 => hn _ _ ⟨rfl, ?_⟩)
            rw [List.drop_eq_nil_of_le (by omega)] at hbE
            simp only [List.takeWhile_nil, List.length_nil] at hbE
            rw [show b = E by omega]
        · rw [if_neg (by rw [hr]; decide)] at hbE
          refine hS _ _ (fun h1 => by cases h1) (fun h1 => hn _ _ ⟨rfl, ?_⟩)
          rw [hbE]
    · walk_at "rd"
      have e0 : a = z.length := by
        have := of_decide_eq_false hb
        omega
      refine k H2 l s2 l0 ?_
      rw [List.drop_eq_nil_of_le (by omega)] at eW
      have en : splitW a [] = [] := by unfold splitW; rfl
      rw [en, List.append_nil] at eW
      rw [← eW]
      exact hW
end
end Kt
/-! ## 0c. BadText, whose __init__ says super().__init__('..') and stores place -/
namespace Kt
open PySem PySem.Spec PyProof.Rows PySem.W PySem.Calls
abbrev s_B_init : Stmt := L2.inClass (topS 2) 0
abbrev bArgs : Arguments := L2.defArgs s_B_init
abbrev bBody : List Stmt := L2.defBody s_B_init
abbrev bScope : Scope := L2.defScope s_B_init
/-- what the written part says of BadText, at C, and of its __init__, at fI -/
structure BTxt (P : Program) (K : Frag) (mg : Str → Option Value) (C fI : Addr) : Prop where
  gC : mg "BadText" = some (.ref C)
  zS : mg "super" = none
  cls : ∃ nm q N bs bm sn sub ab col dd k0 k1 k2 k3 k5, K.lookup C = some (excClassObj nm q C N bs bm true sn sub ab col dd k0 k1 k2 k3 k5 "ValueError.__new__") ∧ HandSPX.refsVE bm = true
  sa : findIn K (.ref C) "__setattr__" = some (some (.builtin "object.__setattr__"))
  ga : findIn K (.ref C) "__getattribute__" = some (some (.builtin "BaseException.__getattribute__"))
  gg : findIn K (.ref C) "__getattr__" = some none
  noN : findIn K (.ref C) "place" = some none
  iC : findIn K (.ref C) "__init__" = some (some (.ref fI))
  tC : typeIn K (.ref fI) = some (.type "function")
  kC : keepIn K (.ref C) = true
  exC : subIn K (.ref C) (.type "BaseException") = some true
  veC : subIn K (.ref C) (.type "ValueError") = some true
  tyC : typeIn K (.ref C) = some (.type "type")
  hdC : hasDictIn K C = true
  te : exmOne K (.ref C) (.ref C) = some true
  op : nsIn K cStatics "thirdparty.any" = some none
  sup : ks_superIn K C C "__init__" = some (some (.builtin "ValueError.__init__"))
  slf : mroIn K C (.ref C) = some true
  htop : (P.main.scope.names.lookup ("super" : Str)).isSome = false
  fn : ∃ (oc : Value) (od : Option Addr) (kV doc pm : Value) (an : Option Addr) (cda cc : Addr) (ct : Value) (osl : Array (Option Value)),
    K.lookup fI = some ⟨oc, od, .func (ksFn "__init__" "BadText.__init__" bArgs bBody bScope .none kV doc pm an (.ref cda) ct cc), osl⟩ ∧ codeIn K (.ref cda) "BadText.__init__" = true ∧
    (∃ ccl cdd vs ccs tf, K.lookup cda = some ⟨ccl, cdd, .fields vs, ccs⟩ ∧ vs[2]? = some (.str P.main.file tf)) ∧ ∃ cl cld csl, K.lookup cc = some ⟨cl, cld, .cell (some (.ref C)), csl⟩
/-- what __init__ leaves of the fresh exception at x -/
structure BEnd (h h' : Heap) (x C dx : Addr) (v : Value) : Prop where
  keep : ∀ b o, b ≠ x → h.get? b = some o → h'.get? b = some o
  obj : ∃ t1 : Addr, h'.get? x = some { cls := .ref C, dict := some dx, data := .fields #[.ref t1, .none, .none, .none, .bool false, .none] }
  dbig : h.objs.size ≤ dx
  dne : dx ≠ x
  ns : h'.Ns1 dx (fun y => if y = "place" then some v else none)
section
variable {prog : Program} {w : World} {A : Around} {E : Value → Shared → Prop} {R : Result → Shared → Prop} {s : Shared} {K : Frag} {mg : Str → Option Value} {C fI : Addr}
/-- the method-wrapper of ValueError.__init__ called with one text -/
theorem bw_call {nm q : Str} {N u x t0 : Addr} {bs bm : List Value} {hdct : Bool} {sn : List Str} {sub : List Value} {ab : Bool} {col : Option Bool} {dd : Option Addr} {k0 k1 k2 k3 k5 : Option Value} {v : Value} {h : Heap} {g : Array GenState} {d : Drawn} {t : Nat} {os : OsState} {Q : Value → Shared → Prop}
    (hC : h.get? C = some (excClassObj nm q C N bs bm hdct sn sub ab col dd k0 k1 k2 k3 k5 "ValueError.__new__")) (he : h.get? x = some (HandSPX.excO C t0)) (hu : h.get? u = some (kxs_mw "ValueError.__init__" x))
    (hq : ∀ h' t1, (∀ b o, b ≠ x → h.get? b = some o → h'.get? b = some o) → h'.get? x = some (HandSPX.excO C t1) → Q .none ⟨h', g, d, t, os⟩) :
    wpAny (model prog w) A (call (.ref u) [v]) Q E ⟨h, g, d, t, os⟩ := by
  refine wpAny_call (codeAny_of_tree ?_)
  show wpAny _ A.in1 (callAny (.ref u) ⟨[v], []⟩) _ _ _
  simp only [callAny]
  refine wpAny_bind (wpAny_load hu ?_)
  simp only [kxs_mw, show (Value.type "method-wrapper" == Value.type "method" || Value.type "method-wrapper" == Value.type "builtin_function_or_method" || Value.type "method-wrapper" == Value.type "method-wrapper") = true by decide, if_true]
  refine KFB.if_so (by decide) ?_
  refine wpAny_bind (check_bound_init F.excBase_ValueError.toExcCallFacts hC he rfl ?_)
  refine wpAny_bind (wpAny_pure (wpAny_pure ?_))
  refine ⟨plainId_quiet F.excBase_ValueError.init.plain _, codeAny_builtin F.excBase_ValueError.initEntry ?_⟩
  exact exc_init_tree (cls := .ref C) (t0 := t0) (dv := none) (c2 := .none) (c3 := .none) (b4 := .bool false) he (by show 1 ≤ sizeLine; rw [sizeLine_eq]; omega) fun h' k e1 _ => hq h' _ k e1
theorem bt_init (T : BTxt prog K mg C fI) {x t0 : Addr} {v : Value} (X : K.In s.heap) (hglob : s.heap.Ns mainGlobals mg) (hblt : ∃ mb, s.heap.Ns builtinsNs mb ∧ mb "super" = some (.type "super")) (hlim : s.heap.NoLimit)
    (hx : s.heap.get? x = some (HandSPX.excO C t0)) (hnx : K.lookup x = none) (hroom : A.depth < recursionLimit)
    (hq : ∀ h' tk dx, BEnd s.heap h' x C dx v → R (.ok (.ret .none)) { s with heap := h', toks := tk }) :
    codeAny (model prog w) A (.call (.ref fI) ⟨[.ref x, v], []⟩) R s := by
  obtain ⟨oc, od, kV, doc, pm, an, cda, cc, ct, osl, ho, hcd, ⟨ccl, cdd, vs, ccs, tf, hcda, hvs⟩, cl, cld, csl, hcc⟩ := T.fn
  obtain ⟨nm, q, N, bs, bm, sn, sub, ab, col, dd, k0, k1, k2, k3, k5, hC, hbm⟩ := T.cls
  have hcl : clsIn K C = some { name := nm, bases := bs, mro := .ref C :: bm, ns := N, qualname := q, hasDict := true, slotNames := sn, subclasses := sub, abstract := ab, collection := col, hasDel := false } := by unfold clsIn; rw [hC] <;> rfl
  refine ks_codeAny_call_defAt (fd := ksFn "__init__" "BadText.__init__" bArgs bBody bScope .none kV doc pm an (.ref cda) ct cc) (body := bBody) (binds := [("self", .ref x), ("place", v)]) hroom (X _ _ ho) rfl hlim (codeRec_of X hcd) rfl
    (BindsTo.of_eq (by first | rfl | with_unfolding_all rfl)) (show ∀ y ∈ bScope.names, y.2 ≠ .cell by decide +kernel) (by intro y hy; simp only [List.mem_cons, List.not_mem_nil, or_false] at hy; rcases hy with rfl | rfl <;> rfl) (fun h₁ hn k => ?_)
  have X₁ : K.In h₁ := X.keeps k
  have hx₁ := k _ _ hx
  obtain ⟨mb, hb1, hb2⟩ := hblt
  refine ks_wpAt_execs_cons (ks_wpAt_Expr_any (ks_wpAt_MethodCall (ks_wpAt_super_base (f := fI) (cc := cda) (tf := tf) (file := prog.main.file) rfl rfl rfl rfl (X₁ _ _ ho) rfl rfl rfl (X₁ _ _ hcda) rfl hvs (by simp) T.htop ?_)))
  refine ks_loadName_global rfl rfl (loadGlobal_builtin (hglob.keeps k) T.zS (hb1.keeps k) hb2 ⟨rfl, ?_⟩)
  refine wpAny_loadName_free rfl rfl rfl ⟨_, X₁ _ _ hcc, rfl⟩ ?_
  refine wpAny_loadName_local rfl rfl hn rfl ?_
  refine ks_wpAny_isType_cls (X₁ _ _ hC) rfl ⟨rfl, ?_⟩
  refine ks_wpAny_call_super (X₁ _ _ hC) rfl hx₁ rfl (fun c e => by cases e) (looks_mroIn X₁ T.slf) (fun h₂ hso k₂ => ?_)
  have X₂ : K.In h₂ := X₁.keeps k₂
  have hx₂ := k₂ _ _ hx₁
  have I₂ : InstAt h₂ x (HandSPX.excO C t0) C none := ⟨hx₂, rfl, rfl, trivial⟩
  refine kxs_getMethod kxs_ValueError hso (looks_opaque X₂ T.op) (l₀ := .ref C :: bm) (fun A Q E s k q => wpAny_bind ((looks_clsIn X₂ hcl) A _ E s k (wpAny_pure q))) rfl X₂ (by have := T.sup; unfold ks_superIn at this; rw [hcl] at this; exact this)
    (I₂.type.andThen (looks_subIn X₂ T.veC)) (ks_ne X₂ I₂ hcl) rfl ?_
  have hu : (h₂.push (kxs_mw "ValueError.__init__" x)).get? h₂.objs.size = some (kxs_mw "ValueError.__init__" x) := Heap.get?_push_at rfl rfl
  have k₃ : ∀ b o, h₂.get? b = some o → (h₂.push (kxs_mw "ValueError.__init__" x)).get? b = some o := fun b o e => Heap.get?_push_of_some _ e
  show wpAny _ _ (callWith _ (Value.ref h₂.objs.size) [] _ []) _ _ _
  refine kxs_callWith (i := "ValueError.__init__") (x := x) rfl (evalArgs_plain ?_)
  refine spliced_cons (Constant_str (k := 0) (pos := ⟨0, 0, 0, 0⟩) (spliced_nil ⟨hu, ?_⟩))
  obtain ⟨hs0, gs, ds, ts, oss⟩ := s
  refine bw_call ((X₂.keeps k₃) _ _ hC) (k₃ _ _ hx₂) hu fun h₄ t1 k₄ hx₄ => ?_
  have X₄ : K.In h₄ := fun a o e => k₄ a o (fun z => by rw [z, hnx] at e; cases e) ((X₂.keeps k₃) a o e)
  have hL : hs0.objs.size ≠ x := Nat.ne_of_gt (Heap.lt_size hx)
  have hn₄ : h₄.Ns hs0.objs.size (fun y => List.lookup y ([("self", Value.ref x), ("place", v)] : List (Str × Value)).reverse) := by
    obtain ⟨oL, es, ep, hoL, r⟩ := hn
    exact ⟨oL, es, ep, k₄ _ _ hL (k₃ _ _ (k₂ _ _ hoL)), r⟩
  refine wpAt_of_wpAny ?_
  refine wpAny_execs_cons (plainObj_wpAny_Assign_Attribute ?_)
  refine wpAny_Name (wpAny_loadName_local rfl rfl hn₄ rfl ?_) (by decide)
  refine wpAny_Name (wpAny_loadName_local rfl rfl hn₄ rfl ?_) (by decide)
  refine set_plain X₄ (ox := HandSPX.excO C t1) (od := none) ⟨hx₄, rfl, rfl, trivial⟩ T.sa ?_
  refine HandSPX.exc_osa X₄ hx₄ hcl (show HandSPX.refsVE (.ref C :: bm) = true from hbm) rfl T.noN (fun h₅ tk₅ dx k₅ dn dne hx₅ hn₅ => ?_)
  refine wpAny_execs_nil (hq h₅ tk₅ dx ⟨fun b o hb e => k₅ b o hb (k₄ b o hb (k₃ b o (k₂ b o (k b o e)))), ⟨t1, hx₅⟩, ?_, dne, hn₅⟩)
  -- the dict is new
  refine Nat.le_of_not_lt fun z => ?_
  have a1 : hs0.objs.size < h₁.objs.size := by
    obtain ⟨oL, es, ep, hoL, r⟩ := hn
    exact Heap.lt_size hoL
  have a2 : h₁.objs.size < h₂.objs.size := Heap.lt_size hso
  have a3 : h₂.objs.size < (h₂.push (kxs_mw "ValueError.__init__" x)).objs.size := Heap.lt_size hu
  have a4 : h₂.objs.size < h₄.objs.size := Heap.lt_size (k₄ _ _ (fun e => by have := Heap.lt_size hx₂; rw [e] at this; exact Nat.lt_irrefl _ this) hu)
  have dn' : h₄.objs.size ≤ dx := dn
  have z' : dx < hs0.objs.size := z
  omega
end
end Kt
namespace Kt
open PySem PySem.Spec PyProof.Rows PySem.W PySem.Calls
/-- a made BadText -/
structure BMade (h h' : Heap) (e C d : Addr) (v : Value) : Prop where
  keep : ∀ b o, h.get? b = some o → h'.get? b = some o
  new : h.objs.size ≤ e
  obj : ∃ oe vs, h'.get? e = some oe ∧ oe.cls = .ref C ∧ oe.dict = some d ∧ oe.data = .fields vs ∧ vs[1]? = some .none
  dbig : h.objs.size ≤ d
  dne : d ≠ e
  ns : h'.Ns1 d (fun y => if y = "place" then some v else none)
section
variable {prog : Program} {w : World} {A : Around} {E : Value → Shared → Prop} {R : Result → Shared → Prop} {s : Shared} {K : Frag} {mg : Str → Option Value} {C fI : Addr}
theorem bt_made (T : BTxt prog K mg C fI) {v : Value} (X : K.In s.heap) (hglob : s.heap.Ns mainGlobals mg) (hblt : ∃ mb, s.heap.Ns builtinsNs mb ∧ mb "super" = some (.type "super")) (hlim : s.heap.NoLimit) (hroom : A.depth + 1 < recursionLimit)
    (hq : ∀ h' tk e d, BMade s.heap h' e C d v → R (.ok (.ret (.ref e))) { s with heap := h', toks := tk }) :
    codeAny (model prog w) A (.call (.ref C) ⟨[v], []⟩) R s := by
  obtain ⟨nm, q, N, bs, bm, sn, sub, ab, col, dd, k0, k1, k2, k3, k5, hC, hbm⟩ := T.cls
  obtain ⟨hp, g, dr, tk, os⟩ := s
  have k : ∀ b o, hp.get? b = some o → ((hp.push (kdv_tup [v])).push (HandSPX.excO C hp.objs.size)).get? b = some o := fun b o e => Heap.get?_push_of_some _ (Heap.get?_push_of_some _ e)
  have hget : ((hp.push (kdv_tup [v])).push (HandSPX.excO C hp.objs.size)).get? (hp.objs.size + 1) = some (HandSPX.excO C hp.objs.size) := by heap_get
  have hnx : K.lookup (hp.objs.size + 1) = none := by
    cases e : K.lookup (hp.objs.size + 1) with
    | none => rfl
    | some o =>
      have z : hp.get? (hp.objs.size + 1) = some o := X _ _ e
      exact absurd (Nat.lt_of_succ_lt (Heap.lt_size z)) (Nat.lt_irrefl _)
  obtain ⟨mb, b1, b2⟩ := hblt
  refine HandSPX.call_own F.excBase_ValueError (fun X => HandSPX.refsVE_contains X bm hbm) (X _ _ hC) (looks_findIn X T.iC) (fun self => bind_fn X self T.tC) (by show 1 ≤ sizeLine; rw [sizeLine_eq]; omega) ?_
  refine bt_init (s := ⟨(hp.push (kdv_tup [v])).push (HandSPX.excO C hp.objs.size), g, dr, tk, os⟩) T (X.keeps k) (hglob.keeps k) ⟨mb, b1.keeps k, b2⟩ (hlim.keeps k) hget hnx ?_ fun h' tk' dx ⟨k', ⟨t1, hx⟩, dn, dne, hns⟩ => ?_
  · show A.depth + 1 < recursionLimit
    exact hroom
  · have old : ∀ b o, hp.get? b = some o → h'.get? b = some o := fun b o e => k' b o (Nat.ne_of_lt (Nat.lt_succ_of_lt (Heap.lt_size e))) (k b o e)
    have z : hp.objs.size + 1 + 1 ≤ dx := by
      first
        | (simpa only [Heap.size_push] using dn)
        | exact dn
        | (have q := dn; rw [Heap.size_push, Heap.size_push] at q; exact q)
    exact ⟨rfl, hq h' tk' (hp.objs.size + 1) dx ⟨old, Nat.le_succ _, ⟨_, _, hx, rfl, rfl, rfl, rfl⟩, Nat.le_trans (Nat.le_trans (Nat.le_succ _) (Nat.le_succ _)) z, dne, hns⟩⟩
end
end Kt
namespace Kt
open PySem PySem.Spec PyProof.Rows L2
theorem relO_place {v : V} {v' : Value} (r : RelV v v') (f : Str) : RelO (List.lookup f [(("place" : Str), v)]) (if f = "place" then some v' else none) := by
  by_cases hw : f = "place"
  · subst hw
    rw [if_pos rfl]
    have q : List.lookup ("place" : Str) [(("place" : Str), v)] = some v := by simp [List.lookup]
    rw [q]
    exact r
  · rw [if_neg hw]
    have qw : (f == ("place" : Str)) = false := by simpa using hw
    have q2 : List.lookup f [(("place" : Str), v)] = none := by simp [List.lookup, qw]
    rw [q2]
    trivial
section
variable {X : Cx} {C fI : Addr}
/-- BadText(e): its own dict, new, holds the place -/
def tMkB (C : Addr) (ta : TA) : L2.St → Hp → XK → Prop := fun σ H Q => ta σ H fun vs H1 => ∃ v, vs = [v] ∧ ∀ d H', H1 d = none → Same H1 H' → H' d = some (.xd [(("place" : Str), v)]) → Q (.ref C) (some d) H'
theorem pmk_bt {a : Expr} {ta : TA} {p pos : Pos} {k : Nat} (T : BTxt X.prog X.K X.mg C fI) (hr : Room k X.A) (ha : PA X [a] ta) (hg : Gl X "BadText" := by rfl)
    (he : starEach (a :: []) X.env = (false, eval a X.env) :: starEach [] X.env := by rfl) (hpl : (backTo pos (starEach [] X.env)).any (·.1) = false := by rfl) :
    PMk X (.Call (.Name "BadText" p) [a] [] pos) (tMkB C ta) := by
  intro pins s σ H Q I h
  refine wpAny_Call_Name_kw (ld_glob I hg T.gC ?_)
  refine PySem.W.callWith_K (h₀ := X.base) I.ok.mod.kin T.kC (thn (ha.run pos pins s σ H _ I h) fun us s1 hh => ?_) he hpl
  obtain ⟨vs, H1, I1, r1, v, ev, q1⟩ := hh
  subst ev
  refine ⟨I1.kIn, ?_⟩
  cases r1 with
  | cons rv rn =>
    rename_i v' us'
    cases rn
    show wpAny _ _ (call (.ref C) [v']) _ _ _
    have hlim := I1.nolimit
    have hgl : s1.heap.Ns mainGlobals X.mg := I1.mod.glob.keeps I1.bk
    have hbl : ∃ mb, s1.heap.Ns builtinsNs mb ∧ mb "super" = some (.type "super") := by
      obtain ⟨mb, h1, h2⟩ := I1.mod.blt
      exact ⟨mb, h1.keeps I1.bk, (h2 "super" (by decide)).trans (by decide +kernel)⟩
    obtain ⟨hp, g, d, tk, os⟩ := s1
    refine wpAny_call (bt_made T I1.kIn hgl hbl hlim (by have := hr.dp; omega) fun h' tk' e d M => ?_)
    show MkP X pins σ Q (.ref e) ⟨h', g, _, tk', os⟩
    obtain ⟨oe, fv, hoe, hc, hd, hdat, h1⟩ := M.obj
    have hns := M.ns
    obtain ⟨G', g1, g2⟩ := restrict h' fun b => decide (b ≠ e)
    have gk : ∀ b, b ≠ e → G'.get? b = h'.get? b := fun b hb => g1 b (decide_eq_true hb)
    have ge : G'.get? e = none := g2 e (by simp)
    have old : ∀ b o, hp.get? b = some o → G'.get? b = some o := fun b o q => (gk b (Nat.ne_of_lt (Nat.lt_of_lt_of_le (Heap.lt_size q) M.new))).trans (M.keep b o q)
    have ob : ObjOk X.prog X.w (upd H1 d (.xd [(("place" : Str), v)])) G' d (.xd [(("place" : Str), v)]) :=
      ⟨_, hns.at (fun o q => (gk d M.dne).trans q), fun f => relO_place rv f⟩
    have hd0 : H1 d = none := I1.hok.fresh M.dbig
    have J : Inv X pins σ (upd H1 d (.xd [(("place" : Str), v)])) ⟨G', g, _, tk', os⟩ := I1.laid (t' := tk') old M.dbig ob
    refine ⟨e, oe, fv, ⟨G', g, _, tk', os⟩, _, .ref C, some d, rfl, J, fun b o q => ?_, ge, hoe, ⟨hc, hd⟩, hdat, h1, ?_, rfl, I1.bare, raises_own T.exC T.tyC, q1 d _ hd0 (fun b o' z => by rw [upd_ne (ne_of_none z hd0)]; exact z) upd_same⟩
    · by_cases hb : b = e
      · have q' : G'.get? b = some o := q
        rw [hb, ge] at q'; cases q'
      · exact (gk b hb).symm.trans q
    · rw [upd_ne (Ne.symm M.dne)]
      exact I1.hok.fresh M.new
/-- raise BadText(e) -/
def tRaiseB (C : Addr) (W : WX) (ta : TA) : TS := fun _ σ H => tMkB C ta σ H fun cls d H' => W cls d σ H'
theorem ps_raiseB {a : Expr} {ta : TA} {W : WX} {p pos pos2 : Pos} {k : Nat} (hc : X.calm = true) (T : BTxt X.prog X.K X.mg C fI) (hr : Room k X.A) (tk : Takes X W) (ha : PA X [a] ta) (hg : Gl X "BadText" := by rfl)
    (he : starEach (a :: []) X.env = (false, eval a X.env) :: starEach [] X.env := by rfl) (hpl : (backTo pos (starEach [] X.env)).any (·.1) = false := by rfl) :
    PS X (.Raise (some (.Call (.Name "BadText" p) [a] [] pos)) none pos2) (tRaiseB C W ta) := ps_raise hc tk (pmk_bt T hr ha hg he hpl)
end
theorem r_raiseB {C : Addr} {W : WX} {ta : TA} {D : Ends} {σ : L2.St} {H : Hp} (q : ta σ H fun vs H1 => ∃ v, vs = [v] ∧ ∀ d H', H1 d = none → Same H1 H' → H' d = some (.xd [(("place" : Str), v)]) → W (.ref C) (some d) σ H') : tRaiseB C W ta D σ H := q
end Kt
namespace Kt
open PySem PySem.Spec PyProof.Rows L2
/-! ## 6. The reader: what it reads, as plain functions of words and a place -/
/-- the k-th word, its place -/
def wd (W : List (Str × Nat)) (k : Nat) : Str := match W[k]? with
  | some p => p.1
  | none => ""
def pl (W : List (Str × Nat)) (n k : Nat) : Nat := match W[k]? with
  | some p => p.2
  | none => n
abbrev Rs (α : Type) := Except Nat (α × Nat)
def bnd {α β : Type} (r : Rs α) (f : α → Nat → Rs β) : Rs β := match r with
  | .ok (a, k) => f a k
  | .error e => .error e
section
variable (W : List (Str × Nat)) (n : Nat)
def mark (s : Str) (k : Nat) : Rs Unit := if wd W k = s then .ok ((), k + 1) else .error (pl W n k)
def num (least most k : Nat) : Rs Nat := if isNum (cp (wd W k)) = true ∧ least ≤ val (cp (wd W k)) ∧ val (cp (wd W k)) ≤ most then .ok (val (cp (wd W k)), k + 1) else .error (pl W n k)
def numI (most k : Nat) : Rs Int := if wd W k = "-" then bnd (num W n 1 most (k + 1)) fun a k' => .ok (-(a : Int), k') else bnd (num W n 0 most k) fun a k' => .ok ((a : Int), k')
def isVar (l : List Nat) : Bool := decide (l.head? = some 120) && isNum l.tail
def var (least most k : Nat) : Rs Nat := if isVar (cp (wd W k)) = true ∧ least ≤ val (cp (wd W k)).tail ∧ val (cp (wd W k)).tail ≤ most then .ok (val (cp (wd W k)).tail, k + 1) else .error (pl W n k)
def lit (least most k : Nat) : Rs Nat := if wd W k = "~" then bnd (var W n least most (k + 1)) fun v k' => .ok (2 * v + 1, k') else bnd (var W n least most k) fun v k' => .ok (2 * v, k')
/-- a weight and a literal -/
def term (least last most k : Nat) : Rs (Nat × Nat) := bnd (num W n 1 most k) fun w k1 => bnd (lit W n least last k1) fun l k2 => .ok ((l, w), k2)
def restT (last most : Nat) : Nat → Nat → Nat → Rs (List (Nat × Nat))
  | 0, _, _ => .error 0
  | f + 1, prev, k => if wd W k = "+" then bnd (term W n (prev / 2 + 1) last most (k + 1)) fun t k2 => bnd (restT last most f t.1 k2) fun r k3 => .ok (t :: r, k3) else .ok ([], k)
def terms (last most k : Nat) : Rs (List (Nat × Nat)) := if wd W k = "0" then .ok ([], k + 1) else bnd (term W n 0 last most k) fun t k1 => bnd (restT W n last most (W.length + 1) t.1 k1) fun r k2 => .ok (t :: r, k2)
def sum1 (last most k : Nat) : Rs (List (Nat × Nat) × Int) := bnd (terms W n last most k) fun t k1 => bnd (mark W n ">" k1) fun _ k2 => bnd (mark W n "=" k2) fun _ k3 => bnd (numI W n most k3) fun d k4 => .ok ((t, d), k4)
def price1 (last most k : Nat) : Rs (List (Nat × Nat) × Int) := bnd (terms W n last most k) fun t k1 => bnd (mark W n "from" k1) fun _ k2 => bnd (numI W n most k2) fun d k3 => .ok ((t, d), k3)
def sumsL (last most : Nat) : Nat → Nat → Rs (List (List (Nat × Nat) × Int))
  | 0, _ => .error 0
  | f + 1, k => if wd W k = ";" then bnd (sum1 W n last most (k + 1)) fun s k1 => bnd (sumsL last most f k1) fun r k2 => .ok (s :: r, k2) else .ok ([], k)
def endR (k : Nat) : Rs Unit := if k < W.length then .error (pl W n k) else .ok ((), k)
def priceO (last most k : Nat) : Rs (Option (List (Nat × Nat) × Int)) := if wd W k = "price" then bnd (price1 W n last most (k + 1)) fun p k1 => .ok (some p, k1) else .ok (none, k)
def prob (most : Nat) : Rs (Nat × List (List (Nat × Nat) × Int) × Option (List (Nat × Nat) × Int)) :=
  bnd (mark W n "problem" 0) fun _ k1 => bnd (num W n 1 60 k1) fun many k2 => bnd (priceO W n (many - 1) most k2) fun p k3 => bnd (sumsL W n (many - 1) most 302 k3) fun s k4 => bnd (endR W n k4) fun _ k5 => .ok ((many, s, p), k5)
end
/-! ### the reader's object -/
structure RG where
  dx : Addr
  l : Addr
  W : List (Str × Nat)
  n : Nat
def rf (G : RG) (k : Nat) : List (Str × V) := [("many", .int G.n), ("words", .ref G.l), ("at", .int k)]
theorem rf_many (G : RG) (k : Nat) : (rf G k).lookup ("many" : Str) = some (.int G.n) := by simp [rf, List.lookup]
theorem rf_words (G : RG) (k : Nat) : (rf G k).lookup ("words" : Str) = some (.ref G.l) := by
  have h1 : (("words" : Str) == ("many" : Str)) = false := by decide +kernel
  simp [rf, List.lookup, h1]
theorem rf_at (G : RG) (k : Nat) : (rf G k).lookup ("at" : Str) = some (.int k) := by
  have h1 : (("at" : Str) == ("many" : Str)) = false := by decide +kernel
  have h2 : (("at" : Str) == ("words" : Str)) = false := by decide +kernel
  simp [rf, List.lookup, h1, h2]
theorem rf_no (G : RG) (k : Nat) {m : Str} (h1 : (m == ("many" : Str)) = false) (h2 : (m == ("words" : Str)) = false) (h3 : (m == ("at" : Str)) = false) : (rf G k).lookup m = none := by
  simp [rf, List.lookup, h1, h2, h3]
theorem rf_put (G : RG) (k j : Nat) : putF "at" (.int j) (rf G k) = rf G j := by
  have h1 : ¬ ("many" : Str) = "at" := by decide +kernel
  have h2 : ¬ ("words" : Str) = "at" := by decide +kernel
  simp [rf, putF, h1, h2]
/-- all but the object at p is as it was -/
def Kp (p : Addr) (H H' : Hp) : Prop := ∀ b o, b ≠ p → H b = some o → H' b = some o
theorem Kp.refl (p : Addr) (H : Hp) : Kp p H H := fun _ _ _ h => h
theorem Kp.trans {p : Addr} {H H1 H2 : Hp} (a : Kp p H H1) (b : Kp p H1 H2) : Kp p H H2 := fun c o n h => b c o n (a c o n h)
theorem Kp.of {p : Addr} {H H' : Hp} (s : Same H H') : Kp p H H' := fun b o _ h => s b o h
/-- a reader at p, at its k-th word -/
structure At (C : Addr) (G : RG) (H : Hp) (p : Addr) (k : Nat) : Prop where
  ob : H p = some (.ins C G.dx (rf G k))
  ws : WordsAt H G.l G.W
  wl : G.W.length ≤ 50000
  sl : ∀ x ∈ G.W, x.1.length ≤ 100000
  kl : k ≤ 60000
theorem At.keep {C p : Addr} {G : RG} {H H' : Hp} {k j : Nat} (a : At C G H p k) (kp : Kp p H H') (ob : H' p = some (.ins C G.dx (rf G j))) (hj : j ≤ 60000) : At C G H' p j := by
  refine ⟨ob, ?_, a.wl, a.sl, hj⟩
  obtain ⟨ts, h, r⟩ := a.ws
  have hl : G.l ≠ p := ne_of h a.ob (fun z => nomatch z)
  exact ⟨ts, kp _ _ hl h, Paired.mono (fun v x q => q.mono fun t xs e => kp _ _ (ne_of e a.ob (fun z => nomatch z)) e) r⟩
theorem At.same {C p : Addr} {G : RG} {H H' : Hp} {k : Nat} (a : At C G H p k) (s : Same H H') : At C G H' p k := a.keep (.of s) (s _ _ a.ob) a.kl
theorem At.free {C p d : Addr} {G : RG} {H H1 : Hp} {k : Nat} (a : At C G H1 p k) (kp : Kp p H H1) (h : H1 d = none) : H d = none := by
  cases e : H d with
  | none => rfl
  | some o =>
    by_cases hd : d = p
    · rw [hd, a.ob] at h
      cases h
    · rw [kp d o hd e] at h
      cases h
/-- the way out: a BadText with this place -/
def Out (E : XK) (CB p : Addr) (H : Hp) (x : Nat) : Prop := ∀ d H', H d = none → Kp p H H' → H' d = some (.xd [(("place" : Str), .int (x : Int))]) → E (.ref CB) (some d) H'
theorem Out.go {E : XK} {CB C p : Addr} {G : RG} {H H1 : Hp} {x k : Nat} (o : Out E CB p H x) (a : At C G H1 p k) (kp : Kp p H H1) : Out E CB p H1 x := fun d H' h k' e => o d H' (a.free kp h) (kp.trans k') e
/-- what a reading of the reader at p promises -/
def Par {α : Type} (C CB : Addr) (G : RG) (p : Addr) (H : Hp) (rep : α → V → Hp → Prop) (Q : VK) (E : XK) : Rs α → Prop
  | .ok (a, k') => ∀ v H', Kp p H H' → At C G H' p k' → rep a v H' → Q v H'
  | .error x => Out E CB p H x
section
variable {P : Program} {w : World} {K : PySem.W.Frag} {mg : Str → Option Value} {base : Heap}
def spWord (C : Addr) : Sp := fun vs H Q _ => ∃ p G k, vs = [.ref p] ∧ At C G H p k ∧ Q (.str (wd G.W k)) H
theorem r_fldR {C p : Addr} {G : RG} {H : Hp} {k i : Nat} {σ : L2.St} {f : Str} {v : V} {Q : VK} (c : Cls K C) (n : NoAttr K C f) (h : σ[i]? = some (some (.ref p))) (a : At C G H p k) (l : (rf G k).lookup f = some v) (q : Q v H) : tFld K (tVar i) f σ H Q := ⟨_, h, p, C, G.dx, _, v, rfl, a.ob, c, n, l, q⟩
theorem word_at {C p : Addr} {G : RG} {H : Hp} {k : Nat} (a : At C G H p k) (hk : k < G.W.length) : ∃ (ts : List V) (t : Addr) (x : Str × Nat), H G.l = some (.lst ts) ∧ ts[k]? = some (.ref t) ∧ G.W[k]? = some x ∧ H t = some (.tup [.str x.1, .int x.2]) ∧ ts.length = G.W.length := by
  obtain ⟨ts, h, r⟩ := a.ws
  have hx : G.W[k]? = some (G.W[k]) := List.getElem?_eq_getElem hk
  obtain ⟨v, hv, t, rfl, ht⟩ := Kt.Paired.at_ r hx
  exact ⟨ts, t, _, h, hv, hx, ht, r.length⟩
theorem ok_R_word (T : Txt K mg) : FnOk P w K mg base CX0 1 T.f_R_word T.d_R_word ["self"] (spWord T.CR) := by
  refine T.F_R_word.ok sc_R_word (fun vs H Q E h => ?_) (fun cdv A outer s H vs Q E hr h => ?_)
  · obtain ⟨p, G, k, rfl, _⟩ := h
    rfl
  · obtain ⟨p, G, k, rfl, a, q⟩ := h
    refine ⟨_, pss_one (ps_ret (pe_ifExp (pt_cmpR op_lt (pe_fld (pv 0) rfl) (pe_callB call_lenL (by rfl) T.z_len PySem.boot_len (pa_cons (pe_fld (pv 0) rfl) pa_nil)) (nomark _))
      (pe_ix ix_tup (pe_ix ix_list (pe_fld (pv 0) rfl) (pe_fld (pv 0) rfl) (fun _ _ => rfl)) pe_int (fun _ _ => rfl)) pe_str)), ?_⟩
    obtain ⟨ts, hts, r⟩ := a.ws
    have hlen : ts.length = G.W.length := r.length
    walk_at "re"
    refine r_fldR T.cl T.no_at (by rfl) a (rf_at G k) ?_
    walk_at "re"
    refine r_fldR T.cl T.no_words (by rfl) a (rf_words G k) ?_
    walk_at "re"
    refine r_lenL (SqL.of hts) ?_
    walk_at "re"
    refine iteB (fun h => ?_) (fun h => ?_)
    · have hk : k < G.W.length := by have := of_decide_eq_true h; omega
      obtain ⟨ts', t, x, h1, h2, h3, h4, _⟩ := word_at a hk
      walk_at "re"
      refine r_fldR T.cl T.no_words (by rfl) a (rf_words G k) ?_
      refine r_fldR T.cl T.no_at (by rfl) a (rf_at G k) ?_
      refine r_ixL (SqL.of h1) (atI_nat h2) ?_
      walk_at "re"
      refine r_ixT (SqT.of h4) (atI_nat (j := 0) rfl) ?_
      walk_at "re"
      have e : wd G.W k = x.1 := by unfold wd; rw [h3]
      rw [e] at q
      exact q
    · have hk : ¬ k < G.W.length := by have := of_decide_eq_false h; omega
      walk_at "re"
      have e : wd G.W k = "" := by unfold wd; rw [List.getElem?_eq_none_iff.mpr (by omega)]
      rw [e] at q
      exact q
end
end Kt
namespace Kt
open PySem PySem.Spec PyProof.Rows L2
/-! ## 7. The reader's methods -/
theorem r_methV {C p : Addr} {G : RG} {H : Hp} {k i : Nat} {m : Str} {sp : Sp} {E : XK} {σ : L2.St} {t : TA} {Q : VK} (h : σ[i]? = some (some (.ref p))) (a : At C G H p k) (nl : (rf G k).lookup m = none) (q : t σ H fun vs H2 => sp (.ref p :: (vs ++ [])) H2 Q E) : tMeth C m sp [] E (tVar i) t σ H Q :=
  ⟨_, h, p, G.dx, _, rfl, a.ob, nl, q⟩
def spStop (C CB : Addr) : Sp := fun vs H _ E => ∃ p G k, vs = [.ref p] ∧ At C G H p k ∧ Out E CB p H (pl G.W G.n k)
def spTaken (C : Addr) : Sp := fun vs H Q _ => ∃ p G k, vs = [.ref p] ∧ At C G H p k ∧ k < 60000 ∧ ∀ H', Kp p H H' → At C G H' p (k + 1) → Q (.str (wd G.W k)) H'
def spOn (C : Addr) : Sp := fun vs H Q _ => ∃ p G k s, vs = [.ref p, .str s] ∧ At C G H p k ∧ s ≠ "" ∧ (wd G.W k = s → ∀ H', Kp p H H' → At C G H' p (k + 1) → Q (.bl true) H') ∧ (wd G.W k ≠ s → Q (.bl false) H)
def spMark (C CB : Addr) : Sp := fun vs H Q E => ∃ p G k s, vs = [.ref p, .str s] ∧ At C G H p k ∧ s ≠ "" ∧ Par C CB G p H (fun _ v _ => v = .non) Q E (mark G.W G.n s k)
def spNumeral (C CB : Addr) : Sp := fun vs H Q E => ∃ p G k, ∃ most : Nat, vs = [.ref p, .int most] ∧ At C G H p k ∧ Par C CB G p H (fun (a : Nat) v _ => v = .int a) Q E (num G.W G.n 0 most k)
def spNumber (C CB : Addr) : Sp := fun vs H Q E => ∃ p G k, ∃ most : Nat, vs = [.ref p, .int (-(most : Int)), .int most] ∧ 1 ≤ most ∧ At C G H p k ∧ Par C CB G p H (fun (a : Int) v _ => v = .int a) Q E (numI G.W G.n most k)
def spEnd (C CB : Addr) : Sp := fun vs H Q E => ∃ p G k, vs = [.ref p] ∧ At C G H p k ∧ Par C CB G p H (fun _ v _ => v = .non) Q E (endR G.W G.n k)
theorem wd_len {W : List (Str × Nat)} {k : Nat} (h : wd W k ≠ "") : k < W.length := by
  by_cases hk : k < W.length
  · exact hk
  · exfalso
    apply h
    unfold wd
    rw [List.getElem?_eq_none_iff.mpr (by omega)]
theorem At.lt {C p : Addr} {G : RG} {H : Hp} {k : Nat} (a : At C G H p k) (h : wd G.W k ≠ "") : k + 1 ≤ 60000 := by
  have := wd_len h
  have := a.wl
  omega
theorem At.wlen {C p : Addr} {G : RG} {H : Hp} {k : Nat} (a : At C G H p k) : (wd G.W k).length ≤ 100000 := by
  unfold wd
  cases e : G.W[k]? with
  | none => decide +kernel
  | some x => exact a.sl x (List.mem_of_getElem? e)
section
variable {P : Program} {w : World} {K : PySem.W.Frag} {mg : Str → Option Value} {base : Heap} {fI : Addr}
theorem ok_R_stop (T : Txt K mg) (B : BTxt P K mg T.CB fI) : FnOk P w K mg base (L2.CX P w) 1 T.f_R_stop T.d_R_stop ["self"] (spStop T.CR T.CB) := by
  refine T.F_R_stop.okX sc_R_stop (fun vs H Q E h => ?_) (fun cdv A outer s H vs Q E hr h => ?_)
  · obtain ⟨p, G, k, rfl, _⟩ := h
    rfl
  · obtain ⟨p, G, k, rfl, a, q⟩ := h
    refine ⟨_, pss_one (ps_raiseB rfl B hr (takes_of rfl rfl rfl rfl) (by exact (pa_cons (pe_ifExp (pt_cmpR op_lt (pe_fld (pv 0) rfl) (pe_callB call_lenL (by rfl) T.z_len PySem.boot_len (pa_cons (pe_fld (pv 0) rfl) pa_nil)) (nomark _))
      (pe_ix ix_tup (pe_ix ix_list (pe_fld (pv 0) rfl) (pe_fld (pv 0) rfl) (fun _ _ => rfl)) pe_int (fun _ _ => rfl)) (pe_fld (pv 0) rfl)) pa_nil))), ?_⟩
    obtain ⟨ts, hts, r⟩ := a.ws
    have hlen : ts.length = G.W.length := r.length
    refine r_raiseB ?_
    walk_at "re"
    refine r_fldR T.cl T.no_at (by rfl) a (rf_at G k) ?_
    walk_at "re"
    refine r_fldR T.cl T.no_words (by rfl) a (rf_words G k) ?_
    walk_at "re"
    refine r_lenL (SqL.of hts) ?_
    walk_at "re"
    refine iteB (fun h => ?_) (fun h => ?_)
    · have hk : k < G.W.length := by have := of_decide_eq_true h; omega
      obtain ⟨ts', t, x, h1, h2, h3, h4, _⟩ := word_at a hk
      walk_at "re"
      refine r_fldR T.cl T.no_words (by rfl) a (rf_words G k) ?_
      refine r_fldR T.cl T.no_at (by rfl) a (rf_at G k) ?_
      refine r_ixL (SqL.of h1) (atI_nat h2) ?_
      walk_at "re"
      refine r_ixT (SqT.of h4) (atI_nat (j := 1) rfl) ?_
      walk_at "re"
      have e : pl G.W G.n k = x.2 := by unfold pl; rw [h3]
      rw [e] at q
      exact ⟨_, rfl, fun d H' h s e => q d H' h (.of s) e⟩
    · have hk : ¬ k < G.W.length := by have := of_decide_eq_false h; omega
      refine r_fldR T.cl T.no_many (by rfl) a (rf_many G k) ?_
      walk_at "re"
      have e : pl G.W G.n k = G.n := by unfold pl; rw [List.getElem?_eq_none_iff.mpr (by omega)]
      rw [e] at q
      exact ⟨_, rfl, fun d H' h s e => q d H' h (.of s) e⟩
/-- self.at += 1 -/
theorem r_inc {C p : Addr} {G : RG} {H : Hp} {k i : Nat} {σ : L2.St} {D : Ends} (c : Cls K C) (n : NoAttr K C "at") (h : σ[i]? = some (some (.ref p))) (a : At C G H p k) (hk : k + 1 ≤ 60000) (q : ∀ H', Kp p H H' → At C G H' p (k + 1) → D.nx σ H') :
    sFldAug K (tVar i) (tC (.int 1)) rAdd "at" D σ H := by
  have e : putF "at" (.int ((k : Int) + 1)) (rf G k) = rf G (k + 1) := rf_put G k (k + 1)
  have kp : Kp p H (upd H p (.ins C G.dx (rf G (k + 1)))) := fun b o hb h => by rw [upd_ne hb]; exact h
  refine ⟨_, h, p, C, G.dx, _, _, rfl, a.ob, c, n, rf_at G k, _, _, rfl, rfl, G.dx, _, a.ob, by show 3 < 1000; decide, ?_⟩
  rw [e]
  exact q _ kp (a.keep kp upd_same hk)
theorem r_call {sp : Sp} {dvs : List V} {E : XK} {t : TA} {σ : L2.St} {H : Hp} {Q : VK} (q : t σ H fun vs H1 => sp (vs ++ dvs) H1 Q E) : tCall sp dvs E t σ H Q := q
theorem ok_R_taken (T : Txt K mg) : FnOk P w K mg base CX0 2 T.f_R_taken T.d_R_taken ["self"] (spTaken T.CR) := by
  have G1 : FnOk P w K mg base CX0 1 T.f_R_word T.d_R_word ["self"] (spWord T.CR) := ok_R_word T
  refine T.F_R_taken.ok sc_R_taken (fun vs H Q E h => ?_) (fun cdv A outer s H vs Q E hr h => ?_)
  · obtain ⟨p, G, k, rfl, _⟩ := h
    rfl
  · obtain ⟨p, G, k, rfl, a, hk, q⟩ := h
    have nd := sc_R_taken.nd
    refine ⟨_, pss_cons (ps_set (i := 1) nd rfl (Or.inl rfl) (pe_meth0 (pv 0) T.cl T.h_R_word G1 hr T.b_R_word .nil pass0))
      (pss_cons (ps_fldaug (pv 0) pe_int in_add) (pss_one (ps_ret (pv 1)))), ?_⟩
    walk_at "rd"
    refine r_methV (by rfl) a (rf_no G k rfl rfl rfl) ?_
    walk_at "rd"
    refine ⟨p, G, k, rfl, a, ?_⟩
    walk_at "rd"
    refine r_inc T.cl T.no_at (by rfl) a hk fun H' kp a' => ?_
    walk_at "rd"
    exact q H' kp a'
theorem ok_R_goes_on (T : Txt K mg) : FnOk P w K mg base CX0 2 T.f_R_goes_on T.d_R_goes_on ["self", "sign"] (spOn T.CR) := by
  have G1 : FnOk P w K mg base CX0 1 T.f_R_word T.d_R_word ["self"] (spWord T.CR) := ok_R_word T
  refine T.F_R_goes_on.ok sc_R_goes_on (fun vs H Q E h => ?_) (fun cdv A outer s H vs Q E hr h => ?_)
  · obtain ⟨p, G, k, s, rfl, _⟩ := h
    rfl
  · obtain ⟨p, G, k, s, rfl, a, hs, q1, q2⟩ := h
    refine ⟨_, pss_cons (ps_if (pt_cmpR op_ne (pe_meth0 (pv 0) T.cl T.h_R_word G1 hr T.b_R_word .nil pass0) (pv 1) (nomark _)) (pss_one (ps_ret pe_bl)) pss_nil)
      (pss_cons (ps_fldaug (pv 0) pe_int in_add) (pss_one (ps_ret pe_bl))), ?_⟩
    walk_at "rd"
    refine r_methV (by rfl) a (rf_no G k rfl rfl rfl) ?_
    walk_at "rd"
    refine ⟨p, G, k, rfl, a, ?_⟩
    walk_at "rd"
    refine iteB (fun h => ?_) (fun h => ?_)
    · walk_at "rd"
      exact q2 (by simpa using h)
    · have e : wd G.W k = s := by simpa using h
      walk_at "rd"
      refine r_inc T.cl T.no_at (by rfl) a (a.lt (by rw [e]; exact hs)) fun H' kp a' => ?_
      walk_at "rd"
      exact q1 e H' kp a'
theorem ok_R_mark (T : Txt K mg) (B : BTxt P K mg T.CB fI) : FnOk P w K mg base (L2.CX P w) 3 T.f_R_mark T.d_R_mark ["self", "sign"] (spMark T.CR T.CB) := by
  have G1 : FnOk P w K mg base CX0 2 T.f_R_goes_on T.d_R_goes_on ["self", "sign"] (spOn T.CR) := ok_R_goes_on T
  have G2 : FnOk P w K mg base (L2.CX P w) 1 T.f_R_stop T.d_R_stop ["self"] (spStop T.CR T.CB) := ok_R_stop T B
  refine T.F_R_mark.okX sc_R_mark (fun vs H Q E h => ?_) (fun cdv A outer s H vs Q E hr h => ?_)
  · obtain ⟨p, G, k, s, rfl, _⟩ := h
    rfl
  · obtain ⟨p, G, k, s, rfl, a, hs, q⟩ := h
    refine ⟨_, pss_one (ps_if (pt_not (pt_val (pe_meth (pv 0) T.cl T.h_R_goes_on G1 hr T.b_R_goes_on .nil pass0 (pa_cons (pv 1) pa_nil))))
      (pss_one (ps_expr (pe_meth0 (pv 0) T.cl T.h_R_stop G2 (hr.mono (by decide)) T.b_R_stop .nil (passes_call (takes_of rfl rfl rfl rfl) (fun _ _ _ _ h => h))))) pss_nil), ?_⟩
    walk_at "rd"
    refine r_methV (by rfl) a (rf_no G k rfl rfl rfl) ?_
    walk_at "rd"
    refine ⟨p, G, k, s, rfl, a, hs, fun e H' kp a' => ?_, fun e => ?_⟩
    · walk_at "rd"
      unfold mark at q
      rw [if_pos e] at q
      exact q .non H' kp a' rfl
    · walk_at "rd"
      refine r_methV (by rfl) a (rf_no G k rfl rfl rfl) ?_
      walk_at "rd"
      unfold mark at q
      rw [if_neg e] at q
      exact ⟨p, G, k, rfl, a, q⟩
theorem ok_R_numeral (T : Txt K mg) (B : BTxt P K mg T.CB fI) : FnOk P w K mg base (L2.CX P w) 3 T.f_R_numeral T.d_R_numeral ["self", "most"] (spNumeral T.CR T.CB) := by
  have G0 : FnOk P w K mg base CX0 1 T.f_R_word T.d_R_word ["self"] (spWord T.CR) := ok_R_word T
  have G1 : FnOk P w K mg base CX0 1 T.f_is_numeral T.d_is_numeral ["word"] spNum := ok_is_numeral T
  have G2 : FnOk P w K mg base (L2.CX P w) 1 T.f_R_stop T.d_R_stop ["self"] (spStop T.CR T.CB) := ok_R_stop T B
  refine T.F_R_numeral.okX sc_R_numeral (fun vs H Q E h => ?_) (fun cdv A outer s H vs Q E hr h => ?_)
  · obtain ⟨p, G, k, most, rfl, _⟩ := h
    rfl
  · obtain ⟨p, G, k, most, rfl, a, q⟩ := h
    have nd := sc_R_numeral.nd
    have hr1 : Room 1 _ := hr.mono (by decide)
    refine ⟨_, pss_cons (ps_set (i := 2) nd rfl (Or.inl rfl) (pe_meth0 (pv 0) T.cl T.h_R_word G0 hr1 T.b_R_word .nil pass0))
      (pss_cons (ps_if (PW.pt (pw_or (pt_not (pt_val (pe_call G1 hr1 (by rfl) T.g_is_numeral T.F_is_numeral.kp T.b_is_numeral .nil pass0 (pa_cons (pv 2) pa_nil))))
          (pw_or1 (pt_cmpR op_gt (pe_callTy call_intS (by rfl) T.z_int boot_int (pa_cons (pv 2) pa_nil)) (pv 1) (nomark _)))))
        (pss_one (ps_expr (pe_meth0 (pv 0) T.cl T.h_R_stop G2 hr1 T.b_R_stop .nil (passes_call (takes_of rfl rfl rfl rfl) (fun _ _ _ _ h => h))))) pss_nil)
      (pss_cons (ps_fldaug (pv 0) pe_int in_add) (pss_one (ps_ret (pe_callTy call_intS (by rfl) T.z_int boot_int (pa_cons (pv 2) pa_nil)))))), ?_⟩
    obtain ⟨z, hz⟩ : ∃ z, z = wd G.W k := ⟨_, rfl⟩
    have zl : z.length ≤ 100000 := by rw [hz]; exact a.wlen
    unfold num at q
    rw [← hz] at q
    refine r_seq ?_
    walk_at "re"
    refine r_methV (by rfl) a (rf_no G k rfl rfl rfl) ?_
    walk_at "re"
    refine ⟨p, G, k, rfl, a, ?_⟩
    rw [← hz]
    walk_at "re"
    have hout : ∀ H1, Same H H1 → (¬ (isNum (cp z) = true ∧ 0 ≤ val (cp z) ∧ val (cp z) ≤ most)) → spStop T.CR T.CB [.ref p] H1 (fun _ _ => False) E := fun H1 s1 hn => by
      rw [if_neg hn] at q
      exact ⟨p, G, k, rfl, a.same s1, Out.go q (a.same s1) (.of s1)⟩
    walk_at "rd"
    refine r_call ?_
    walk_at "rd"
    refine ⟨z, rfl, zl, fun H1 s1 => ?_⟩
    have a1 := a.same s1
    walk_at "rd"
    refine iteB (fun h => ?_) (fun h => ?_)
    · have hnum : isNum (cp z) = false := by simpa using h
      walk_at "rd"
      refine r_methV (by rfl) a1 (rf_no G k rfl rfl rfl) ?_
      walk_at "rd"
      obtain ⟨p', G', k', e1, e2, e3⟩ := hout H1 s1 (fun c => by rw [hnum] at c; exact absurd c.1 Bool.false_ne_true)
      exact ⟨p', G', k', e1, e2, e3⟩
    · have hnum : isNum (cp z) = true := by simpa using h
      have h30 := (num_len hnum).2
      rw [cp_len] at h30
      walk_at "rd"
      refine r_intS (num_int hnum) (by omega) ?_
      walk_at "rd"
      refine iteB (fun h2 => ?_) (fun h2 => ?_)
      · have h3 : ¬ val (cp z) ≤ most := by have := of_decide_eq_true h2; omega
        walk_at "rd"
        refine r_methV (by rfl) a1 (rf_no G k rfl rfl rfl) ?_
        walk_at "rd"
        obtain ⟨p', G', k', e1, e2, e3⟩ := hout H1 s1 (fun c => h3 c.2.2)
        exact ⟨p', G', k', e1, e2, e3⟩
      · have h3 : val (cp z) ≤ most := by have := of_decide_eq_false h2; omega
        rw [if_pos ⟨hnum, Nat.zero_le _, h3⟩] at q
        have hne : wd G.W k ≠ "" := fun e => by
          rw [hz, e] at hnum
          revert hnum
          decide +kernel
        walk_at "rd"
        refine r_inc T.cl T.no_at (by rfl) a1 (a.lt hne) fun H2 kp a2 => ?_
        walk_at "rd"
        refine r_intS (num_int hnum) (by omega) ?_
        walk_at "rd"
        exact q _ H2 ((Kp.of s1).trans kp) a2 rfl
end
end Kt
namespace Kt
open PySem PySem.Spec PyProof.Rows L2
/-! ## 8. number, end, variables, literals -/
theorem cp0 : cp ("0" : Str) = [48] := by decide +kernel
theorem num1 (W : List (Str × Nat)) (n most j : Nat) : num W n 1 most j = if wd W j = "0" then .error (pl W n j) else num W n 0 most j := by
  unfold num
  by_cases h0 : wd W j = "0"
  · rw [if_pos h0, if_neg]
    rw [h0, cp0]
    intro h
    have : val [48] = 0 := rfl
    omega
  · rw [if_neg h0]
    by_cases hn : isNum (cp (wd W j)) = true
    · have hv : val (cp (wd W j)) ≠ 0 := fun e => h0 (str_ext (by rw [(num_zero hn).mp e, cp0]))
      by_cases hm : val (cp (wd W j)) ≤ most
      · rw [if_pos ⟨hn, by omega, hm⟩, if_pos ⟨hn, by omega, hm⟩]
      · rw [if_neg (fun c => hm c.2.2), if_neg (fun c => hm c.2.2)]
    · rw [if_neg (fun c => hn c.1), if_neg (fun c => hn c.1)]
section
variable {P : Program} {w : World} {K : PySem.W.Frag} {mg : Str → Option Value} {base : Heap} {fI : Addr}
theorem ok_R_number (T : Txt K mg) (B : BTxt P K mg T.CB fI) : FnOk P w K mg base (L2.CX P w) 4 T.f_R_number T.d_R_number ["self", "least", "most"] (spNumber T.CR T.CB) := by
  have G0 : FnOk P w K mg base CX0 1 T.f_R_word T.d_R_word ["self"] (spWord T.CR) := ok_R_word T
  have G1 : FnOk P w K mg base CX0 1 T.f_is_numeral T.d_is_numeral ["word"] spNum := ok_is_numeral T
  have G2 : FnOk P w K mg base (L2.CX P w) 1 T.f_R_stop T.d_R_stop ["self"] (spStop T.CR T.CB) := ok_R_stop T B
  have G3 : FnOk P w K mg base (L2.CX P w) 3 T.f_R_numeral T.d_R_numeral ["self", "most"] (spNumeral T.CR T.CB) := ok_R_numeral T B
  refine T.F_R_number.okX sc_R_number (fun vs H Q E h => ?_) (fun cdv A outer s H vs Q E hr h => ?_)
  · obtain ⟨p, G, k, most, rfl, _⟩ := h
    rfl
  · obtain ⟨p, G, k, most, rfl, hm1, a, q⟩ := h
    have hr1 : Room 1 _ := hr.mono (by decide)
    refine ⟨_, pss_cons (ps_if (pt_cmpR op_ne (pe_meth0 (pv 0) T.cl T.h_R_word G0 hr1 T.b_R_word .nil pass0) pe_str (nomark _))
        (pss_cons (ps_if (PW.pt (pw_and (pt_val (pe_call G1 hr1 (by rfl) T.g_is_numeral T.F_is_numeral.kp T.b_is_numeral .nil pass0 (pa_cons (pe_meth0 (pv 0) T.cl T.h_R_word G0 hr1 T.b_R_word .nil pass0) pa_nil)))
              (pw_and1 (pt_not (pt_chain op_le op_le (pv 1) (pe_callTy call_intS (by rfl) T.z_int boot_int (pa_cons (pe_meth0 (pv 0) T.cl T.h_R_word G0 hr1 T.b_R_word .nil pass0) pa_nil)) (pv 2))))))
            (pss_one (ps_expr (pe_meth0 (pv 0) T.cl T.h_R_stop G2 hr1 T.b_R_stop .nil (passes_call (takes_of rfl rfl rfl rfl) (fun _ _ _ _ h => h))))) pss_nil)
          (pss_one (ps_ret (pe_meth (pv 0) T.cl T.h_R_numeral G3 hr T.b_R_numeral .nil (passes_call (takes_of rfl rfl rfl rfl) (fun _ _ _ _ h => h)) (pa_cons (pv 2) pa_nil))))) pss_nil)
      (pss_cons (ps_if (pt_cmpR op_ge (pv 1) pe_int (nomark _)) (pss_one (ps_expr (pe_meth0 (pv 0) T.cl T.h_R_stop G2 hr1 T.b_R_stop .nil (passes_call (takes_of rfl rfl rfl rfl) (fun _ _ _ _ h => h))))) pss_nil)
      (pss_cons (ps_fldaug (pv 0) pe_int in_add)
      (pss_cons (ps_if (pt_cmpR op_eq (pe_meth0 (pv 0) T.cl T.h_R_word G0 hr1 T.b_R_word .nil pass0) pe_str (nomark _)) (pss_one (ps_expr (pe_meth0 (pv 0) T.cl T.h_R_stop G2 hr1 T.b_R_stop .nil (passes_call (takes_of rfl rfl rfl rfl) (fun _ _ _ _ h => h))))) pss_nil)
      (pss_one (ps_ret (pe_un un_neg (pe_meth (pv 0) T.cl T.h_R_numeral G3 hr T.b_R_numeral .nil (passes_call (takes_of rfl rfl rfl rfl) (fun _ _ _ _ h => h)) (pa_cons (pe_un un_neg (pv 1)) pa_nil)))))))), ?_⟩
    obtain ⟨z, hz⟩ : ∃ z, z = wd G.W k := ⟨_, rfl⟩
    have zl : z.length ≤ 100000 := by rw [hz]; exact a.wlen
    unfold numI at q
    walk_at "rd"
    refine r_methV (by rfl) a (rf_no G k rfl rfl rfl) ?_
    walk_at "rd"
    refine ⟨p, G, k, rfl, a, ?_⟩
    walk_at "rd"
    refine iteB (fun h => ?_) (fun h => ?_)
    · -- no minus
      have hne : wd G.W k ≠ "-" := by simpa using h
      rw [if_neg hne] at q
      have fin : ∀ H1, Same H H1 → (Par T.CR T.CB G p H1 (fun (a : Nat) v _ => v = .int a) Q E (num G.W G.n 0 most k)) := fun H1 s1 => by
        have a1 := a.same s1
        cases e : num G.W G.n 0 most k with
        | error x =>
          rw [e] at q
          exact Out.go q a1 (.of s1)
        | ok r =>
          obtain ⟨v, k'⟩ := r
          rw [e] at q
          exact fun u H' kp a' hu => q u H' ((Kp.of s1).trans kp) a' hu
      walk_at "rd"
      refine r_call ?_
      refine r_cons ?_
      refine r_methV (by rfl) a (rf_no G k rfl rfl rfl) ?_
      walk_at "rd"
      refine ⟨p, G, k, rfl, a, ?_⟩
      rw [← hz]
      walk_at "rd"
      refine ⟨z, rfl, zl, fun H1 s1 => ?_⟩
      have a1 := a.same s1
      walk_at "rd"
      refine iteB (fun h1 => ?_) (fun h1 => ?_)
      · have h30 := (num_len h1).2
        rw [cp_len] at h30
        walk_at "rd"
        refine r_methV (by rfl) a1 (rf_no G k rfl rfl rfl) ?_
        walk_at "rd"
        refine ⟨p, G, k, rfl, a1, ?_⟩
        rw [← hz]
        walk_at "rd"
        refine r_intS (num_int h1) (by omega) ?_
        walk_at "rd"
        refine iteBT (decide_eq_true (by omega)) ?_
        walk_at "rd"
        refine iteB (fun h2 => ?_) (fun h2 => ?_)
        · have h3 : ¬ val (cp z) ≤ most := by
            have : ¬ ((val (cp z) : Nat) : Int) ≤ most := by simpa using h2
            omega
          walk_at "rd"
          refine r_methV (by rfl) a1 (rf_no G k rfl rfl rfl) ?_
          walk_at "rd"
          have q1 := fin H1 s1
          unfold num at q1
          rw [← hz, if_neg (fun c => h3 c.2.2)] at q1
          exact ⟨p, G, k, rfl, a1, q1⟩
        · walk_at "rd"
          refine r_methV (by rfl) a1 (rf_no G k rfl rfl rfl) ?_
          walk_at "rd"
          exact ⟨p, G, k, most, rfl, a1, fin H1 s1⟩
      · walk_at "rd"
        refine r_methV (by rfl) a1 (rf_no G k rfl rfl rfl) ?_
        walk_at "rd"
        exact ⟨p, G, k, most, rfl, a1, fin H1 s1⟩
    · -- a minus
      have he : wd G.W k = "-" := by simpa using h
      rw [if_pos he] at q
      have hne : wd G.W k ≠ "" := by rw [he]; decide +kernel
      walk_at "rd"
      refine iteBF (decide_eq_false (by omega)) ?_
      walk_at "rd"
      refine r_inc T.cl T.no_at (by rfl) a (a.lt hne) fun H1 kp a1 => ?_
      walk_at "rd"
      refine r_methV (by rfl) a1 (rf_no G (k + 1) rfl rfl rfl) ?_
      walk_at "rd"
      refine ⟨p, G, k + 1, rfl, a1, ?_⟩
      walk_at "rd"
      rw [num1] at q
      refine iteB (fun h0 => ?_) (fun h0 => ?_)
      · have h0' : wd G.W (k + 1) = "0" := of_decide_eq_true h0
        rw [if_pos h0'] at q
        walk_at "rd"
        refine r_methV (by rfl) a1 (rf_no G (k + 1) rfl rfl rfl) ?_
        walk_at "rd"
        exact ⟨p, G, k + 1, rfl, a1, Out.go q a1 kp⟩
      · have h0' : ¬ wd G.W (k + 1) = "0" := of_decide_eq_false h0
        rw [if_neg h0'] at q
        walk_at "rd"
        refine r_methV (by rfl) a1 (rf_no G (k + 1) rfl rfl rfl) ?_
        walk_at "rd"
        refine ⟨p, G, k + 1, most, by rw [Int.neg_neg]; rfl, a1, ?_⟩
        cases e : num G.W G.n 0 most (k + 1) with
        | error x =>
          rw [e] at q
          exact Out.go q a1 kp
        | ok r =>
          obtain ⟨v, k'⟩ := r
          rw [e] at q
          intro u H' kp' a' hu
          subst hu
          walk_at "rd"
          exact q _ H' (kp.trans kp') a' rfl
theorem ok_R_end (T : Txt K mg) (B : BTxt P K mg T.CB fI) : FnOk P w K mg base (L2.CX P w) 2 T.f_R_end T.d_R_end ["self"] (spEnd T.CR T.CB) := by
  have G2 : FnOk P w K mg base (L2.CX P w) 1 T.f_R_stop T.d_R_stop ["self"] (spStop T.CR T.CB) := ok_R_stop T B
  refine T.F_R_end.okX sc_R_end (fun vs H Q E h => ?_) (fun cdv A outer s H vs Q E hr h => ?_)
  · obtain ⟨p, G, k, rfl, _⟩ := h
    rfl
  · obtain ⟨p, G, k, rfl, a, q⟩ := h
    refine ⟨_, pss_one (ps_if (pt_cmpR op_lt (pe_fld (pv 0) rfl) (pe_callB call_lenL (by rfl) T.z_len PySem.boot_len (pa_cons (pe_fld (pv 0) rfl) pa_nil)) (nomark _))
      (pss_one (ps_expr (pe_meth0 (pv 0) T.cl T.h_R_stop G2 hr T.b_R_stop .nil (passes_call (takes_of rfl rfl rfl rfl) (fun _ _ _ _ h => h))))) pss_nil), ?_⟩
    obtain ⟨ts, hts, r⟩ := a.ws
    have hlen : ts.length = G.W.length := r.length
    unfold endR at q
    walk_at "rd"
    refine r_fldR T.cl T.no_at (by rfl) a (rf_at G k) ?_
    walk_at "rd"
    refine r_fldR T.cl T.no_words (by rfl) a (rf_words G k) ?_
    walk_at "rd"
    refine r_lenL (SqL.of hts) ?_
    walk_at "rd"
    refine iteB (fun h => ?_) (fun h => ?_)
    · have hk : k < G.W.length := by have := of_decide_eq_true h; omega
      rw [if_pos hk] at q
      walk_at "rd"
      refine r_methV (by rfl) a (rf_no G k rfl rfl rfl) ?_
      walk_at "rd"
      exact ⟨p, G, k, rfl, a, q⟩
    · have hk : ¬ k < G.W.length := by have := of_decide_eq_false h; omega
      rw [if_neg hk] at q
      walk_at "rd"
      exact q .non H (Kp.refl _ _) a rfl
/-! ### variables -/
def spIsVar : Sp := fun vs H Q _ => ∃ z : Str, vs = [.str z] ∧ z.length ≤ 100000 ∧ ∀ H', Same H H' → Q (.bl (isVar (cp z))) H'
theorem cut1 (z : Str) : cp (cutS z none (some 1)) = (cp z).take 1 := by
  unfold cutS
  have e : HT.sIx z.length z.length (some (1 : Int)) = min 1 z.length := HT.sIx_nat _ _ 1
  rw [e, HT.sIx_none, List.drop_zero, Nat.sub_zero, cp_tx]
  rcases Nat.lt_or_ge z.length 1 with h | h
  · have : cp z = [] := List.eq_nil_of_length_eq_zero (by rw [cp_len]; omega)
    show List.take _ (cp z) = _
    rw [this, List.take_nil, List.take_nil]
  · rw [Nat.min_eq_left h]
theorem cutT (z : Str) : cp (cutS z (some 1) none) = (cp z).tail := by
  unfold cutS
  have e : HT.sIx z.length 0 (some (1 : Int)) = min 1 z.length := HT.sIx_nat _ _ 1
  rw [e, HT.sIx_none, cp_tx]
  show List.take _ (List.drop _ (cp z)) = _
  cases h : cp z with
  | nil => rw [List.drop_nil, List.take_nil, List.tail_nil]
  | cons c r =>
    have hl : z.length = r.length + 1 := by rw [← cp_len, h]; rfl
    rw [hl, Nat.min_eq_left (by omega), List.drop_succ_cons, List.drop_zero, Nat.add_sub_cancel, List.take_length, List.tail_cons]
theorem cpx : cp ("x" : Str) = [120] := by decide +kernel
theorem head_x (z : Str) : decide (cutS z none (some 1) = ("x" : Str)) = decide ((cp z).head? = some 120) := by
  refine decide_eq_decide.mpr ⟨fun e => ?_, fun e => str_ext ?_⟩
  · have := congrArg cp e
    rw [cut1, cpx] at this
    cases h : cp z with
    | nil => rw [h] at this; cases this
    | cons c r =>
      rw [h] at this
      have := (List.cons.inj this).1
      rw [this]
      rfl
  · rw [cut1, cpx]
    cases h : cp z with
    | nil => rw [h] at e; cases e
    | cons c r =>
      rw [h] at e
      have : c = 120 := Option.some.inj e
      rw [this]
      rfl
theorem ok_is_variable_word (T : Txt K mg) : FnOk P w K mg base CX0 2 T.f_is_variable_word T.d_is_variable_word ["word"] spIsVar := by
  have G1 : FnOk P w K mg base CX0 1 T.f_is_numeral T.d_is_numeral ["word"] spNum := ok_is_numeral T
  refine T.F_is_variable_word.ok sc_is_variable_word (fun vs H Q E h => ?_) (fun cdv A outer s H vs Q E hr h => ?_)
  · obtain ⟨z, rfl, _⟩ := h
    rfl
  · obtain ⟨z, rfl, hz, k⟩ := h
    refine ⟨_, pss_one (ps_ret (pe_and (pe_cmpR op_eq (pe_slice sl_str (pv 0) po_none (po_some pe_int)) pe_str (nomark _))
      (pe_one (pe_call G1 hr (by rfl) T.g_is_numeral T.F_is_numeral.kp T.b_is_numeral .nil pass0 (pa_cons (pe_slice sl_str (pv 0) (po_some pe_int) po_none) pa_nil))))), ?_⟩
    walk_at "rd"
    refine r_slS hz ?_
    walk_at "rd"
    rw [head_x]
    refine iteB (fun h => ?_) (fun h => ?_)
    · refine r_call ?_
      walk_at "rd"
      refine r_slS hz ?_
      walk_at "rd"
      have hl : (cutS z (some 1) none).length ≤ 100000 := by
        rw [← cp_len, cutT, List.length_tail, cp_len]
        omega
      refine ⟨_, rfl, hl, fun H1 s1 => ?_⟩
      walk_at "rd"
      have := k H1 s1
      unfold isVar at this
      rw [h, Bool.true_and] at this
      rw [cutT]
      exact this
    · walk_at "rd"
      have := k H (Same.refl H)
      unfold isVar at this
      rw [h, Bool.false_and] at this
      exact this
end
end Kt
namespace Kt
open PySem PySem.Spec PyProof.Rows L2
/-! ## 9. Terms, sums, the problem -/
mutual
/-- v is this data; tuples alone are in the heap -/
inductive Rp (H : Hp) : V → PyData → Prop
  | non : Rp H .non .none
  | bl (b : Bool) : Rp H (.bl b) (.bool b)
  | int (i : Int) : Rp H (.int i) (.int i)
  | str (x : Str) : Rp H (.str x) (.str x)
  | tup {a : Addr} {xs : List V} {ds : List PyData} : H a = some (.tup xs) → RpL H xs ds → Rp H (.ref a) (.tuple ds)
inductive RpL (H : Hp) : List V → List PyData → Prop
  | nil : RpL H [] []
  | cons {v : V} {vs : List V} {d : PyData} {ds : List PyData} : Rp H v d → RpL H vs ds → RpL H (v :: vs) (d :: ds)
end
mutual
theorem Rp.mono {H H' : Hp} (k : ∀ t xs, H t = some (.tup xs) → H' t = some (.tup xs)) : ∀ (d : PyData) (v : V), Rp H v d → Rp H' v d
  | .none, _, h => by cases h; exact .non
  | .bool b, _, h => by cases h; exact .bl b
  | .int i, _, h => by cases h; exact .int i
  | .str x, _, h => by cases h; exact .str x
  | .list xs, _, h => by cases h
  | .dict xs, _, h => by cases h
  | .tuple ds, _, h => by
    cases h with
    | tup e r => exact .tup (k _ _ e) (RpL.mono k ds _ r)
theorem RpL.mono {H H' : Hp} (k : ∀ t xs, H t = some (.tup xs) → H' t = some (.tup xs)) : ∀ (ds : List PyData) (vs : List V), RpL H vs ds → RpL H' vs ds
  | [], _, h => by cases h; exact .nil
  | d :: ds, _, h => by
    cases h with
    | cons a t => exact .cons (Rp.mono k d _ a) (RpL.mono k ds _ t)
end
theorem RpL.snoc {H : Hp} {v : V} {d : PyData} : ∀ {vs : List V} {ds : List PyData}, RpL H vs ds → Rp H v d → RpL H (vs ++ [v]) (ds ++ [d])
  | _, _, .nil, h => .cons h .nil
  | _, _, .cons a t, h => .cons a (RpL.snoc t h)
theorem RpL.length {H : Hp} : ∀ {vs : List V} {ds : List PyData}, RpL H vs ds → vs.length = ds.length
  | _, _, .nil => rfl
  | _, _, .cons _ t => by rw [List.length_cons, List.length_cons, t.length]
theorem RpL.last {H : Hp} {d : PyData} : ∀ {vs : List V} {ds : List PyData}, RpL H vs (ds ++ [d]) → ∃ vs' v, vs = vs' ++ [v] ∧ RpL H vs' ds ∧ Rp H v d
  | _, [], h => by
    cases h with
    | cons a t => cases t; exact ⟨[], _, rfl, .nil, a⟩
  | _, x :: ds, h => by
    cases h with
    | cons a t =>
      obtain ⟨vs', v, rfl, r, q⟩ := RpL.last (ds := ds) t
      exact ⟨_ :: vs', v, rfl, .cons a r, q⟩
/-- tuples stand where only p, no tuple, may change -/
theorem Kp.tups {C p : Addr} {G : RG} {H H' : Hp} {k : Nat} (kp : Kp p H H') (a : At C G H p k) : ∀ t xs, H t = some (.tup xs) → H' t = some (.tup xs) := fun t xs e => kp t _ (ne_of e a.ob (fun z => nomatch z)) e
def termD (t : Nat × Nat) : PyData := .tuple [.int t.1, .int t.2]
def termsD (ts : List (Nat × Nat)) : PyData := .tuple (ts.map termD)
def sumD (s : List (Nat × Nat) × Int) : PyData := .tuple [termsD s.1, .int s.2]
def priceD : Option (List (Nat × Nat) × Int) → PyData
  | some p => sumD p
  | none => .none
def probD (x : Nat × List (List (Nat × Nat) × Int) × Option (List (Nat × Nat) × Int)) : PyData := .tuple [.int x.1, .tuple (x.2.1.map sumD), priceD x.2.2]
/-- the reader's place -/
def kAt (H : Hp) (p : Addr) : Nat := match H p with
  | some (.ins _ _ fs) => (match fs.lookup ("at" : Str) with
    | some (.int n) => n.toNat
    | _ => 0)
  | _ => 0
theorem kAt_of {C p : Addr} {G : RG} {H : Hp} {k : Nat} (a : At C G H p k) : kAt H p = k := by
  unfold kAt
  rw [a.ob]
  simp only [rf_at]
  rfl
def spVar (C CB : Addr) : Sp := fun vs H Q E => ∃ p G k, ∃ least most : Nat, vs = [.ref p, .int least, .int most] ∧ At C G H p k ∧ Par C CB G p H (fun (a : Nat) v _ => v = .int a) Q E (var G.W G.n least most k)
def spLit (C CB : Addr) : Sp := fun vs H Q E => ∃ p G k, ∃ least most : Nat, vs = [.ref p, .int least, .int most] ∧ At C G H p k ∧ Par C CB G p H (fun (a : Nat) v _ => v = .int a) Q E (lit G.W G.n least most k)
def spWeight (C CB : Addr) : Sp := fun vs H Q E => ∃ p G k, ∃ most : Nat, vs = [.ref p, .int most] ∧ At C G H p k ∧ Par C CB G p H (fun (a : Nat) v _ => v = .int a) Q E (num G.W G.n 1 most k)
def spTerms (C CB : Addr) : Sp := fun vs H Q E => ∃ p G k, ∃ last most : Nat, vs = [.ref p, .int last, .int most] ∧ At C G H p k ∧ Par C CB G p H (fun a v H' => Rp H' v (termsD a)) Q E (terms G.W G.n last most k)
def spSum (C CB : Addr) : Sp := fun vs H Q E => ∃ p G k, ∃ last most : Nat, vs = [.ref p, .int last, .int most] ∧ 1 ≤ most ∧ At C G H p k ∧ Par C CB G p H (fun a v H' => Rp H' v (sumD a)) Q E (sum1 G.W G.n last most k)
def spPrice (C CB : Addr) : Sp := fun vs H Q E => ∃ p G k, ∃ last most : Nat, vs = [.ref p, .int last, .int most] ∧ 1 ≤ most ∧ At C G H p k ∧ Par C CB G p H (fun a v H' => Rp H' v (sumD a)) Q E (price1 G.W G.n last most k)
/-- what comes of a reading whose first part is known -/
theorem Par.ok {α : Type} {C CB : Addr} {G : RG} {p : Addr} {H : Hp} {rep : α → V → Hp → Prop} {Q : VK} {E : XK} {a : α} {k' : Nat} (q : Par C CB G p H rep Q E (.ok (a, k'))) : ∀ v H', Kp p H H' → At C G H' p k' → rep a v H' → Q v H' := q
/-- from a later heap -/
theorem Par.go {α : Type} {C CB : Addr} {G : RG} {p : Addr} {H H1 : Hp} {k : Nat} {rep : α → V → Hp → Prop} {Q : VK} {E : XK} {r : Rs α} (q : Par C CB G p H rep Q E r) (a : At C G H1 p k) (kp : Kp p H H1) : Par C CB G p H1 rep Q E r := by
  cases r with
  | error x => exact Out.go (show Out E CB p H x from q) a kp
  | ok r =>
    obtain ⟨u, k'⟩ := r
    exact fun v H' kp' a' hv => q.ok v H' (kp.trans kp') a' hv
/-- the first part's promise, from the whole's -/
theorem Par.fst {α β : Type} {C CB : Addr} {G : RG} {p : Addr} {H : Hp} {rep : β → V → Hp → Prop} {rep1 : α → V → Hp → Prop} {Q Q1 : VK} {E : XK} {r : Rs α} {f : α → Nat → Rs β} (q : Par C CB G p H rep Q E (bnd r f))
    (k : ∀ a k1 v H', r = .ok (a, k1) → Kp p H H' → At C G H' p k1 → rep1 a v H' → Par C CB G p H' rep Q E (f a k1) → Q1 v H') : Par C CB G p H rep1 Q1 E r := by
  cases r with
  | error x => exact q
  | ok r =>
    obtain ⟨u, k'⟩ := r
    exact fun v H' kp' a' hv => k u k' v H' rfl kp' a' hv (Par.go (r := f u k') q a' kp')
section
variable {P : Program} {w : World} {K : PySem.W.Frag} {mg : Str → Option Value} {base : Heap} {fI : Addr}
theorem ok_take_variable (T : Txt K mg) (B : BTxt P K mg T.CB fI) : FnOk P w K mg base (L2.CX P w) 4 T.f_take_variable T.d_take_variable ["reader", "least", "most"] (spVar T.CR T.CB) := by
  have G0 : FnOk P w K mg base CX0 1 T.f_R_word T.d_R_word ["self"] (spWord T.CR) := ok_R_word T
  have G1 : FnOk P w K mg base CX0 2 T.f_is_variable_word T.d_is_variable_word ["word"] spIsVar := ok_is_variable_word T
  have G2 : FnOk P w K mg base (L2.CX P w) 1 T.f_R_stop T.d_R_stop ["self"] (spStop T.CR T.CB) := ok_R_stop T B
  have G3 : FnOk P w K mg base CX0 2 T.f_R_taken T.d_R_taken ["self"] (spTaken T.CR) := ok_R_taken T
  refine T.F_take_variable.okX sc_take_variable (fun vs H Q E h => ?_) (fun cdv A outer s H vs Q E hr h => ?_)
  · obtain ⟨p, G, k, least, most, rfl, _⟩ := h
    rfl
  · obtain ⟨p, G, k, least, most, rfl, a, q⟩ := h
    have nd := sc_take_variable.nd
    have hr1 : Room 1 _ := hr.mono (by decide)
    have hr2 : Room 2 _ := hr.mono (by decide)
    refine ⟨_, pss_cons (ps_set (i := 3) nd rfl (Or.inl rfl) (pe_meth0 (pv 0) T.cl T.h_R_word G0 hr1 T.b_R_word .nil pass0))
      (pss_cons (ps_if (PW.pt (pw_or (pt_not (pt_val (pe_call G1 hr2 (by rfl) T.g_is_variable_word T.F_is_variable_word.kp T.b_is_variable_word .nil pass0 (pa_cons (pv 3) pa_nil))))
          (pw_or1 (pt_not (pt_chain op_le op_le (pv 1) (pe_callTy call_intS (by rfl) T.z_int boot_int (pa_cons (pe_slice sl_str (pv 3) (po_some pe_int) po_none) pa_nil)) (pv 2))))))
        (pss_one (ps_expr (pe_meth0 (pv 0) T.cl T.h_R_stop G2 hr1 T.b_R_stop .nil (passes_call (takes_of rfl rfl rfl rfl) (fun _ _ _ _ h => h))))) pss_nil)
      (pss_one (ps_ret (pe_callTy call_intS (by rfl) T.z_int boot_int (pa_cons (pe_slice sl_str (pe_meth0 (pv 0) T.cl T.h_R_taken G3 hr2 T.b_R_taken .nil pass0) (po_some pe_int) po_none) pa_nil))))), ?_⟩
    obtain ⟨z, hz⟩ : ∃ z, z = wd G.W k := ⟨_, rfl⟩
    have zl : z.length ≤ 100000 := by rw [hz]; exact a.wlen
    unfold var at q
    rw [← hz] at q
    refine r_seq ?_
    walk_at "re"
    refine r_methV (by rfl) a (rf_no G k rfl rfl rfl) ?_
    walk_at "re"
    refine ⟨p, G, k, rfl, a, ?_⟩
    rw [← hz]
    walk_at "re"
    refine r_mid (fun σ' H' => σ' = [some (.ref p), some (.int least), some (.int most), some (.str z)] ∧ Same H H' ∧ isVar (cp z) = true ∧ least ≤ val (cp z).tail ∧ val (cp z).tail ≤ most) ?_ fun n hn => ?_
    · rintro _ H1 ⟨rfl, s1, hv, h1, h2⟩
      have a1 := a.same s1
      rw [if_pos ⟨hv, h1, h2⟩] at q
      have hne : wd G.W k ≠ "" := fun e => by
        rw [hz, e] at hv
        revert hv
        decide +kernel
      have hlt := a.lt hne
      have hnum : isNum (cp z).tail = true := by
        unfold isVar at hv
        rw [Bool.and_eq_true] at hv
        exact hv.2
      have h30 := (num_len hnum).2
      walk_at "re"
      refine r_methV (by rfl) a1 (rf_no G k rfl rfl rfl) ?_
      walk_at "re"
      refine ⟨p, G, k, rfl, a1, by omega, fun H2 kp a2 => ?_⟩
      rw [← hz]
      walk_at "re"
      refine r_slS zl ?_
      walk_at "re"
      have hl : (cutS z (some 1) none).length = (cp z).tail.length := by rw [← cp_len, cutT]
      refine r_intS (num_int (by rw [cutT]; exact hnum)) (by omega) ?_
      walk_at "re"
      rw [cutT]
      exact q _ H2 ((Kp.of s1).trans kp) a2 rfl
    · have bad : ∀ H1, Same H H1 → ¬ (isVar (cp z) = true ∧ least ≤ val (cp z).tail ∧ val (cp z).tail ≤ most) → ∃ p' G' k', [V.ref p] = [.ref p'] ∧ At T.CR G' H1 p' k' ∧ Out E T.CB p' H1 (pl G'.W G'.n k') := fun H1 s1 hc => by
        rw [if_neg hc] at q
        exact ⟨p, G, k, rfl, a.same s1, Out.go q (a.same s1) (.of s1)⟩
      walk_at "re"
      refine r_call ?_
      walk_at "re"
      refine ⟨z, rfl, zl, fun H1 s1 => ?_⟩
      have a1 := a.same s1
      walk_at "re"
      refine iteB (fun h => ?_) (fun h => ?_)
      · have hv : isVar (cp z) = false := by simpa using h
        walk_at "re"
        refine r_methV (by rfl) a1 (rf_no G k rfl rfl rfl) ?_
        walk_at "re"
        exact bad H1 s1 (fun c => by rw [hv] at c; exact absurd c.1 Bool.false_ne_true)
      · have hv : isVar (cp z) = true := by simpa using h
        have hnum : isNum (cp z).tail = true := by
          unfold isVar at hv
          rw [Bool.and_eq_true] at hv
          exact hv.2
        have h30 := (num_len hnum).2
        have hl : (cutS z (some 1) none).length = (cp z).tail.length := by rw [← cp_len, cutT]
        walk_at "re"
        refine r_slS zl ?_
        walk_at "re"
        refine r_intS (num_int (by rw [cutT]; exact hnum)) (by omega) ?_
        rw [cutT]
        walk_at "re"
        refine iteB (fun h1 => ?_) (fun h1 => ?_)
        · walk_at "re"
          refine iteB (fun h2 => ?_) (fun h2 => ?_)
          · have h3 : ¬ val (cp z).tail ≤ most := by
              have : ¬ ((val (cp z).tail : Nat) : Int) ≤ most := by simpa using h2
              omega
            walk_at "re"
            refine r_methV (by rfl) a1 (rf_no G k rfl rfl rfl) ?_
            walk_at "re"
            exact bad H1 s1 (fun c => h3 c.2.2)
          · have h3 : ((val (cp z).tail : Nat) : Int) ≤ most := by simpa using h2
            have h4 := of_decide_eq_true h1
            walk_at "re"
            exact hn _ _ ⟨rfl, s1, hv, by omega, by omega⟩
        · have h4 := of_decide_eq_false h1
          walk_at "re"
          refine r_methV (by rfl) a1 (rf_no G k rfl rfl rfl) ?_
          walk_at "re"
          exact bad H1 s1 (fun c => h4 (by omega))
theorem ok_take_literal (T : Txt K mg) (B : BTxt P K mg T.CB fI) : FnOk P w K mg base (L2.CX P w) 5 T.f_take_literal T.d_take_literal ["reader", "least", "most"] (spLit T.CR T.CB) := by
  have G0 : FnOk P w K mg base CX0 2 T.f_R_goes_on T.d_R_goes_on ["self", "sign"] (spOn T.CR) := ok_R_goes_on T
  have G1 : FnOk P w K mg base (L2.CX P w) 4 T.f_take_variable T.d_take_variable ["reader", "least", "most"] (spVar T.CR T.CB) := ok_take_variable T B
  refine T.F_take_literal.okX sc_take_literal (fun vs H Q E h => ?_) (fun cdv A outer s H vs Q E hr h => ?_)
  · obtain ⟨p, G, k, least, most, rfl, _⟩ := h
    rfl
  · obtain ⟨p, G, k, least, most, rfl, a, q⟩ := h
    have nd := sc_take_literal.nd
    have hr2 : Room 2 _ := hr.mono (by decide)
    refine ⟨_, pss_cons (ps_set (i := 3) nd rfl (Or.inl rfl) (pe_meth (pv 0) T.cl T.h_R_goes_on G0 hr2 T.b_R_goes_on .nil pass0 (pa_cons pe_str pa_nil)))
      (pss_one (ps_ret (pe_op op_add (pe_op op_mul pe_int (pe_call G1 hr (by rfl) T.g_take_variable T.F_take_variable.kp T.b_take_variable .nil (passes_call (takes_of rfl rfl rfl rfl) (fun _ _ _ _ h => h)) (pa_cons (pv 0) (pa_cons (pv 1) (pa_cons (pv 2) pa_nil)))))
        (pe_callTy call_intB (by rfl) T.z_int boot_int (pa_cons (pv 3) pa_nil))))), ?_⟩
    unfold lit at q
    walk_at "rd"
    refine r_methV (by rfl) a (rf_no G k rfl rfl rfl) ?_
    walk_at "rd"
    refine ⟨p, G, k, _, rfl, a, by decide +kernel, fun e H1 kp a1 => ?_, fun e => ?_⟩
    · rw [if_pos e] at q
      walk_at "rd"
      refine r_call ?_
      walk_at "rd"
      refine ⟨p, G, k + 1, least, most, rfl, a1, Par.fst (q.go a1 kp) fun v k1 u H2 er kp2 a2 hu q2 => ?_⟩
      subst hu
      refine r_I (.inl ⟨by decide, by decide⟩) ?_
      walk_at "rd"
      exact q2 _ H2 (Kp.refl _ _) a2 (by simp)
    · rw [if_neg e] at q
      walk_at "rd"
      refine r_call ?_
      walk_at "rd"
      refine ⟨p, G, k, least, most, rfl, a, Par.fst q fun v k1 u H2 er kp2 a2 hu q2 => ?_⟩
      subst hu
      refine r_I (.inl ⟨by decide, by decide⟩) ?_
      walk_at "rd"
      exact q2 _ H2 (Kp.refl _ _) a2 (by simp)
theorem ok_take_weight (T : Txt K mg) (B : BTxt P K mg T.CB fI) : FnOk P w K mg base (L2.CX P w) 4 T.f_take_weight T.d_take_weight ["reader", "most"] (spWeight T.CR T.CB) := by
  have G0 : FnOk P w K mg base CX0 1 T.f_R_word T.d_R_word ["self"] (spWord T.CR) := ok_R_word T
  have G2 : FnOk P w K mg base (L2.CX P w) 1 T.f_R_stop T.d_R_stop ["self"] (spStop T.CR T.CB) := ok_R_stop T B
  have G3 : FnOk P w K mg base (L2.CX P w) 3 T.f_R_numeral T.d_R_numeral ["self", "most"] (spNumeral T.CR T.CB) := ok_R_numeral T B
  refine T.F_take_weight.okX sc_take_weight (fun vs H Q E h => ?_) (fun cdv A outer s H vs Q E hr h => ?_)
  · obtain ⟨p, G, k, most, rfl, _⟩ := h
    rfl
  · obtain ⟨p, G, k, most, rfl, a, q⟩ := h
    have hr1 : Room 1 _ := hr.mono (by decide)
    refine ⟨_, pss_cons (ps_if (pt_cmpR op_eq (pe_meth0 (pv 0) T.cl T.h_R_word G0 hr1 T.b_R_word .nil pass0) pe_str (nomark _)) (pss_one (ps_expr (pe_meth0 (pv 0) T.cl T.h_R_stop G2 hr1 T.b_R_stop .nil (passes_call (takes_of rfl rfl rfl rfl) (fun _ _ _ _ h => h))))) pss_nil)
      (pss_one (ps_ret (pe_meth (pv 0) T.cl T.h_R_numeral G3 hr T.b_R_numeral .nil (passes_call (takes_of rfl rfl rfl rfl) (fun _ _ _ _ h => h)) (pa_cons (pv 1) pa_nil)))), ?_⟩
    rw [num1] at q
    walk_at "rd"
    refine r_methV (by rfl) a (rf_no G k rfl rfl rfl) ?_
    walk_at "rd"
    refine ⟨p, G, k, rfl, a, ?_⟩
    walk_at "rd"
    refine iteB (fun h => ?_) (fun h => ?_)
    · rw [if_pos (of_decide_eq_true h)] at q
      walk_at "rd"
      refine r_methV (by rfl) a (rf_no G k rfl rfl rfl) ?_
      walk_at "rd"
      exact ⟨p, G, k, rfl, a, q⟩
    · rw [if_neg (of_decide_eq_false h)] at q
      walk_at "rd"
      refine r_methV (by rfl) a (rf_no G k rfl rfl rfl) ?_
      walk_at "rd"
      exact ⟨p, G, k, most, rfl, a, q⟩
end
end Kt
namespace Kt
open PySem PySem.Spec PyProof.Rows L2
/-! ## 10. Terms, sums, prices -/
theorem termsD_cons (t : Nat × Nat) (r : List (Nat × Nat)) : termsD (t :: r) = .tuple (termD t :: r.map termD) := rfl
theorem Par.bndok {α β : Type} {C CB : Addr} {G : RG} {p : Addr} {H : Hp} {rep : β → V → Hp → Prop} {Q : VK} {E : XK} {r : Rs α} {a : α} {k : Nat} {f : α → Nat → Rs β} (e : r = .ok (a, k)) (q : Par C CB G p H rep Q E (bnd r f)) : Par C CB G p H rep Q E (f a k) := by
  rw [e] at q
  exact q
theorem bnd_bnd {α β γ : Type} (r : Rs α) (f : α → Nat → Rs β) (g : β → Nat → Rs γ) : bnd (bnd r f) g = bnd r fun a k => bnd (f a k) g := by
  cases r with
  | error e => rfl
  | ok r => rfl
theorem num_adv {W : List (Str × Nat)} {n l m k a k' : Nat} (h : num W n l m k = .ok (a, k')) : k' = k + 1 := by
  unfold num at h
  split at h
  · cases h; rfl
  · cases h
theorem var_adv {W : List (Str × Nat)} {n l m k a k' : Nat} (h : var W n l m k = .ok (a, k')) : k' = k + 1 := by
  unfold var at h
  split at h
  · cases h; rfl
  · cases h
theorem lit_adv {W : List (Str × Nat)} {n l m k a k' : Nat} (h : lit W n l m k = .ok (a, k')) : k < k' := by
  unfold lit at h
  split at h
  · cases e : var W n l m (k + 1) with
    | error x => rw [e] at h; cases h
    | ok r =>
      obtain ⟨v, j⟩ := r
      rw [e] at h
      have := var_adv e
      cases h
      omega
  · cases e : var W n l m k with
    | error x => rw [e] at h; cases h
    | ok r =>
      obtain ⟨v, j⟩ := r
      rw [e] at h
      have := var_adv e
      cases h
      omega
section
variable {P : Program} {w : World} {K : PySem.W.Frag} {mg : Str → Option Value} {base : Heap} {fI : Addr}
theorem ok_take_terms (T : Txt K mg) (B : BTxt P K mg T.CB fI) : FnOk P w K mg base (L2.CX P w) 6 T.f_take_terms T.d_take_terms ["reader", "last", "most"] (spTerms T.CR T.CB) := by
  have G0 : FnOk P w K mg base CX0 2 T.f_R_goes_on T.d_R_goes_on ["self", "sign"] (spOn T.CR) := ok_R_goes_on T
  have G1 : FnOk P w K mg base (L2.CX P w) 4 T.f_take_weight T.d_take_weight ["reader", "most"] (spWeight T.CR T.CB) := ok_take_weight T B
  have G2 : FnOk P w K mg base (L2.CX P w) 5 T.f_take_literal T.d_take_literal ["reader", "least", "most"] (spLit T.CR T.CB) := ok_take_literal T B
  refine T.F_take_terms.okX sc_take_terms (fun vs H Q E h => ?_) (fun cdv A outer s H vs Q E hr h => ?_)
  · obtain ⟨p, G, k, last, most, rfl, _⟩ := h
    rfl
  · obtain ⟨p, G, k, last, most, rfl, a, q⟩ := h
    have nd := sc_take_terms.nd
    have hr2 : Room 2 _ := hr.mono (by decide)
    have hr4 : Room 4 _ := hr.mono (by decide)
    refine ⟨_, pss_cons (ps_if (pt_val (pe_meth (pv 0) T.cl T.h_R_goes_on G0 hr2 T.b_R_goes_on .nil pass0 (pa_cons pe_str pa_nil))) (pss_one (ps_ret (pe_tupN pa_nil))) pss_nil)
      (pss_cons (ps_set (i := 3) nd rfl (Or.inl rfl) (pe_call G1 hr4 (by rfl) T.g_take_weight T.F_take_weight.kp T.b_take_weight .nil (passes_call (takes_of rfl rfl rfl rfl) (fun _ _ _ _ h => h)) (pa_cons (pv 0) (pa_cons (pv 2) pa_nil))))
      (pss_cons (ps_set (i := 4) nd rfl (Or.inl rfl) (pe_lstN (pa_cons (pe_tupN (pa_cons (pe_call G2 hr (by rfl) T.g_take_literal T.F_take_literal.kp T.b_take_literal .nil (passes_call (takes_of rfl rfl rfl rfl) (fun _ _ _ _ h => h)) (pa_cons (pv 0) (pa_cons pe_int (pa_cons (pv 1) pa_nil)))) (pa_cons (pv 3) pa_nil))) pa_nil)))
      (pss_cons (ps_while (passes_of rfl) (pt_val (pe_meth (pv 0) T.cl T.h_R_goes_on G0 hr2 T.b_R_goes_on .nil pass0 (pa_cons pe_str pa_nil)))
        (pss_cons (ps_set (i := 3) nd rfl (Or.inl rfl) (pe_call G1 hr4 (by rfl) T.g_take_weight T.F_take_weight.kp T.b_take_weight .nil (passes_call (takes_of rfl rfl rfl rfl) (fun _ _ _ _ h => h)) (pa_cons (pv 0) (pa_cons (pv 2) pa_nil))))
        (pss_one (ps_expr (pe_bm PySem.F.plainAttrs_list PySem.F.slot_list_append PySem.F.type_list_append mt_appN (pv 4) (pa_cons (pe_tupN (pa_cons (pe_call G2 hr (by rfl) T.g_take_literal T.F_take_literal.kp T.b_take_literal .nil (passes_call (takes_of rfl rfl rfl rfl) (fun _ _ _ _ h => h))
            (pa_cons (pv 0) (pa_cons (pe_op op_add (pe_op op_fdivN (pe_ix ix_tup (pe_ix ix_list (pv 4) (pe_un un_neg pe_int) (fun _ _ => rfl)) pe_int (fun _ _ => rfl)) pe_int) pe_int) (pa_cons (pv 1) pa_nil)))) (pa_cons (pv 3) pa_nil))) pa_nil))))))
      (pss_one (ps_ret (pe_callTy call_tupleN (by rfl) T.z_tuple boot_tuple (pa_cons (pv 4) pa_nil))))))), ?_⟩
    unfold terms at q
    refine r_seq ?_
    walk_at "re"
    refine r_methV (by rfl) a (rf_no G k rfl rfl rfl) ?_
    walk_at "re"
    refine ⟨p, G, k, _, rfl, a, by decide +kernel, fun e H1 kp a1 => ?_, fun e => ?_⟩
    · rw [if_pos e] at q
      walk_at "re"
      refine ⟨by simp, r_new fun t H2 t0 s2 ht => ?_⟩
      walk_at "re"
      exact q _ H2 (kp.trans (.of s2)) (a1.same s2) (.tup ht .nil)
    · rw [if_neg e] at q
      walk_at "rd"
      refine r_call ?_
      walk_at "re"
      unfold term at q
      rw [bnd_bnd] at q
      refine ⟨p, G, k, most, rfl, a, Par.fst q fun wt k1 u H1 er kp1 a1 hu q1 => ?_⟩
      subst hu
      rw [bnd_bnd] at q1
      walk_at "rd"
      refine r_call ?_
      walk_at "re"
      refine ⟨p, G, k1, 0, last, rfl, a1, Par.fst q1 fun lt k2 u H2 er2 kp2 a2 hu q2 => ?_⟩
      subst hu
      walk_at "rd"
      refine ⟨by simp, r_new fun tp H3 tp0 s3 htp => ?_⟩
      walk_at "rd"
      refine ⟨by simp, r_new fun fl H4 fl0 s4 hfl => ?_⟩
      walk_at "rd"
      -- the loop
      have adv1 := num_adv er
      have adv2 := lit_adv er2
      have a4 : At T.CR G H4 p k2 := a2.same (s3.trans s4)
      have kp4 : Kp p H2 H4 := .of (s3.trans s4)
      have flp : fl ≠ p := ne_of hfl a4.ob (fun z => nomatch z)
      have fl2 : H2 fl = none := s3.free fl0
      refine r_while (fun σ' H' => ∃ (k' f : Nat) (wv : V) (acc : List (Nat × Nat)) (t : Nat × Nat) (xs : List V), σ' = [some (.ref p), some (.int last), some (.int most), some wv, some (.ref fl)] ∧ Kp p H2 H' ∧ At T.CR G H' p k' ∧ H' fl = some (.lst xs) ∧ RpL H' xs ((acc ++ [t]).map termD) ∧
          1 ≤ f ∧ G.W.length + 1 ≤ f + k' ∧ acc.length < k' ∧ Par T.CR T.CB G p H2 (fun a v H' => Rp H' v (termsD a)) Q E (bnd (restT G.W G.n last most f t.1 k') fun r k2 => .ok (acc ++ t :: r, k2)))
        (fun _ H' => 60001 - kAt H' p) ⟨k2, G.W.length + 1, .int wt, [], (lt, wt), _, rfl, kp4, a4, hfl, ?_, by omega, by omega, by show 0 < k2; omega, q2⟩ ?_
      · exact .cons (.tup (s4 _ _ htp) (.cons (.int _) (.cons (.int _) .nil))) .nil
      rintro σ' H5 ⟨k', f, wv, acc, t, xs, rfl, kp5, a5, hxs, hr5, hf1, hfk, hal, q5⟩ S hS
      rw [kAt_of a5] at hS
      walk_at "re"
      refine r_methV (by rfl) a5 (rf_no G k' rfl rfl rfl) ?_
      walk_at "re"
      obtain ⟨f', rfl⟩ : ∃ f', f = f' + 1 := ⟨f - 1, by omega⟩
      unfold restT at q5
      refine ⟨p, G, k', _, rfl, a5, by decide +kernel, fun e5 H6 kp6 a6 => ?_, fun e5 => ?_⟩
      · -- one more
        walk_at "re"
        have hkw : k' < G.W.length := wd_len (by rw [e5]; decide +kernel)
        refine hS _ _ (fun _ => ?_) (fun z => by cases z)
        rw [if_pos e5] at q5
        unfold term at q5
        simp only [bnd_bnd] at q5
        have hxs6 : H6 fl = some (.lst xs) := kp6 _ _ flp hxs
        have hr6 := RpL.mono (kp6.tups a5) _ _ hr5
        walk_at "rd"
        refine r_call ?_
        walk_at "re"
        refine ⟨p, G, k' + 1, most, rfl, a6, Par.fst (q5.go a6 (kp5.trans kp6)) fun w2 k7 u H7 er7 kp7 a7 hu q7 => ?_⟩
        subst hu
        have adv7 := num_adv er7
        have hxs7 : H7 fl = some (.lst xs) := kp7 _ _ flp hxs6
        have hr7 := RpL.mono (kp7.tups a6) _ _ hr6
        rw [List.map_append] at hr7
        obtain ⟨xs', vl, rfl, hr7a, hr7b⟩ := RpL.last hr7
        cases hr7b with
        | @tup ta txs tds ht hti =>
        cases hti with
        | cons h1 h2 =>
        cases h1
        walk_at "rd"
        refine r_tyl hxs7 ?_
        walk_at "re"
        refine r_call ?_
        walk_at "re"
        refine r_ixL (SqL.of hxs7) (atI_last _ _) ?_
        walk_at "re"
        refine r_ixT (SqT.of ht) (atI_nat (j := 0) rfl) ?_
        walk_at "re"
        refine r_I ⟨by decide, by decide⟩ ?_
        walk_at "re"
        have hdiv : Int.fdiv (t.1 : Int) 2 + 1 = ((t.1 / 2 + 1 : Nat) : Int) := by
          rw [Int.fdiv_eq_ediv_of_nonneg _ (by decide)]
          omega
        rw [hdiv]
        refine ⟨p, G, k7, t.1 / 2 + 1, last, rfl, a7, Par.fst q7 fun l2 k8 u H8 er8 kp8 a8 hu q8 => ?_⟩
        subst hu
        have adv8 := lit_adv er8
        have hxs8 := kp8 _ _ flp hxs7
        have hr8 := RpL.mono (kp8.tups a7) _ _ hr7
        walk_at "re"
        refine ⟨by simp, r_new fun tq H9 tq0 s9 htq => ?_⟩
        walk_at "re"
        have a9 := a8.same s9
        have lxs : (xs' ++ [V.ref ta]).length = acc.length + 1 := by
          rw [hr7.length]
          simp
        refine r_app (s9 _ _ hxs8) (by rw [lxs]; have := a7.kl; omega) (r_chg fun H10 e10 h10 => ?_)
        walk_at "re"
        have tb := tup_but (s9 _ _ hxs8) e10
        have kp10 : Kp p H2 H10 := fun b o hb e => by
          rw [e10 b (ne_of_none e fl2)]
          exact s9 _ _ (kp8 _ _ hb (kp7 _ _ hb (kp6 _ _ hb (kp5 _ _ hb e))))
        have kpX : H10 p = some (.ins T.CR G.dx (rf G k8)) := by
          rw [e10 p (Ne.symm flp)]
          exact a9.ob
        have a10 : At T.CR G H10 p k8 := a2.keep kp10 kpX a8.kl
        refine ⟨⟨k8, f', _, acc ++ [t], (l2, w2), _, rfl, kp10, a10, h10, ?_, by omega, by omega, ?_, ?_⟩, ?_⟩
        · rw [List.map_append]
          refine RpL.snoc (RpL.mono tb _ _ (RpL.mono (tup_same s9) _ _ ?_)) (.tup (tb _ _ htq) (.cons (.int _) (.cons (.int _) .nil)))
          rw [List.map_append]
          exact hr8
        · rw [List.length_append, List.length_singleton]
          omega
        · simp only [List.append_assoc, List.singleton_append]
          have : bnd (num G.W G.n 1 most (k' + 1)) (fun a k => bnd (lit G.W G.n (t.1 / 2 + 1) last k) fun a_1 k => bnd (restT G.W G.n last most f' a_1 k) fun r k2 => .ok (acc ++ t :: (a_1, a) :: r, k2)) = bnd (restT G.W G.n last most f' l2 k8) fun r k2 => .ok (acc ++ t :: (l2, w2) :: r, k2) := by
            rw [er7]
            show bnd (lit G.W G.n (t.1 / 2 + 1) last k7) _ = _
            rw [er8]
            rfl
          rw [← this]
          exact q5
        · rw [kAt_of a10]
          have := a10.kl
          omega
      · -- no more
        walk_at "re"
        refine hS _ _ (fun z => by cases z) (fun _ => ?_)
        rw [if_neg e5] at q5
        walk_at "rd"
        refine ⟨fl, xs, rfl, SqL.of hxs, r_new fun tq H6 tq0 s6 htq => ?_⟩
        walk_at "rd"
        refine q5 _ H6 (kp5.trans (.of s6)) (a5.same s6) (.tup htq ?_)
        exact RpL.mono (tup_same s6) _ _ hr5
end
end Kt
namespace Kt
open PySem PySem.Spec PyProof.Rows L2
/-! ## 11. Sums, prices, the reader made, the problem read -/
theorem bnd_adv {α β : Type} {r : Rs α} {f : α → Nat → Rs β} {k k2 : Nat} {b : β} (h : bnd r f = .ok (b, k2)) (h1 : ∀ a k1, r = .ok (a, k1) → k ≤ k1) (h2 : ∀ a k1, f a k1 = .ok (b, k2) → k1 ≤ k2) : k ≤ k2 := by
  cases r with
  | error e => cases h
  | ok r =>
    obtain ⟨a, k1⟩ := r
    exact Nat.le_trans (h1 a k1 rfl) (h2 a k1 h)
section
variable {W : List (Str × Nat)} {n : Nat}
theorem mark_adv {s : Str} {k k' : Nat} {a : Unit} (h : mark W n s k = .ok (a, k')) : k ≤ k' := by
  unfold mark at h
  split at h
  · cases h; omega
  · cases h
theorem term_adv {l x m k k' : Nat} {a : Nat × Nat} (h : term W n l x m k = .ok (a, k')) : k ≤ k' := by
  unfold term at h
  refine bnd_adv h (fun _ _ e => by have := num_adv e; omega) fun _ _ e => ?_
  exact bnd_adv e (fun _ _ e => by have := lit_adv e; omega) fun _ _ e => by cases e; exact Nat.le_refl _
theorem rest_adv {x m : Nat} : ∀ {f prev k k' : Nat} {a : List (Nat × Nat)}, restT W n x m f prev k = .ok (a, k') → k ≤ k'
  | 0, _, _, _, _, h => by cases h
  | f + 1, prev, k, k', a, h => by
    unfold restT at h
    split at h
    · refine bnd_adv h (fun _ _ e => by have := term_adv e; omega) fun _ _ e => ?_
      exact bnd_adv e (fun _ _ e => rest_adv e) fun _ _ e => by cases e; exact Nat.le_refl _
    · cases h; exact Nat.le_refl _
theorem terms_adv {x m k k' : Nat} {a : List (Nat × Nat)} (h : terms W n x m k = .ok (a, k')) : k ≤ k' := by
  unfold terms at h
  split at h
  · cases h; omega
  · refine bnd_adv h (fun _ _ e => term_adv e) fun _ _ e => ?_
    exact bnd_adv e (fun _ _ e => rest_adv e) fun _ _ e => by cases e; exact Nat.le_refl _
theorem numI_adv {m k k' : Nat} {a : Int} (h : numI W n m k = .ok (a, k')) : k ≤ k' := by
  unfold numI at h
  split at h
  · exact bnd_adv h (fun _ _ e => by have := num_adv e; omega) fun _ _ e => by cases e; exact Nat.le_refl _
  · exact bnd_adv h (fun _ _ e => by have := num_adv e; omega) fun _ _ e => by cases e; exact Nat.le_refl _
theorem sum1_adv {x m k k' : Nat} {a : List (Nat × Nat) × Int} (h : sum1 W n x m k = .ok (a, k')) : k ≤ k' := by
  unfold sum1 at h
  refine bnd_adv h (fun _ _ e => terms_adv e) fun _ _ e => ?_
  refine bnd_adv e (fun _ _ e => mark_adv e) fun _ _ e => ?_
  refine bnd_adv e (fun _ _ e => mark_adv e) fun _ _ e => ?_
  exact bnd_adv e (fun _ _ e => numI_adv e) fun _ _ e => by cases e; exact Nat.le_refl _
end
/-- how many words among the first k are a semicolon -/
def semi (W : List (Str × Nat)) (k : Nat) : Nat := ((W.take k).filter fun x => decide (x.1 = (";" : Str))).length
theorem semi_le {W : List (Str × Nat)} {j k : Nat} (h : j ≤ k) : semi W j ≤ semi W k := by
  unfold semi
  exact (List.Sublist.filter _ (List.take_sublist_take_left h)).length_le
theorem semi_step {W : List (Str × Nat)} {k : Nat} (h : wd W k = (";" : Str)) : semi W (k + 1) = semi W k + 1 := by
  have hk : k < W.length := wd_len (by rw [h]; decide +kernel)
  have hx : W[k]? = some (W[k]) := List.getElem?_eq_getElem hk
  unfold wd at h
  rw [hx] at h
  have h' : (W[k]).1 = (";" : Str) := h
  unfold semi
  rw [List.take_add_one, hx, List.filter_append, List.length_append]
  simp [h']
theorem splitW_len : ∀ (l : List Nat) (a : Nat), (splitW a l).length ≤ l.length := by
  intro l
  induction h : l.length using Nat.strongRecOn generalizing l with
  | _ n ih =>
    intro a
    cases l with
    | nil => unfold splitW; simp
    | cons c r =>
      unfold splitW
      have hd := ih (r.drop (more c r)).length (by rw [← h, List.length_drop, List.length_cons]; omega) _ rfl (a + 1 + more c r)
      have h1 : (if isBlank c = true then [] else [(tx (c :: r.take (more c r)), a)]).length ≤ 1 := by split <;> simp
      rw [List.length_append]
      rw [List.length_drop] at hd
      rw [List.length_cons] at h
      omega
theorem splitW_word : ∀ (l : List Nat) (a : Nat), ∀ x ∈ splitW a l, x.1.length ≤ l.length := by
  intro l
  induction h : l.length using Nat.strongRecOn generalizing l with
  | _ n ih =>
    intro a x hx
    cases l with
    | nil => unfold splitW at hx; cases hx
    | cons c r =>
      unfold splitW at hx
      rw [List.length_cons] at h
      rcases List.mem_append.mp hx with q | q
      · split at q
        · cases q
        · have e : x = _ := List.mem_singleton.mp q
          rw [e, ← cp_len, cp_tx, List.length_cons, List.length_take]
          omega
      · have hl := ih (r.drop (more c r)).length (by rw [List.length_drop]; omega) _ rfl (a + 1 + more c r) x q
        rw [List.length_drop] at hl
        omega
theorem r_fldS {K : PySem.W.Frag} {ta tv : TE} {f : Str} {D : Ends} {σ : L2.St} {H : Hp} (q : tv σ H fun y H1 => ta σ H1 fun x H2 => ∃ a C dx fs, x = .ref a ∧ H2 a = some (.ins C dx fs) ∧ Cls K C ∧ NoAttr K C f ∧ fs.length < 1000 ∧ D.nx σ (upd H2 a (.ins C dx (putF f y fs)))) : sFld K ta tv f D σ H := q
theorem r_fldP {K : PySem.W.Frag} {a C dx : Addr} {fs : List (Str × V)} {f : Str} {y : V} {H : Hp} {S : Hp → Prop} (h : H a = some (.ins C dx fs)) (c : Cls K C) (n : NoAttr K C f) (l : fs.length < 1000) (q : ∀ H', (∀ b, b ≠ a → H' b = H b) → H' a = some (.ins C dx (putF f y fs)) → S H') :
    ∃ a' C dx fs, V.ref a = .ref a' ∧ H a' = some (.ins C dx fs) ∧ Cls K C ∧ NoAttr K C f ∧ fs.length < 1000 ∧ S (upd H a' (.ins C dx (putF f y fs))) := ⟨a, C, dx, fs, rfl, h, c, n, l, q _ (fun _ hb => upd_ne hb) upd_same⟩
theorem r_isi {K : PySem.W.Frag} {H : Hp} {Q : VK} {x : V} {a b : String} {r : Bool} (ty : TyX K H x (.type a)) (h : kitB a b = some r) (q : Q (.bl r) H) : rIsi K [x, .ty b] H Q := ⟨x, .ty b, .type a, .type b, r, rfl, .ty b, ty, kit_ty h, q⟩
section
variable {P : Program} {w : World} {K : PySem.W.Frag} {mg : Str → Option Value} {base : Heap} {fI : Addr}
theorem ok_take_sum (T : Txt K mg) (B : BTxt P K mg T.CB fI) : FnOk P w K mg base (L2.CX P w) 7 T.f_take_sum T.d_take_sum ["reader", "last", "most"] (spSum T.CR T.CB) := by
  have G1 : FnOk P w K mg base (L2.CX P w) 6 T.f_take_terms T.d_take_terms ["reader", "last", "most"] (spTerms T.CR T.CB) := ok_take_terms T B
  have G2 : FnOk P w K mg base (L2.CX P w) 3 T.f_R_mark T.d_R_mark ["self", "sign"] (spMark T.CR T.CB) := ok_R_mark T B
  have G3 : FnOk P w K mg base (L2.CX P w) 4 T.f_R_number T.d_R_number ["self", "least", "most"] (spNumber T.CR T.CB) := ok_R_number T B
  refine T.F_take_sum.okX sc_take_sum (fun vs H Q E h => ?_) (fun cdv A outer s H vs Q E hr h => ?_)
  · obtain ⟨p, G, k, last, most, rfl, _⟩ := h
    rfl
  · obtain ⟨p, G, k, last, most, rfl, hm, a, q⟩ := h
    have nd := sc_take_sum.nd
    have hr3 : Room 3 _ := hr.mono (by decide)
    have hr4 : Room 4 _ := hr.mono (by decide)
    refine ⟨_, pss_cons (ps_set (i := 3) nd rfl (Or.inl rfl) (pe_call G1 hr (by rfl) T.g_take_terms T.F_take_terms.kp T.b_take_terms .nil (passes_call (takes_of rfl rfl rfl rfl) (fun _ _ _ _ h => h)) (pa_cons (pv 0) (pa_cons (pv 1) (pa_cons (pv 2) pa_nil)))))
      (pss_cons (ps_expr (pe_meth (pv 0) T.cl T.h_R_mark G2 hr3 T.b_R_mark .nil (passes_call (takes_of rfl rfl rfl rfl) (fun _ _ _ _ h => h)) (pa_cons pe_str pa_nil)))
      (pss_cons (ps_expr (pe_meth (pv 0) T.cl T.h_R_mark G2 hr3 T.b_R_mark .nil (passes_call (takes_of rfl rfl rfl rfl) (fun _ _ _ _ h => h)) (pa_cons pe_str pa_nil)))
      (pss_one (ps_ret (pe_tupN (pa_cons (pv 3) (pa_cons (pe_meth (pv 0) T.cl T.h_R_number G3 hr4 T.b_R_number .nil (passes_call (takes_of rfl rfl rfl rfl) (fun _ _ _ _ h => h)) (pa_cons (pe_un un_neg (pv 2)) (pa_cons (pv 2) pa_nil))) pa_nil))))))), ?_⟩
    unfold sum1 at q
    walk_at "rd"
    refine r_call ?_
    walk_at "rd"
    refine ⟨p, G, k, last, most, rfl, a, Par.fst q fun ts k1 tv H1 er kp1 a1 hts q1 => ?_⟩
    walk_at "rd"
    refine r_methV (by rfl) a1 (rf_no G k1 rfl rfl rfl) ?_
    walk_at "rd"
    refine ⟨p, G, k1, _, rfl, a1, by decide +kernel, Par.fst q1 fun _ k2 u H2 er2 kp2 a2 _ q2 => ?_⟩
    walk_at "rd"
    refine r_methV (by rfl) a2 (rf_no G k2 rfl rfl rfl) ?_
    walk_at "rd"
    refine ⟨p, G, k2, _, rfl, a2, by decide +kernel, Par.fst q2 fun _ k3 u H3 er3 kp3 a3 _ q3 => ?_⟩
    walk_at "rd"
    refine r_methV (by rfl) a3 (rf_no G k3 rfl rfl rfl) ?_
    walk_at "rd"
    refine ⟨p, G, k3, most, rfl, hm, a3, Par.fst q3 fun d k4 u H4 er4 kp4 a4 hd q4 => ?_⟩
    subst hd
    walk_at "rd"
    refine ⟨by simp, r_new fun tp H5 tp0 s5 htp => ?_⟩
    walk_at "rd"
    refine q4 _ H5 (.of s5) (a4.same s5) (.tup htp (.cons ?_ (.cons (.int _) .nil)))
    exact Rp.mono (tup_same s5) _ _ (Rp.mono (kp4.tups a3) _ _ (Rp.mono (kp3.tups a2) _ _ (Rp.mono (kp2.tups a1) _ _ hts)))
theorem ok_take_price (T : Txt K mg) (B : BTxt P K mg T.CB fI) : FnOk P w K mg base (L2.CX P w) 7 T.f_take_price T.d_take_price ["reader", "last", "most"] (spPrice T.CR T.CB) := by
  have G1 : FnOk P w K mg base (L2.CX P w) 6 T.f_take_terms T.d_take_terms ["reader", "last", "most"] (spTerms T.CR T.CB) := ok_take_terms T B
  have G2 : FnOk P w K mg base (L2.CX P w) 3 T.f_R_mark T.d_R_mark ["self", "sign"] (spMark T.CR T.CB) := ok_R_mark T B
  have G3 : FnOk P w K mg base (L2.CX P w) 4 T.f_R_number T.d_R_number ["self", "least", "most"] (spNumber T.CR T.CB) := ok_R_number T B
  refine T.F_take_price.okX sc_take_price (fun vs H Q E h => ?_) (fun cdv A outer s H vs Q E hr h => ?_)
  · obtain ⟨p, G, k, last, most, rfl, _⟩ := h
    rfl
  · obtain ⟨p, G, k, last, most, rfl, hm, a, q⟩ := h
    have nd := sc_take_price.nd
    have hr3 : Room 3 _ := hr.mono (by decide)
    have hr4 : Room 4 _ := hr.mono (by decide)
    refine ⟨_, pss_cons (ps_set (i := 3) nd rfl (Or.inl rfl) (pe_call G1 hr (by rfl) T.g_take_terms T.F_take_terms.kp T.b_take_terms .nil (passes_call (takes_of rfl rfl rfl rfl) (fun _ _ _ _ h => h)) (pa_cons (pv 0) (pa_cons (pv 1) (pa_cons (pv 2) pa_nil)))))
      (pss_cons (ps_expr (pe_meth (pv 0) T.cl T.h_R_mark G2 hr3 T.b_R_mark .nil (passes_call (takes_of rfl rfl rfl rfl) (fun _ _ _ _ h => h)) (pa_cons pe_str pa_nil)))
      (pss_one (ps_ret (pe_tupN (pa_cons (pv 3) (pa_cons (pe_meth (pv 0) T.cl T.h_R_number G3 hr4 T.b_R_number .nil (passes_call (takes_of rfl rfl rfl rfl) (fun _ _ _ _ h => h)) (pa_cons (pe_un un_neg (pv 2)) (pa_cons (pv 2) pa_nil))) pa_nil)))))), ?_⟩
    unfold price1 at q
    walk_at "rd"
    refine r_call ?_
    walk_at "rd"
    refine ⟨p, G, k, last, most, rfl, a, Par.fst q fun ts k1 tv H1 er kp1 a1 hts q1 => ?_⟩
    walk_at "rd"
    refine r_methV (by rfl) a1 (rf_no G k1 rfl rfl rfl) ?_
    walk_at "rd"
    refine ⟨p, G, k1, _, rfl, a1, by decide +kernel, Par.fst q1 fun _ k2 u H2 er2 kp2 a2 _ q2 => ?_⟩
    walk_at "rd"
    refine r_methV (by rfl) a2 (rf_no G k2 rfl rfl rfl) ?_
    walk_at "rd"
    refine ⟨p, G, k2, most, rfl, hm, a2, Par.fst q2 fun d k4 u H4 er4 kp4 a4 hd q4 => ?_⟩
    subst hd
    walk_at "rd"
    refine ⟨by simp, r_new fun tp H5 tp0 s5 htp => ?_⟩
    walk_at "rd"
    refine q4 _ H5 (.of s5) (a4.same s5) (.tup htp (.cons ?_ (.cons (.int _) .nil)))
    exact Rp.mono (tup_same s5) _ _ (Rp.mono (kp4.tups a2) _ _ (Rp.mono (kp2.tups a1) _ _ hts))
/-- Reader.__init__ of the fresh instance at x -/
def spMk (K : PySem.W.Frag) (C CB : Addr) : Sp := fun vs H Q E => ∃ (x dx : Addr) (v : V), vs = [.ref x, v] ∧ H x = some (.ins C dx []) ∧
  ((∃ z : Str, v = .str z ∧ z.length ≤ 50000 ∧ ∀ H' l, Kp x H H' → At C ⟨dx, l, splitW 0 (cp z), z.length⟩ H' x 0 → Q .non H') ∨
    (∃ T, TyX K H v (.type T) ∧ kitB T "str" = some false ∧ Out E CB x H 0))
theorem putF_new (f : Str) (v : V) : putF f v [] = [(f, v)] := rfl
theorem ok_R_init (T : Txt K mg) (B : BTxt P K mg T.CB fI) : FnOk P w K mg base (L2.CX P w) 2 T.f_R_init T.d_R_init ["self", "text"] (spMk K T.CR T.CB) := by
  have G1 : FnOk P w K mg base CX0 1 T.f_words_in T.d_words_in ["text"] spSplit := ok_words_in T
  refine T.F_R_init.okX sc_R_init (fun vs H Q E h => ?_) (fun cdv A outer s H vs Q E hr h => ?_)
  · obtain ⟨x, dx, v, rfl, _⟩ := h
    rfl
  · obtain ⟨x, dx, v, rfl, hx, h⟩ := h
    refine ⟨_, pss_cons (ps_if (pt_not (pt_val (pe_callB call_isi (by rfl) T.z_isinstance boot_isinstance (pa_cons (pv 1) (pa_cons (pe_bltn (v := .ty "str") (by rfl) T.z_str boot_str rfl) pa_nil)))))
        (pss_one (ps_raiseB rfl B hr (takes_of rfl rfl rfl rfl) (by exact (pa_cons pe_int pa_nil)))) pss_nil)
      (pss_cons (ps_fld (pv 0) (pe_callB call_lenS (by rfl) T.z_len PySem.boot_len (pa_cons (pv 1) pa_nil)) rfl)
      (pss_cons (ps_fld (pv 0) (pe_call G1 hr (by rfl) T.g_words_in T.F_words_in.kp T.b_words_in .nil pass0 (pa_cons (pv 1) pa_nil)) rfl)
      (pss_one (ps_fld (pv 0) pe_int rfl)))), ?_⟩
    rcases h with ⟨z, rfl, hz, k⟩ | ⟨ty, hty, hk, o⟩
    · walk_at "rd"
      refine r_isi (.base (.str z)) (show kitB "str" "str" = some true by decide +kernel) ?_
      walk_at "rd"
      refine r_fldS ?_
      walk_at "rd"
      refine r_lenS (show z.length ≤ 100000 by omega) ?_
      walk_at "rd"
      refine r_fldP hx T.cl T.no_many (by show 0 < 1000; decide) fun H1 e1 h1 => ?_
      walk_at "rd"
      refine r_fldS ?_
      walk_at "rd"
      refine r_call ?_
      walk_at "rd"
      refine ⟨z, rfl, by omega, fun H2 l s2 l0 hW => ?_⟩
      walk_at "rd"
      have h2 := s2 _ _ h1
      refine r_fldP h2 T.cl T.no_words (by show 1 < 1000; decide) fun H3 e3 h3 => ?_
      walk_at "rd"
      refine r_fldS ?_
      walk_at "rd"
      refine r_fldP h3 T.cl T.no_at (by show 2 < 1000; decide) fun H4 e4 h4 => ?_
      walk_at "rd"
      have kp : Kp x H2 H4 := fun b o hb e => by
        rw [e4 b hb, e3 b hb]
        exact e
      have kp0 : Kp x H H4 := fun b o hb e => by
        refine kp b o hb (s2 _ _ ?_)
        rw [e1 b hb]
        exact e
      refine k H4 l kp0 ⟨h4, ?_, ?_, ?_, by show 0 ≤ 60000; omega⟩
      · obtain ⟨ts, h, r⟩ := hW
        have hl : l ≠ x := ne_of h h2 (fun z => nomatch z)
        exact ⟨ts, kp _ _ hl h, Paired.mono (fun v x' q => q.mono fun t xs e => kp _ _ (ne_of e h2 (fun z => nomatch z)) e) r⟩
      · have := splitW_len (cp z) 0
        rw [cp_len] at this
        show (splitW 0 (cp z)).length ≤ 50000
        omega
      · intro y hy
        have := splitW_word (cp z) 0 y hy
        rw [cp_len] at this
        omega
    · walk_at "rd"
      refine r_isi hty hk ?_
      walk_at "rd"
      refine r_raiseB ?_
      walk_at "rd"
      exact ⟨_, rfl, fun d H' h s e => o d H' h (.of s) e⟩
end
end Kt
namespace Kt
open PySem PySem.Spec PyProof.Rows L2
/-! ## 12. read_problem -/
/-- the way out to the caller -/
def OutS (E : XK) (CB : Addr) (H : Hp) (x : Nat) : Prop := ∀ d H', H d = none → Same H H' → H' d = some (.xd [(("place" : Str), .int (x : Int))]) → E (.ref CB) (some d) H'
def probAt (z : Str) : Rs (Nat × List (List (Nat × Nat) × Int) × Option (List (Nat × Nat) × Int)) := prob (splitW 0 (cp z)) z.length 1000000
def ParS (CB : Addr) (H : Hp) (Q : VK) (E : XK) : Rs (Nat × List (List (Nat × Nat) × Int) × Option (List (Nat × Nat) × Int)) → Prop
  | .ok (a, _) => ∀ v H', Same H H' → Rp H' v (probD a) → Q v H'
  | .error x => OutS E CB H x
def spRead (K : PySem.W.Frag) (CB : Addr) : Sp := fun vs H Q E => ∃ v : V, vs = [v] ∧
  ((∃ z : Str, v = .str z ∧ z.length ≤ 50000 ∧ semi (splitW 0 (cp z)) (splitW 0 (cp z)).length ≤ 300 ∧ ParS CB H Q E (probAt z)) ∨
    (∃ ty, (∀ H', Same H H' → TyX K H' v (.type ty)) ∧ kitB ty "str" = some false ∧ OutS E CB H 0))
theorem Kp.fresh {x : Addr} {H H1 : Hp} (hx : H x = none) (kp : Kp x H H1) : Same H H1 := fun b o e => kp b o (ne_of_none e hx) e
theorem ParS.at_ {C CB x : Addr} {G : RG} {H H1 : Hp} {k : Nat} {Q : VK} {E : XK} {r : Rs (Nat × List (List (Nat × Nat) × Int) × Option (List (Nat × Nat) × Int))} (a : At C G H1 x k) (hx : H x = none) (s : Same H H1) (q : ParS CB H Q E r) : Par C CB G x H1 (fun a v H' => Rp H' v (probD a)) Q E r := by
  cases r with
  | error e =>
    intro d H' h kp e'
    refine q d H' (s.free h) ?_ e'
    exact fun b o q => kp b o (ne_of_none q hx) (s b o q)
  | ok r =>
    obtain ⟨u, k'⟩ := r
    intro v H' kp a' hv
    exact q v H' (fun b o q => kp b o (ne_of_none q hx) (s b o q)) hv
theorem r_mk1 {C : Addr} {sp : Sp} {E : XK} {σ : L2.St} {H : Hp} {Q : VK} {i : Nat} {v : V} (h : σ[i]? = some (some v)) (q : ∀ x dx H2, H x = none → Same H H2 → H2 x = some (.ins C dx []) → sp [.ref x, v] H2 (fun u H3 => u = .non ∧ Q (.ref x) H3) E) : tMake C sp [] E (tCons (tVar i) tNil) σ H Q :=
  ⟨v, h, fun x dx hx hd hne => q x dx _ hx (fun b o e => by rw [upd_ne (ne_of_none e hx), upd_ne (ne_of_none e hd)]; exact e) upd_same⟩
theorem bnd_ok {α β : Type} {a : α} {k : Nat} {f : α → Nat → Rs β} : bnd (.ok (a, k)) f = f a k := rfl
theorem semi_all (W : List (Str × Nat)) (k : Nat) : semi W k ≤ semi W W.length := by
  unfold semi
  rw [List.take_length]
  exact (List.Sublist.filter _ (List.take_sublist k W)).length_le
section
variable {P : Program} {w : World} {K : PySem.W.Frag} {mg : Str → Option Value} {base : Heap} {fI : Addr}
theorem ok_read_problem (T : Txt K mg) (B : BTxt P K mg T.CB fI) : FnOk P w K mg base (L2.CX P w) 8 T.f_read_problem T.d_read_problem ["text"] (spRead K T.CB) := by
  have G0 : FnOk P w K mg base (L2.CX P w) 2 T.f_R_init T.d_R_init ["self", "text"] (spMk K T.CR T.CB) := ok_R_init T B
  have G1 : FnOk P w K mg base (L2.CX P w) 3 T.f_R_mark T.d_R_mark ["self", "sign"] (spMark T.CR T.CB) := ok_R_mark T B
  have G2 : FnOk P w K mg base (L2.CX P w) 4 T.f_take_weight T.d_take_weight ["reader", "most"] (spWeight T.CR T.CB) := ok_take_weight T B
  have G3 : FnOk P w K mg base CX0 2 T.f_R_goes_on T.d_R_goes_on ["self", "sign"] (spOn T.CR) := ok_R_goes_on T
  have G4 : FnOk P w K mg base (L2.CX P w) 7 T.f_take_price T.d_take_price ["reader", "last", "most"] (spPrice T.CR T.CB) := ok_take_price T B
  have G5 : FnOk P w K mg base (L2.CX P w) 7 T.f_take_sum T.d_take_sum ["reader", "last", "most"] (spSum T.CR T.CB) := ok_take_sum T B
  have G6 : FnOk P w K mg base (L2.CX P w) 2 T.f_R_end T.d_R_end ["self"] (spEnd T.CR T.CB) := ok_R_end T B
  refine T.F_read_problem.okX sc_read_problem (fun vs H Q E h => ?_) (fun cdv A outer s H vs Q E hr h => ?_)
  · obtain ⟨v, rfl, _⟩ := h
    rfl
  · obtain ⟨v, rfl, h⟩ := h
    have nd := sc_read_problem.nd
    have hr2 : Room 2 _ := hr.mono (by decide)
    have hr3 : Room 3 _ := hr.mono (by decide)
    have hr4 : Room 4 _ := hr.mono (by decide)
    refine ⟨_, pss_cons (ps_set (i := 1) nd rfl (Or.inl rfl) (pe_make ⟨T.mkR, T.m_R_init, T.i_R_init, T.kCR⟩ G0 hr3 (by rfl) T.gCR T.b_R_init .nil (passes_call (takes_of rfl rfl rfl rfl) (fun _ _ _ _ h => h)) (pa_cons (pv 0) pa_nil)))
      (pss_cons (ps_expr (pe_meth (pv 1) T.cl T.h_R_mark G1 hr3 T.b_R_mark .nil (passes_call (takes_of rfl rfl rfl rfl) (fun _ _ _ _ h => h)) (pa_cons pe_str pa_nil)))
      (pss_cons (ps_par3 (i := 2) (j := 3) (l := 4) rfl nd rfl rfl rfl (by decide) (by decide) (by decide) rfl rfl rfl
          (pa_cons (pe_call G2 hr4 (by rfl) T.g_take_weight T.F_take_weight.kp T.b_take_weight .nil (passes_call (takes_of rfl rfl rfl rfl) (fun _ _ _ _ h => h)) (pa_cons (pv 1) (pa_cons (pe_gi (by rfl) T.c_MOST_VARIABLES) pa_nil))) (pa_cons pe_non (pa_cons (pe_lstN pa_nil) pa_nil))) (by rfl))
      (pss_cons (ps_if (pt_val (pe_meth (pv 1) T.cl T.h_R_goes_on G3 hr2 T.b_R_goes_on .nil pass0 (pa_cons pe_str pa_nil)))
          (pss_one (ps_set (i := 3) nd rfl (Or.inl rfl) (pe_call G4 hr (by rfl) T.g_take_price T.F_take_price.kp T.b_take_price .nil (passes_call (takes_of rfl rfl rfl rfl) (fun _ _ _ _ h => h)) (pa_cons (pv 1) (pa_cons (pe_op op_sub (pv 2) pe_int) (pa_cons (pe_gi (by rfl) T.c_MOST_NUMBER) pa_nil)))))) pss_nil)
      (pss_cons (ps_while (passes_of rfl) (PW.pt (pw_and (pt_cmpR op_lt (pe_callB call_lenL (by rfl) T.z_len PySem.boot_len (pa_cons (pv 4) pa_nil)) (pe_gi (by rfl) T.c_MOST_SUMS) (nomark _))
            (pw_and1 (pt_val (pe_meth (pv 1) T.cl T.h_R_goes_on G3 hr2 T.b_R_goes_on .nil pass0 (pa_cons pe_str pa_nil))))))
          (pss_one (ps_expr (pe_bm PySem.F.plainAttrs_list PySem.F.slot_list_append PySem.F.type_list_append mt_appN (pv 4)
            (pa_cons (pe_call G5 hr (by rfl) T.g_take_sum T.F_take_sum.kp T.b_take_sum .nil (passes_call (takes_of rfl rfl rfl rfl) (fun _ _ _ _ h => h)) (pa_cons (pv 1) (pa_cons (pe_op op_sub (pv 2) pe_int) (pa_cons (pe_gi (by rfl) T.c_MOST_NUMBER) pa_nil)))) pa_nil)))))
      (pss_cons (ps_expr (pe_meth0 (pv 1) T.cl T.h_R_end G6 hr2 T.b_R_end .nil (passes_call (takes_of rfl rfl rfl rfl) (fun _ _ _ _ h => h))))
      (pss_one (ps_ret (pe_tupN (pa_cons (pv 2) (pa_cons (pe_callTy call_tupleN (by rfl) T.z_tuple boot_tuple (pa_cons (pv 4) pa_nil)) (pa_cons (pv 3) pa_nil))))))))))), ?_⟩
    refine r_seq ?_
    walk_at "re"
    refine r_mk1 (by rfl) fun x dx H1 x0 s1 hx => ?_
    refine ⟨x, dx, v, rfl, hx, ?_⟩
    rcases h with ⟨z, rfl, hz, hs, q⟩ | ⟨ty, hty, hk, q⟩
    · refine .inl ⟨z, rfl, hz, fun H2 l kp2 a2 => ⟨rfl, ?_⟩⟩
      obtain ⟨G, hG⟩ : ∃ G : RG, G = ⟨dx, l, splitW 0 (cp z), z.length⟩ := ⟨_, rfl⟩
      have eW : G.W = splitW 0 (cp z) := by rw [hG]
      have en : G.n = z.length := by rw [hG]
      rw [← hG] at a2
      unfold probAt at q
      rw [← eW, ← en] at q
      rw [← eW] at hs
      have sx : Same H H2 := fun b o e => kp2 b o (ne_of_none e x0) (s1 b o e)
      have q2 := q.at_ a2 x0 sx
      unfold prob at q2
      clear q
      walk_at "rd"
      refine r_methV (by rfl) a2 (rf_no G 0 rfl rfl rfl) ?_
      walk_at "rd"
      refine ⟨x, G, 0, _, rfl, a2, by decide +kernel, Par.fst q2 fun _ k3 u H3 er3 kp3 a3 _ q3 => ?_⟩
      walk_at "rd"
      refine r_call ?_
      walk_at "rd"
      refine ⟨x, G, k3, 60, rfl, a3, Par.fst q3 fun many k4 u H4 er4 kp4 a4 hu q4 => ?_⟩
      subst hu
      walk_at "rd"
      refine ⟨by simp, r_new fun sl H5 sl0 s5 hsl => ?_⟩
      walk_at "re"
      have a5 := a4.same s5
      have hm1 : 1 ≤ many := by
        unfold num at er4
        split at er4
        · rename_i c
          cases er4
          exact c.2.1
        · cases er4
      have hmd : (many : Int) - 1 = ((many - 1 : Nat) : Int) := by omega
      have slp : sl ≠ x := ne_of hsl a5.ob (fun z => nomatch z)
      -- the price
      refine r_mid (fun σ' H' => ∃ (k6 : Nat) (pv : V) (p : Option (List (Nat × Nat) × Int)), σ' = [some (.str z), some (.ref x), some (.int many), some pv, some (.ref sl)] ∧ Kp x H4 H' ∧ At T.CR G H' x k6 ∧ H' sl = some (.lst []) ∧ Rp H' pv (priceD p) ∧
          Par T.CR T.CB G x H4 (fun a v H' => Rp H' v (probD a)) Q E (bnd (sumsL G.W G.n (many - 1) 1000000 302 k6) fun s k4 => bnd (endR G.W G.n k4) fun _ k5 => .ok ((many, s, p), k5))) ?_ fun n hn => ?_
      · rintro _ H6 ⟨k6, pv, p, rfl, kp6, a6, hs6, hp6, q6⟩
        -- the sums
        refine r_mid (fun σ' H' => ∃ (k' : Nat) (xs : List V) (acc : List (List (Nat × Nat) × Int)), σ' = [some (.str z), some (.ref x), some (.int many), some pv, some (.ref sl)] ∧ Kp x H4 H' ∧ At T.CR G H' x k' ∧ H' sl = some (.lst xs) ∧ RpL H' xs (acc.map sumD) ∧ Rp H' pv (priceD p) ∧
            Par T.CR T.CB G x H4 (fun a v H' => Rp H' v (probD a)) Q E (bnd (endR G.W G.n k') fun _ k5 => .ok ((many, acc, p), k5))) ?_ fun n hn => ?_
        · rintro _ H7 ⟨k7, xs, acc, rfl, kp7, a7, hs7, hr7, hp7, q7⟩
          walk_at "rd"
          refine r_methV (by rfl) a7 (rf_no G k7 rfl rfl rfl) ?_
          walk_at "rd"
          refine ⟨x, G, k7, rfl, a7, Par.fst (q7.go a7 kp7) fun _ k8 u H8 er8 kp8 a8 _ q8 => ?_⟩
          walk_at "rd"
          have hs8 := kp8 _ _ slp hs7
          refine ⟨sl, xs, rfl, SqL.of hs8, r_new fun t H9 t0 s9 ht => ?_⟩
          walk_at "rd"
          refine ⟨by simp, r_new fun t2 H10 t20 s10 ht2 => ?_⟩
          walk_at "rd"
          refine q8 _ H10 (.of (s9.trans s10)) (a8.same (s9.trans s10)) (.tup ht2 (.cons (.int _) (.cons (.tup (s10 _ _ ht) ?_) (.cons ?_ .nil))))
          · exact RpL.mono (tup_same (s9.trans s10)) _ _ (RpL.mono (kp8.tups a7) _ _ hr7)
          · exact Rp.mono (tup_same (s9.trans s10)) _ _ (Rp.mono (kp8.tups a7) _ _ hp7)
        · refine r_while (fun σ' H' => ∃ (k' f : Nat) (xs : List V) (acc : List (List (Nat × Nat) × Int)), σ' = [some (.str z), some (.ref x), some (.int many), some pv, some (.ref sl)] ∧ Kp x H4 H' ∧ At T.CR G H' x k' ∧ H' sl = some (.lst xs) ∧ RpL H' xs (acc.map sumD) ∧ Rp H' pv (priceD p) ∧
              f + acc.length = 302 ∧ acc.length ≤ semi G.W k' ∧ Par T.CR T.CB G x H4 (fun a v H' => Rp H' v (probD a)) Q E (bnd (sumsL G.W G.n (many - 1) 1000000 f k') fun s k4 => bnd (endR G.W G.n k4) fun _ k5 => .ok ((many, acc ++ s, p), k5)))
            (fun _ H' => 60001 - kAt H' x) ⟨k6, 302, [], [], rfl, kp6, a6, hs6, .nil, hp6, rfl, Nat.zero_le _, q6⟩ ?_
          rintro _ H7 ⟨k7, f, xs, acc, rfl, kp7, a7, hs7, hr7, hp7, hf, hsm, q7⟩ S hS
          rw [kAt_of a7] at hS
          have hall := semi_all G.W k7
          have lx : xs.length = acc.length := by rw [hr7.length]; simp
          obtain ⟨f', rfl⟩ : ∃ f', f = f' + 1 := ⟨f - 1, by omega⟩
          unfold sumsL at q7
          walk_at "re"
          refine r_lenL (SqL.of hs7) ?_
          walk_at "re"
          have no : wd G.W k7 ≠ (";" : Str) → n [some (.str z), some (.ref x), some (.int many), some pv, some (.ref sl)] H7 := fun hne => by
            rw [if_neg hne] at q7
            refine hn _ _ ⟨k7, xs, acc, rfl, kp7, a7, hs7, hr7, hp7, ?_⟩
            have e : bnd (.ok ([], k7) : Rs (List (List (Nat × Nat) × Int))) (fun s k4 => bnd (endR G.W G.n k4) fun _ k5 => (.ok ((many, acc ++ s, p), k5) : Rs _)) = bnd (endR G.W G.n k7) fun _ k5 => .ok ((many, acc, p), k5) := by
              show bnd (endR G.W G.n k7) (fun _ k5 => .ok ((many, acc ++ [], p), k5)) = _
              rw [List.append_nil]
            rw [e] at q7
            exact q7
          refine iteB (fun hb => ?_) (fun hb => ?_)
          · have hb' := of_decide_eq_true hb
            walk_at "re"
            refine r_methV (by rfl) a7 (rf_no G k7 rfl rfl rfl) ?_
            walk_at "re"
            refine ⟨x, G, k7, _, rfl, a7, by decide +kernel, fun e8 H8 kp8 a8 => ?_, fun e8 => ?_⟩
            · walk_at "re"
              refine hS _ _ (fun _ => ?_) (fun z => by cases z)
              rw [if_pos e8, bnd_bnd] at q7
              have hs8 := kp8 _ _ slp hs7
              walk_at "rd"
              refine r_tyl hs8 ?_
              walk_at "rd"
              refine r_call ?_
              walk_at "rd"
              rw [hmd]
              refine ⟨x, G, k7 + 1, many - 1, 1000000, rfl, by omega, a8, Par.fst (q7.go a8 (kp7.trans kp8)) fun one k9 u H9 er9 kp9 a9 hu q9 => ?_⟩
              walk_at "rd"
              have hs9 := kp9 _ _ slp hs8
              refine r_app hs9 (by omega) (r_chg fun H10 e10 h10 => ?_)
              walk_at "rd"
              have tb := tup_but hs9 e10
              have kp10 : Kp x H4 H10 := fun b o hb e => by
                rw [e10 b (ne_of_none e sl0)]
                exact kp9 _ _ hb (kp8 _ _ hb (kp7 _ _ hb e))
              have a10 : At T.CR G H10 x k9 := a4.keep kp10 (by rw [e10 x (Ne.symm slp)]; exact a9.ob) a9.kl
              have adv := sum1_adv er9
              refine ⟨⟨k9, f', _, acc ++ [one], rfl, kp10, a10, h10, ?_, ?_, by simp; omega, ?_, ?_⟩, ?_⟩
              · rw [List.map_append]
                exact RpL.snoc (RpL.mono tb _ _ (RpL.mono (kp9.tups a8) _ _ (RpL.mono (kp8.tups a7) _ _ hr7))) (Rp.mono tb _ _ hu)
              · exact Rp.mono tb _ _ (Rp.mono (kp9.tups a8) _ _ (Rp.mono (kp8.tups a7) _ _ hp7))
              · rw [List.length_append, List.length_singleton]
                have h1 := semi_step e8
                have h2 := semi_le (W := G.W) adv
                omega
              · rw [er9] at q7
                simp only [bnd_ok, bnd_bnd, List.append_assoc, List.singleton_append] at q7 ⊢
                exact q7
              · rw [kAt_of a10]
                have := a10.kl
                omega
            · walk_at "re"
              exact hS _ _ (fun z => by cases z) (fun _ => no e8)
          · have hb' := of_decide_eq_false hb
            walk_at "re"
            refine hS _ _ (fun z => by cases z) (fun _ => no fun e8 => ?_)
            have h1 := semi_step e8
            have h2 := semi_all G.W (k7 + 1)
            omega
      · walk_at "rd"
        refine r_methV (by rfl) a5 (rf_no G k4 rfl rfl rfl) ?_
        walk_at "rd"
        unfold priceO at q4
        refine ⟨x, G, k4, _, rfl, a5, by decide +kernel, fun e6 H6 kp6 a6 => ?_, fun e6 => ?_⟩
        · rw [if_pos e6, bnd_bnd] at q4
          walk_at "rd"
          refine r_call ?_
          walk_at "rd"
          rw [hmd]
          refine ⟨x, G, k4 + 1, many - 1, 1000000, rfl, by omega, a6, Par.fst (q4.go a6 ((Kp.of s5).trans kp6)) fun one k7 u H7 er7 kp7 a7 hu q7 => ?_⟩
          walk_at "rd"
          exact hn _ _ ⟨k7, u, some one, rfl, ((Kp.of s5).trans kp6).trans kp7, a7, kp7 _ _ slp (kp6 _ _ slp hsl), hu, by rw [er7] at q4; exact q4⟩
        · rw [if_neg e6] at q4
          walk_at "rd"
          exact hn _ _ ⟨k4, .non, none, rfl, .of s5, a5, hsl, .non, q4⟩
    · refine .inr ⟨ty, hty H1 s1, hk, fun d H' hd kp e => ?_⟩
      exact q d H' (s1.free hd) (fun b o q => kp b o (ne_of_none q x0) (s1 b o q)) e
end
end Kt
namespace Kt
open PySem PySem.Spec PyProof.Rows L2
/-! ## 13. The law's own reader: a list of the words, the place, the fault, the length -/
structure La (G : RG) (H : Hp) (r : Addr) (k : Nat) (wr : Int) : Prop where
  ob : H r = some (.lst [.ref G.l, .int k, .int wr, .int G.n])
  ws : WordsAt H G.l G.W
  wl : G.W.length ≤ 50000
  sl : ∀ x ∈ G.W, x.1.length ≤ 100000
  kl : k ≤ 60000
  ne : G.l ≠ r
abbrev RSt := Except Nat Nat
def LaS (G : RG) (H : Hp) (r : Addr) : RSt → Prop
  | .ok k => La G H r k (-1)
  | .error x => ∃ k, La G H r k (x : Int)
def post {α : Type} : Rs α → RSt
  | .ok (_, k) => .ok k
  | .error x => .error x
def stR {α : Type} (s : RSt) (f : Nat → Rs α) : Rs α := match s with
  | .ok k => f k
  | .error x => .error x
theorem stR_bnd {α β : Type} (s : RSt) (f : Nat → Rs α) (g : α → Nat → Rs β) : stR s (fun k => bnd (f k) g) = bnd (stR s f) g := by
  cases s <;> rfl
def hold {α : Type} (rep : α → V → Hp → Prop) (bad : V → Hp → Prop) (q : Rs α) (v : V) (H : Hp) : Prop := match q with
  | .ok (a, _) => rep a v H
  | .error _ => bad v H
def LPar {α : Type} (G : RG) (r : Addr) (H : Hp) (rep : α → V → Hp → Prop) (bad : V → Hp → Prop) (Q : VK) (q : Rs α) : Prop := ∀ v H', Kp r H H' → LaS G H' r (post q) → hold rep bad q v H' → Q v H'
theorem LPar.go {α : Type} {G : RG} {r : Addr} {H H1 : Hp} {rep : α → V → Hp → Prop} {bad : V → Hp → Prop} {Q : VK} {q : Rs α} (h : LPar G r H rep bad Q q) (kp : Kp r H H1) : LPar G r H1 rep bad Q q := fun v H' k a b => h v H' (kp.trans k) a b
/-- after a first part, whatever it came to -/
theorem bnd_post {α β : Type} {q : Rs α} {g : α → Nat → Rs β} {g' : Nat → Rs β} (h : ∀ a k, q = .ok (a, k) → g a k = g' k) : bnd q g = stR (post q) g' := by
  cases q with
  | error x => rfl
  | ok r =>
    obtain ⟨a, k⟩ := r
    exact h a k rfl
theorem La.keep {G : RG} {H H' : Hp} {r : Addr} {k j : Nat} {wr wr' : Int} (a : La G H r k wr) (kp : Kp r H H') (ob : H' r = some (.lst [.ref G.l, .int j, .int wr', .int G.n])) (hj : j ≤ 60000) : La G H' r j wr' := by
  refine ⟨ob, ?_, a.wl, a.sl, hj, a.ne⟩
  obtain ⟨ts, h, p⟩ := a.ws
  exact ⟨ts, kp _ _ a.ne h, Paired.mono (fun v x q => q.mono fun t xs e => kp _ _ (ne_of e a.ob (fun z => nomatch z)) e) p⟩
theorem La.same {G : RG} {H H' : Hp} {r : Addr} {k : Nat} {wr : Int} (a : La G H r k wr) (s : Same H H') : La G H' r k wr := a.keep (.of s) (s _ _ a.ob) a.kl
theorem LaS.same {G : RG} {H H' : Hp} {r : Addr} {s : RSt} (a : LaS G H r s) (e : Same H H') : LaS G H' r s := by
  cases s with
  | ok k => exact La.same a e
  | error x =>
    obtain ⟨k, a⟩ := a
    exact ⟨k, a.same e⟩
theorem LaS.la {G : RG} {H : Hp} {r : Addr} {s : RSt} (a : LaS G H r s) : ∃ k wr, La G H r k wr ∧ ((wr = -1 ∧ s = .ok k) ∨ ∃ x : Nat, wr = (x : Int) ∧ s = .error x) := by
  cases s with
  | ok k => exact ⟨k, -1, a, .inl ⟨rfl, rfl⟩⟩
  | error x =>
    obtain ⟨k, a⟩ := a
    exact ⟨k, x, a, .inr ⟨x, rfl, rfl⟩⟩
theorem LaS.tups {G : RG} {H H' : Hp} {r : Addr} {s : RSt} (a : LaS G H r s) (kp : Kp r H H') : ∀ t xs, H t = some (.tup xs) → H' t = some (.tup xs) := fun t xs e => by
  obtain ⟨k, wr, b, _⟩ := a.la
  exact kp t _ (ne_of e b.ob (fun z => nomatch z)) e
theorem lword_at {G : RG} {H : Hp} {r : Addr} {k : Nat} {wr : Int} (a : La G H r k wr) (hk : k < G.W.length) : ∃ (ts : List V) (t : Addr) (x : Str × Nat), H G.l = some (.lst ts) ∧ ts[k]? = some (.ref t) ∧ G.W[k]? = some x ∧ H t = some (.tup [.str x.1, .int x.2]) ∧ ts.length = G.W.length := by
  obtain ⟨ts, h, p⟩ := a.ws
  have hx : G.W[k]? = some (G.W[k]) := List.getElem?_eq_getElem hk
  obtain ⟨v, hv, t, rfl, ht⟩ := Kt.Paired.at_ p hx
  exact ⟨ts, t, _, h, hv, hx, ht, p.length⟩
def nowS (W : List (Str × Nat)) : RSt → Str
  | .ok k => wd W k
  | .error _ => ""
def stS (W : List (Str × Nat)) (n : Nat) : RSt → RSt
  | .ok k => .error (pl W n k)
  | .error x => .error x
def spNow : Sp := fun vs H Q _ => ∃ r G s, vs = [.ref r] ∧ LaS G H r s ∧ Q (.str (nowS G.W s)) H
def spLStop : Sp := fun vs H Q _ => ∃ r G s, vs = [.ref r] ∧ LaS G H r s ∧ ∀ H', Kp r H H' → LaS G H' r (stS G.W G.n s) → Q (.bl false) H'
def spLOn : Sp := fun vs H Q _ => ∃ r G s z, vs = [.ref r, .str z] ∧ LaS G H r s ∧ z ≠ "" ∧ (∀ k, s = .ok k → wd G.W k = z → ∀ H', Kp r H H' → LaS G H' r (.ok (k + 1)) → Q (.bl true) H') ∧ ((∀ k, s = .ok k → wd G.W k ≠ z) → Q (.bl false) H)
def spLNeed : Sp := fun vs H Q _ => ∃ r G s z, vs = [.ref r, .str z] ∧ LaS G H r s ∧ z ≠ "" ∧ LPar G r H (fun _ _ _ => True) (fun _ _ => True) Q (stR s (mark G.W G.n z))
def bInt : V → Hp → Prop := fun v _ => ∃ i, v = .int i
def spLNumeral : Sp := fun vs H Q _ => ∃ r G s, ∃ i j : Int, vs = [.ref r, .int i, .int j] ∧ LaS G H r s ∧ (∀ k, s = .ok k → 0 ≤ j) ∧ LPar G r H (fun (a : Nat) v _ => v = .int a) bInt Q (stR s (num G.W G.n i.toNat j.toNat))
def spLNumber : Sp := fun vs H Q _ => ∃ r G s, vs = [.ref r] ∧ LaS G H r s ∧ LPar G r H (fun (a : Int) v _ => v = .int a) bInt Q (stR s (numI G.W G.n 1000000))
def spLLit : Sp := fun vs H Q _ => ∃ r G s, ∃ i j : Int, vs = [.ref r, .int i, .int j] ∧ LaS G H r s ∧ (∀ k, s = .ok k → 0 ≤ j) ∧ LPar G r H (fun (a : Nat) v _ => v = .int a) bInt Q (stR s (lit G.W G.n i.toNat j.toNat))
theorem La.i0 {G : RG} {H : Hp} {r : Addr} {k : Nat} {wr : Int} {Q : VK} {K : PySem.W.Frag} (a : La G H r k wr) (q : Q (.ref G.l) H) : rIxL K (.ref r) (.int 0) H Q := r_ixL (SqL.of a.ob) (atI_nat (j := 0) rfl) q
theorem La.i1 {G : RG} {H : Hp} {r : Addr} {k : Nat} {wr : Int} {Q : VK} {K : PySem.W.Frag} (a : La G H r k wr) (q : Q (.int k) H) : rIxL K (.ref r) (.int 1) H Q := r_ixL (SqL.of a.ob) (atI_nat (j := 1) rfl) q
theorem La.i2 {G : RG} {H : Hp} {r : Addr} {k : Nat} {wr : Int} {Q : VK} {K : PySem.W.Frag} (a : La G H r k wr) (q : Q (.int wr) H) : rIxL K (.ref r) (.int 2) H Q := r_ixL (SqL.of a.ob) (atI_nat (j := 2) rfl) q
theorem La.i3 {G : RG} {H : Hp} {r : Addr} {k : Nat} {wr : Int} {Q : VK} {K : PySem.W.Frag} (a : La G H r k wr) (q : Q (.int G.n) H) : rIxL K (.ref r) (.int 3) H Q := r_ixL (SqL.of a.ob) (atI_nat (j := 3) rfl) q
section
variable {P : Program} {w : World} {K : PySem.W.Frag} {mg : Str → Option Value} {base : Heap} {fI : Addr}
theorem ok_law_now (T : Txt K mg) : FnOk P w K mg base CX0 1 T.f_law_now T.d_law_now ["reader"] spNow := by
  refine T.F_law_now.ok sc_law_now (fun vs H Q E h => ?_) (fun cdv A outer s H vs Q E hr h => ?_)
  · obtain ⟨r, G, s, rfl, _⟩ := h
    rfl
  · obtain ⟨r, G, s, rfl, a, q⟩ := h
    have nd := sc_law_now.nd
    refine ⟨_, pss_cons (ps_set (i := 1) nd rfl (Or.inl rfl) (pe_ix ix_list (pv 0) pe_int (fun _ _ => rfl)))
      (pss_one (ps_ret (pe_ifExp (PW.pt (pw_and (pt_cmpR op_lt (pe_ix ix_list (pv 0) pe_int (fun _ _ => rfl)) (pe_callB call_lenL (by rfl) T.z_len PySem.boot_len (pa_cons (pv 1) pa_nil)) (nomark _))
          (pw_and1 (pt_cmpR op_lt (pe_ix ix_list (pv 0) pe_int (fun _ _ => rfl)) pe_int (nomark _)))))
        (pe_ix ix_tup (pe_ix ix_list (pv 1) (pe_ix ix_list (pv 0) pe_int (fun _ _ => rfl)) (fun _ _ => rfl)) pe_int (fun _ _ => rfl)) pe_str))), ?_⟩
    obtain ⟨k, wr, b, hc⟩ := a.la
    obtain ⟨ts, hts, p⟩ := b.ws
    have hlen : ts.length = G.W.length := p.length
    walk_at "rd"
    refine b.i0 ?_
    walk_at "rd"
    refine b.i1 ?_
    walk_at "rd"
    refine r_lenL (SqL.of hts) ?_
    walk_at "rd"
    refine iteB (fun h => ?_) (fun h => ?_)
    · have hk : k < G.W.length := by have := of_decide_eq_true h; omega
      walk_at "rd"
      refine b.i2 ?_
      walk_at "rd"
      rcases hc with ⟨rfl, rfl⟩ | ⟨x, rfl, rfl⟩
      · refine iteBT (by decide) ?_
        obtain ⟨ts', t, x, h1, h2, h3, h4, _⟩ := lword_at b hk
        walk_at "rd"
        refine b.i1 ?_
        walk_at "rd"
        refine r_ixL (SqL.of h1) (atI_nat h2) ?_
        walk_at "rd"
        refine r_ixT (SqT.of h4) (atI_nat (j := 0) rfl) ?_
        walk_at "rd"
        have e : nowS G.W (.ok k) = x.1 := by show wd G.W k = _; unfold wd; rw [h3]
        rw [e] at q
        exact q
      · refine iteBF (decide_eq_false (by omega)) ?_
        walk_at "rd"
        exact q
    · have hk : ¬ k < G.W.length := by have := of_decide_eq_false h; omega
      walk_at "rd"
      rcases hc with ⟨rfl, rfl⟩ | ⟨x, rfl, rfl⟩
      · have e : nowS G.W (.ok k) = "" := by show wd G.W k = _; unfold wd; rw [List.getElem?_eq_none_iff.mpr (by omega)]
        rw [e] at q
        exact q
      · exact q
theorem ok_law_stop (T : Txt K mg) : FnOk P w K mg base CX0 1 T.f_law_stop T.d_law_stop ["reader"] spLStop := by
  refine T.F_law_stop.ok sc_law_stop (fun vs H Q E h => ?_) (fun cdv A outer s H vs Q E hr h => ?_)
  · obtain ⟨r, G, s, rfl, _⟩ := h
    rfl
  · obtain ⟨r, G, s, rfl, a, q⟩ := h
    have nd := sc_law_stop.nd
    refine ⟨_, pss_cons (ps_set (i := 1) nd rfl (Or.inl rfl) (pe_ix ix_list (pv 0) pe_int (fun _ _ => rfl)))
      (pss_cons (ps_if (pt_cmpR op_lt (pe_ix ix_list (pv 0) pe_int (fun _ _ => rfl)) pe_int (nomark _))
        (pss_one (ps_asg (pe_ifExp (pt_cmpR op_lt (pe_ix ix_list (pv 0) pe_int (fun _ _ => rfl)) (pe_callB call_lenL (by rfl) T.z_len PySem.boot_len (pa_cons (pv 1) pa_nil)) (nomark _))
          (pe_ix ix_tup (pe_ix ix_list (pv 1) (pe_ix ix_list (pv 0) pe_int (fun _ _ => rfl)) (fun _ _ => rfl)) pe_int (fun _ _ => rfl)) (pe_ix ix_list (pv 0) pe_int (fun _ _ => rfl)))
          (pg_sub (pv 0) pe_int set_listN))) pss_nil)
      (pss_one (ps_ret pe_bl))), ?_⟩
    obtain ⟨k, wr, b, hc⟩ := a.la
    obtain ⟨ts, hts, p⟩ := b.ws
    have hlen : ts.length = G.W.length := p.length
    walk_at "rd"
    refine b.i0 ?_
    walk_at "rd"
    refine b.i2 ?_
    walk_at "rd"
    rcases hc with ⟨rfl, rfl⟩ | ⟨x, rfl, rfl⟩
    · refine iteBT (by decide) ?_
      walk_at "rd"
      have fin : ∀ (v : Nat), v = pl G.W G.n k → ∀ S : Hp → Prop, (∀ H', Kp r H H' → LaS G H' r (.error (pl G.W G.n k)) → S H') → rSetN (.ref r) (.int 2) (.int v) H S := fun v ev S hS => by
        refine ⟨r, _, 2, 2, rfl, rfl, b.ob, rfl, fun H' e1 h1 => hS H' (fun c o hc e => by rw [e1 c hc]; exact e) ⟨k, ?_⟩⟩
        subst ev
        exact b.keep (fun c o hc e => by rw [e1 c hc]; exact e) h1 b.kl
      refine b.i1 ?_
      walk_at "rd"
      refine r_lenL (SqL.of hts) ?_
      walk_at "rd"
      refine iteB (fun h => ?_) (fun h => ?_)
      · have hk : k < G.W.length := by have := of_decide_eq_true h; omega
        obtain ⟨ts', t, x, h1, h2, h3, h4, _⟩ := lword_at b hk
        walk_at "rd"
        refine b.i1 ?_
        walk_at "rd"
        refine r_ixL (SqL.of h1) (atI_nat h2) ?_
        walk_at "rd"
        refine r_ixT (SqT.of h4) (atI_nat (j := 1) rfl) ?_
        walk_at "rd"
        refine fin x.2 (by unfold pl; rw [h3]) _ fun H' kp a' => ?_
        walk_at "rd"
        exact q H' kp a'
      · have hk : ¬ k < G.W.length := by have := of_decide_eq_false h; omega
        walk_at "rd"
        refine b.i3 ?_
        walk_at "rd"
        refine fin G.n (by unfold pl; rw [List.getElem?_eq_none_iff.mpr (by omega)]) _ fun H' kp a' => ?_
        walk_at "rd"
        exact q H' kp a'
    · refine iteBF (decide_eq_false (by omega)) ?_
      walk_at "rd"
      exact q H (.refl _ _) a
/-- reader[1] = reader[1] + 1 -/
theorem La.step {G : RG} {H : Hp} {r : Addr} {k : Nat} {S : Hp → Prop} (b : La G H r k (-1)) (hk : k < G.W.length) (hS : ∀ H', Kp r H H' → LaS G H' r (.ok (k + 1)) → S H') : rSetN (.ref r) (.int 1) (.int ((k : Int) + 1)) H S := by
  refine ⟨r, _, 1, 1, rfl, rfl, b.ob, rfl, fun H' e1 h1 => hS H' (fun c o hc e => by rw [e1 c hc]; exact e) ?_⟩
  exact b.keep (fun c o hc e => by rw [e1 c hc]; exact e) h1 (by have := b.wl; omega)
theorem ok_law_on (T : Txt K mg) : FnOk P w K mg base CX0 2 T.f_law_on T.d_law_on ["reader", "sign"] spLOn := by
  have G0 : FnOk P w K mg base CX0 1 T.f_law_now T.d_law_now ["reader"] spNow := ok_law_now T
  refine T.F_law_on.ok sc_law_on (fun vs H Q E h => ?_) (fun cdv A outer s H vs Q E hr h => ?_)
  · obtain ⟨r, G, s, z, rfl, _⟩ := h
    rfl
  · obtain ⟨r, G, s, z, rfl, a, hz, q1, q2⟩ := h
    refine ⟨_, pss_cons (ps_if (pt_cmpR op_ne (pe_call G0 hr (by rfl) T.g_law_now T.F_law_now.kp T.b_law_now .nil pass0 (pa_cons (pv 0) pa_nil)) (pv 1) (nomark _)) (pss_one (ps_ret pe_bl)) pss_nil)
      (pss_cons (ps_asg (pe_op op_add (pe_ix ix_list (pv 0) pe_int (fun _ _ => rfl)) pe_int) (pg_sub (pv 0) pe_int set_listN)) (pss_one (ps_ret pe_bl))), ?_⟩
    walk_at "rd"
    refine r_call ?_
    walk_at "rd"
    refine ⟨r, G, s, rfl, a, ?_⟩
    walk_at "rd"
    refine iteB (fun h => ?_) (fun h => ?_)
    · have hne : nowS G.W s ≠ z := by simpa using h
      walk_at "rd"
      exact q2 fun k e => by rw [e] at hne; exact hne
    · have he : nowS G.W s = z := by simpa using h
      cases s with
      | error x => exact absurd he.symm hz
      | ok k =>
        have hk : k < G.W.length := wd_len (by show nowS G.W (.ok k) ≠ ""; rw [he]; exact hz)
        have b : La G H r k (-1) := a
        walk_at "rd"
        refine b.i1 ?_
        walk_at "rd"
        refine b.step hk fun H' kp a' => ?_
        walk_at "rd"
        exact q1 k rfl he H' kp a'
theorem ok_law_need (T : Txt K mg) : FnOk P w K mg base CX0 3 T.f_law_need T.d_law_need ["reader", "sign"] spLNeed := by
  have G0 : FnOk P w K mg base CX0 2 T.f_law_on T.d_law_on ["reader", "sign"] spLOn := ok_law_on T
  have G1 : FnOk P w K mg base CX0 1 T.f_law_stop T.d_law_stop ["reader"] spLStop := ok_law_stop T
  refine T.F_law_need.ok sc_law_need (fun vs H Q E h => ?_) (fun cdv A outer s H vs Q E hr h => ?_)
  · obtain ⟨r, G, s, z, rfl, _⟩ := h
    rfl
  · obtain ⟨r, G, s, z, rfl, a, hz, q⟩ := h
    have hr1 : Room 1 _ := hr.mono (by decide)
    refine ⟨_, pss_one (ps_ret (pe_or (pe_call G0 hr (by rfl) T.g_law_on T.F_law_on.kp T.b_law_on .nil pass0 (pa_cons (pv 0) (pa_cons (pv 1) pa_nil))) (pe_one (pe_call G1 hr1 (by rfl) T.g_law_stop T.F_law_stop.kp T.b_law_stop .nil pass0 (pa_cons (pv 0) pa_nil))))), ?_⟩
    walk_at "rd"
    refine r_call ?_
    walk_at "rd"
    refine ⟨r, G, s, z, rfl, a, hz, fun k e hw H1 kp a1 => ?_, fun hne => ?_⟩
    · walk_at "rd"
      subst e
      have e : stR (.ok k) (mark G.W G.n z) = .ok ((), k + 1) := by show mark G.W G.n z k = _; unfold mark; rw [if_pos hw]
      rw [e] at q
      exact q _ H1 kp a1 trivial
    · walk_at "rd"
      refine r_call ?_
      walk_at "rd"
      refine ⟨r, G, s, rfl, a, fun H1 kp a1 => ?_⟩
      walk_at "rd"
      refine q _ H1 kp ?_ ?_
      · cases s with
        | error x => exact a1
        | ok k =>
          have e : stR (.ok k) (mark G.W G.n z) = .error (pl G.W G.n k) := by show mark G.W G.n z k = _; unfold mark; rw [if_neg (hne k rfl)]
          rw [e]
          exact a1
      · cases s with
        | error x => trivial
        | ok k =>
          have e : stR (.ok k) (mark G.W G.n z) = .error (pl G.W G.n k) := by show mark G.W G.n z k = _; unfold mark; rw [if_neg (hne k rfl)]
          rw [e]
          trivial
/-- the fault: int(_law_stop(reader)) -/
theorem stop_par {α : Type} {G : RG} {r : Addr} {H H1 : Hp} {rep : α → V → Hp → Prop} {Q : VK} {s : RSt} {f : Nat → Rs α} (q : LPar G r H rep bInt Q (stR s f)) (hf : ∀ k, s = .ok k → f k = .error (pl G.W G.n k)) (kp : Kp r H H1) (a : LaS G H1 r (stS G.W G.n s)) : Q (.int 0) H1 := by
  cases s with
  | error x => exact q _ H1 kp a ⟨0, rfl⟩
  | ok k =>
    have e : stR (.ok k) f = .error (pl G.W G.n k) := hf k rfl
    rw [e] at q
    exact q _ H1 kp a ⟨0, rfl⟩
theorem nowS_len {G : RG} {H : Hp} {r : Addr} {s : RSt} (a : LaS G H r s) : (nowS G.W s).length ≤ 100000 := by
  cases s with
  | error x => exact (by decide +kernel : ("" : Str).length ≤ 100000)
  | ok k =>
    have b : La G H r k (-1) := a
    show (wd G.W k).length ≤ _
    unfold wd
    cases e : G.W[k]? with
    | none => decide +kernel
    | some x => exact b.sl x (List.mem_of_getElem? e)
theorem cpE : cp ("" : Str) = [] := by decide +kernel
theorem num_empty : isNum (cp ("" : Str)) = false := by decide +kernel
theorem toNat_le {i : Int} {n : Nat} : i ≤ (n : Int) ↔ i.toNat ≤ n := by omega
theorem ok_law_numeral (T : Txt K mg) : FnOk P w K mg base CX0 2 T.f_law_numeral T.d_law_numeral ["reader", "least", "most"] spLNumeral := by
  have G0 : FnOk P w K mg base CX0 1 T.f_law_now T.d_law_now ["reader"] spNow := ok_law_now T
  have G1 : FnOk P w K mg base CX0 1 T.f_law_stop T.d_law_stop ["reader"] spLStop := ok_law_stop T
  have G2 : FnOk P w K mg base CX0 1 T.f_law_is_numeral T.d_law_is_numeral ["word"] spNum := ok_law_is_numeral T
  refine T.F_law_numeral.ok sc_law_numeral (fun vs H Q E h => ?_) (fun cdv A outer s H vs Q E hr h => ?_)
  · obtain ⟨r, G, s, i, j, rfl, _⟩ := h
    rfl
  · obtain ⟨r, G, s, i, j, rfl, a, hj, q⟩ := h
    have nd := sc_law_numeral.nd
    refine ⟨_, pss_cons (ps_set (i := 3) nd rfl (Or.inl rfl) (pe_call G0 hr (by rfl) T.g_law_now T.F_law_now.kp T.b_law_now .nil pass0 (pa_cons (pv 0) pa_nil)))
      (pss_cons (ps_if (PW.pt (pw_or (pt_not (pt_val (pe_call G2 hr (by rfl) T.g_law_is_numeral T.F_law_is_numeral.kp T.b_law_is_numeral .nil pass0 (pa_cons (pv 3) pa_nil))))
          (pw_or1 (pt_not (pt_chain op_le op_le (pv 1) (pe_callTy call_intS (by rfl) T.z_int boot_int (pa_cons (pv 3) pa_nil)) (pv 2))))))
        (pss_one (ps_ret (pe_callTy call_intB (by rfl) T.z_int boot_int (pa_cons (pe_call G1 hr (by rfl) T.g_law_stop T.F_law_stop.kp T.b_law_stop .nil pass0 (pa_cons (pv 0) pa_nil)) pa_nil)))) pss_nil)
      (pss_cons (ps_asg (pe_op op_add (pe_ix ix_list (pv 0) pe_int (fun _ _ => rfl)) pe_int) (pg_sub (pv 0) pe_int set_listN))
      (pss_one (ps_ret (pe_callTy call_intS (by rfl) T.z_int boot_int (pa_cons (pv 3) pa_nil)))))), ?_⟩
    obtain ⟨z, hz⟩ : ∃ z, z = nowS G.W s := ⟨_, rfl⟩
    have zl : z.length ≤ 100000 := by rw [hz]; exact nowS_len a
    walk_at "rd"
    refine r_call ?_
    walk_at "rd"
    refine ⟨r, G, s, rfl, a, ?_⟩
    rw [← hz]
    walk_at "rd"
    have bad : ∀ H1, Same H H1 → (∀ k, s = .ok k → ¬ (isNum (cp z) = true ∧ i.toNat ≤ val (cp z) ∧ val (cp z) ≤ j.toNat)) → ∃ r' G' s', [V.ref r] = [.ref r'] ∧ LaS G' H1 r' s' ∧ ∀ H', Kp r' H1 H' → LaS G' H' r' (stS G'.W G'.n s') → Q (.int 0) H' := fun H1 s1 hc =>
      ⟨r, G, s, rfl, a.same s1, fun H' kp a' => stop_par q (fun k e => by
        have h1 := hc k e
        subst e
        have e2 : z = wd G.W k := hz
        rw [e2] at h1
        unfold num
        rw [if_neg h1]) ((Kp.of s1).trans kp) a'⟩
    refine r_call ?_
    walk_at "rd"
    refine ⟨z, rfl, zl, fun H1 s1 => ?_⟩
    walk_at "rd"
    refine iteB (fun h => ?_) (fun h => ?_)
    · have hv : isNum (cp z) = false := by simpa using h
      walk_at "rd"
      refine r_call ?_
      walk_at "rd"
      obtain ⟨r', G', s', e, a', q'⟩ := bad H1 s1 (fun k e c => by rw [hv] at c; exact absurd c.1 Bool.false_ne_true)
      refine ⟨r', G', s', e, a', fun H' kp b => ?_⟩
      walk_at "rd"
      exact q' H' kp b
    · have hv : isNum (cp z) = true := by simpa using h
      have h30 := (num_len hv).2
      rw [cp_len] at h30
      walk_at "rd"
      refine r_intS (num_int hv) (by omega) ?_
      walk_at "rd"
      have go : (¬ (i.toNat ≤ val (cp z) ∧ ((val (cp z) : Nat) : Int) ≤ j)) → ∃ r' G' s', [V.ref r] = [.ref r'] ∧ LaS G' H1 r' s' ∧ ∀ H', Kp r' H1 H' → LaS G' H' r' (stS G'.W G'.n s') → Q (.int 0) H' := fun hc => bad H1 s1 fun k e c => hc ⟨c.2.1, by have := hj k e; omega⟩
      refine iteB (fun h1 => ?_) (fun h1 => ?_)
      · have h1' := of_decide_eq_true h1
        walk_at "rd"
        refine iteB (fun h2 => ?_) (fun h2 => ?_)
        · have h2' : ¬ ((val (cp z) : Nat) : Int) ≤ j := by simpa using h2
          walk_at "rd"
          refine r_call ?_
          walk_at "rd"
          obtain ⟨r', G', s', e, a', q'⟩ := go (fun c => h2' c.2)
          refine ⟨r', G', s', e, a', fun H' kp b => ?_⟩
          walk_at "rd"
          exact q' H' kp b
        · have h2' : ((val (cp z) : Nat) : Int) ≤ j := by simpa using h2
          walk_at "rd"
          cases s with
          | error x =>
            exfalso
            have e : z = "" := hz
            rw [e, num_empty] at hv
            cases hv
          | ok k =>
            have e : z = wd G.W k := hz
            have hk : k < G.W.length := wd_len (by rw [← e]; intro e'; rw [e', num_empty] at hv; cases hv)
            have b : La G H1 r k (-1) := La.same a s1
            refine b.i1 ?_
            walk_at "rd"
            refine b.step hk fun H2 kp a2 => ?_
            walk_at "rd"
            refine r_intS (num_int hv) (by omega) ?_
            walk_at "rd"
            have eq : stR (.ok k) (num G.W G.n i.toNat j.toNat) = .ok (val (cp z), k + 1) := by
              show num G.W G.n i.toNat j.toNat k = _
              unfold num
              rw [← e, if_pos ⟨hv, by omega, by omega⟩]
            rw [eq] at q
            exact q _ H2 ((Kp.of s1).trans kp) a2 rfl
      · have h1' := of_decide_eq_false h1
        walk_at "rd"
        refine r_call ?_
        walk_at "rd"
        obtain ⟨r', G', s', e, a', q'⟩ := go (fun c => h1' (by omega))
        refine ⟨r', G', s', e, a', fun H' kp b => ?_⟩
        walk_at "rd"
        exact q' H' kp b
theorem pow6 : CPow 10 6 := by refine ⟨?_, ?_, ?_⟩ <;> decide +kernel
theorem ok_law_number (T : Txt K mg) : FnOk P w K mg base CX0 3 T.f_law_number T.d_law_number ["reader"] spLNumber := by
  have G0 : FnOk P w K mg base CX0 2 T.f_law_on T.d_law_on ["reader", "sign"] spLOn := ok_law_on T
  have G1 : FnOk P w K mg base CX0 2 T.f_law_numeral T.d_law_numeral ["reader", "least", "most"] spLNumeral := ok_law_numeral T
  refine T.F_law_number.ok sc_law_number (fun vs H Q E h => ?_) (fun cdv A outer s H vs Q E hr h => ?_)
  · obtain ⟨r, G, s, rfl, _⟩ := h
    rfl
  · obtain ⟨r, G, s, rfl, a, q⟩ := h
    refine ⟨_, pss_cons (ps_if (pt_val (pe_call G0 hr (by rfl) T.g_law_on T.F_law_on.kp T.b_law_on .nil pass0 (pa_cons (pv 0) (pa_cons pe_str pa_nil))))
        (pss_one (ps_ret (pe_op op_sub pe_int (pe_call G1 hr (by rfl) T.g_law_numeral T.F_law_numeral.kp T.b_law_numeral .nil pass0 (pa_cons (pv 0) (pa_cons pe_int (pa_cons (pe_op op_pow pe_int pe_int) pa_nil))))))) pss_nil)
      (pss_one (ps_ret (pe_call G1 hr (by rfl) T.g_law_numeral T.F_law_numeral.kp T.b_law_numeral .nil pass0 (pa_cons (pv 0) (pa_cons pe_int (pa_cons (pe_op op_pow pe_int pe_int) pa_nil)))))), ?_⟩
    walk_at "rd"
    refine r_call ?_
    walk_at "rd"
    refine ⟨r, G, s, _, rfl, a, by decide +kernel, fun k e hw H1 kp a1 => ?_, fun hne => ?_⟩
    · walk_at "rd"
      refine r_call ?_
      walk_at "rd"
      refine r_I pow6 ?_
      walk_at "rd"
      refine ⟨r, G, .ok (k + 1), _, _, rfl, a1, fun _ _ => by decide, fun v H2 kp2 a2 hv => ?_⟩
      subst e
      have e : stR (.ok k) (numI G.W G.n 1000000) = bnd (num G.W G.n 1 1000000 (k + 1)) fun a k' => .ok (-(a : Int), k') := by show numI G.W G.n 1000000 k = _; unfold numI; rw [if_pos hw]
      rw [e] at q
      change LaS G H2 r (post (num G.W G.n 1 1000000 (k + 1))) at a2
      change hold _ _ (num G.W G.n 1 1000000 (k + 1)) v H2 at hv
      cases en : num G.W G.n 1 1000000 (k + 1) with
      | error x =>
        rw [en] at q a2 hv
        obtain ⟨i, rfl⟩ := hv
        walk_at "rd"
        exact q _ H2 (kp.trans kp2) a2 ⟨_, rfl⟩
      | ok p =>
        obtain ⟨n, k2⟩ := p
        rw [en] at q a2 hv
        have hv : v = .int n := hv
        subst hv
        walk_at "rd"
        refine q _ H2 (kp.trans kp2) a2 ?_
        show V.int _ = V.int _
        rw [Int.zero_sub]
    · walk_at "rd"
      refine r_call ?_
      walk_at "rd"
      refine r_I pow6 ?_
      walk_at "rd"
      refine ⟨r, G, s, _, _, rfl, a, fun _ _ => by decide, fun v H2 kp2 a2 hv => ?_⟩
      change LaS G H2 r (post (stR s (num G.W G.n 0 1000000))) at a2
      change hold _ _ (stR s (num G.W G.n 0 1000000)) v H2 at hv
      have e : stR s (numI G.W G.n 1000000) = bnd (stR s (num G.W G.n 0 1000000)) fun a k' => .ok ((a : Int), k') := by
        rw [← stR_bnd]
        cases s with
        | error x => rfl
        | ok k => show numI G.W G.n 1000000 k = _; unfold numI; rw [if_neg (hne k rfl)]; rfl
      rw [e] at q
      cases en : stR s (num G.W G.n 0 1000000) with
      | error x =>
        rw [en] at q a2 hv
        exact q _ H2 kp2 a2 hv
      | ok p =>
        obtain ⟨n, k2⟩ := p
        rw [en] at q a2 hv
        exact q _ H2 kp2 a2 hv
theorem ok_law_literal (T : Txt K mg) : FnOk P w K mg base CX0 3 T.f_law_literal T.d_law_literal ["reader", "least", "most"] spLLit := by
  have G0 : FnOk P w K mg base CX0 1 T.f_law_now T.d_law_now ["reader"] spNow := ok_law_now T
  have G1 : FnOk P w K mg base CX0 1 T.f_law_stop T.d_law_stop ["reader"] spLStop := ok_law_stop T
  have G2 : FnOk P w K mg base CX0 1 T.f_law_is_numeral T.d_law_is_numeral ["word"] spNum := ok_law_is_numeral T
  have G3 : FnOk P w K mg base CX0 2 T.f_law_on T.d_law_on ["reader", "sign"] spLOn := ok_law_on T
  refine T.F_law_literal.ok sc_law_literal (fun vs H Q E h => ?_) (fun cdv A outer s H vs Q E hr h => ?_)
  · obtain ⟨r, G, s, i, j, rfl, _⟩ := h
    rfl
  · obtain ⟨r, G, s, i, j, rfl, a, hj, q⟩ := h
    have nd := sc_law_literal.nd
    have hr1 : Room 1 _ := hr.mono (by decide)
    refine ⟨_, pss_cons (ps_set (i := 3) nd rfl (Or.inl rfl) (pe_call G3 hr (by rfl) T.g_law_on T.F_law_on.kp T.b_law_on .nil pass0 (pa_cons (pv 0) (pa_cons pe_str pa_nil))))
      (pss_cons (ps_set (i := 4) nd rfl (Or.inl rfl) (pe_call G0 hr1 (by rfl) T.g_law_now T.F_law_now.kp T.b_law_now .nil pass0 (pa_cons (pv 0) pa_nil)))
      (pss_cons (ps_if (PW.pt (pw_or (pt_cmpR op_eq (pv 4) pe_str (nomark _)) (pw_or (pt_cmpR op_ne (pe_ix ix_str (pv 4) pe_int (fun _ _ => rfl)) pe_str (nomark _))
          (pw_or (pt_not (pt_val (pe_call G2 hr1 (by rfl) T.g_law_is_numeral T.F_law_is_numeral.kp T.b_law_is_numeral .nil pass0 (pa_cons (pe_slice sl_str (pv 4) (po_some pe_int) po_none) pa_nil))))
          (pw_or1 (pt_not (pt_chain op_le op_le (pv 1) (pe_callTy call_intS (by rfl) T.z_int boot_int (pa_cons (pe_slice sl_str (pv 4) (po_some pe_int) po_none) pa_nil)) (pv 2))))))))
        (pss_one (ps_ret (pe_callTy call_intB (by rfl) T.z_int boot_int (pa_cons (pe_call G1 hr1 (by rfl) T.g_law_stop T.F_law_stop.kp T.b_law_stop .nil pass0 (pa_cons (pv 0) pa_nil)) pa_nil)))) pss_nil)
      (pss_cons (ps_asg (pe_op op_add (pe_ix ix_list (pv 0) pe_int (fun _ _ => rfl)) pe_int) (pg_sub (pv 0) pe_int set_listN))
      (pss_one (ps_ret (pe_op op_add (pe_op op_mul pe_int (pe_callTy call_intS (by rfl) T.z_int boot_int (pa_cons (pe_slice sl_str (pv 4) (po_some pe_int) po_none) pa_nil))) (pe_callTy call_intB (by rfl) T.z_int boot_int (pa_cons (pv 3) pa_nil)))))))), ?_⟩
    rw [show lit G.W G.n i.toNat j.toNat = fun k => bnd (.ok (decide (wd G.W k = "~"), if wd G.W k = "~" then k + 1 else k) : Rs Bool) fun b k1 => bnd (var G.W G.n i.toNat j.toNat k1) fun v k' => .ok (2 * v + (if b then 1 else 0), k') from by
      funext k
      unfold lit
      by_cases h : wd G.W k = "~"
      · rw [if_pos h, if_pos h, decide_eq_true h]; rfl
      · rw [if_neg h, if_neg h, decide_eq_false h]; rfl] at q
    refine r_mid (fun σ' H' => ∃ (b : Bool) (s' : RSt), σ' = [some (.ref r), some (.int i), some (.int j), some (.bl b), none] ∧ LaS G H' r s' ∧ Kp r H H' ∧ (∀ k, s' = .ok k → 0 ≤ j) ∧ LPar G r H (fun (a : Nat) v _ => v = .int a) bInt Q (stR s' fun k => bnd (var G.W G.n i.toNat j.toNat k) fun v k' => .ok (2 * v + (if b then 1 else 0), k'))) ?_ fun n hn => ?_
    · rintro _ H1 ⟨b, s', rfl, a1, kp1, hj1, q1⟩
      have q1 := q1.go kp1
      obtain ⟨z, hz⟩ : ∃ z, z = nowS G.W s' := ⟨_, rfl⟩
      have zl : z.length ≤ 100000 := by rw [hz]; exact nowS_len a1
      walk_at "rd"
      refine r_call ?_
      walk_at "rd"
      refine ⟨r, G, s', rfl, a1, ?_⟩
      rw [← hz]
      have fin : ∀ (H2 : Hp), Same H1 H2 → (∀ k, s' = .ok k → ¬ (isVar (cp z) = true ∧ i.toNat ≤ val (cp z).tail ∧ val (cp z).tail ≤ j.toNat)) → ∃ r' G' s'', [V.ref r] = [.ref r'] ∧ LaS G' H2 r' s'' ∧ ∀ H', Kp r' H2 H' → LaS G' H' r' (stS G'.W G'.n s'') → Q (.int 0) H' := fun H2 s2 hc =>
        ⟨r, G, s', rfl, a1.same s2, fun H' kp a' => stop_par q1 (fun k e => by
          have h1 := hc k e
          subst e
          have e2 : z = wd G.W k := hz
          rw [e2] at h1
          unfold var
          rw [if_neg h1]
          rfl) ((Kp.of s2).trans kp) a'⟩
      have go : ∀ H2, Same H1 H2 → (¬ (isVar (cp z) = true ∧ i.toNat ≤ val (cp z).tail ∧ ((val (cp z).tail : Nat) : Int) ≤ j)) → ∃ r' G' s'', [V.ref r] = [.ref r'] ∧ LaS G' H2 r' s'' ∧ ∀ H', Kp r' H2 H' → LaS G' H' r' (stS G'.W G'.n s'') → Q (.int 0) H' := fun H2 s2 hc => fin H2 s2 fun k e c => hc ⟨c.1, c.2.1, by have := hj1 k e; omega⟩
      walk_at "rd"
      refine iteB (fun h => ?_) (fun h => ?_)
      · have he : z = "" := of_decide_eq_true h
        walk_at "rd"
        refine r_call ?_
        walk_at "rd"
        obtain ⟨r', G', s'', e, a', q'⟩ := go H1 (fun _ _ e => e) (fun c => by rw [he, (by decide +kernel : isVar (cp "") = false)] at c; cases c.1)
        refine ⟨r', G', s'', e, a', fun H' kp b => ?_⟩
        walk_at "rd"
        exact q' H' kp b
      have he : z ≠ "" := of_decide_eq_false h
      have hl : 0 < z.cps.toList.length := by
        cases e : z.cps.toList with
        | nil => exact absurd (str_ext (show cp z = cp "" by rw [cpE]; exact e)) he
        | cons c l => exact Nat.succ_pos _
      obtain ⟨c, hc⟩ : ∃ c, z.cps.toList[0]? = some c := ⟨_, List.getElem?_eq_getElem hl⟩
      have hhd : (cp z).head? = some c := by rw [List.head?_eq_getElem?]; exact hc
      walk_at "rd"
      refine r_ixS (atI_nat (j := 0) hc) zl ?_
      walk_at "rd"
      refine iteB (fun h => ?_) (fun h => ?_)
      · have hcx : c ≠ 120 := fun e => by
          rw [e] at h
          revert h
          decide +kernel
        walk_at "rd"
        refine r_call ?_
        walk_at "rd"
        obtain ⟨r', G', s'', e, a', q'⟩ := go H1 (fun _ _ e => e) (fun d => by
          have := d.1
          unfold isVar at this
          rw [hhd, Bool.and_eq_true] at this
          exact hcx (Option.some.inj (of_decide_eq_true this.1)))
        refine ⟨r', G', s'', e, a', fun H' kp b => ?_⟩
        walk_at "rd"
        exact q' H' kp b
      have hcx : c = 120 := by
        have h1 : tx [c] = "x" := by simpa using h
        have h2 : cp (tx [c]) = cp "x" := by rw [h1]
        rw [cp_tx, cpx] at h2
        exact (List.cons.inj h2).1
      walk_at "rd"
      refine r_call ?_
      walk_at "rd"
      refine r_slS zl ?_
      walk_at "rd"
      have hct : (cutS z (some 1) none).length = (cp z).tail.length := by rw [← cp_len, cutT]
      refine ⟨_, rfl, by rw [hct, List.length_tail, cp_len]; omega, fun H2 s2 => ?_⟩
      rw [cutT]
      walk_at "rd"
      have a2 := a1.same s2
      refine iteB (fun h => ?_) (fun h => ?_)
      · have hv : isNum (cp z).tail = false := by simpa using h
        walk_at "rd"
        refine r_call ?_
        walk_at "rd"
        obtain ⟨r', G', s'', e, a', q'⟩ := go H2 s2 (fun d => by
          have := d.1
          unfold isVar at this
          rw [hv, Bool.and_false] at this
          cases this)
        refine ⟨r', G', s'', e, a', fun H' kp b => ?_⟩
        walk_at "rd"
        exact q' H' kp b
      have hv : isNum (cp z).tail = true := by simpa using h
      have hvar : isVar (cp z) = true := by
        unfold isVar
        rw [hv, hhd, hcx]
        rfl
      have h30 := (num_len hv).2
      walk_at "rd"
      refine r_slS zl ?_
      walk_at "rd"
      refine r_intS (num_int (by rw [cutT]; exact hv)) (by omega) ?_
      rw [cutT]
      walk_at "rd"
      refine iteB (fun h1 => ?_) (fun h1 => ?_)
      · have h1' := of_decide_eq_true h1
        walk_at "rd"
        refine iteB (fun h2 => ?_) (fun h2 => ?_)
        · have h2' : ¬ ((val (cp z).tail : Nat) : Int) ≤ j := by simpa using h2
          walk_at "rd"
          refine r_call ?_
          walk_at "rd"
          obtain ⟨r', G', s'', e, a', q'⟩ := go H2 s2 (fun c => h2' c.2.2)
          refine ⟨r', G', s'', e, a', fun H' kp b => ?_⟩
          walk_at "rd"
          exact q' H' kp b
        · have h2' : ((val (cp z).tail : Nat) : Int) ≤ j := by simpa using h2
          walk_at "rd"
          cases s' with
          | error x => exact absurd hz he
          | ok k =>
            have e : z = wd G.W k := hz
            have hk : k < G.W.length := wd_len (by rw [← e]; exact he)
            have b2 : La G H2 r k (-1) := a2
            refine b2.i1 ?_
            walk_at "rd"
            refine b2.step hk fun H3 kp3 a3 => ?_
            walk_at "rd"
            refine r_slS zl ?_
            walk_at "rd"
            refine r_intS (num_int (by rw [cutT]; exact hv)) (by omega) ?_
            rw [cutT]
            refine r_I (.inl ⟨by decide, by decide⟩) ?_
            walk_at "rd"
            have eq : var G.W G.n i.toNat j.toNat k = .ok (val (cp z).tail, k + 1) := by
              unfold var
              rw [← e, if_pos ⟨hvar, by omega, by omega⟩]
            simp only [stR, eq, bnd_ok] at q1
            refine q1 _ H3 ((Kp.of s2).trans kp3) a3 ?_
            show V.int _ = V.int _
            cases b <;> simp
      · have h1' := of_decide_eq_false h1
        walk_at "rd"
        refine r_call ?_
        walk_at "rd"
        obtain ⟨r', G', s'', e, a', q'⟩ := go H2 s2 (fun c => h1' (by omega))
        refine ⟨r', G', s'', e, a', fun H' kp b => ?_⟩
        walk_at "rd"
        exact q' H' kp b
    · walk_at "rd"
      refine r_call ?_
      walk_at "rd"
      refine ⟨r, G, s, _, rfl, a, by decide +kernel, fun k e hw H1 kp a1 => ?_, fun hne => ?_⟩
      · walk_at "rd"
        refine hn _ _ ⟨true, .ok (k + 1), rfl, a1, kp, fun _ _ => hj k e, ?_⟩
        subst e
        have e1 := decide_eq_true hw
        simp only [stR, e1, if_pos hw, bnd_ok] at q ⊢
        exact q
      · walk_at "rd"
        refine hn _ _ ⟨false, s, rfl, a, .refl _ _, hj, ?_⟩
        cases s with
        | error x => exact q
        | ok k =>
          have hw := hne k rfl
          have e1 := decide_eq_false hw
          simp only [stR, e1, if_neg hw, bnd_ok] at q ⊢
          exact q
end
end Kt
namespace Kt
open PySem PySem.Spec PyProof.Rows L2
/-! ## 14. The law's terms and its reading of a problem -/
def bTup : V → Hp → Prop := fun v H => ∃ a xs, v = .ref a ∧ H a = some (.tup xs)
def spLTerms : Sp := fun vs H Q _ => ∃ r G s, ∃ j : Int, vs = [.ref r, .int j] ∧ LaS G H r s ∧ (∀ k, s = .ok k → 0 ≤ j) ∧ LPar G r H (fun a v H' => Rp H' v (termsD a)) bTup Q (stR s (terms G.W G.n j.toNat 1000000))
theorem term_two {W : List (Str × Nat)} {n least last most : Nat} {s : RSt} {β : Type} (g : Nat × Nat → Nat → Rs β) :
    (∃ a k1 b k2, stR s (num W n 1 most) = .ok (a, k1) ∧ stR (post (stR s (num W n 1 most))) (lit W n least last) = .ok (b, k2) ∧ bnd (stR s (term W n least last most)) g = g (b, a) k2) ∨
    (∃ x, stR (post (stR s (num W n 1 most))) (lit W n least last) = .error x ∧ bnd (stR s (term W n least last most)) g = .error x) := by
  cases s with
  | error x => exact .inr ⟨x, rfl, rfl⟩
  | ok k =>
    show (∃ a k1 b k2, num W n 1 most k = .ok (a, k1) ∧ stR (post (num W n 1 most k)) (lit W n least last) = .ok (b, k2) ∧ bnd (term W n least last most k) g = g (b, a) k2) ∨ (∃ x, stR (post (num W n 1 most k)) (lit W n least last) = .error x ∧ bnd (term W n least last most k) g = .error x)
    unfold term
    cases num W n 1 most k with
    | error x => exact .inr ⟨x, rfl, rfl⟩
    | ok p =>
      obtain ⟨a, k1⟩ := p
      show (∃ a' k1' b k2, (.ok (a, k1) : Rs Nat) = .ok (a', k1') ∧ lit W n least last k1 = .ok (b, k2) ∧ bnd (bnd (lit W n least last k1) fun l k2 => .ok ((l, a), k2)) g = g (b, a') k2) ∨ (∃ x, lit W n least last k1 = .error x ∧ bnd (bnd (lit W n least last k1) fun l k2 => .ok ((l, a), k2)) g = .error x)
      cases lit W n least last k1 with
      | error x => exact .inr ⟨x, rfl, rfl⟩
      | ok p => exact .inl ⟨a, k1, p.1, p.2, rfl, rfl, rfl⟩
/-- the steps that are left -/
def lMu (H : Hp) (r : Addr) : Nat := match H r with
  | some (.lst [_, .int k, .int wr, _]) => if wr < 0 then 60001 - k.toNat else 0
  | _ => 0
theorem lMu_ok {G : RG} {H : Hp} {r : Addr} {k : Nat} (a : LaS G H r (.ok k)) : lMu H r = 60001 - k ∧ k ≤ 60000 := by
  have b : La G H r k (-1) := a
  unfold lMu
  rw [b.ob]
  exact ⟨rfl, b.kl⟩
theorem lMu_bad {G : RG} {H : Hp} {r : Addr} {x : Nat} (a : LaS G H r (.error x)) : lMu H r = 0 := by
  obtain ⟨k, b⟩ := a
  unfold lMu
  rw [b.ob]
  show (if (x : Int) < 0 then _ else 0) = 0
  rw [if_neg (by omega)]
theorem LaS.keep {G : RG} {H' : Hp} {r : Addr} {s : RSt} {H2 : Hp} (l : Addr) (a2 : LaS G H2 r s) (e : ∀ b, b ≠ l → H' b = H2 b) (hlr : l ≠ r) (hlw : G.l ≠ l) (tb : ∀ t ys, H2 t = some (.tup ys) → H' t = some (.tup ys)) : LaS G H' r s := by
  obtain ⟨k, wr, b, hc⟩ := a2.la
  have c : La G H' r k wr := by
    refine ⟨by rw [e r (Ne.symm hlr)]; exact b.ob, ?_, b.wl, b.sl, b.kl, b.ne⟩
    obtain ⟨ts, h, p⟩ := b.ws
    exact ⟨ts, by rw [e _ hlw]; exact h, Paired.mono (fun v x q => q.mono tb) p⟩
  rcases hc with ⟨rfl, rfl⟩ | ⟨x, rfl, rfl⟩
  · exact c
  · exact ⟨k, c⟩
theorem LaS.wl {G : RG} {H : Hp} {r : Addr} {s : RSt} (a : LaS G H r s) : ∃ ts, H G.l = some (.lst ts) := by
  obtain ⟨k, wr, b, _⟩ := a.la
  obtain ⟨ts, h, _⟩ := b.ws
  exact ⟨ts, h⟩
theorem LaS.rl {G : RG} {H : Hp} {r : Addr} {s : RSt} (a : LaS G H r s) : ∃ ts, H r = some (.lst ts) := by
  obtain ⟨k, wr, b, _⟩ := a.la
  exact ⟨_, b.ob⟩
/-- a list of one's own changes -/
theorem LaS.other {G : RG} {H H' H0 : Hp} {r l : Addr} {s s0 : RSt} (a : LaS G H r s) (a0 : LaS G H0 r s0) (hl : H0 l = none) {xs : List V} (h : H l = some (.lst xs)) (e : ∀ b, b ≠ l → H' b = H b) : LaS G H' r s := by
  obtain ⟨ts, h1⟩ := a0.wl
  obtain ⟨ts2, h2⟩ := a0.rl
  exact LaS.keep l a e (fun z => by rw [z, h2] at hl; cases hl) (fun z => by rw [← z, h1] at hl; cases hl) (tup_but h e)
section
variable {P : Program} {w : World} {K : PySem.W.Frag} {mg : Str → Option Value} {base : Heap} {fI : Addr}
theorem hold_int {α : Type} {f : α → Int} {q : Rs α} {v : V} {H : Hp} (h : hold (fun a v _ => v = .int (f a)) bInt q v H) : ∃ i, v = .int i ∧ ∀ a k, q = .ok (a, k) → i = f a := by
  cases q with
  | error x =>
    obtain ⟨i, rfl⟩ := h
    exact ⟨i, rfl, fun a k e => by cases e⟩
  | ok p =>
    obtain ⟨a, k⟩ := p
    exact ⟨f a, h, fun a' k' e => by cases e; rfl⟩
theorem ok_law_terms (T : Txt K mg) : FnOk P w K mg base CX0 4 T.f_law_terms T.d_law_terms ["reader", "last"] spLTerms := by
  have G0 : FnOk P w K mg base CX0 2 T.f_law_on T.d_law_on ["reader", "sign"] spLOn := ok_law_on T
  have G1 : FnOk P w K mg base CX0 2 T.f_law_numeral T.d_law_numeral ["reader", "least", "most"] spLNumeral := ok_law_numeral T
  have G2 : FnOk P w K mg base CX0 3 T.f_law_literal T.d_law_literal ["reader", "least", "most"] spLLit := ok_law_literal T
  refine T.F_law_terms.ok sc_law_terms (fun vs H Q E h => ?_) (fun cdv A outer s H vs Q E hr h => ?_)
  · obtain ⟨r, G, s, j, rfl, _⟩ := h
    rfl
  · obtain ⟨r, G, s, j, rfl, a, hj, q⟩ := h
    have nd := sc_law_terms.nd
    have hr2 : Room 2 _ := hr.mono (by decide)
    refine ⟨_, pss_cons (ps_if (pt_val (pe_call G0 hr2 (by rfl) T.g_law_on T.F_law_on.kp T.b_law_on .nil pass0 (pa_cons (pv 0) (pa_cons pe_str pa_nil)))) (pss_one (ps_ret (pe_tupN pa_nil))) pss_nil)
      (pss_cons (ps_set (i := 2) nd rfl (Or.inl rfl) (pe_call G1 hr2 (by rfl) T.g_law_numeral T.F_law_numeral.kp T.b_law_numeral .nil pass0 (pa_cons (pv 0) (pa_cons pe_int (pa_cons (pe_op op_pow pe_int pe_int) pa_nil)))))
      (pss_cons (ps_set (i := 3) nd rfl (Or.inl rfl) (pe_lstN (pa_cons (pe_tupN (pa_cons (pe_call G2 hr (by rfl) T.g_law_literal T.F_law_literal.kp T.b_law_literal .nil pass0 (pa_cons (pv 0) (pa_cons pe_int (pa_cons (pv 1) pa_nil)))) (pa_cons (pv 2) pa_nil))) pa_nil)))
      (pss_cons (ps_while PassesOwn.never (pt_val (pe_call G0 hr2 (by rfl) T.g_law_on T.F_law_on.kp T.b_law_on .nil pass0 (pa_cons (pv 0) (pa_cons pe_str pa_nil))))
        (pss_cons (ps_set (i := 2) nd rfl (Or.inl rfl) (pe_call G1 hr2 (by rfl) T.g_law_numeral T.F_law_numeral.kp T.b_law_numeral .nil pass0 (pa_cons (pv 0) (pa_cons pe_int (pa_cons (pe_op op_pow pe_int pe_int) pa_nil)))))
        (pss_one (ps_expr (pe_bm PySem.F.plainAttrs_list PySem.F.slot_list_append PySem.F.type_list_append mt_appN (pv 3) (pa_cons (pe_tupN (pa_cons (pe_call G2 hr (by rfl) T.g_law_literal T.F_law_literal.kp T.b_law_literal .nil pass0
            (pa_cons (pv 0) (pa_cons (pe_op op_add (pe_op op_fdivN (pe_ix ix_tup (pe_ix ix_list (pv 3) (pe_un un_neg pe_int) (fun _ _ => rfl)) pe_int (fun _ _ => rfl)) pe_int) pe_int) (pa_cons (pv 1) pa_nil)))) (pa_cons (pv 2) pa_nil))) pa_nil))))))
      (pss_one (ps_ret (pe_callTy call_tupleN (by rfl) T.z_tuple boot_tuple (pa_cons (pv 3) pa_nil))))))), ?_⟩
    refine r_seq ?_
    walk_at "re"
    refine r_call ?_
    walk_at "re"
    refine ⟨r, G, s, _, rfl, a, by decide +kernel, fun k e hw H1 kp a1 => ?_, fun hne => ?_⟩
    · subst e
      have e : stR (.ok k) (terms G.W G.n j.toNat 1000000) = .ok ([], k + 1) := by show terms G.W G.n j.toNat 1000000 k = _; unfold terms; rw [if_pos hw]
      rw [e] at q
      walk_at "re"
      refine ⟨by simp, r_new fun t H2 t0 s2 ht => ?_⟩
      walk_at "re"
      exact q _ H2 (kp.trans (.of s2)) (LaS.same a1 s2) (.tup ht .nil)
    · have e : stR s (terms G.W G.n j.toNat 1000000) = bnd (stR s (term G.W G.n 0 j.toNat 1000000)) fun t k1 => bnd (restT G.W G.n j.toNat 1000000 (G.W.length + 1) t.1 k1) fun r k2 => .ok (t :: r, k2) := by
        rw [← stR_bnd]
        cases s with
        | error x => rfl
        | ok k => show terms G.W G.n j.toNat 1000000 k = _; unfold terms; rw [if_neg (hne k rfl)]; rfl
      rw [e] at q
      walk_at "rd"
      refine r_call ?_
      walk_at "rd"
      refine r_I pow6 ?_
      walk_at "rd"
      refine ⟨r, G, s, _, _, rfl, a, fun _ _ => by decide, fun v1 H1 kp1 a1 hv1 => ?_⟩
      change LaS G H1 r (post (stR s (num G.W G.n 1 1000000))) at a1
      change hold _ _ (stR s (num G.W G.n 1 1000000)) v1 H1 at hv1
      obtain ⟨i1, rfl, hi1⟩ := hold_int hv1
      walk_at "rd"
      refine r_call ?_
      walk_at "rd"
      have hj1 : ∀ k, post (stR s (num G.W G.n 1 1000000)) = .ok k → 0 ≤ j := fun k e => by
        cases s with
        | error x => cases e
        | ok k' => exact hj k' rfl
      refine ⟨r, G, _, _, _, rfl, a1, hj1, fun v2 H2 kp2 a2 hv2 => ?_⟩
      change LaS G H2 r (post (stR (post (stR s (num G.W G.n 1 1000000))) (lit G.W G.n 0 j.toNat))) at a2
      change hold _ _ (stR (post (stR s (num G.W G.n 1 1000000))) (lit G.W G.n 0 j.toNat)) v2 H2 at hv2
      obtain ⟨i2, rfl, hi2⟩ := hold_int hv2
      walk_at "rd"
      refine ⟨by simp, r_new fun tp H3 tp0 s3 htp => ?_⟩
      walk_at "rd"
      refine ⟨by simp, r_new fun fl H4 fl0 s4 hfl => ?_⟩
      walk_at "rd"
      have fl2 : H2 fl = none := s3.free fl0
      have q := q.go (kp1.trans kp2)
      refine r_while (fun σ' H' => ∃ (i : Int) (xs : List V) (s' : RSt), σ' = [some (.ref r), some (.int j), some (.int i), some (.ref fl)] ∧ Kp r H2 H' ∧ H' fl = some (.lst xs) ∧ LaS G H' r s' ∧
          ((∃ (k' f : Nat) (acc : List (Nat × Nat)) (t : Nat × Nat), s' = .ok k' ∧ 0 ≤ j ∧ RpL H' xs ((acc ++ [t]).map termD) ∧ 1 ≤ f ∧ G.W.length + 1 ≤ f + k' ∧ acc.length < k' ∧ LPar G r H2 (fun a v H' => Rp H' v (termsD a)) bTup Q (bnd (restT G.W G.n j.toNat 1000000 f t.1 k') fun r k2 => .ok (acc ++ t :: r, k2))) ∨
           (∃ x, s' = .error x ∧ LPar G r H2 (fun a v H' => Rp H' v (termsD a)) bTup Q (.error x))))
        (fun _ H' => lMu H' r) ⟨i1, _, _, rfl, .of (s3.trans s4), hfl, LaS.same a2 (s3.trans s4), ?_⟩ ?_
      · rcases term_two (W := G.W) (n := G.n) (least := 0) (last := j.toNat) (most := 1000000) (s := s) (fun t k1 => bnd (restT G.W G.n j.toNat 1000000 (G.W.length + 1) t.1 k1) fun r k2 => .ok (t :: r, k2)) with ⟨a', k1, b', k2, e1, e2, e3⟩ | ⟨x, e2, e3⟩
        · refine .inl ⟨k2, G.W.length + 1, [], (b', a'), by rw [e2]; rfl, ?_, ?_, by omega, by omega, ?_, ?_⟩
          · exact hj1 k1 (by rw [e1]; rfl)
          · have h1 := hi1 _ _ e1
            have h2 := hi2 _ _ e2
            subst h1 h2
            exact .cons (.tup (s4 _ _ htp) (.cons (.int _) (.cons (.int _) .nil))) .nil
          · rw [e1] at e2
            have := lit_adv (show lit G.W G.n 0 j.toNat k1 = .ok (b', k2) from e2)
            show 0 < k2
            omega
          · rw [e3] at q
            exact q
        · exact .inr ⟨x, by rw [e2]; rfl, by rw [e3] at q; exact q⟩
      rintro σ' H5 ⟨i, xs, s', rfl, kp5, hxs, a5, hgb⟩ S hS
      walk_at "re"
      refine r_call ?_
      walk_at "re"
      refine ⟨r, G, s', _, rfl, a5, by decide +kernel, fun k' e5 hw5 H6 kp6 a6 => ?_, fun hne5 => ?_⟩
      · -- one more
        walk_at "re"
        refine hS _ _ (fun _ => ?_) (fun z => by cases z)
        rcases hgb with ⟨k'', f, acc, t, e, hj0, hr5, hf1, hfk, hal, q5⟩ | ⟨x, e, _⟩
        rotate_left
        · rw [e5] at e
          cases e
        rw [e5] at e
        cases e
        subst e5
        obtain ⟨f', rfl⟩ : ∃ f', f = f' + 1 := ⟨f - 1, by omega⟩
        have hkw : k' < G.W.length := wd_len (by rw [hw5]; decide +kernel)
        unfold restT at q5
        rw [if_pos hw5, bnd_bnd] at q5
        have hxr : fl ≠ r := by
          obtain ⟨ts, h⟩ := a2.rl
          intro z
          rw [z, h] at fl2
          cases fl2
        have hxs6 : H6 fl = some (.lst xs) := kp6 _ _ hxr hxs
        walk_at "rd"
        refine r_call ?_
        walk_at "rd"
        refine r_I pow6 ?_
        walk_at "rd"
        refine ⟨r, G, _, _, _, rfl, a6, fun _ _ => by decide, fun v7 H7 kp7 a7 hv7 => ?_⟩
        change LaS G H7 r (post (stR (.ok (k' + 1)) (num G.W G.n 1 1000000))) at a7
        change hold _ _ (stR (.ok (k' + 1)) (num G.W G.n 1 1000000)) v7 H7 at hv7
        obtain ⟨i7, rfl, hi7⟩ := hold_int hv7
        have hxs7 : H7 fl = some (.lst xs) := kp7 _ _ hxr hxs6
        have hr7 := RpL.mono (a6.tups kp7) _ _ (RpL.mono (a5.tups kp6) _ _ hr5)
        rw [List.map_append] at hr7
        obtain ⟨xs', vl, rfl, hr7a, hr7b⟩ := RpL.last hr7
        cases hr7b with
        | @tup ta txs tds ht hti =>
        cases hti with
        | cons h1 h2 =>
        cases h1
        walk_at "rd"
        refine r_tyl hxs7 ?_
        walk_at "rd"
        refine r_call ?_
        walk_at "rd"
        refine r_ixL (SqL.of hxs7) (atI_last _ _) ?_
        walk_at "rd"
        refine r_ixT (SqT.of ht) (atI_nat (j := 0) rfl) ?_
        walk_at "rd"
        refine r_I ⟨by decide, by decide⟩ ?_
        walk_at "rd"
        have hdiv : Int.fdiv (t.1 : Int) 2 + 1 = ((t.1 / 2 + 1 : Nat) : Int) := by
          rw [Int.fdiv_eq_ediv_of_nonneg _ (by decide)]
          omega
        rw [hdiv]
        refine ⟨r, G, _, _, _, rfl, a7, fun _ _ => hj0, fun v8 H8 kp8 a8 hv8 => ?_⟩
        change LaS G H8 r (post (stR (post (stR (.ok (k' + 1)) (num G.W G.n 1 1000000))) (lit G.W G.n (t.1 / 2 + 1) j.toNat))) at a8
        change hold _ _ (stR (post (stR (.ok (k' + 1)) (num G.W G.n 1 1000000))) (lit G.W G.n (t.1 / 2 + 1) j.toNat)) v8 H8 at hv8
        obtain ⟨i8, rfl, hi8⟩ := hold_int hv8
        have hxs8 := kp8 _ _ hxr hxs7
        have hr8 := RpL.mono (a7.tups kp8) _ _ hr7
        walk_at "rd"
        refine ⟨by simp, r_new fun tq H9 tq0 s9 htq => ?_⟩
        walk_at "rd"
        have a9 := LaS.same a8 s9
        have lxs : (xs' ++ [V.ref ta]).length = acc.length + 1 := by
          rw [hr7.length]
          simp
        refine r_app (s9 _ _ hxs8) (by rw [lxs]; have := (lMu_ok a5).2; omega) (r_chg fun H10 e10 h10 => ?_)
        walk_at "rd"
        have tb := tup_but (s9 _ _ hxs8) e10
        have kp10 : Kp r H2 H10 := fun b o hb e => by
          rw [e10 b (ne_of_none e fl2)]
          exact s9 _ _ (kp8 _ _ hb (kp7 _ _ hb (kp6 _ _ hb (kp5 _ _ hb e))))
        have a10 := LaS.other a9 a2 fl2 (s9 _ _ hxs8) e10
        have q5' : LPar G r H2 (fun a v H' => Rp H' v (termsD a)) bTup Q (bnd (stR (.ok (k' + 1)) (term G.W G.n (t.1 / 2 + 1) j.toNat 1000000)) fun t2 k2 => bnd (bnd (restT G.W G.n j.toNat 1000000 f' t2.1 k2) fun r k3 => .ok (t2 :: r, k3)) fun r k2 => .ok (acc ++ t :: r, k2)) := q5
        refine ⟨⟨i7, _, _, rfl, kp10, h10, a10, ?_⟩, ?_⟩
        · rcases term_two (W := G.W) (n := G.n) (least := t.1 / 2 + 1) (last := j.toNat) (most := 1000000) (s := .ok (k' + 1)) (fun t2 k2 => bnd (bnd (restT G.W G.n j.toNat 1000000 f' t2.1 k2) fun r k3 => .ok (t2 :: r, k3)) fun r k2 => .ok (acc ++ t :: r, k2)) with ⟨a', k1, b', k2, e1, e2, e3⟩ | ⟨x, e2, e3⟩
          · have h1 := hi7 _ _ e1
            have h2 := hi8 _ _ e2
            have adv1 := num_adv (show num G.W G.n 1 1000000 (k' + 1) = .ok (a', k1) from e1)
            have adv2 := e2
            rw [e1] at adv2
            have adv2 := lit_adv (show lit G.W G.n (t.1 / 2 + 1) j.toNat k1 = .ok (b', k2) from adv2)
            refine .inl ⟨k2, f', acc ++ [t], (b', a'), by rw [e2]; rfl, hj0, ?_, by omega, by omega, by rw [List.length_append, List.length_singleton]; omega, ?_⟩
            · subst h1 h2
              rw [List.map_append]
              refine RpL.snoc (RpL.mono tb _ _ (RpL.mono (tup_same s9) _ _ ?_)) (.tup (tb _ _ htq) (.cons (.int _) (.cons (.int _) .nil)))
              rw [List.map_append]
              exact hr8
            · rw [e3] at q5'
              simp only [bnd_bnd, bnd_ok, List.append_assoc, List.singleton_append] at q5' ⊢
              exact q5'
          · exact .inr ⟨x, by rw [e2]; rfl, by rw [e3] at q5'; exact q5'⟩
        · have m1 := lMu_ok a5
          cases es : post (stR (post (stR (.ok (k' + 1)) (num G.W G.n 1 1000000))) (lit G.W G.n (t.1 / 2 + 1) j.toNat)) with
          | error x =>
            rw [es] at a10
            rw [lMu_bad a10]
            omega
          | ok k2 =>
            rw [es] at a10
            have m2 := lMu_ok a10
            rcases term_two (W := G.W) (n := G.n) (least := t.1 / 2 + 1) (last := j.toNat) (most := 1000000) (s := .ok (k' + 1)) (fun t2 k2 => (.ok ((), k2) : Rs Unit)) with ⟨a', k1, b', k2', e1, e2, e3⟩ | ⟨x, e2, e3⟩
            · have adv1 := num_adv (show num G.W G.n 1 1000000 (k' + 1) = .ok (a', k1) from e1)
              rw [e2] at es
              cases es
              rw [e1] at e2
              have adv2 := lit_adv (show lit G.W G.n (t.1 / 2 + 1) j.toNat k1 = .ok (b', k2) from e2)
              omega
            · rw [e2] at es
              cases es
      · -- no more
        walk_at "re"
        refine hS _ _ (fun z => by cases z) (fun _ => ?_)
        walk_at "rd"
        refine ⟨fl, xs, rfl, SqL.of hxs, r_new fun tq H6 tq0 s6 htq => ?_⟩
        walk_at "rd"
        rcases hgb with ⟨k'', f, acc, t, e, hj0, hr5, hf1, hfk, hal, q5⟩ | ⟨x, e, q5⟩
        · subst e
          obtain ⟨f', rfl⟩ : ∃ f', f = f' + 1 := ⟨f - 1, by omega⟩
          unfold restT at q5
          rw [if_neg (hne5 k'' rfl)] at q5
          exact q5 _ H6 (kp5.trans (.of s6)) (LaS.same a5 s6) (.tup htq (RpL.mono (tup_same s6) _ _ hr5))
        · subst e
          exact q5 _ H6 (kp5.trans (.of s6)) (LaS.same a5 s6) ⟨_, _, rfl, htq⟩
end
end Kt
namespace Kt
open PySem PySem.Spec PyProof.Rows L2
/-! ## 15. The law's reading of a problem -/
def readD (z : Str) : PyData := match probAt z with
  | .ok (a, _) => .tuple [probD a, .int (-1)]
  | .error x => .tuple [.none, .int (x : Int)]
def spLRead : Sp := fun vs H Q _ => ∃ z : Str, vs = [.str z] ∧ z.length ≤ 50000 ∧ semi (splitW 0 (cp z)) (splitW 0 (cp z)).length ≤ 300 ∧ ∀ v H', Same H H' → Rp H' v (readD z) → Q v H'
theorem price_three {W : List (Str × Nat)} {n last most : Nat} {s : RSt} {β : Type} (g : List (Nat × Nat) × Int → Nat → Rs β) :
    (∃ t k1 k2 d k3, stR s (terms W n last most) = .ok (t, k1) ∧ stR (post (stR s (terms W n last most))) (mark W n "from") = .ok ((), k2) ∧ stR (post (stR (post (stR s (terms W n last most))) (mark W n "from"))) (numI W n most) = .ok (d, k3) ∧ bnd (stR s (price1 W n last most)) g = g (t, d) k3) ∨
    (∃ x, stR (post (stR (post (stR s (terms W n last most))) (mark W n "from"))) (numI W n most) = .error x ∧ bnd (stR s (price1 W n last most)) g = .error x) := by
  cases s with
  | error x => exact .inr ⟨x, rfl, rfl⟩
  | ok k =>
    show (∃ t k1 k2 d k3, terms W n last most k = .ok (t, k1) ∧ stR (post (terms W n last most k)) (mark W n "from") = .ok ((), k2) ∧ stR (post (stR (post (terms W n last most k)) (mark W n "from"))) (numI W n most) = .ok (d, k3) ∧ bnd (price1 W n last most k) g = g (t, d) k3) ∨ (∃ x, stR (post (stR (post (terms W n last most k)) (mark W n "from"))) (numI W n most) = .error x ∧ bnd (price1 W n last most k) g = .error x)
    unfold price1
    cases terms W n last most k with
    | error x => exact .inr ⟨x, rfl, rfl⟩
    | ok p =>
      obtain ⟨t, k1⟩ := p
      simp only [bnd_ok, post, stR]
      cases mark W n "from" k1 with
      | error x => exact .inr ⟨x, rfl, rfl⟩
      | ok p =>
        obtain ⟨u, k2⟩ := p
        simp only [bnd_ok, post, stR]
        cases numI W n most k2 with
        | error x => exact .inr ⟨x, rfl, rfl⟩
        | ok p => exact .inl ⟨t, k1, k2, p.1, p.2, rfl, rfl, rfl, rfl⟩
theorem sum_four {W : List (Str × Nat)} {n last most : Nat} {s : RSt} {β : Type} (g : List (Nat × Nat) × Int → Nat → Rs β) :
    (∃ t k1 k2 k3 d k4, stR s (terms W n last most) = .ok (t, k1) ∧ stR (post (stR s (terms W n last most))) (mark W n ">") = .ok ((), k2) ∧ stR (post (stR (post (stR s (terms W n last most))) (mark W n ">"))) (mark W n "=") = .ok ((), k3) ∧
      stR (post (stR (post (stR (post (stR s (terms W n last most))) (mark W n ">"))) (mark W n "="))) (numI W n most) = .ok (d, k4) ∧ stR s (sum1 W n last most) = .ok ((t, d), k4) ∧ bnd (stR s (sum1 W n last most)) g = g (t, d) k4) ∨
    (∃ x, stR (post (stR (post (stR (post (stR s (terms W n last most))) (mark W n ">"))) (mark W n "="))) (numI W n most) = .error x ∧ bnd (stR s (sum1 W n last most)) g = .error x) := by
  cases s with
  | error x => exact .inr ⟨x, rfl, rfl⟩
  | ok k =>
    show (∃ t k1 k2 k3 d k4, terms W n last most k = .ok (t, k1) ∧ stR (post (terms W n last most k)) (mark W n ">") = .ok ((), k2) ∧ stR (post (stR (post (terms W n last most k)) (mark W n ">"))) (mark W n "=") = .ok ((), k3) ∧
      stR (post (stR (post (stR (post (terms W n last most k)) (mark W n ">"))) (mark W n "="))) (numI W n most) = .ok (d, k4) ∧ sum1 W n last most k = .ok ((t, d), k4) ∧ bnd (sum1 W n last most k) g = g (t, d) k4) ∨
      (∃ x, stR (post (stR (post (stR (post (terms W n last most k)) (mark W n ">"))) (mark W n "="))) (numI W n most) = .error x ∧ bnd (sum1 W n last most k) g = .error x)
    unfold sum1
    cases terms W n last most k with
    | error x => exact .inr ⟨x, rfl, rfl⟩
    | ok p =>
      obtain ⟨t, k1⟩ := p
      simp only [bnd_ok, post, stR]
      cases mark W n ">" k1 with
      | error x => exact .inr ⟨x, rfl, rfl⟩
      | ok p =>
        obtain ⟨u, k2⟩ := p
        simp only [bnd_ok, post, stR]
        cases mark W n "=" k2 with
        | error x => exact .inr ⟨x, rfl, rfl⟩
        | ok p =>
          obtain ⟨u', k3⟩ := p
          simp only [bnd_ok, post, stR]
          cases numI W n most k3 with
          | error x => exact .inr ⟨x, rfl, rfl⟩
          | ok p => exact .inl ⟨t, k1, k2, k3, p.1, p.2, rfl, rfl, rfl, rfl, rfl, rfl⟩
theorem sumsL_succ (W : List (Str × Nat)) (n last most f k : Nat) : sumsL W n last most (f + 1) k = if wd W k = (";" : Str) then bnd (sum1 W n last most (k + 1)) fun s k1 => bnd (sumsL W n last most f k1) fun r k2 => .ok (s :: r, k2) else .ok ([], k) := rfl
section
variable {P : Program} {w : World} {K : PySem.W.Frag} {mg : Str → Option Value} {base : Heap} {fI : Addr}
theorem ok_law_read (T : Txt K mg) : FnOk P w K mg base CX0 5 T.f_law_read T.d_law_read ["text"] spLRead := by
  have G0 : FnOk P w K mg base CX0 1 T.f_law_split T.d_law_split ["text"] spSplit := ok_law_split T
  have G1 : FnOk P w K mg base CX0 3 T.f_law_need T.d_law_need ["reader", "sign"] spLNeed := ok_law_need T
  have G2 : FnOk P w K mg base CX0 2 T.f_law_numeral T.d_law_numeral ["reader", "least", "most"] spLNumeral := ok_law_numeral T
  have G3 : FnOk P w K mg base CX0 2 T.f_law_on T.d_law_on ["reader", "sign"] spLOn := ok_law_on T
  have G4 : FnOk P w K mg base CX0 4 T.f_law_terms T.d_law_terms ["reader", "last"] spLTerms := ok_law_terms T
  have G5 : FnOk P w K mg base CX0 3 T.f_law_number T.d_law_number ["reader"] spLNumber := ok_law_number T
  have G6 : FnOk P w K mg base CX0 1 T.f_law_stop T.d_law_stop ["reader"] spLStop := ok_law_stop T
  refine T.F_law_read.ok sc_law_read (fun vs H Q E h => ?_) (fun cdv A outer s H vs Q E hr h => ?_)
  · obtain ⟨z, rfl, _⟩ := h
    rfl
  · obtain ⟨z, rfl, hz, hs, q⟩ := h
    have nd := sc_law_read.nd
    have hr1 : Room 1 _ := hr.mono (by decide)
    have hr2 : Room 2 _ := hr.mono (by decide)
    have hr3 : Room 3 _ := hr.mono (by decide)
    refine ⟨_, pss_cons (ps_set (i := 1) nd rfl (Or.inl rfl) (pe_lstN (pa_cons (pe_call G0 hr1 (by rfl) T.g_law_split T.F_law_split.kp T.b_law_split .nil pass0 (pa_cons (pv 0) pa_nil)) (pa_cons pe_int (pa_cons (pe_un un_neg pe_int) (pa_cons (pe_callB call_lenS (by rfl) T.z_len PySem.boot_len (pa_cons (pv 0) pa_nil)) pa_nil))))))
      (pss_cons (ps_expr (pe_call G1 hr3 (by rfl) T.g_law_need T.F_law_need.kp T.b_law_need .nil pass0 (pa_cons (pv 1) (pa_cons pe_str pa_nil))))
      (pss_cons (ps_par3 (i := 2) (j := 3) (l := 4) rfl nd rfl rfl rfl (by decide) (by decide) (by decide) rfl rfl rfl
          (pa_cons (pe_call G2 hr2 (by rfl) T.g_law_numeral T.F_law_numeral.kp T.b_law_numeral .nil pass0 (pa_cons (pv 1) (pa_cons pe_int (pa_cons pe_int pa_nil)))) (pa_cons pe_non (pa_cons (pe_lstN pa_nil) pa_nil))) (by rfl))
      (pss_cons (ps_if (pt_val (pe_call G3 hr2 (by rfl) T.g_law_on T.F_law_on.kp T.b_law_on .nil pass0 (pa_cons (pv 1) (pa_cons pe_str pa_nil))))
          (pss_cons (ps_set (i := 5) nd rfl (Or.inl rfl) (pe_call G4 hr (by rfl) T.g_law_terms T.F_law_terms.kp T.b_law_terms .nil pass0 (pa_cons (pv 1) (pa_cons (pe_op op_sub (pv 2) pe_int) pa_nil))))
          (pss_cons (ps_expr (pe_call G1 hr3 (by rfl) T.g_law_need T.F_law_need.kp T.b_law_need .nil pass0 (pa_cons (pv 1) (pa_cons pe_str pa_nil))))
          (pss_one (ps_set (i := 3) nd rfl (Or.inl rfl) (pe_tupN (pa_cons (pv 5) (pa_cons (pe_call G5 hr3 (by rfl) T.g_law_number T.F_law_number.kp T.b_law_number .nil pass0 (pa_cons (pv 1) pa_nil)) pa_nil))))))) pss_nil)
      (pss_cons (ps_while PassesOwn.never (pt_val (pe_call G3 hr2 (by rfl) T.g_law_on T.F_law_on.kp T.b_law_on .nil pass0 (pa_cons (pv 1) (pa_cons pe_str pa_nil))))
          (pss_cons (ps_set (i := 5) nd rfl (Or.inl rfl) (pe_call G4 hr (by rfl) T.g_law_terms T.F_law_terms.kp T.b_law_terms .nil pass0 (pa_cons (pv 1) (pa_cons (pe_op op_sub (pv 2) pe_int) pa_nil))))
          (pss_cons (ps_expr (pe_call G1 hr3 (by rfl) T.g_law_need T.F_law_need.kp T.b_law_need .nil pass0 (pa_cons (pv 1) (pa_cons pe_str pa_nil))))
          (pss_cons (ps_expr (pe_call G1 hr3 (by rfl) T.g_law_need T.F_law_need.kp T.b_law_need .nil pass0 (pa_cons (pv 1) (pa_cons pe_str pa_nil))))
          (pss_one (ps_expr (pe_bm PySem.F.plainAttrs_list PySem.F.slot_list_append PySem.F.type_list_append mt_appN (pv 4) (pa_cons (pe_tupN (pa_cons (pv 5) (pa_cons (pe_call G5 hr3 (by rfl) T.g_law_number T.F_law_number.kp T.b_law_number .nil pass0 (pa_cons (pv 1) pa_nil)) pa_nil))) pa_nil))))))))
      (pss_cons (ps_if (PW.pt (pw_and (pt_cmpR op_lt (pe_ix ix_list (pv 1) pe_int (fun _ _ => rfl)) pe_int (nomark _)) (pw_and1 (pt_cmpR op_lt (pe_ix ix_list (pv 1) pe_int (fun _ _ => rfl)) (pe_callB call_lenL (by rfl) T.z_len PySem.boot_len (pa_cons (pe_ix ix_list (pv 1) pe_int (fun _ _ => rfl)) pa_nil)) (nomark _)))))
          (pss_one (ps_expr (pe_call G6 hr1 (by rfl) T.g_law_stop T.F_law_stop.kp T.b_law_stop .nil pass0 (pa_cons (pv 1) pa_nil)))) pss_nil)
      (pss_one (ps_ret (pe_ifExp (pt_cmpR op_lt (pe_ix ix_list (pv 1) pe_int (fun _ _ => rfl)) pe_int (nomark _))
        (pe_tupN (pa_cons (pe_tupN (pa_cons (pv 2) (pa_cons (pe_callTy call_tupleN (by rfl) T.z_tuple boot_tuple (pa_cons (pv 4) pa_nil)) (pa_cons (pv 3) pa_nil)))) (pa_cons (pe_un un_neg pe_int) pa_nil)))
        (pe_tupN (pa_cons pe_non (pa_cons (pe_ix ix_list (pv 1) pe_int (fun _ _ => rfl)) pa_nil))))))))))), ?_⟩
    refine r_seq ?_
    walk_at "re"
    refine r_call ?_
    walk_at "re"
    refine ⟨z, rfl, by omega, fun H1 l s1 l0 hW => ?_⟩
    walk_at "re"
    refine r_lenS (by omega) ?_
    walk_at "re"
    refine ⟨by simp, r_new fun r H2 r0 s2 hrr => ?_⟩
    obtain ⟨G, hG⟩ : ∃ G : RG, G = ⟨0, l, splitW 0 (cp z), z.length⟩ := ⟨_, rfl⟩
    have eW : G.W = splitW 0 (cp z) := by rw [hG]
    have en : G.n = z.length := by rw [hG]
    have a2 : LaS G H2 r (.ok 0) := by
      rw [hG]
      obtain ⟨ts, h, p⟩ := hW
      refine ⟨hrr, ⟨ts, s2 _ _ h, Paired.mono (fun v x q => q.mono (tup_same s2)) p⟩, ?_, ?_, by omega, ?_⟩
      · have := splitW_len (cp z) 0
        rw [cp_len] at this
        show (splitW 0 (cp z)).length ≤ 50000
        omega
      · intro y hy
        have := splitW_word (cp z) 0 y hy
        rw [cp_len] at this
        omega
      · intro e
        have e : l = r := e
        rw [e, r0] at h
        cases h
    have hrN : H r = none := s1.free r0
    have sx : ∀ H', Kp r H2 H' → Same H H' := fun H' kp b o e => kp b o (ne_of_none e hrN) (s2 _ _ (s1 _ _ e))
    rw [← eW] at hs
    have E0 : probAt z = bnd (stR (.ok 0) (mark G.W G.n "problem")) fun _ k1 => bnd (num G.W G.n 1 60 k1) fun many k2 => bnd (priceO G.W G.n (many - 1) 1000000 k2) fun p k3 => bnd (sumsL G.W G.n (many - 1) 1000000 302 k3) fun s k4 => bnd (endR G.W G.n k4) fun _ k5 => .ok ((many, s, p), k5) := by
      rw [eW, en]
      rfl
    walk_at "rd"
    refine r_call ?_
    walk_at "rd"
    refine ⟨r, G, .ok 0, _, rfl, a2, by decide +kernel, fun u H3 kp3 a3 _ => ?_⟩
    change LaS G H3 r (post (stR (.ok 0) (mark G.W G.n "problem"))) at a3
    have E0 := E0.trans (bnd_post (g' := fun k1 => bnd (num G.W G.n 1 60 k1) fun many k2 => bnd (priceO G.W G.n (many - 1) 1000000 k2) fun p k3 => bnd (sumsL G.W G.n (many - 1) 1000000 302 k3) fun s k4 => bnd (endR G.W G.n k4) fun _ k5 => .ok ((many, s, p), k5)) (fun a k e => rfl))
    walk_at "rd"
    refine r_call ?_
    walk_at "rd"
    refine ⟨r, G, _, _, _, rfl, a3, fun _ _ => by decide, fun v4 H4 kp4 a4 hv4 => ?_⟩
    change LaS G H4 r (post (stR (post (stR (.ok 0) (mark G.W G.n "problem"))) (num G.W G.n 1 60))) at a4
    change hold _ _ (stR (post (stR (.ok 0) (mark G.W G.n "problem"))) (num G.W G.n 1 60)) v4 H4 at hv4
    obtain ⟨i, rfl, hi⟩ := hold_int hv4
    have E0 := E0.trans (stR_bnd _ _ _)
    have E0 := E0.trans (bnd_post (g' := fun k2 => bnd (priceO G.W G.n (i.toNat - 1) 1000000 k2) fun p k3 => bnd (sumsL G.W G.n (i.toNat - 1) 1000000 302 k3) fun s k4 => bnd (endR G.W G.n k4) fun _ k5 => .ok ((i.toNat, s, p), k5)) (fun a k e => by
      have := hi a k e
      subst this
      rfl))
    have hi1 : ∀ k, post (stR (post (stR (.ok 0) (mark G.W G.n "problem"))) (num G.W G.n 1 60)) = .ok k → 1 ≤ i := fun k e => by
      cases e' : stR (post (stR (.ok 0) (mark G.W G.n "problem"))) (num G.W G.n 1 60) with
      | error x => rw [e'] at e; cases e
      | ok p =>
        obtain ⟨a, k'⟩ := p
        have h1 := hi a k' e'
        cases em : post (stR (.ok 0) (mark G.W G.n "problem")) with
        | error x => rw [em] at e'; cases e'
        | ok k1 =>
          rw [em] at e'
          have e' : num G.W G.n 1 60 k1 = .ok (a, k') := e'
          unfold num at e'
          split at e'
          · rename_i c
            cases e'
            omega
          · cases e'
    generalize post (stR (post (stR (.ok 0) (mark G.W G.n "problem"))) (num G.W G.n 1 60)) = s4 at a4 E0 hi1
    walk_at "rd"
    refine ⟨by simp, r_new fun sl H5 sl0 s5 hsl => ?_⟩
    walk_at "re"
    have a5 := LaS.same a4 s5
    have kp24 : Kp r H2 H4 := kp3.trans kp4
    have slr : sl ≠ r := by
      obtain ⟨ts, h⟩ := a4.rl
      intro e
      rw [e, h] at sl0
      cases sl0
    -- the price
    refine r_mid (fun σ' H' => ∃ (s6 : RSt) (pv : V) (tv : Option V) (p : Option (List (Nat × Nat) × Int)), σ' = [some (.str z), some (.ref r), some (.int i), some pv, some (.ref sl), tv] ∧ Kp r H4 H' ∧ LaS G H' r s6 ∧ H' sl = some (.lst []) ∧ (∀ k, s6 = .ok k → 1 ≤ i ∧ Rp H' pv (priceD p)) ∧
        probAt z = stR s6 fun k3 => bnd (sumsL G.W G.n (i.toNat - 1) 1000000 302 k3) fun s k4 => bnd (endR G.W G.n k4) fun _ k5 => .ok ((i.toNat, s, p), k5)) ?_ fun n hn => ?_
    rotate_left
    · walk_at "rd"
      refine r_call ?_
      walk_at "rd"
      refine ⟨r, G, s4, _, rfl, a5, by decide +kernel, fun k e hw H6 kp6 a6 => ?_, fun hne => ?_⟩
      · subst e
        have hi := hi1 k rfl
        have E1 : probAt z = bnd (stR (.ok (k + 1)) (price1 G.W G.n (i.toNat - 1) 1000000)) fun p k3 => bnd (sumsL G.W G.n (i.toNat - 1) 1000000 302 k3) fun s k4 => bnd (endR G.W G.n k4) fun _ k5 => .ok ((i.toNat, s, some p), k5) := by
          rw [E0]
          show bnd (priceO G.W G.n (i.toNat - 1) 1000000 k) _ = _
          unfold priceO
          rw [if_pos hw, bnd_bnd]
          rfl
        walk_at "rd"
        refine r_call ?_
        walk_at "rd"
        refine ⟨r, G, _, _, rfl, a6, fun _ _ => by omega, fun v7 H7 kp7 a7 hv7 => ?_⟩
        rw [show (i - 1).toNat = i.toNat - 1 by omega] at a7 hv7
        walk_at "rd"
        refine r_call ?_
        walk_at "rd"
        refine ⟨r, G, _, _, rfl, a7, by decide +kernel, fun u8 H8 kp8 a8 hv8 => ?_⟩
        walk_at "rd"
        refine r_call ?_
        walk_at "rd"
        refine ⟨r, G, _, rfl, a8, fun v9 H9 kp9 a9 hv9 => ?_⟩
        walk_at "rd"
        refine ⟨by simp, r_new fun tp H10 tp0 s10 htp => ?_⟩
        walk_at "rd"
        have kp10 : Kp r H5 H10 := ((kp6.trans kp7).trans (kp8.trans kp9)).trans (.of s10)
        rcases price_three (W := G.W) (n := G.n) (last := i.toNat - 1) (most := 1000000) (s := .ok (k + 1)) (fun p k3 => bnd (sumsL G.W G.n (i.toNat - 1) 1000000 302 k3) fun s k4 => bnd (endR G.W G.n k4) fun _ k5 => (.ok ((i.toNat, s, some p), k5) : Rs (Nat × List (List (Nat × Nat) × Int) × Option (List (Nat × Nat) × Int)))) with ⟨t, k1, k2, d, k3, e1, e2, e3, e4⟩ | ⟨x, e3, e4⟩
        · rw [e4] at E1
          rw [e3] at a9 hv9
          rw [e1] at hv7
          have hv9 : v9 = .int d := hv9
          subst hv9
          refine hn _ _ ⟨.ok k3, _, _, some (t, d), rfl, (Kp.of s5).trans kp10, LaS.same a9 s10, kp10 _ _ slr hsl, fun _ _ => ⟨hi, .tup htp (.cons ?_ (.cons (.int _) .nil))⟩, E1⟩
          exact Rp.mono (tup_same s10) _ _ (Rp.mono (a8.tups kp9) _ _ (Rp.mono (a7.tups kp8) _ _ hv7))
        · rw [e4] at E1
          rw [e3] at a9
          exact hn _ _ ⟨.error x, _, _, none, rfl, (Kp.of s5).trans kp10, LaS.same a9 s10, kp10 _ _ slr hsl, fun _ e => (by cases e), E1⟩
      · walk_at "rd"
        refine hn _ _ ⟨s4, .non, none, none, rfl, .of s5, a5, hsl, fun k e => ⟨hi1 k e, .non⟩, ?_⟩
        rw [E0]
        cases s4 with
        | error x => rfl
        | ok k =>
          show bnd (priceO G.W G.n (i.toNat - 1) 1000000 k) _ = _
          unfold priceO
          rw [if_neg (hne k rfl)]
          rfl
    rintro _ H6 ⟨s6, pv, tv, p, rfl, kp6, a6, hs6, hp6, E6⟩
    -- the sums
    refine r_mid (fun σ' H' => ∃ (s7 : RSt) (xs : List V) (tv : Option V), σ' = [some (.str z), some (.ref r), some (.int i), some pv, some (.ref sl), tv] ∧ Kp r H4 H' ∧ LaS G H' r s7 ∧ H' sl = some (.lst xs) ∧
        ((∃ k' acc, s7 = .ok k' ∧ 1 ≤ i ∧ Rp H' pv (priceD p) ∧ RpL H' xs (acc.map sumD) ∧ probAt z = bnd (endR G.W G.n k') fun _ k5 => .ok ((i.toNat, acc, p), k5)) ∨ (∃ x, s7 = .error x ∧ probAt z = .error x))) ?_ fun n hn => ?_
    rotate_left
    · refine r_while (fun σ' H' => ∃ (s7 : RSt) (xs : List V) (tv : Option V), σ' = [some (.str z), some (.ref r), some (.int i), some pv, some (.ref sl), tv] ∧ Kp r H4 H' ∧ LaS G H' r s7 ∧ H' sl = some (.lst xs) ∧
          ((∃ k' f acc, s7 = .ok k' ∧ 1 ≤ i ∧ Rp H' pv (priceD p) ∧ RpL H' xs (acc.map sumD) ∧ f + acc.length = 302 ∧ acc.length ≤ semi G.W k' ∧ probAt z = bnd (sumsL G.W G.n (i.toNat - 1) 1000000 f k') fun s k4 => bnd (endR G.W G.n k4) fun _ k5 => .ok ((i.toNat, acc ++ s, p), k5)) ∨ (∃ x, s7 = .error x ∧ probAt z = .error x)))
        (fun _ H' => lMu H' r) ⟨s6, [], tv, rfl, kp6, a6, hs6, ?_⟩ ?_
      · cases s6 with
        | error x => exact .inr ⟨x, rfl, E6⟩
        | ok k => exact .inl ⟨k, 302, [], rfl, (hp6 k rfl).1, (hp6 k rfl).2, .nil, rfl, Nat.zero_le _, E6⟩
      rintro _ H7 ⟨s7, xs, tv, rfl, kp7, a7, hs7, hgb⟩ S hS
      walk_at "re"
      refine r_call ?_
      walk_at "re"
      refine ⟨r, G, s7, _, rfl, a7, by decide +kernel, fun k' e7 hw7 H8 kp8 a8 => ?_, fun hne7 => ?_⟩
      · walk_at "re"
        refine hS _ _ (fun _ => ?_) (fun z => by cases z)
        rcases hgb with ⟨k'', f, acc, e, hi, hp7, hr7, hf, hsm, E7⟩ | ⟨x, e, _⟩
        rotate_left
        · rw [e7] at e
          cases e
        rw [e7] at e
        cases e
        subst e7
        have hall := semi_all G.W k'
        have lx : xs.length = acc.length := by rw [hr7.length]; simp
        obtain ⟨f', rfl⟩ : ∃ f', f = f' + 1 := ⟨f - 1, by omega⟩
        have E8 : probAt z = bnd (stR (.ok (k' + 1)) (sum1 G.W G.n (i.toNat - 1) 1000000)) fun s k1 => bnd (bnd (sumsL G.W G.n (i.toNat - 1) 1000000 f' k1) fun r k2 => .ok (s :: r, k2)) fun s k4 => bnd (endR G.W G.n k4) fun _ k5 => .ok ((i.toNat, acc ++ s, p), k5) := by
          rw [E7, sumsL_succ, if_pos hw7, bnd_bnd]
          rfl
        walk_at "rd"
        refine r_call ?_
        walk_at "rd"
        refine ⟨r, G, _, _, rfl, a8, fun _ _ => by omega, fun v9 H9 kp9 a9 hv9 => ?_⟩
        rw [show (i - 1).toNat = i.toNat - 1 by omega] at a9 hv9
        walk_at "rd"
        refine r_call ?_
        walk_at "rd"
        refine ⟨r, G, _, _, rfl, a9, by decide +kernel, fun u10 H10 kp10 a10 _ => ?_⟩
        walk_at "rd"
        refine r_call ?_
        walk_at "rd"
        refine ⟨r, G, _, _, rfl, a10, by decide +kernel, fun u11 H11 kp11 a11 _ => ?_⟩
        walk_at "rd"
        have hs11 : H11 sl = some (.lst xs) := kp11 _ _ slr (kp10 _ _ slr (kp9 _ _ slr (kp8 _ _ slr hs7)))
        refine r_tyl hs11 ?_
        walk_at "rd"
        refine r_call ?_
        walk_at "rd"
        refine ⟨r, G, _, rfl, a11, fun v12 H12 kp12 a12 hv12 => ?_⟩
        walk_at "rd"
        refine ⟨by simp, r_new fun tp H13 tp0 s13 htp => ?_⟩
        walk_at "rd"
        have hs13 : H13 sl = some (.lst xs) := s13 _ _ (kp12 _ _ slr hs11)
        refine r_app hs13 (by omega) (r_chg fun H14 e14 h14 => ?_)
        walk_at "rd"
        have a13 := LaS.same a12 s13
        have a14 := LaS.other a13 a4 sl0 hs13 e14
        have tb := tup_but hs13 e14
        have kp14 : Kp r H4 H14 := fun b o hb e => by
          rw [e14 b (ne_of_none e sl0)]
          exact s13 _ _ (kp12 _ _ hb (kp11 _ _ hb (kp10 _ _ hb (kp9 _ _ hb (kp8 _ _ hb (kp7 _ _ hb e))))))
        have t9 : ∀ t ys, H9 t = some (.tup ys) → H14 t = some (.tup ys) := fun t ys e => tb _ _ (s13 _ _ (a11.tups kp12 _ _ (a10.tups kp11 _ _ (a9.tups kp10 _ _ e))))
        have t7 : ∀ t ys, H7 t = some (.tup ys) → H14 t = some (.tup ys) := fun t ys e => t9 _ _ (a8.tups kp9 _ _ (a7.tups kp8 _ _ e))
        have m7 := lMu_ok a7
        rcases sum_four (W := G.W) (n := G.n) (last := i.toNat - 1) (most := 1000000) (s := .ok (k' + 1)) (fun s k1 => bnd (bnd (sumsL G.W G.n (i.toNat - 1) 1000000 f' k1) fun r k2 => .ok (s :: r, k2)) fun s k4 => bnd (endR G.W G.n k4) fun _ k5 => (.ok ((i.toNat, acc ++ s, p), k5) : Rs (Nat × List (List (Nat × Nat) × Int) × Option (List (Nat × Nat) × Int)))) with ⟨t, k1, k2, k3, d, k4, e1, e2, e3, e4, e5, e6⟩ | ⟨x, e4, e6⟩
        · rw [e4] at a14 hv12
          rw [e1] at hv9
          rw [e6] at E8
          have hv12 : v12 = .int d := hv12
          subst hv12
          have adv := sum1_adv (show sum1 G.W G.n (i.toNat - 1) 1000000 (k' + 1) = .ok ((t, d), k4) from e5)
          have m14 := lMu_ok a14
          refine ⟨⟨_, _, _, rfl, kp14, a14, h14, .inl ⟨k4, f', acc ++ [(t, d)], rfl, hi, Rp.mono t7 _ _ hp7, ?_, by rw [List.length_append, List.length_singleton]; omega, ?_, ?_⟩⟩, by omega⟩
          · rw [List.map_append]
            refine RpL.snoc (RpL.mono t7 _ _ hr7) (.tup (tb _ _ htp) (.cons ?_ (.cons (.int _) .nil)))
            exact Rp.mono t9 _ _ hv9
          · rw [List.length_append, List.length_singleton]
            have h1 := semi_step hw7
            have h2 := semi_le (W := G.W) adv
            omega
          · simp only [bnd_bnd, bnd_ok, List.append_assoc, List.singleton_append] at E8 ⊢
            exact E8
        · rw [e4] at a14
          rw [e6] at E8
          refine ⟨⟨_, _, _, rfl, kp14, a14, h14, .inr ⟨x, rfl, E8⟩⟩, ?_⟩
          rw [lMu_bad a14]
          omega
      · walk_at "re"
        refine hS _ _ (fun z => by cases z) (fun _ => ?_)
        refine hn _ _ ⟨s7, xs, tv, rfl, kp7, a7, hs7, ?_⟩
        rcases hgb with ⟨k'', f, acc, e, hi, hp7, hr7, hf, hsm, E7⟩ | ⟨x, e, E7⟩
        · subst e
          have hall := semi_all G.W k''
          obtain ⟨f', rfl⟩ : ∃ f', f = f' + 1 := ⟨f - 1, by omega⟩
          refine .inl ⟨k'', acc, rfl, hi, hp7, hr7, ?_⟩
          rw [E7, sumsL_succ, if_neg (hne7 k'' rfl), bnd_ok, List.append_nil]
        · exact .inr ⟨x, e, E7⟩
    rintro _ H7 ⟨s7, xs, tv, rfl, kp7, a7, hs7, hgb⟩
    -- the end
    refine r_mid (fun σ' H' => ∃ (s8 : RSt), σ' = [some (.str z), some (.ref r), some (.int i), some pv, some (.ref sl), tv] ∧ Kp r H7 H' ∧ LaS G H' r s8 ∧
        ((∃ k' acc, s8 = .ok k' ∧ 1 ≤ i ∧ Rp H' pv (priceD p) ∧ RpL H' xs (acc.map sumD) ∧ probAt z = .ok ((i.toNat, acc, p), k')) ∨ (∃ x, s8 = .error x ∧ probAt z = .error x))) ?_ fun n hn => ?_
    · rintro _ H8 ⟨s8, rfl, kp8, a8, hgb⟩
      walk_at "rd"
      have hs8 := kp8 _ _ slr hs7
      obtain ⟨k, wr, b, hc⟩ := a8.la
      refine b.i2 ?_
      walk_at "rd"
      unfold readD at q
      rcases hgb with ⟨k', acc, e, hi, hp, hra, E8⟩ | ⟨x, e, E8⟩
      · subst e
        rcases hc with ⟨rfl, _⟩ | ⟨_, _, e⟩
        rotate_left
        · cases e
        refine iteBT (by decide) ?_
        walk_at "rd"
        refine ⟨sl, xs, rfl, SqL.of hs8, r_new fun t H9 t0 s9 ht => ?_⟩
        walk_at "rd"
        refine ⟨by simp, r_new fun t2 H10 t20 s10 ht2 => ?_⟩
        walk_at "rd"
        refine ⟨by simp, r_new fun t3 H11 t30 s11 ht3 => ?_⟩
        walk_at "rd"
        refine q _ H11 (sx H11 (((kp24.trans kp7).trans kp8).trans (.of ((s9.trans s10).trans s11)))) ?_
        rw [E8]
        have ti := tup_same ((s9.trans s10).trans s11)
        have hii : ((i.toNat : Nat) : Int) = i := by omega
        refine .tup ht3 (.cons (.tup (s11 _ _ ht2) (.cons ?_ (.cons (.tup (s11 _ _ (s10 _ _ ht)) (RpL.mono ti _ _ hra)) (.cons (Rp.mono ti _ _ hp) .nil)))) (.cons (.int _) .nil))
        show Rp H11 (.int i) (.int ((i.toNat : Nat) : Int))
        rw [hii]
        exact .int i
      · subst e
        rcases hc with ⟨_, e⟩ | ⟨x', rfl, e⟩
        · cases e
        cases e
        refine iteBF (decide_eq_false (by omega)) ?_
        walk_at "rd"
        refine b.i2 ?_
        walk_at "rd"
        refine ⟨by simp, r_new fun t3 H11 t30 s11 ht3 => ?_⟩
        walk_at "rd"
        refine q _ H11 (sx H11 (((kp24.trans kp7).trans kp8).trans (.of s11))) ?_
        rw [E8]
        exact .tup ht3 (.cons .non (.cons (.int _) .nil))
    · walk_at "rd"
      obtain ⟨k, wr, b, hc⟩ := a7.la
      obtain ⟨ts, hts, pw⟩ := b.ws
      have hlen : ts.length = G.W.length := pw.length
      refine b.i2 ?_
      walk_at "rd"
      rcases hgb with ⟨k', acc, e, hi, hp, hra, E7⟩ | ⟨x, e, E7⟩
      · subst e
        rcases hc with ⟨rfl, e⟩ | ⟨_, _, e⟩
        rotate_left
        · cases e
        cases e
        refine iteBT (by decide) ?_
        walk_at "rd"
        refine b.i1 ?_
        walk_at "rd"
        refine b.i0 ?_
        walk_at "rd"
        refine r_lenL (SqL.of hts) ?_
        walk_at "rd"
        unfold endR at E7
        refine iteB (fun h => ?_) (fun h => ?_)
        · have hk : k < G.W.length := by have := of_decide_eq_true h; omega
          rw [if_pos hk] at E7
          walk_at "rd"
          refine r_call ?_
          walk_at "rd"
          refine ⟨r, G, _, rfl, a7, fun H8 kp8 a8 => ?_⟩
          walk_at "rd"
          exact hn _ _ ⟨_, rfl, kp8, a8, .inr ⟨_, rfl, E7⟩⟩
        · have hk : ¬ k < G.W.length := by have := of_decide_eq_false h; omega
          rw [if_neg hk] at E7
          walk_at "rd"
          exact hn _ _ ⟨_, rfl, .refl _ _, a7, .inl ⟨k, acc, rfl, hi, hp, hra, E7⟩⟩
      · subst e
        rcases hc with ⟨_, e⟩ | ⟨x', rfl, e⟩
        · cases e
        cases e
        refine iteBF (decide_eq_false (by omega)) ?_
        walk_at "rd"
        exact hn _ _ ⟨_, rfl, .refl _ _, a7, .inr ⟨x, rfl, E7⟩⟩
end
end Kt
namespace Kt
open PySem PySem.Spec PyProof.Rows L2
/-! ## 16. The program asked, its error caught -/
section
variable {X : Cx} {CX : CXT} {k : Nat} {f : Addr} {fd : FuncData} {ps ks : List Str} {sp : Sp} {E : L2.St → XK} {x : Str} {p pos : Pos} {kws : List Keyword} {tk : TA}
/-- f(k = v, ..), what it raises wished for at the caller's slots -/
def tCallKS (sp : Sp) (E : L2.St → XK) (tk : TA) : TE := fun σ H Q => tk σ H fun zs H2 => sp zs H2 Q (E σ)
theorem pe_callKS (F : FnOk X.prog X.w X.K X.mg X.base CX k f fd ps sp) (hr : Room k X.A) (hg : Gl X x) (hm : X.mg x = some (.ref f)) (hk : PySem.W.keepIn X.K (.ref f) = true)
    (hb : ∀ (s : Shared) (ws : List Value), X.K.In s.heap → ws.length = ps.length → BindsTo s fd ⟨[], ks.zip ws⟩ (ps.zip ws)) (hx : ∀ σ, PassesAt CX X σ (E σ)) (hkw : PK X kws tk)
    (hall : (backToKw pos (keywordEach kws X.env)).all (·.1.isSome) = true := by rfl) (hks : (backToKw pos (keywordEach kws X.env)).filterMap (·.1) = ks := by rfl) (hdb : (x == ("__debug__" : Str)) = false := by decide)
    (hpl : ((backTo pos (starEach [] X.env)).any (·.1) || (backToKw pos (keywordEach kws X.env)).any (·.1.isNone)) = false := by rfl) :
    PE X (.Call (.Name x p) [] kws pos) (tCallKS sp E tk) := by
  refine ⟨fun pins s σ H Q I h => ?_⟩
  refine wpAny_Call_Name_kw (ld_glob I hg hm ?_ hdb)
  refine PySem.W.callWith_KW0 (h₀ := X.base) I.ok.mod.kin hk hall ?_ hpl
  refine thn (hkw.run pos pins s σ H _ I h) fun ws s2 ⟨zs, H2, I2, rz, q2⟩ => ⟨I2.kIn, ?_⟩
  rw [hks]
  have hl : ws.length = ps.length := by rw [← rz.length]; exact F.len _ _ _ _ q2
  refine wpAny_call (codeAny_mono (F.run X.A X.stack s2 H2 ⟨[], ks.zip ws⟩ ws zs Q (E σ) hr I2.env0 (hb s2 ws I2.kIn hl) rz q2) fun r s' hq => ?_)
  cases r with
  | error e => exact hx σ pins H2 s2 e s' I2 hq
  | ok fl =>
    cases fl with
    | ret u => exact I2.after hq
    | next => exact False.elim hq
    | brk => exact False.elim hq
    | cont => exact False.elim hq
end
/-- what isinstance must know of BadText -/
structure ETxt (K : PySem.W.Frag) (CB CS : Addr) : Prop where
  cl : (PySem.W.clsIn K CB).isSome = true
  ga : PySem.W.findIn K (.ref CB) "__getattribute__" = some (some (.builtin "BaseException.__getattribute__"))
  gg : PySem.W.findIn K (.ref CB) "__getattr__" = some none
  exC : PySem.W.subIn K (.ref CB) (.type "BaseException") = some true
  ha : PySem.W.findIn K (.ref CB) "__class__" = some (some (.builtin "object.__class__"))
  hn : PySem.W.specialIn K (.builtin "object.__class__") "__get__" = some (some (.builtin "getset_descriptor.__get__"))
  ht : PySem.W.takesIn K (.builtin "object.__class__") = some true
  hm : PySem.W.mroIn K CB (.type "object") = some true
  k1 : PySem.W.kitOne K (.ref CB) (.ref CS) = some true
  k2 : PySem.W.kitOne K (.ref CB) (.type "ValueError") = some true
/-- isinstance(e, c), e the caught error with a dict of its own -/
def rIsD (K : PySem.W.Frag) (D a : Addr) (cls : Value) (d : Option Addr) : List V → Hp → VK → Prop := fun xs H Q => ∃ (c : V) (cv : Value) (b : Bool) (dd : Addr) (fs : List (Str × V)), xs = [.ref a, c] ∧ cls = .ref D ∧ d = some dd ∧ H dd = some (.xd fs) ∧ (∀ u, RelV c u → u = cv) ∧ PySem.W.kitOne K (.ref D) cv = some b ∧ Q (.bl b) H
theorem call_isD {X : Cx} {a D CS : Addr} {oe : Obj} {cls : Value} {d : Option Addr} {pn : List (Addr × Obj)} (C : ETxt X.K D CS) (hz : Zc cls d oe) (hf : ∃ vs, oe.data = .fields vs) : CallR (X.suite a ((a, oe) :: pn)) (.builtin "isinstance") (rIsD X.K D a cls d) := by
  intro pins s σ H xs us Q I r h
  obtain ⟨c, cv, b, dd, fs, rfl, rfl, rfl, hdd, hcv, e, q⟩ := h
  cases r with
  | cons rx rr =>
    cases rr with
    | cons rt rr =>
      cases rr
      cases rx
      have ec := hcv _ rt
      subst ec
      obtain ⟨hget, _⟩ := I.pin (a, oe) (List.mem_append.mpr (.inl List.mem_cons_self))
      obtain ⟨vs, hv⟩ := hf
      have hx : ObjOk X.prog X.w H s.heap dd (.xd fs) := I.hok dd _ hdd
      obtain ⟨mA, hns, hr⟩ := hx
      obtain ⟨od, ho, hl⟩ := L2.lookIn_ns hns
      have J : PySem.W.InstAt s.heap a oe D (some od) := ⟨hget, hz.1, by unfold PySem.W.notCls; rw [hv] <;> rfl, by rw [hz.2]; exact ho⟩
      exact PySem.W.kia_one (PySem.W.kitx_exc C.cl C.ga C.gg C.exC C.ha C.hn C.ht C.hm) I.kIn J e (fun z => nomatch z) fun tk => ⟨.bl b, H, I.tok tk, rfl, q⟩
def spTold (K : PySem.W.Frag) : Sp := fun vs H Q _ => ∃ v : V, vs = [v] ∧
  ((∃ z : Str, v = .str z ∧ z.length ≤ 50000 ∧ semi (splitW 0 (cp z)) (splitW 0 (cp z)).length ≤ 300 ∧ ∀ u H', Same H H' → Rp H' u (readD z) → Q u H') ∨
    (∃ ty, (∀ H', Same H H' → TyX K H' v (.type ty)) ∧ kitB ty "str" = some false ∧ ∀ u H', Same H H' → Rp H' u (.tuple [.none, .int 0]) → Q u H'))
section
variable {P : Program} {w : World} {K : PySem.W.Frag} {mg : Str → Option Value} {base : Heap} {fI : Addr}
theorem r_callKS {sp : Sp} {E : L2.St → XK} {tk : TA} {σ : L2.St} {H : Hp} {Q : VK} (q : tk σ H fun zs H2 => sp zs H2 Q (E σ)) : tCallKS sp E tk σ H Q := q
theorem r_xf {a : Addr} {cls : Value} {d : Option Addr} {C : Addr} {f : Str} {te : TE} {σ : L2.St} {H : Hp} {Q : VK} (q : te σ H fun x H1 => x = .ref a ∧ cls = .ref C ∧ ∃ (dd : Addr) (fs : List (Str × V)) (v : V), d = some dd ∧ H1 dd = some (.xd fs) ∧ fs.lookup f = some v ∧ Q v H1) : tXf a cls d C f te σ H Q := q
theorem kb_read (T : Txt K mg) : ∀ (s : Shared) (ws : List Value), K.In s.heap → ws.length = (["text"] : List Str).length → BindsTo s T.d_read_problem ⟨[], (["text"] : List Str).zip ws⟩ ((["text"] : List Str).zip ws) := by
  intro s ws _ hl
  obtain ⟨oc, od, kV, doc, pm, an, cdv, ct, osl, e, lk, hcd⟩ := T.F_read_problem.ex
  rw [e]
  exact .of_eq (match ws, hl with | [_], _ => rfl)
theorem ok_law_told (T : Txt K mg) (B : BTxt P K mg T.CB fI) (C : ETxt K T.CB T.CS) : FnOk P w K mg base CX0 9 T.f_law_told T.d_law_told ["text"] (spTold K) := by
  have G0 : FnOk P w K mg base (L2.CX P w) 8 T.f_read_problem T.d_read_problem ["text"] (spRead K T.CB) := ok_read_problem T B
  refine T.F_law_told.ok sc_law_told (fun vs H Q E h => ?_) (fun cdv A outer s H vs Q E hr h => ?_)
  · obtain ⟨v, rfl, _⟩ := h
    rfl
  · obtain ⟨v, rfl, h⟩ := h
    have nd := sc_law_told.nd
    have X1 : XfC K T.CB := ⟨B.ga, B.gg, B.exC, B.hdC⟩
    refine ⟨_, pss_cons (ps_asg (pe_tupN (pa_cons pe_non (pa_cons (pe_un un_neg pe_int) pa_nil))) (pg_tup rfl (pgs_cons (pg_name (i := 1) nd rfl (Or.inl rfl)) (pgs_cons (pg_name (i := 2) nd rfl (Or.inl rfl)) pgs_nil))))
      (pss_cons (ps_try_as (i := 3) rfl rfl nd rfl rfl ⟨rfl, by decide, .inl T.gCB⟩ takes0
        (fun W pn xe tk _ => pss_one (ps_set (i := 1) nd rfl (Or.inl rfl) (pe_callKS G0 (hr.mono (by decide)) (by rfl) T.g_read_problem T.F_read_problem.kp (kb_read T) (fun σ => passAt tk σ) (pk_cons (pv 0) pk_nil))))
        (fun a oe cls d pn hz hf => pss_one (ps_set (i := 2) nd rfl (Or.inl rfl) (pe_ifExp (PW.pt (pw_and (pt_val (pe_callB (call_isD C hz hf) (by rfl) T.z_isinstance boot_isinstance (pa_cons (pv 3) (pa_cons (pe_glob (v := .ref T.CS) (by rfl) T.gCS rfl) pa_nil))))
            (pw_and1 (pt_val (pe_callB (call_isD C hz hf) (by rfl) T.z_isinstance boot_isinstance (pa_cons (pv 3) (pa_cons (pe_bltn (v := .ty "ValueError") (by rfl) T.z_ValueError boot_ValueError rfl) pa_nil)))))))
          (pe_xf X1 B.noN hz hf (pv 3)) pe_non))))
      (pss_one (ps_ret (pe_tupN (pa_cons (pv 1) (pa_cons (pv 2) pa_nil)))))), ?_⟩
    walk_at "rd"
    refine ⟨by simp, r_new fun c H1 c0 s1 hc => ?_⟩
    walk_at "rd"
    refine r_gtup (SqT.of hc) rfl ?_
    walk_at "rd"
    refine r_callKS ?_
    walk_at "rd"
    refine ⟨v, rfl, ?_⟩
    rcases h with ⟨z, rfl, hz, hs, q⟩ | ⟨ty, hty, hk, q⟩
    · refine .inl ⟨z, rfl, hz, hs, ?_⟩
      unfold readD at q
      cases e : probAt z with
      | ok r =>
        obtain ⟨a, k⟩ := r
        rw [e] at q
        intro u H2 s2 hu
        walk_at "rd"
        refine ⟨by simp, r_new fun t H3 t0 s3 ht => ?_⟩
        walk_at "rd"
        exact q _ H3 ((s1.trans s2).trans s3) (.tup ht (.cons (Rp.mono (tup_same s3) _ _ hu) (.cons (.int _) .nil)))
      | error x =>
        rw [e] at q
        intro d H2 hd s2 hx
        refine ⟨true, B.te, fun _ a ha => ?_, fun z => by cases z⟩
        walk_at "rd"
        refine ⟨.ref T.CS, .ref T.CS, true, d, _, rfl, rfl, rfl, hx, fun u r => r, C.k1, ?_⟩
        walk_at "rd"
        refine ⟨.ty "ValueError", .type "ValueError", true, d, _, rfl, rfl, rfl, hx, fun u r => r, C.k2, ?_⟩
        walk_at "rd"
        refine r_xf ?_
        walk_at "rd"
        refine ⟨rfl, rfl, d, _, _, rfl, hx, by rfl, ?_⟩
        walk_at "rd"
        refine ⟨by simp, r_new fun t H3 t0 s3 ht => ?_⟩
        walk_at "rd"
        exact q _ H3 ((s1.trans s2).trans s3) (.tup ht (.cons .non (.cons (.int _) .nil)))
    · refine .inr ⟨ty, fun H' s => hty H' (s1.trans s), hk, ?_⟩
      intro d H2 hd s2 hx
      refine ⟨true, B.te, fun _ a ha => ?_, fun z => by cases z⟩
      walk_at "rd"
      refine ⟨.ref T.CS, .ref T.CS, true, d, _, rfl, rfl, rfl, hx, fun u r => r, C.k1, ?_⟩
      walk_at "rd"
      refine ⟨.ty "ValueError", .type "ValueError", true, d, _, rfl, rfl, rfl, hx, fun u r => r, C.k2, ?_⟩
      walk_at "rd"
      refine r_xf ?_
      walk_at "rd"
      refine ⟨rfl, rfl, d, _, _, rfl, hx, by rfl, ?_⟩
      walk_at "rd"
      refine ⟨by simp, r_new fun t H3 t0 s3 ht => ?_⟩
      walk_at "rd"
      exact q _ H3 ((s1.trans s2).trans s3) (.tup ht (.cons .non (.cons (.int _) .nil)))
end
end Kt
namespace Kt
open PySem PySem.Spec PyProof.Rows L2
/-! ## 17. Two values of the same data are found alike -/
mutual
def okD : PyData → Bool
  | .none => true
  | .int _ => true
  | .tuple ds => okDs ds
  | _ => false
def okDs : List PyData → Bool
  | [] => true
  | d :: ds => okD d && okDs ds
end
mutual
def szD : PyData → Nat
  | .tuple ds => szDs ds + 1
  | _ => 1
def szDs : List PyData → Nat
  | [] => 0
  | d :: ds => szD d + szDs ds
end
theorem szD_pos (d : PyData) : 1 ≤ szD d := by
  cases d <;> unfold szD <;> omega
theorem szDs_app : ∀ (a b : List PyData), szDs (a ++ b) = szDs a + szDs b
  | [], b => by rw [List.nil_append, szDs, Nat.zero_add]
  | d :: a, b => by rw [List.cons_append, szDs, szDs, szDs_app a b, Nat.add_assoc]
theorem okDs_app : ∀ (a b : List PyData), okDs (a ++ b) = (okDs a && okDs b)
  | [], b => by rw [List.nil_append, okDs, Bool.true_and]
  | d :: a, b => by rw [List.cons_append, okDs, okDs, okDs_app a b, Bool.and_assoc]
theorem szDs_len : ∀ (a : List PyData), a.length ≤ szDs a
  | [] => Nat.zero_le _
  | d :: a => by
    have h1 := szD_pos d
    have h2 := szDs_len a
    rw [szDs, List.length_cons]
    omega
/-- a pair that waits -/
def WtAt (H : Hp) (v : V) (d : PyData) : Prop := ∃ t a b, v = .ref t ∧ H t = some (.tup [a, b]) ∧ Rp H a d ∧ Rp H b d
theorem WtAt.mono {H H' : Hp} {v : V} {d : PyData} (h : WtAt H v d) (k : ∀ t xs, H t = some (.tup xs) → H' t = some (.tup xs)) : WtAt H' v d := by
  obtain ⟨t, a, b, e, h1, h2, h3⟩ := h
  exact ⟨t, a, b, e, k _ _ h1, Rp.mono k _ _ h2, Rp.mono k _ _ h3⟩
theorem RpL.get {H : Hp} : ∀ {vs : List V} {ds : List PyData} {i : Nat} {d : PyData}, RpL H vs ds → ds[i]? = some d → ∃ v, vs[i]? = some v ∧ Rp H v d
  | [], _, _, _, r, h => by
    cases r
    cases h
  | v :: vs, _, 0, _, r, h => by
    cases r with
    | cons a t =>
      cases h
      exact ⟨_, rfl, a⟩
  | v :: vs, _, i + 1, _, r, h => by
    cases r with
    | cons a t => exact RpL.get (vs := vs) (i := i) t h
theorem Pr.last {β : Type} {R : V → β → Prop} {b : β} : ∀ {xs : List V} {ys : List β}, Paired R xs (ys ++ [b]) → ∃ xs' x, xs = xs' ++ [x] ∧ Paired R xs' ys ∧ R x b
  | _, [], .cons r .nil => ⟨[], _, rfl, .nil, r⟩
  | _, y :: ys, .cons r t => by
    obtain ⟨xs', x, rfl, p, q⟩ := Pr.last t
    exact ⟨_ :: xs', x, rfl, .cons r p, q⟩
theorem Pr.app {β : Type} {R : V → β → Prop} : ∀ {xs xs' : List V} {ys ys' : List β}, Paired R xs ys → Paired R xs' ys' → Paired R (xs ++ xs') (ys ++ ys')
  | _, _, _, _, .nil, h => h
  | _, _, _, _, .cons r t, h => .cons r (Pr.app t h)
/-- while, by a word that carries its own measure -/
theorem r_whileM {t : TS} {tt : TT} {D : Ends} {σ : L2.St} {H : Hp} (Pv : Nat → L2.St → Hp → Prop) (m0 : Nat) (h0 : Pv m0 σ H)
    (hs : ∀ m σ H, Pv m σ H → ∀ S : Bool → Hp → Prop, (∀ b H1, (b = true → t ⟨fun σ' H' => ∃ m', m' < m ∧ Pv m' σ' H', D.rt, D.nx, fun σ' H' => ∃ m', m' < m ∧ Pv m' σ' H'⟩ σ H1) → (b = false → D.nx σ H1) → S b H1) → tt σ H S) : tWhile tt t D σ H := by
  refine ⟨Pv, ⟨_, h0⟩, ?_⟩
  intro m σ H p
  refine hs m σ H p _ (fun b H1 q1 q2 => ?_)
  cases b with
  | true =>
    rw [if_pos rfl]
    exact ⟨_, fun σ' H' ⟨m', l, p'⟩ => ⟨m', l, p'⟩, q1 rfl⟩
  | false =>
    rw [if_neg Bool.false_ne_true]
    exact q2 rfl
def spAlike : Sp := fun vs H Q _ => ∃ a b d, vs = [a, b] ∧ Rp H a d ∧ Rp H b d ∧ okD d = true ∧ szD d ≤ 90000 ∧ ∀ H', Same H H' → Q (.bl true) H'
section
variable {P : Program} {w : World} {K : PySem.W.Frag} {mg : Str → Option Value} {base : Heap} {fI : Addr}
theorem ok_law_alike (T : Txt K mg) : FnOk P w K mg base CX0 1 T.f_law_alike T.d_law_alike ["told", "due"] spAlike := by
  refine T.F_law_alike.ok sc_law_alike (fun vs H Q E h => ?_) (fun cdv A outer s H vs Q E hr h => ?_)
  · obtain ⟨a, b, d, rfl, _⟩ := h
    rfl
  · obtain ⟨a, b, d, rfl, ha, hb, hd, hz, k⟩ := h
    have nd := sc_law_alike.nd
    refine ⟨_, pss_cons (ps_set (i := 2) nd rfl (Or.inl rfl) (pe_lstN (pa_cons (pe_tupN (pa_cons (pv 0) (pa_cons (pv 1) pa_nil))) pa_nil)))
      (pss_cons (ps_while PassesOwn.never (pt_cmpR (op_neNil hr.units0) (pv 2) (pe_lstN pa_nil) (nomark _))
        (pss_cons (ps_asg (pe_bm0 PySem.F.plainAttrs_list PySem.F.slot_list_pop PySem.F.type_list_pop mt_popN (pv 2)) (pg_tup rfl (pgs_cons (pg_name (i := 3) nd rfl (Or.inr rfl)) (pgs_cons (pg_name (i := 4) nd rfl (Or.inr rfl)) pgs_nil))))
        (pss_one (ps_if (pt_val (pe_callB call_isi (by rfl) T.z_isinstance boot_isinstance (pa_cons (pv 4) (pa_cons (pe_bltn (v := .ty "tuple") (by rfl) T.z_tuple boot_tuple rfl) pa_nil))))
          (pss_cons (ps_if (PW.pt (pw_or (pt_not (pt_val (pe_callB call_isi (by rfl) T.z_isinstance boot_isinstance (pa_cons (pv 3) (pa_cons (pe_bltn (v := .ty "tuple") (by rfl) T.z_tuple boot_tuple rfl) pa_nil)))))
              (pw_or1 (pt_cmpR op_ne (pe_callB call_lenL (by rfl) T.z_len PySem.boot_len (pa_cons (pv 3) pa_nil)) (pe_callB call_lenL (by rfl) T.z_len PySem.boot_len (pa_cons (pv 4) pa_nil)) (nomark _)))))
            (pss_one (ps_ret pe_bl)) pss_nil)
          (pss_one (ps_set (i := 2) nd rfl (Or.inl rfl) (pe_op op_catN (pv 2) (pe_lc (own := [("k", 5)]) (g := gName 5) (tt := tYes) (te := tTupN (tCons (tOp (rIxT K) (tVar 3) (tVar 5)) (tCons (tOp (rIxT K) (tVar 4) (tVar 5)) tNil))) rfl nd (pi_range1 (by rfl) T.z_range (pa_cons (pe_callB call_lenL (by rfl) T.z_len PySem.boot_len (pa_cons (pv 4) pa_nil)) pa_nil))
              (blkOk_by (N := n_law_alike) (sc := defScope s_law_alike) (by decide +kernel)) (fun _ _ _ _ _ => pg_name (i := 5) nd rfl (Or.inl rfl)) (fun _ _ _ _ _ => pts_nil)
              (fun _ _ _ _ _ => pe_tupN (pa_cons (pe_ix ix_tup (pv 3) (pv 5) (fun _ _ => rfl)) (pa_cons (pe_ix ix_tup (pv 4) (pv 5) (fun _ _ => rfl)) pa_nil))))))))
          (pss_one (ps_if (pt_cmpR op_isN1 (pv 4) pe_non rfl)
            (pss_one (ps_if (pt_cmpR op_notN1 (pv 3) pe_non rfl) (pss_one (ps_ret pe_bl)) pss_nil))
            (pss_one (ps_if (pt_val (pe_callB call_isi (by rfl) T.z_isinstance boot_isinstance (pa_cons (pv 4) (pa_cons (pe_bltn (v := .ty "bool") (by rfl) T.z_bool boot_bool rfl) pa_nil))))
              (pss_one (ps_if (PW.pt (pw_or (pt_not (pt_val (pe_callB call_isi (by rfl) T.z_isinstance boot_isinstance (pa_cons (pv 3) (pa_cons (pe_bltn (v := .ty "bool") (by rfl) T.z_bool boot_bool rfl) pa_nil)))))
                (pw_or1 (pt_cmpR op_ne (pv 3) (pv 4) (nomark _))))) (pss_one (ps_ret pe_bl)) pss_nil))
              (pss_one (ps_if (pt_val (pe_callB call_isi (by rfl) T.z_isinstance boot_isinstance (pa_cons (pv 4) (pa_cons (pe_bltn (v := .ty "str") (by rfl) T.z_str boot_str rfl) pa_nil))))
                (pss_one (ps_if (PW.pt (pw_or (pt_not (pt_val (pe_callB call_isi (by rfl) T.z_isinstance boot_isinstance (pa_cons (pv 3) (pa_cons (pe_bltn (v := .ty "str") (by rfl) T.z_str boot_str rfl) pa_nil)))))
                  (pw_or1 (pt_cmpR op_ne (pv 3) (pv 4) (nomark _))))) (pss_one (ps_ret pe_bl)) pss_nil))
                (pss_one (ps_if (PW.pt (pw_or (pt_not (pt_val (pe_callB call_isi (by rfl) T.z_isinstance boot_isinstance (pa_cons (pv 3) (pa_cons (pe_bltn (v := .ty "int") (by rfl) T.z_int boot_int rfl) pa_nil)))))
                  (pw_or (pt_val (pe_callB call_isi (by rfl) T.z_isinstance boot_isinstance (pa_cons (pv 3) (pa_cons (pe_bltn (v := .ty "bool") (by rfl) T.z_bool boot_bool rfl) pa_nil))))
                  (pw_or1 (pt_cmpR op_ne (pv 3) (pv 4) (nomark _)))))) (pss_one (ps_ret pe_bl)) pss_nil))))))))))))
      (pss_one (ps_ret pe_bl))), ?_⟩
    walk_at "rd"
    refine ⟨by simp, r_new fun t H1 t0 s1 ht => ?_⟩
    walk_at "rd"
    refine ⟨by simp, r_new fun wl H2 wl0 s2 hwl => ?_⟩
    walk_at "rd"
    refine r_whileM (fun m σ H' => ∃ (wl : Addr) (xs : List V) (ds : List PyData) (o1 o2 : Option V), σ = [some a, some b, some (.ref wl), o1, o2, none] ∧ Same H H' ∧ H wl = none ∧ H' wl = some (.lst xs) ∧ Paired (WtAt H') xs ds ∧ okDs ds = true ∧ szDs ds = m ∧ m ≤ 90000) (szD d)
      ⟨wl, _, [d], none, none, rfl, s1.trans s2, s1.free wl0, hwl, ?_, ?_, ?_, hz⟩ ?_
    · exact .cons ⟨t, a, b, rfl, s2 _ _ ht, Rp.mono (tup_same (s1.trans s2)) _ _ ha, Rp.mono (tup_same (s1.trans s2)) _ _ hb⟩ .nil
    · rw [okDs, hd, okDs]; rfl
    · rw [szDs, szDs, Nat.add_zero]
    rintro m σ H3 ⟨wl', xs, ds, o1, o2, rfl, s3, wn, hxs, hp, hok, hsz, hm⟩ S hS
    walk_at "rd"
    refine ⟨by simp, r_new fun nl H4 nl0 s4 hnl => ?_⟩
    have hxs4 := s4 _ _ hxs
    refine r_neNil (SqL.of hxs4) (SqL.of hnl) ?_
    walk_at "rd"
    refine hS _ _ (fun hne => ?_) (fun he => ?_)
    · -- one pair
      have hds : ds ≠ [] := fun e => by
        subst e
        cases hp
        cases hne
      obtain ⟨ds', d', rfl⟩ : ∃ ds' d', ds = ds' ++ [d'] := ⟨ds.dropLast, ds.getLast hds, (List.dropLast_concat_getLast hds).symm⟩
      obtain ⟨xs', x, rfl, hp', t', a', b', rfl, ht', ha', hb'⟩ := Pr.last hp
      rw [okDs_app, Bool.and_eq_true, okDs, okDs, Bool.and_true] at hok
      rw [szDs_app, szDs, szDs, Nat.add_zero] at hsz
      have hpos := szD_pos d'
      have hlen : xs'.length ≤ szDs ds' := by
        rw [hp'.length]
        exact szDs_len _
      clear hS hds hne hnl
      walk_at "rd"
      refine r_tyl hxs4 ?_
      refine ⟨wl', xs', _, rfl, rfl, hxs4, r_chg fun H5 e5 h5 => ?_⟩
      have t5 : ∀ t xs, H3 t = some (.tup xs) → H5 t = some (.tup xs) := fun t ys e => tup_but hxs4 e5 _ _ (s4 _ _ e)
      have s5 : Same H H5 := same_but (s3.trans s4) wn e5
      refine r_gtup (SqT.of (t5 _ _ ht')) rfl ?_
      walk_at "rd"
      have ha5 := Rp.mono t5 _ _ ha'
      have hb5 := Rp.mono t5 _ _ hb'
      have hp5 : Paired (WtAt H5) xs' ds' := Paired.mono (fun v x q => q.mono t5) hp'
      have stay : ∃ m', m' < m ∧ ∃ (wl : Addr) (xs : List V) (ds : List PyData) (o1 o2 : Option V), [some a, some b, some (V.ref wl'), some a', some b', none] = [some a, some b, some (.ref wl), o1, o2, none] ∧ Same H H5 ∧ H wl = none ∧ H5 wl = some (.lst xs) ∧ Paired (WtAt H5) xs ds ∧ okDs ds = true ∧ szDs ds = m' ∧ m' ≤ 90000 :=
        ⟨szDs ds', by omega, wl', xs', ds', _, _, rfl, s5, wn, h5, hp5, hok.1, rfl, by omega⟩
      cases d' with
      | none =>
        cases ha5
        cases hb5
        refine r_isi (.base .non) (show kitB "NoneType" "tuple" = some false by decide +kernel) ?_
        walk_at "rd"
        refine ⟨rfl, ?_⟩
        walk_at "rd"
        refine ⟨rfl, ?_⟩
        walk_at "rd"
        exact stay
      | int i =>
        cases ha5
        cases hb5
        refine r_isi (.base (.int i)) (show kitB "int" "tuple" = some false by decide +kernel) ?_
        walk_at "rd"
        refine ⟨rfl, ?_⟩
        walk_at "rd"
        refine r_isi (.base (.int i)) (show kitB "int" "bool" = some false by decide +kernel) ?_
        walk_at "rd"
        refine r_isi (.base (.int i)) (show kitB "int" "str" = some false by decide +kernel) ?_
        walk_at "rd"
        refine r_isi (.base (.int i)) (show kitB "int" "int" = some true by decide +kernel) ?_
        walk_at "rd"
        refine r_isi (.base (.int i)) (show kitB "int" "bool" = some false by decide +kernel) ?_
        walk_at "rd"
        refine iteBF (by simp) ?_
        walk_at "rd"
        exact stay
      | tuple es =>
        cases ha5 with
        | @tup ta xa _ hta hra =>
        cases hb5 with
        | @tup tb xb _ htb hrb =>
        have la := hra.length
        have lb := hrb.length
        refine r_isi (.base (.tup htb)) (show kitB "tuple" "tuple" = some true by decide +kernel) ?_
        walk_at "rd"
        refine r_isi (.base (.tup hta)) (show kitB "tuple" "tuple" = some true by decide +kernel) ?_
        walk_at "rd"
        refine r_lenT (SqT.of hta) ?_
        walk_at "rd"
        refine r_lenT (SqT.of htb) ?_
        walk_at "rd"
        refine iteBF (by simp; omega) ?_
        walk_at "rd"
        refine r_iRng ?_
        walk_at "rd"
        refine r_lenT (SqT.of htb) ?_
        walk_at "rd"
        have hes : szD (.tuple es) = szDs es + 1 := by rw [szD]
        have hel := szDs_len es
        have hoe : okDs es = true := hok.2
        refine ⟨_, rfl, by omega, by omega, ?_⟩
        rw [Int.toNat_natCast]
        refine r_lcW walk_range (fun D i H' => Same H5 H' ∧ ∃ acc, H' D = some (.lst acc) ∧ Paired (WtAt H') acc (es.take i)) (fun D H' _ s1 hD => ⟨s1, [], hD, by rw [List.take_zero]; exact .nil⟩) (fun _ _ _ _ _ _ => trivial) ?_ ?_
        · rintro D i x H6 H7 hD hi ⟨s6, acc, hacc, hpa⟩ ⟨rfl, hx⟩
          have hx : x = V.int (i : Int) := hx.trans (by show V.int (0 + (i : Int)) = _; rw [Int.zero_add])
          subst hx
          walk_at "rd"
          refine ⟨rfl, ?_⟩
          walk_at "rd"
          have hei : es[i]? = some (es[i]'(by omega)) := List.getElem?_eq_getElem (by omega)
          obtain ⟨va, hva, hra'⟩ := RpL.get hra hei
          obtain ⟨vb, hvb, hrb'⟩ := RpL.get hrb hei
          refine r_ixT (SqT.of (s6 _ _ hta)) (atI_nat hva) ?_
          walk_at "rd"
          refine r_ixT (SqT.of (s6 _ _ htb)) (atI_nat hvb) ?_
          walk_at "rd"
          refine ⟨by simp, r_new fun tt H8 tt0 s8 htt => ?_⟩
          have la : acc.length = i := by
            rw [hpa.length, List.length_take]
            omega
          refine r_acc (s8 _ _ hacc) (by omega) (r_chg fun H9 e9 h9 => ?_)
          have t9 : ∀ t xs, H7 t = some (.tup xs) → H9 t = some (.tup xs) := fun t ys e => tup_but (s8 _ _ hacc) e9 _ _ (s8 _ _ e)
          refine ⟨same_but (s6.trans s8) hD e9, _, h9, ?_⟩
          rw [List.take_add_one, hei]
          refine Pr.app (Paired.mono (fun v x q => q.mono t9) hpa) (.cons ⟨tt, va, vb, rfl, tup_but (s8 _ _ hacc) e9 _ _ htt, ?_, ?_⟩ .nil)
          · exact Rp.mono (fun t ys e => t9 _ _ (tup_same s6 _ _ e)) _ _ hra'
          · exact Rp.mono (fun t ys e => t9 _ _ (tup_same s6 _ _ e)) _ _ hrb'
        · rintro D H6 hD ⟨s6, acc, hacc, hpa⟩
          rw [lb, List.take_length] at hpa
          have la : acc.length = es.length := hpa.length
          refine r_cat (s6 _ _ h5) hacc (by omega) (r_new fun wl2 H7 wl20 s7 hwl2 => ?_)
          walk_at "rd"
          refine ⟨szDs (ds' ++ es), by rw [szDs_app]; omega, wl2, _, ds' ++ es, _, _, rfl, s5.trans (s6.trans s7), (s5.trans s6).free wl20, hwl2, ?_, ?_, rfl, by rw [szDs_app]; omega⟩
          · exact Pr.app (Paired.mono (fun v x q => q.mono (tup_same (s6.trans s7))) hp5) (Paired.mono (fun v x q => q.mono (tup_same s7)) hpa)
          · rw [okDs_app, hok.1, hoe]
            rfl
      | bool x => exact absurd hok.2 (by unfold okD; exact Bool.false_ne_true)
      | str x => exact absurd hok.2 (by unfold okD; exact Bool.false_ne_true)
      | list x => exact absurd hok.2 (by unfold okD; exact Bool.false_ne_true)
      | dict x => exact absurd hok.2 (by unfold okD; exact Bool.false_ne_true)
    · walk_at "rd"
      exact k _ (s3.trans s4)
end
end Kt
namespace Kt
open PySem PySem.Spec PyProof.Rows L2
/-! ## 18. How large what is read can be -/
theorem bnd_in {α β : Type} {r : Rs α} {f : α → Nat → Rs β} {k2 : Nat} {b : β} (h : bnd r f = .ok (b, k2)) : ∃ a k1, r = .ok (a, k1) ∧ f a k1 = .ok (b, k2) := by
  cases r with
  | error e => cases h
  | ok r =>
    obtain ⟨a, k1⟩ := r
    exact ⟨a, k1, rfl, h⟩
section
variable {W : List (Str × Nat)} {n : Nat}
theorem num_in {l m k a k' : Nat} (h : num W n l m k = .ok (a, k')) : k' = k + 1 ∧ k' ≤ W.length := by
  unfold num at h
  split at h
  · rename_i c
    cases h
    refine ⟨rfl, ?_⟩
    have : wd W k ≠ "" := fun e => by
      have := c.1
      rw [e, num_empty] at this
      cases this
    exact wd_len this
  · cases h
theorem var_in {l m k a k' : Nat} (h : var W n l m k = .ok (a, k')) : k' = k + 1 ∧ k' ≤ W.length := by
  unfold var at h
  split at h
  · rename_i c
    cases h
    refine ⟨rfl, ?_⟩
    have : wd W k ≠ "" := fun e => by
      have := c.1
      rw [e, (by decide +kernel : isVar (cp "") = false)] at this
      cases this
    exact wd_len this
  · cases h
theorem lit_in {l m k a k' : Nat} (h : lit W n l m k = .ok (a, k')) : k + 1 ≤ k' ∧ k' ≤ W.length := by
  unfold lit at h
  split at h
  · obtain ⟨a1, k1, e1, e2⟩ := bnd_in h
    have := var_in e1
    cases e2
    omega
  · obtain ⟨a1, k1, e1, e2⟩ := bnd_in h
    have := var_in e1
    cases e2
    omega
theorem term_in {l x m k k' : Nat} {a : Nat × Nat} (h : term W n l x m k = .ok (a, k')) : k + 2 ≤ k' ∧ k' ≤ W.length := by
  unfold term at h
  obtain ⟨a1, k1, e1, e2⟩ := bnd_in h
  obtain ⟨a2, k2, e3, e4⟩ := bnd_in e2
  have h1 := num_in e1
  have h2 := lit_in e3
  cases e4
  omega
theorem rest_in {x m : Nat} : ∀ {f prev k k' : Nat} {a : List (Nat × Nat)}, k ≤ W.length → restT W n x m f prev k = .ok (a, k') → k + a.length ≤ k' ∧ k' ≤ W.length
  | 0, _, _, _, _, _, h => by cases h
  | f + 1, prev, k, k', a, hk, h => by
    unfold restT at h
    split at h
    · obtain ⟨a1, k1, e1, e2⟩ := bnd_in h
      obtain ⟨a2, k2, e3, e4⟩ := bnd_in e2
      have h1 := term_in e1
      have h2 := rest_in h1.2 e3
      cases e4
      rw [List.length_cons]
      omega
    · cases h
      exact ⟨Nat.le_refl _, hk⟩
theorem terms_in {x m k k' : Nat} {a : List (Nat × Nat)} (h : terms W n x m k = .ok (a, k')) : k + a.length ≤ k' ∧ k' ≤ W.length := by
  unfold terms at h
  split at h
  · rename_i c
    cases h
    have : k < W.length := wd_len (by rw [c]; decide +kernel)
    exact ⟨by rw [List.length_nil]; omega, this⟩
  · obtain ⟨a1, k1, e1, e2⟩ := bnd_in h
    obtain ⟨a2, k2, e3, e4⟩ := bnd_in e2
    have h1 := term_in e1
    have h2 := rest_in h1.2 e3
    cases e4
    rw [List.length_cons]
    omega
theorem mark_in {s : Str} {k k' : Nat} {a : Unit} (hs : s ≠ "") (h : mark W n s k = .ok (a, k')) : k' = k + 1 ∧ k' ≤ W.length := by
  unfold mark at h
  split at h
  · rename_i c
    cases h
    exact ⟨rfl, wd_len (by rw [c]; exact hs)⟩
  · cases h
theorem numI_in {m k k' : Nat} {a : Int} (h : numI W n m k = .ok (a, k')) : k + 1 ≤ k' ∧ k' ≤ W.length := by
  unfold numI at h
  split at h
  · obtain ⟨a1, k1, e1, e2⟩ := bnd_in h
    have h1 := num_in e1
    cases e2
    omega
  · obtain ⟨a1, k1, e1, e2⟩ := bnd_in h
    have h1 := num_in e1
    cases e2
    omega
theorem sum_in {x m k k' : Nat} {a : List (Nat × Nat) × Int} (h : sum1 W n x m k = .ok (a, k')) : k + a.1.length + 3 ≤ k' ∧ k' ≤ W.length := by
  unfold sum1 at h
  obtain ⟨a1, k1, e1, e2⟩ := bnd_in h
  obtain ⟨a2, k2, e3, e4⟩ := bnd_in e2
  obtain ⟨a3, k3, e5, e6⟩ := bnd_in e4
  obtain ⟨a4, k4, e7, e8⟩ := bnd_in e6
  have h1 := terms_in e1
  have h2 := mark_in (by decide +kernel) e3
  have h3 := mark_in (by decide +kernel) e5
  have h4 := numI_in e7
  cases e8
  show k + a1.length + 3 ≤ k' ∧ _
  omega
theorem price_in {x m k k' : Nat} {a : List (Nat × Nat) × Int} (h : price1 W n x m k = .ok (a, k')) : k + a.1.length + 2 ≤ k' ∧ k' ≤ W.length := by
  unfold price1 at h
  obtain ⟨a1, k1, e1, e2⟩ := bnd_in h
  obtain ⟨a2, k2, e3, e4⟩ := bnd_in e2
  obtain ⟨a4, k4, e7, e8⟩ := bnd_in e4
  have h1 := terms_in e1
  have h2 := mark_in (by decide +kernel) e3
  have h4 := numI_in e7
  cases e8
  show k + a1.length + 2 ≤ k' ∧ _
  omega
theorem szDs_map {α : Type} (g : α → PyData) (c : Nat) : ∀ (l : List α), (∀ a ∈ l, szD (g a) ≤ c) → szDs (l.map g) ≤ c * l.length
  | [], _ => by rw [List.map_nil, szDs]; omega
  | a :: l, h => by
    have h1 := h a List.mem_cons_self
    have h2 := szDs_map g c l fun b hb => h b (List.mem_cons_of_mem _ hb)
    rw [List.map_cons, szDs, List.length_cons, Nat.mul_succ]
    omega
theorem okDs_map {α : Type} (g : α → PyData) (hg : ∀ a, okD (g a) = true) : ∀ (l : List α), okDs (l.map g) = true
  | [] => by rw [List.map_nil, okDs]
  | a :: l => by rw [List.map_cons, okDs, hg, okDs_map g hg l]; rfl
theorem ok_sumD (s : List (Nat × Nat) × Int) : okD (sumD s) = true := by
  unfold sumD termsD
  have h := okDs_map termD (fun t => by unfold termD; simp [okD, okDs]) s.1
  simp [okD, okDs, h]
theorem sz_sumD (s : List (Nat × Nat) × Int) : szD (sumD s) ≤ 3 * s.1.length + 3 := by
  have h := szDs_map termD 3 s.1 fun t _ => by unfold termD; simp [szD, szDs]
  unfold sumD termsD
  rw [szD, szDs, szD, szDs, szDs]
  have : szD (.int s.2) = 1 := by simp [szD]
  omega
theorem sums_in {x m : Nat} : ∀ {f k k' : Nat} {a : List (List (Nat × Nat) × Int)}, k ≤ W.length → sumsL W n x m f k = .ok (a, k') → 3 * k + szDs (a.map sumD) ≤ 3 * k' ∧ k' ≤ W.length
  | 0, _, _, _, _, h => by cases h
  | f + 1, k, k', a, hk, h => by
    rw [sumsL] at h
    split at h
    · obtain ⟨a1, k1, e1, e2⟩ := bnd_in h
      obtain ⟨a2, k2, e3, e4⟩ := bnd_in e2
      have h1 := sum_in e1
      have h2 := sums_in h1.2 e3
      have h3 := sz_sumD a1
      cases e4
      rw [List.map_cons, szDs]
      omega
    · cases h
      rw [List.map_nil, szDs]
      exact ⟨Nat.le_refl _, hk⟩
theorem priceO_in {x m k k' : Nat} {a : Option (List (Nat × Nat) × Int)} (hk : k ≤ W.length) (h : priceO W n x m k = .ok (a, k')) : 3 * k + szD (priceD a) ≤ 3 * k' + 1 ∧ k' ≤ W.length := by
  unfold priceO at h
  split at h
  · obtain ⟨a1, k1, e1, e2⟩ := bnd_in h
    have h1 := price_in e1
    have h3 := sz_sumD a1
    cases e2
    show 3 * k + szD (sumD a1) ≤ _ ∧ _
    omega
  · cases h
    refine ⟨?_, hk⟩
    have : szD (priceD none) = 1 := by simp [priceD, szD]
    omega
end
theorem read_ok (z : Str) : okD (readD z) = true := by
  unfold readD
  cases probAt z with
  | error x => rfl
  | ok p =>
    obtain ⟨⟨many, s, p⟩, k⟩ := p
    show okD (.tuple [probD (many, s, p), .int (-1)]) = true
    have hp : okD (priceD p) = true := by
      cases p with
      | none => rfl
      | some q => exact ok_sumD q
    have hs := okDs_map sumD ok_sumD s
    simp [probD, okD, okDs, hp, hs]
theorem read_sz {z : Str} (hz : z.length ≤ 25000) : szD (readD z) ≤ 90000 := by
  unfold readD
  cases e : probAt z with
  | error x => exact (by decide : 3 ≤ 90000)
  | ok p =>
    obtain ⟨⟨many, s, p⟩, k⟩ := p
    show szD (.tuple [probD (many, s, p), .int (-1)]) ≤ 90000
    have hl : (splitW 0 (cp z)).length ≤ 25000 := by
      have := splitW_len (cp z) 0
      rw [cp_len] at this
      omega
    unfold probAt prob at e
    obtain ⟨a1, k1, e1, f1⟩ := bnd_in e
    obtain ⟨a2, k2, e2, f2⟩ := bnd_in f1
    obtain ⟨a3, k3, e3, f3⟩ := bnd_in f2
    obtain ⟨a4, k4, e4, f4⟩ := bnd_in f3
    obtain ⟨a5, k5, e5, f5⟩ := bnd_in f4
    cases f5
    have h2 := num_in e2
    have h3 := priceO_in h2.2 e3
    have h4 := sums_in h3.2 e4
    have hh : szD (.tuple [probD (many, s, p), .int (-1)]) = szDs (s.map sumD) + szD (priceD p) + 5 := by
      simp only [probD, szD, szDs]
      omega
    omega
end Kt
namespace Kt
open PySem PySem.Spec PyProof.Rows L2
/-! ## 19. The deck, a pick -/
def Ints (xs : List V) : Prop := ∀ x ∈ xs, ∃ i : Int, x = .int i
/-- the deck at d, its cells at c -/
def Dk (d c : Addr) (H : Hp) : Prop := c ≠ d ∧ ∃ (xs : List V) (u v : Int), H d = some (.lst [.ref c, .int u, .int v]) ∧ H c = some (.lst xs) ∧ Ints xs
/-- all but the deck's own two lists -/
def Ko (d c : Addr) (H H' : Hp) : Prop := ∀ b o, b ≠ d → b ≠ c → H b = some o → H' b = some o
theorem Ko.refl {d c : Addr} {H : Hp} : Ko d c H H := fun _ _ _ _ h => h
theorem Ko.trans {d c : Addr} {H H1 H2 : Hp} (a : Ko d c H H1) (b : Ko d c H1 H2) : Ko d c H H2 := fun x o h1 h2 e => b x o h1 h2 (a x o h1 h2 e)
theorem Ko.of {d c : Addr} {H H' : Hp} (s : Same H H') : Ko d c H H' := fun b o _ _ h => s b o h
theorem Dk.same {d c : Addr} {H H' : Hp} (a : Dk d c H) (s : Same H H') : Dk d c H' := by
  obtain ⟨n, xs, u, v, h1, h2, h3⟩ := a
  exact ⟨n, xs, u, v, s _ _ h1, s _ _ h2, h3⟩
theorem Dk.tups {d c : Addr} {H H' : Hp} (a : Dk d c H) (k : Ko d c H H') : ∀ t xs, H t = some (.tup xs) → H' t = some (.tup xs) := fun t xs e => by
  obtain ⟨n, ys, u, v, h1, h2, h3⟩ := a
  exact k t _ (ne_of e h1 (fun z => nomatch z)) (ne_of e h2 (fun z => nomatch z)) e
/-- a fresh list is none of the deck's -/
theorem Dk.ne {d c l : Addr} {H : Hp} (a : Dk d c H) (h : H l = none) : l ≠ d ∧ l ≠ c := by
  obtain ⟨n, ys, u, v, h1, h2, h3⟩ := a
  refine ⟨fun e => ?_, fun e => ?_⟩
  · rw [e, h1] at h
    cases h
  · rw [e, h2] at h
    cases h
/-- a list of one's own changes -/
theorem Dk.but {d c l : Addr} {H H' : Hp} (a : Dk d c H) (hd : l ≠ d) (hc : l ≠ c) (e : ∀ b, b ≠ l → H' b = H b) : Dk d c H' := by
  obtain ⟨n, xs, u, v, h1, h2, h3⟩ := a
  exact ⟨n, xs, u, v, by rw [e _ (Ne.symm hd)]; exact h1, by rw [e _ (Ne.symm hc)]; exact h2, h3⟩
theorem Ko.but {d c l : Addr} {H H1 H2 : Hp} (k : Ko d c H H1) (l0 : H l = none) (e : ∀ b, b ≠ l → H2 b = H1 b) : Ko d c H H2 := fun b o h1 h2 q => by
  rw [e b (ne_of_none q l0)]
  exact k b o h1 h2 q
theorem r_iLst {K : PySem.W.Frag} {te : TE} {σ : L2.St} {H : Hp} {R : It → Hp → Prop} (q : te σ H fun x H1 => ∃ a, x = .ref a ∧ (∃ xs, SqL K H1 a xs) ∧ R (Itl K a) H1) : iList K te σ H R := q
theorem cutV_len (xs : List V) : (cutV xs none (some 63)).length ≤ 63 := by
  unfold cutV
  have e : HT.sIx xs.length xs.length (some (63 : Int)) = min 63 xs.length := HT.sIx_nat _ _ 63
  rw [e, List.length_take]
  omega
theorem cutV_mem {xs : List V} {lo hi : Option Int} {x : V} (h : x ∈ cutV xs lo hi) : x ∈ xs := List.mem_of_mem_drop (List.mem_of_mem_take h)
def spPick : Sp := fun vs H Q _ => ∃ (d c : Addr) (m : Int), vs = [.ref d, .int m] ∧ Dk d c H ∧ 1 ≤ m ∧ m < 1000000 ∧ ∀ (r : Int) H', 0 ≤ r → r < m → Ko d c H H' → Dk d c H' → Q (.int r) H'
def spDeck (K : PySem.W.Frag) : Sp := fun vs H Q _ => ∃ (a : Addr) (xs : List V), vs = [.ref a] ∧ SqL K H a xs ∧ Ints xs ∧ ∀ d c H', Same H H' → Dk d c H' → Q (.ref d) H'
theorem fmod_in {i m : Int} (h : 1 ≤ m) : 0 ≤ i.fmod m ∧ i.fmod m < m := by
  have e := Int.fmod_eq_emod_of_nonneg i (show 0 ≤ m by omega)
  rw [e]
  exact ⟨Int.emod_nonneg _ (by omega), Int.emod_lt_of_pos _ (by omega)⟩
theorem pow18 : CPow 10 18 := by refine ⟨?_, ?_, ?_⟩ <;> decide +kernel
theorem pow60 : CPow 10 60 := by refine ⟨?_, ?_, ?_⟩ <;> decide +kernel
/-- deck[1] = x, deck[2] = x -/
theorem set1 {d c : Addr} {H : Hp} {xs : List V} {u v x : Int} {S : Hp → Prop} (hd : H d = some (.lst [.ref c, .int u, .int v])) (hS : ∀ H', (∀ b, b ≠ d → H' b = H b) → H' d = some (.lst [.ref c, .int x, .int v]) → S H') : rSetN (.ref d) (.int 1) (.int x) H S :=
  ⟨d, _, 1, 1, rfl, rfl, hd, rfl, fun H' e1 h1 => hS H' e1 h1⟩
theorem set2 {d c : Addr} {H : Hp} {xs : List V} {u v x : Int} {S : Hp → Prop} (hd : H d = some (.lst [.ref c, .int u, .int v])) (hS : ∀ H', (∀ b, b ≠ d → H' b = H b) → H' d = some (.lst [.ref c, .int u, .int x]) → S H') : rSetN (.ref d) (.int 2) (.int x) H S :=
  ⟨d, _, 2, 2, rfl, rfl, hd, rfl, fun H' e1 h1 => hS H' e1 h1⟩
section
variable {P : Program} {w : World} {K : PySem.W.Frag} {mg : Str → Option Value} {base : Heap} {fI : Addr}
theorem ok_law_pick (T : Txt K mg) : FnOk P w K mg base CX0 1 T.f_law_pick T.d_law_pick ["deck", "many"] spPick := by
  refine T.F_law_pick.ok sc_law_pick (fun vs H Q E h => ?_) (fun cdv A outer s H vs Q E hr h => ?_)
  · obtain ⟨d, c, m, rfl, _⟩ := h
    rfl
  · obtain ⟨d, c, m, rfl, ⟨hcd, xs, u, v, hd, hc, hi⟩, h1, h2, q⟩ := h
    have nd := sc_law_pick.nd
    refine ⟨_, pss_cons (ps_set (i := 2) nd rfl (Or.inl rfl) (pe_ix ix_list (pv 0) pe_int (fun _ _ => rfl)))
      (pss_cons (ps_if (PW.pt (pw_and (pt_cmpR op_lt (pe_ix ix_list (pv 0) pe_int (fun _ _ => rfl)) (pe_op op_pow pe_int pe_int) (nomark _)) (pw_and1 (pt_cmpR (op_neNil hr.units0) (pv 2) (pe_lstN pa_nil) (nomark _)))))
        (pss_cons (ps_set (i := 3) nd rfl (Or.inl rfl) (pe_bm PySem.F.plainAttrs_list PySem.F.slot_list_pop PySem.F.type_list_pop mt_pop0N (pv 2) (pa_cons pe_int pa_nil)))
        (pss_cons (ps_set (i := 4) nd rfl (Or.inl rfl) (pe_op op_add (pe_op op_mul pe_int (pe_callB call_absI (by rfl) T.z_abs boot_abs (pa_cons (pv 3) pa_nil))) (pe_callTy call_intB (by rfl) T.z_int boot_int (pa_cons (pe_cmpR op_lt (pv 3) pe_int (nomark _)) pa_nil))))
        (pss_one (ps_if (pt_cmpR op_ge (pv 4) (pe_op op_pow pe_int pe_int) (nomark _))
          (pss_one (ps_asg (pe_op op_modN (pe_callTy call_intI (by rfl) T.z_int boot_int (pa_cons (pv 4) pa_nil)) (pe_op op_pow pe_int pe_int)) (pg_sub (pv 0) pe_int set_listN)))
          (pss_one (ps_asg (pe_op op_modN (pe_callTy call_intI (by rfl) T.z_int boot_int (pa_cons (pe_op op_add (pe_op op_add (pe_op op_mul (pe_ix ix_list (pv 0) pe_int (fun _ _ => rfl)) pe_int)
              (pe_op op_mul (pe_op op_modN (pe_callTy call_intI (by rfl) T.z_int boot_int (pa_cons (pv 4) pa_nil)) pe_int) pe_int)) pe_int) pa_nil)) pe_int) (pg_sub (pv 0) pe_int set_listN))))))) pss_nil)
      (pss_cons (ps_if (pt_cmpR op_ge (pe_ix ix_list (pv 0) pe_int (fun _ _ => rfl)) (pe_op op_pow pe_int pe_int) (nomark _))
        (pss_cons (ps_set (i := 5) nd rfl (Or.inl rfl) (pe_op op_modN (pe_callTy call_intI (by rfl) T.z_int boot_int (pa_cons (pe_ix ix_list (pv 0) pe_int (fun _ _ => rfl)) pa_nil)) (pv 1)))
        (pss_cons (ps_asg (pe_op op_fdivN (pe_ix ix_list (pv 0) pe_int (fun _ _ => rfl)) (pv 1)) (pg_sub (pv 0) pe_int set_listN))
        (pss_one (ps_ret (pv 5))))) pss_nil)
      (pss_cons (ps_asg (pe_op op_modN (pe_callTy call_intI (by rfl) T.z_int boot_int (pa_cons (pe_op op_add (pe_op op_mul (pe_ix ix_list (pv 0) pe_int (fun _ _ => rfl)) pe_int) pe_int) pa_nil)) pe_int) (pg_sub (pv 0) pe_int set_listN))
      (pss_one (ps_ret (pe_op op_modN (pe_callTy call_intI (by rfl) T.z_int boot_int (pa_cons (pe_op op_fdivN (pe_ix ix_list (pv 0) pe_int (fun _ _ => rfl)) pe_int) pa_nil)) (pv 1))))))), ?_⟩
    refine r_seq ?_
    walk_at "re"
    refine r_ixL (SqL.of hd) (atI_nat (j := 0) rfl) ?_
    walk_at "re"
    refine r_mid (fun σ' H' => ∃ (a b : Option V) (xs : List V) (u v : Int), σ' = [some (.ref d), some (.int m), some (.ref c), a, b, none] ∧ Ko d c H H' ∧ H' d = some (.lst [.ref c, .int u, .int v]) ∧ H' c = some (.lst xs) ∧ Ints xs) ?_ fun n hn => ?_
    · rintro _ H1 ⟨a, b, ys, u', v', rfl, k1, hd1, hc1, hi1⟩
      walk_at "rd"
      refine r_ixL (SqL.of hd1) (atI_nat (j := 1) rfl) ?_
      walk_at "rd"
      refine r_I pow6 ?_
      walk_at "rd"
      refine iteB (fun h => ?_) (fun h => ?_)
      · walk_at "rd"
        refine r_ixL (SqL.of hd1) (atI_nat (j := 1) rfl) ?_
        walk_at "rd"
        refine r_I (show m ≠ 0 by omega) ?_
        walk_at "rd"
        refine r_ixL (SqL.of hd1) (atI_nat (j := 1) rfl) ?_
        walk_at "rd"
        refine r_I ⟨by omega, by omega⟩ ?_
        walk_at "rd"
        refine set1 (xs := ys) hd1 fun H2 e2 hd2 => ?_
        walk_at "rd"
        refine q _ H2 (fmod_in h1).1 (fmod_in h1).2 (k1.trans fun x o q1 q2 e => by rw [e2 x q1]; exact e) ⟨hcd, ys, _, _, hd2, by rw [e2 c hcd]; exact hc1, hi1⟩
      · walk_at "rd"
        refine r_ixL (SqL.of hd1) (atI_nat (j := 2) rfl) ?_
        walk_at "rd"
        refine r_I (.inr ⟨by decide, by decide⟩) ?_
        walk_at "rd"
        refine r_I (show (2147483647 : Int) ≠ 0 by decide) ?_
        walk_at "rd"
        refine set2 (xs := ys) hd1 fun H2 e2 hd2 => ?_
        walk_at "rd"
        refine r_ixL (SqL.of hd2) (atI_nat (j := 2) rfl) ?_
        walk_at "rd"
        refine r_I ⟨by decide, by decide⟩ ?_
        walk_at "rd"
        refine r_I (show m ≠ 0 by omega) ?_
        walk_at "rd"
        refine q _ H2 (fmod_in h1).1 (fmod_in h1).2 (k1.trans fun x o q1 q2 e => by rw [e2 x q1]; exact e) ⟨hcd, ys, _, _, hd2, by rw [e2 c hcd]; exact hc1, hi1⟩
    · walk_at "rd"
      refine r_ixL (SqL.of hd) (atI_nat (j := 1) rfl) ?_
      walk_at "rd"
      refine r_I pow6 ?_
      walk_at "rd"
      refine iteB (fun h => ?_) (fun h => ?_)
      · walk_at "rd"
        refine ⟨by simp, r_new fun nl H1 nl0 s1 hnl => ?_⟩
        refine r_neNil (SqL.of (s1 _ _ hc)) (SqL.of hnl) ?_
        walk_at "rd"
        refine iteB (fun h' => ?_) (fun h' => ?_)
        · cases xs with
          | nil => cases h'
          | cons y ys =>
            obtain ⟨i, rfl⟩ := hi y List.mem_cons_self
            walk_at "rd"
            refine r_tyl (s1 _ _ hc) ?_
            walk_at "rd"
            refine ⟨c, ys, _, rfl, rfl, s1 _ _ hc, r_chg fun H2 e2 hc2 => ?_⟩
            walk_at "rd"
            have hd2 : H2 d = some (.lst [.ref c, .int u, .int v]) := by rw [e2 d (Ne.symm hcd)]; exact s1 _ _ hd
            have k2 : Ko d c H H2 := fun x o q1 q2 e => by rw [e2 x q2]; exact s1 _ _ e
            have hi2 : Ints ys := fun x hx => hi x (List.mem_cons_of_mem _ hx)
            refine r_I (.inl ⟨by decide, by decide⟩) ?_
            walk_at "rd"
            refine r_I pow18 ?_
            walk_at "rd"
            refine iteB (fun h'' => ?_) (fun h'' => ?_)
            · walk_at "rd"
              refine r_I pow60 ?_
              walk_at "rd"
              refine r_I (by decide +kernel) ?_
              walk_at "rd"
              refine set1 (xs := ys) hd2 fun H3 e3 hd3 => ?_
              walk_at "rd"
              exact hn _ _ ⟨_, _, ys, _, _, rfl, k2.trans fun x o q1 q2 e => by rw [e3 x q1]; exact e, hd3, by rw [e3 c hcd]; exact hc2, hi2⟩
            · walk_at "rd"
              refine r_ixL (SqL.of hd2) (atI_nat (j := 2) rfl) ?_
              walk_at "rd"
              refine r_I (.inr ⟨by decide, by decide⟩) ?_
              walk_at "rd"
              refine r_I (show (2147483563 : Int) ≠ 0 by decide) ?_
              walk_at "rd"
              refine r_I (.inr ⟨by decide, by decide⟩) ?_
              walk_at "rd"
              refine r_I (show (2147483563 : Int) ≠ 0 by decide) ?_
              walk_at "rd"
              refine set2 (xs := ys) hd2 fun H3 e3 hd3 => ?_
              walk_at "rd"
              exact hn _ _ ⟨_, _, ys, _, _, rfl, k2.trans fun x o q1 q2 e => by rw [e3 x q1]; exact e, hd3, by rw [e3 c hcd]; exact hc2, hi2⟩
        · walk_at "rd"
          exact hn _ _ ⟨_, _, xs, _, _, rfl, .of s1, s1 _ _ hd, s1 _ _ hc, hi⟩
      · walk_at "rd"
        exact hn _ _ ⟨_, _, xs, _, _, rfl, .refl, hd, hc, hi⟩
theorem ok_law_deck (T : Txt K mg) : FnOk P w K mg base CX0 1 T.f_law_deck T.d_law_deck ["script"] (spDeck K) := by
  refine T.F_law_deck.ok sc_law_deck (fun vs H Q E h => ?_) (fun cdv A outer s H vs Q E hr h => ?_)
  · obtain ⟨a, xs, rfl, _⟩ := h
    rfl
  · obtain ⟨a, xs, rfl, ha, hi, q⟩ := h
    have nd := sc_law_deck.nd
    refine ⟨_, pss_one (ps_ret (pe_lstN (pa_cons (pe_lc (own := [("cell", 1)]) (g := gName 1) (tt := tYes) rfl nd (pi_list (pe_slice sl_listN (pv 0) po_none (po_some pe_int))) (blkOk_by (N := n_law_deck) (sc := defScope s_law_deck) (by decide +kernel))
        (fun _ _ _ _ _ => pg_name (i := 1) nd rfl (Or.inl rfl)) (fun _ _ _ _ _ => pts_nil) (fun _ _ _ _ _ => pe_callTy call_intI (by rfl) T.z_int boot_int (pa_cons (pv 1) pa_nil))) (pa_cons pe_int (pa_cons pe_int pa_nil))))), ?_⟩
    walk_at "rd"
    refine r_iLst ?_
    walk_at "rd"
    refine ⟨a, xs, rfl, ha, r_new fun sl H1 sl0 s1 hsl => ?_⟩
    refine ⟨sl, rfl, ⟨_, SqL.of hsl⟩, ?_⟩
    refine r_lcW walk_list (fun D i H' => Same H1 H' ∧ ∃ acc, H' D = some (.lst acc) ∧ Ints acc ∧ acc.length = i) (fun D H' _ s hD => ⟨s, [], hD, (fun x hx => absurd hx List.not_mem_nil), rfl⟩) (fun D i H' _ _ p => SqL.of (p.1 _ _ hsl)) ?_ ?_
    · rintro D i x H2 H3 hD hi' ⟨s2, acc, hacc, hia, hl⟩ ⟨rfl, hx⟩
      have hxm : x ∈ xs := (cutV_mem (List.mem_of_getElem? hx))
      obtain ⟨j, rfl⟩ := hi x hxm
      walk_at "rd"
      refine ⟨rfl, ?_⟩
      walk_at "rd"
      have hlc := cutV_len xs
      refine r_acc hacc (by omega) (r_chg fun H4 e4 h4 => ⟨same_but s2 hD e4, _, h4, ?_, by rw [List.length_append, hl]; rfl⟩)
      intro y hy
      rcases List.mem_append.mp hy with q1 | q1
      · exact hia y q1
      · exact ⟨j, List.mem_singleton.mp q1⟩
    · rintro D H2 hD ⟨s2, acc, hacc, hia, hl⟩
      walk_at "rd"
      refine ⟨by simp, r_new fun d H3 d0 s3 hd => ?_⟩
      walk_at "rd"
      have s13 : Same H H1 := s1
      refine q d D H3 ((s1.trans s2).trans s3) ⟨fun e => ?_, acc, _, _, hd, s3 _ _ hacc, hia⟩
      rw [← e, hacc] at d0
      cases d0
end
end Kt
namespace Kt
open PySem PySem.Spec PyProof.Rows L2
/-! ## 20. A drawn sum -/
def Sm (i : Int) : Prop := -1000 ≤ i ∧ i ≤ 1000
def PairV (H : Hp) (x : V) : Prop := ∃ t i j, x = .ref t ∧ H t = some (.tup [.int i, .int j]) ∧ Sm i ∧ Sm j
def TermsV (n : Nat) (H : Hp) (v : V) : Prop := ∃ t xs, v = .ref t ∧ H t = some (.tup xs) ∧ xs.length ≤ n ∧ ∀ x ∈ xs, PairV H x
def SumV (n : Nat) (H : Hp) (v : V) : Prop := ∃ t tv d, v = .ref t ∧ H t = some (.tup [tv, .int d]) ∧ TermsV n H tv ∧ Sm d
def Tk (H H' : Hp) : Prop := ∀ t xs, H t = some (.tup xs) → H' t = some (.tup xs)
theorem PairV.mono {H H' : Hp} {x : V} (k : Tk H H') (h : PairV H x) : PairV H' x := by
  obtain ⟨t, i, j, e, h1, h2, h3⟩ := h
  exact ⟨t, i, j, e, k _ _ h1, h2, h3⟩
theorem TermsV.mono {n : Nat} {H H' : Hp} {x : V} (k : Tk H H') (h : TermsV n H x) : TermsV n H' x := by
  obtain ⟨t, xs, e, h1, h2, h3⟩ := h
  exact ⟨t, xs, e, k _ _ h1, h2, fun y hy => (h3 y hy).mono k⟩
theorem SumV.mono {n : Nat} {H H' : Hp} {x : V} (k : Tk H H') (h : SumV n H x) : SumV n H' x := by
  obtain ⟨t, tv, d, e, h1, h2, h3⟩ := h
  exact ⟨t, tv, d, e, k _ _ h1, h2.mono k, h3⟩
/-- a term with a weight from 1 to 9 -/
def TermV (H : Hp) (x : V) : Prop := ∃ t i j, x = .ref t ∧ H t = some (.tup [.int i, .int j]) ∧ Sm i ∧ 1 ≤ j ∧ j ≤ 9
theorem TermV.mono {H H' : Hp} {x : V} (k : Tk H H') (h : TermV H x) : TermV H' x := by
  obtain ⟨t, i, j, e, h1, h2, h3⟩ := h
  exact ⟨t, i, j, e, k _ _ h1, h2, h3⟩
theorem TermV.pair {H : Hp} {x : V} (h : TermV H x) : PairV H x := by
  obtain ⟨t, i, j, e, h1, h2, h3⟩ := h
  exact ⟨t, i, j, e, h1, h2, by unfold Sm; omega⟩
theorem all_snoc {p : V → Prop} {xs : List V} {y : V} (h : ∀ x ∈ xs, p x) (hy : p y) : ∀ x ∈ xs ++ [y], p x := fun x hx => by
  rcases List.mem_append.mp hx with q | q
  · exact h x q
  · rw [List.mem_singleton.mp q]
    exact hy
theorem sum_in9 : ∀ (ns : List Int), (∀ j ∈ ns, 1 ≤ j ∧ j ≤ 9) → 0 ≤ ns.sum ∧ ns.sum ≤ 9 * ns.length
  | [], _ => by simp
  | j :: ns, h => by
    have h1 := h j List.mem_cons_self
    have h2 := sum_in9 ns fun k hk => h k (List.mem_cons_of_mem _ hk)
    rw [List.sum_cons, List.length_cons]
    push_cast
    omega
theorem Tk.same {H H' : Hp} (s : Same H H') : Tk H H' := tup_same s
def spSumL : Sp := fun vs H Q _ => ∃ (d c : Addr) (many size most : Int), vs = [.ref d, .int many, .int size, .int most] ∧ Dk d c H ∧ 1 ≤ many ∧ many ≤ 12 ∧ size ≤ 4 ∧ 1 ≤ most ∧ most ≤ 9 ∧ ∀ v H', Ko d c H H' → Dk d c H' → SumV 4 H' v → Q v H'
section
variable {P : Program} {w : World} {K : PySem.W.Frag} {mg : Str → Option Value} {base : Heap} {fI : Addr}
theorem ok_law_sum (T : Txt K mg) : FnOk P w K mg base CX0 2 T.f_law_sum T.d_law_sum ["deck", "many", "size", "most"] spSumL := by
  have G0 : FnOk P w K mg base CX0 1 T.f_law_pick T.d_law_pick ["deck", "many"] spPick := ok_law_pick T
  refine T.F_law_sum.ok sc_law_sum (fun vs H Q E h => ?_) (fun cdv A outer s H vs Q E hr h => ?_)
  · obtain ⟨d, c, many, size, most, rfl, _⟩ := h
    rfl
  · obtain ⟨d, c, many, size, most, rfl, hD, hm1, hm2, hs, ho1, ho2, q⟩ := h
    have nd := sc_law_sum.nd
    refine ⟨_, pss_cons (ps_par (i := 4) (j := 5) rfl nd rfl rfl (by decide) rfl rfl (pa_cons (pe_call G0 hr (by rfl) T.g_law_pick T.F_law_pick.kp T.b_law_pick .nil pass0 (pa_cons (pv 0) (pa_cons pe_int pa_nil))) (pa_cons (pe_lstN pa_nil) pa_nil)) (by rfl))
      (pss_cons (ps_for PassesOwn.never rfl (pi_range1 (by rfl) T.z_range (pa_cons (pv 1) pa_nil)) (pg_name (i := 6) nd rfl (Or.inl rfl))
        (pss_one (ps_if (PW.pt (pw_and (pt_cmpR op_lt (pe_callB call_lenL (by rfl) T.z_len PySem.boot_len (pa_cons (pv 5) pa_nil)) (pv 2) (nomark _))
            (pw_and1 (pt_cmpR op_gt (pe_call G0 hr (by rfl) T.g_law_pick T.F_law_pick.kp T.b_law_pick .nil pass0 (pa_cons (pv 0) (pa_cons pe_int pa_nil))) pe_int (nomark _)))))
          (pss_one (ps_expr (pe_bm PySem.F.plainAttrs_list PySem.F.slot_list_append PySem.F.type_list_append mt_appN (pv 5) (pa_cons (pe_tupN (pa_cons (pe_op op_add (pe_op op_mul pe_int (pv 6)) (pe_call G0 hr (by rfl) T.g_law_pick T.F_law_pick.kp T.b_law_pick .nil pass0 (pa_cons (pv 0) (pa_cons pe_int pa_nil))))
            (pa_cons (pe_op op_add pe_int (pe_call G0 hr (by rfl) T.g_law_pick T.F_law_pick.kp T.b_law_pick .nil pass0 (pa_cons (pv 0) (pa_cons (pv 3) pa_nil)))) pa_nil))) pa_nil)))) pss_nil)))
      (pss_cons (ps_set (i := 7) nd rfl (Or.inl rfl) (pe_callB (cr_sum rfl) (by rfl) T.z_sum boot_sum (pa_cons
          (pe_lc (own := [("literal", 8), ("weight", 9)]) (g := gTup K 2 (gCons (gName 8) (gCons (gName 9) gNil))) (tt := tYes) rfl nd (pi_list (pv 5)) (blkOk_by (N := n_law_sum) (sc := defScope s_law_sum) (by decide +kernel))
            (fun _ _ _ _ _ => pg_tup rfl (pgs_cons (pg_name (i := 8) nd rfl (Or.inl rfl)) (pgs_cons (pg_name (i := 9) nd rfl (Or.inl rfl)) pgs_nil))) (fun _ _ _ _ _ => pts_nil) (fun _ _ _ _ _ => pv 9)) pa_nil)))
      (pss_cons (ps_if (pt_cmpR op_eq (pv 4) pe_int (nomark _)) (pss_one (ps_ret (pe_tupN (pa_cons (pe_callTy call_tupleN (by rfl) T.z_tuple boot_tuple (pa_cons (pv 5) pa_nil)) (pa_cons pe_int pa_nil))))) pss_nil)
      (pss_cons (ps_if (pt_cmpR op_eq (pv 4) pe_int (nomark _)) (pss_one (ps_ret (pe_tupN (pa_cons (pe_callTy call_tupleN (by rfl) T.z_tuple boot_tuple (pa_cons (pv 5) pa_nil))
          (pa_cons (pe_op op_add pe_int (pe_call G0 hr (by rfl) T.g_law_pick T.F_law_pick.kp T.b_law_pick .nil pass0 (pa_cons (pv 0) (pa_cons (pe_op op_add (pv 7) pe_int) pa_nil)))) pa_nil))))) pss_nil)
      (pss_one (ps_ret (pe_tupN (pa_cons (pe_callTy call_tupleN (by rfl) T.z_tuple boot_tuple (pa_cons (pv 5) pa_nil))
          (pa_cons (pe_ifExp (pt_cmpR op_eq (pv 4) pe_int (nomark _)) (pe_op op_fdivN (pv 7) pe_int) (pe_op op_sub (pv 7) (pe_call G0 hr (by rfl) T.g_law_pick T.F_law_pick.kp T.b_law_pick .nil pass0 (pa_cons (pv 0) (pa_cons pe_int pa_nil))))) pa_nil))))))))), ?_⟩
    refine r_seq ?_
    walk_at "re"
    refine r_call ?_
    walk_at "re"
    refine ⟨d, c, 4, rfl, hD, by decide, by decide, fun kind H1 k0 k1 kp1 hD1 => ?_⟩
    walk_at "re"
    refine ⟨by simp, r_new fun tl H2 tl0 s2 htl => ?_⟩
    walk_at "re"
    have hD2 := hD1.same s2
    obtain ⟨ned, nec⟩ := hD1.ne tl0
    refine r_mid (fun σ' H' => ∃ (vv : Option V) (xs : List V), σ' = [some (.ref d), some (.int many), some (.int size), some (.int most), some (.int kind), some (.ref tl), vv, none, none, none] ∧ Ko d c H1 H' ∧ Dk d c H' ∧ H' tl = some (.lst xs) ∧ xs.length ≤ 4 ∧ ∀ x ∈ xs, TermV H' x) ?_ fun n hn => ?_
    · rintro _ H3 ⟨vv, xs, rfl, kp3, hD3, hxs, hl3, hx3⟩
      walk_at "rd"
      refine r_iLst ?_
      walk_at "rd"
      refine ⟨tl, rfl, ⟨_, SqL.of hxs⟩, ?_⟩
      refine r_lcW walk_list (fun D i H' => Same H3 H' ∧ ∃ ns : List Int, H' D = some (.lst (ns.map V.int)) ∧ (∀ j ∈ ns, 1 ≤ j ∧ j ≤ 9) ∧ ns.length = i) (fun D H' _ s hD => ⟨s, [], hD, (fun x hx => absurd hx List.not_mem_nil), rfl⟩) (fun D i H' _ _ p => SqL.of (p.1 _ _ hxs)) ?_ ?_
      · rintro D i x H4 H5 hDn hi ⟨s4, ns, hns, hin, hln⟩ ⟨rfl, hx⟩
        obtain ⟨t, a, b, rfl, ht, ha, hb1, hb2⟩ := hx3 x (List.mem_of_getElem? hx)
        refine r_gtup (SqT.of (s4 _ _ ht)) rfl ?_
        walk_at "rd"
        refine ⟨rfl, ?_⟩
        walk_at "rd"
        refine r_acc hns (by rw [List.length_map]; omega) (r_chg fun H6 e6 h6 => ⟨same_but s4 hDn e6, ns ++ [b], by rw [h6, List.map_append]; rfl, ?_, by rw [List.length_append, hln]; rfl⟩)
        intro j hj
        rcases List.mem_append.mp hj with q1 | q1
        · exact hin j q1
        · rw [List.mem_singleton.mp q1]
          exact ⟨hb1, hb2⟩
      · rintro D H4 hDn ⟨s4, ns, hns, hin, hln⟩
        walk_at "rd"
        refine ⟨D, ns, rfl, SqL.of hns, ?_⟩
        have hev := sum_in9 ns hin
        generalize ns.sum = every at hev
        have hD4 := hD3.same s4
        have kp4 : Ko d c H1 H4 := kp3.trans (.of s4)
        have hxs4 := s4 _ _ hxs
        have hx4 : ∀ x ∈ xs, PairV H4 x := fun x hx => ((hx3 x hx).mono (tup_same s4)).pair
        have fin : ∀ (t : Addr) (e : Int) H5 H6, H5 t = some (.tup xs) → Ko d c H4 H5 → Dk d c H5 → Same H5 H6 → Sm e → ∀ u, H6 u = some (.tup [.ref t, .int e]) → Q (.ref u) H6 := fun t e H5 H6 ht k5 D5 s6 he u hu =>
          q _ H6 (kp1.trans ((kp4.trans k5).trans (.of s6))) (D5.same s6) ⟨u, _, e, rfl, hu, ⟨t, xs, rfl, s6 _ _ ht, hl3, fun x hx => (hx4 x hx).mono (fun t ys z => s6 _ _ (hD4.tups k5 _ _ z))⟩, he⟩
        walk_at "rd"
        refine iteB (fun h0 => ?_) (fun h0 => ?_)
        · walk_at "rd"
          refine ⟨tl, xs, rfl, SqL.of hxs4, r_new fun t H5 t0 s5 ht => ?_⟩
          walk_at "rd"
          refine ⟨by simp, r_new fun u H6 u0 s6 hu => ?_⟩
          walk_at "rd"
          exact fin t 1 H5 H6 ht (.of s5) (hD4.same s5) s6 (by unfold Sm; omega) u hu
        · walk_at "rd"
          refine iteB (fun h1 => ?_) (fun h1 => ?_)
          · walk_at "rd"
            refine ⟨tl, xs, rfl, SqL.of hxs4, r_new fun t H5 t0 s5 ht => ?_⟩
            walk_at "rd"
            refine r_call ?_
            walk_at "rd"
            refine ⟨d, c, every + 1, rfl, hD4.same s5, by omega, by omega, fun r H6 r0 r1 kp6 hD6 => ?_⟩
            walk_at "rd"
            refine ⟨by simp, r_new fun u H7 u0 s7 hu => ?_⟩
            walk_at "rd"
            exact fin t _ H6 H7 ((hD4.same s5).tups kp6 _ _ ht) ((Ko.of s5).trans kp6) hD6 s7 (by unfold Sm; omega) u hu
          · walk_at "rd"
            refine ⟨tl, xs, rfl, SqL.of hxs4, r_new fun t H5 t0 s5 ht => ?_⟩
            walk_at "rd"
            refine iteB (fun h2 => ?_) (fun h2 => ?_)
            · walk_at "rd"
              refine r_I ⟨by decide, by decide⟩ ?_
              walk_at "rd"
              refine ⟨by simp, r_new fun u H7 u0 s7 hu => ?_⟩
              walk_at "rd"
              refine fin t _ H5 H7 ht (.of s5) (hD4.same s5) s7 ?_ u hu
              rw [Int.fdiv_eq_ediv_of_nonneg _ (by decide)]
              unfold Sm
              omega
            · walk_at "rd"
              refine r_call ?_
              walk_at "rd"
              refine ⟨d, c, 3, rfl, hD4.same s5, by omega, by omega, fun r H6 r0 r1 kp6 hD6 => ?_⟩
              walk_at "rd"
              refine ⟨by simp, r_new fun u H7 u0 s7 hu => ?_⟩
              walk_at "rd"
              exact fin t _ H6 H7 ((hD4.same s5).tups kp6 _ _ ht) ((Ko.of s5).trans kp6) hD6 s7 (by unfold Sm; omega) u hu
    · refine r_for ?_
      refine r_iRng ?_
      walk_at "re"
      refine ⟨many, rfl, by omega, by omega, ?_⟩
      refine r_forW walk_range (fun i σ' H' => ∃ (vv : Option V) (xs : List V), σ' = [some (.ref d), some (.int many), some (.int size), some (.int most), some (.int kind), some (.ref tl), vv, none, none, none] ∧ Ko d c H1 H' ∧ Dk d c H' ∧ H' tl = some (.lst xs) ∧ xs.length ≤ 4 ∧ ∀ x ∈ xs, TermV H' x)
        ⟨none, [], rfl, .of s2, hD2, htl, Nat.zero_le _, (fun x hx => absurd hx List.not_mem_nil)⟩ (fun _ _ _ _ _ => trivial) ?_ (fun σ' H' p => hn _ _ p)
      rintro i x σ' H3 H4 hi ⟨vv, xs, rfl, kp3, hD3, hxs, hl3, hx3⟩ ⟨rfl, hx⟩
      have hx : x = V.int (i : Int) := hx.trans (by show V.int (0 + (i : Int)) = _; rw [Int.zero_add])
      subst hx
      walk_at "re"
      refine r_lenL (SqL.of hxs) ?_
      walk_at "re"
      refine iteB (fun h => ?_) (fun h => ?_)
      · have h' := of_decide_eq_true h
        walk_at "re"
        refine r_call ?_
        walk_at "re"
        refine ⟨d, c, 3, rfl, hD3, by decide, by decide, fun r H5 r0 r1 kp5 hD5 => ?_⟩
        walk_at "re"
        have t5 := hD3.tups kp5
        have hxs5 : H5 tl = some (.lst xs) := kp5 _ _ ned nec hxs
        refine iteB (fun h2 => ?_) (fun h2 => ?_)
        · walk_at "re"
          refine r_tyl hxs5 ?_
          walk_at "re"
          refine r_I (.inl ⟨by decide, by decide⟩) ?_
          walk_at "re"
          refine r_call ?_
          walk_at "re"
          refine ⟨d, c, 2, rfl, hD5, by decide, by decide, fun r2 H6 r20 r21 kp6 hD6 => ?_⟩
          walk_at "re"
          refine r_call ?_
          walk_at "re"
          refine ⟨d, c, most, rfl, hD6, ho1, by omega, fun r3 H7 r30 r31 kp7 hD7 => ?_⟩
          walk_at "re"
          refine ⟨by simp, r_new fun tp H8 tp0 s8 htp => ?_⟩
          walk_at "re"
          have hxs7 : H7 tl = some (.lst xs) := kp7 _ _ ned nec (kp6 _ _ ned nec hxs5)
          refine r_app (s8 _ _ hxs7) (by omega) (r_chg fun H9 e9 h9 => ?_)
          walk_at "re"
          have tb := tup_but (s8 _ _ hxs7) e9
          have t9 : Tk H4 H9 := fun t ys z => tb _ _ (s8 _ _ (hD6.tups kp7 _ _ (hD5.tups kp6 _ _ (t5 _ _ z))))
          refine ⟨_, _, rfl, Ko.but (((kp3.trans kp5).trans kp6).trans (kp7.trans (.of s8))) tl0 e9, (hD7.same s8).but ned nec e9, h9, by rw [List.length_append, List.length_singleton]; omega, all_snoc (fun x hx => (hx3 x hx).mono t9) ⟨tp, _, _, rfl, tb _ _ htp, ?_, by omega, by omega⟩⟩
          have hi' : i < 12 := by omega
          unfold Sm
          omega
        · walk_at "re"
          exact ⟨_, _, rfl, kp3.trans kp5, hD5, hxs5, hl3, fun x hx => (hx3 x hx).mono t5⟩
      · walk_at "re"
        exact ⟨_, _, rfl, kp3, hD3, hxs, hl3, hx3⟩
end
end Kt
namespace Kt
open PySem PySem.Spec PyProof.Rows L2
/-! ## 21. A drawn problem -/
def ProbV (H : Hp) (v : V) : Prop := ∃ t s xs pv m, v = .ref t ∧ H t = some (.tup [.int m, .ref s, pv]) ∧ Sm m ∧ H s = some (.tup xs) ∧ xs.length ≤ 11 ∧ (∀ x ∈ xs, SumV 4 H x) ∧ (pv = .non ∨ SumV 12 H pv)
theorem ProbV.mono {H H' : Hp} {x : V} (k : Tk H H') (h : ProbV H x) : ProbV H' x := by
  obtain ⟨t, s, xs, pv, m, e, h1, h2, h3, h4, h5, h6⟩ := h
  exact ⟨t, s, xs, pv, m, e, k _ _ h1, h2, k _ _ h3, h4, fun y hy => (h5 y hy).mono k, h6.imp id (SumV.mono k)⟩
theorem xor_sm {i : Int} (h0 : 0 ≤ i) (h1 : i < 24) : Sm (Builtin.bitXor i 1) := by
  have h : ∀ k : Fin 24, -1000 ≤ Builtin.bitXor ((k.val : Nat) : Int) 1 ∧ Builtin.bitXor ((k.val : Nat) : Int) 1 ≤ 1000 := by decide +kernel
  have := h ⟨i.toNat, by omega⟩
  rw [show (((⟨i.toNat, by omega⟩ : Fin 24).val : Nat) : Int) = i from Int.toNat_of_nonneg h0] at this
  exact this
def spTied : Sp := fun vs H Q _ => ∃ (d c : Addr) (many : Int), vs = [.ref d, .int many] ∧ Dk d c H ∧ 1 ≤ many ∧ many ≤ 12 ∧ ∀ v H', Ko d c H H' → Dk d c H' → ProbV H' v → Q v H'
/-- an expression by what it comes to -/
theorem r_ex {te : TE} {σ : L2.St} {H : Hp} {Q : VK} (P : V → Hp → Prop) (h : ∀ Q : VK, (∀ v H', P v H' → Q v H') → te σ H Q) (q : ∀ v H', P v H' → Q v H') : te σ H Q := h Q q
theorem atI149 {r : Int} (h0 : 0 ≤ r) (h1 : r < 3) : ∃ o : Int, atI [V.int 1, V.int 4, V.int 9] r = some (.int o) ∧ 1 ≤ o ∧ o ≤ 9 := by
  rcases (by omega : r = 0 ∨ r = 1 ∨ r = 2) with rfl | rfl | rfl
  · exact ⟨1, rfl, by decide, by decide⟩
  · exact ⟨4, rfl, by decide, by decide⟩
  · exact ⟨9, rfl, by decide, by decide⟩
section
variable {P : Program} {w : World} {K : PySem.W.Frag} {mg : Str → Option Value} {base : Heap} {fI : Addr}
/-- (tuple(sorted([(a, 1), (b, 1)])), 1), from its laid parts -/
theorem two_sum {H : Hp} {u t p q : Addr} {a b : Int} {ys : List V} (hp : H p = some (.tup [.int a, .int 1])) (hq : H q = some (.tup [.int b, .int 1])) (hy : ys.Perm [.ref p, .ref q]) (ht : H t = some (.tup ys)) (hu : H u = some (.tup [.ref t, .int 1])) (ha : Sm a) (hb : Sm b) : SumV 4 H (.ref u) := by
  refine ⟨u, _, 1, rfl, hu, ⟨t, ys, rfl, ht, by rw [hy.length_eq]; exact (by decide : 2 ≤ 4), fun x hx => ?_⟩, by unfold Sm; omega⟩
  have hx' := hy.mem_iff.mp hx
  rcases List.mem_cons.mp hx' with e | e
  · exact ⟨p, a, 1, e, hp, ha, by unfold Sm; omega⟩
  · exact ⟨q, b, 1, List.mem_singleton.mp e, hq, hb, by unfold Sm; omega⟩
/-- sums.append((tuple(sorted([(a, 1), (b, 1)])), 1)) -/
theorem r_twoS {tA tB : TE} {a b : Int} {D : Ends} {σ : L2.St} {H : Hp} {l d c : Addr} {xs : List V} (hA : ∀ H Q, Q (V.int a) H → tA σ H Q) (hB : ∀ H Q, Q (V.int b) H → tB σ H Q) (hl : σ[2]? = some (some (.ref l))) (hxs : H l = some (.lst xs)) (hn : xs.length < 100)
    (hD : Dk d c H) (hld : l ≠ d) (hlc : l ≠ c) (ha : Sm a) (hb : Sm b) (q : ∀ u H', Kp l H H' → Dk d c H' → H' l = some (.lst (xs ++ [.ref u])) → SumV 4 H' (.ref u) → Tk H H' → D.nx σ H') :
    tDrop (tBM K "list" rAppN (tVar 2) (tCons (tTupN (tCons (tCB (rTupleN K) (tCons (tCB (rSortPN K) (tCons (tLstN (tCons (tTupN (tCons tA (tCons (tC (.int 1)) tNil))) (tCons (tTupN (tCons tB (tCons (tC (.int 1)) tNil))) tNil))) tNil)) tNil)) (tCons (tC (.int 1)) tNil))) tNil)) D σ H := by
  refine r_drop ?_
  refine r_bm ?_
  refine r_var hl ?_
  refine r_tyl hxs ?_
  walk_at "rd"
  refine hA _ _ ?_
  walk_at "rd"
  refine ⟨by simp, r_new fun p H1 p0 s1 hp => ?_⟩
  walk_at "rd"
  refine hB _ _ ?_
  walk_at "rd"
  refine ⟨by simp, r_new fun p' H2 p0' s2 hp' => ?_⟩
  walk_at "rd"
  refine ⟨by simp, r_new fun m H3 m0 s3 hm => ?_⟩
  walk_at "rd"
  have hp3 := s3 _ _ (s2 _ _ hp)
  have hp3' := s3 _ _ hp'
  refine ⟨m, _, rfl, SqL.of hm, fun x hx => ?_, fun ys hy => r_new fun sl H4 sl0 s4 hsl => ?_⟩
  · rcases List.mem_cons.mp hx with e | e
    · exact ⟨p, a, 1, e, hp3⟩
    · exact ⟨p', b, 1, List.mem_singleton.mp e, hp3'⟩
  walk_at "rd"
  refine ⟨sl, ys, rfl, SqL.of hsl, r_new fun t H5 t0 s5 ht => ?_⟩
  walk_at "rd"
  refine ⟨by simp, r_new fun u H6 u0 s6 hu => ?_⟩
  walk_at "rd"
  have s06 : Same H H6 := (s1.trans s2).trans ((s3.trans s4).trans (s5.trans s6))
  have hxs6 := s06 _ _ hxs
  refine r_app hxs6 (by omega) (r_chg fun H7 e7 h7 => ?_)
  have tb := tup_but hxs6 e7
  have s36 : Same H3 H6 := s4.trans (s5.trans s6)
  exact q u H7 (fun x o hx e => by rw [e7 x hx]; exact s06 _ _ e) ((hD.same s06).but hld hlc e7) h7 (two_sum (tb _ _ (s36 _ _ hp3)) (tb _ _ (s36 _ _ hp3')) hy (tb _ _ (s6 _ _ ht)) (tb _ _ hu) ha hb) (fun t ys e => tb _ _ (s06 _ _ e))
theorem ok_law_tied (T : Txt K mg) : FnOk P w K mg base CX0 3 T.f_law_tied T.d_law_tied ["deck", "many"] spTied := by
  have G0 : FnOk P w K mg base CX0 1 T.f_law_pick T.d_law_pick ["deck", "many"] spPick := ok_law_pick T
  have G1 : FnOk P w K mg base CX0 2 T.f_law_sum T.d_law_sum ["deck", "many", "size", "most"] spSumL := ok_law_sum T
  refine T.F_law_tied.ok sc_law_tied (fun vs H Q E h => ?_) (fun cdv A outer s H vs Q E hr h => ?_)
  · obtain ⟨d, c, many, rfl, _⟩ := h
    rfl
  · obtain ⟨d, c, many, rfl, hD, hm1, hm2, q⟩ := h
    have nd := sc_law_tied.nd
    have hr1 : Room 1 _ := hr.mono (by decide)
    refine ⟨_, pss_cons (ps_par (i := 2) (j := 3) rfl nd rfl rfl (by decide) rfl rfl
        (pa_cons (pe_lc (own := [("turn", 4)]) (g := gName 4) (tt := tYes) (te := tCall spSumL [] E0 (tCons (tVar 0) (tCons (tVar 1) (tCons (tC (.int 4)) (tCons (tOp (rIxL K) (tLstN (tCons (tC (.int 1)) (tCons (tC (.int 4)) (tCons (tC (.int 9)) tNil)))) (tCall spPick [] E0 (tCons (tVar 0) (tCons (tC (.int 3)) tNil)))) tNil))))) rfl nd
            (pi_range1 (by rfl) T.z_range (pa_cons (pe_op op_add pe_int (pe_call G0 hr1 (by rfl) T.g_law_pick T.F_law_pick.kp T.b_law_pick .nil pass0 (pa_cons (pv 0) (pa_cons pe_int pa_nil)))) pa_nil))
            (blkOk_by (N := n_law_tied) (sc := defScope s_law_tied) (by decide +kernel)) (fun _ _ _ _ _ => pg_name (i := 4) nd rfl (Or.inl rfl)) (fun _ _ _ _ _ => pts_nil)
            (fun _ _ _ _ _ => pe_call G1 hr (by rfl) T.g_law_sum T.F_law_sum.kp T.b_law_sum .nil pass0 (pa_cons (pv 0) (pa_cons (pv 1) (pa_cons pe_int (pa_cons (pe_ix ix_list (pe_lstN (pa_cons pe_int (pa_cons pe_int (pa_cons pe_int pa_nil)))) (pe_call G0 hr1 (by rfl) T.g_law_pick T.F_law_pick.kp T.b_law_pick .nil pass0 (pa_cons (pv 0) (pa_cons pe_int pa_nil))) (fun _ _ => rfl)) pa_nil))))))
          (pa_cons (pe_call G0 hr1 (by rfl) T.g_law_pick T.F_law_pick.kp T.b_law_pick .nil pass0 (pa_cons (pv 0) (pa_cons pe_int pa_nil))) pa_nil)) (by rfl))
      (pss_cons (ps_for PassesOwn.never rfl (pi_range1 (by rfl) T.z_range (pa_cons (pe_ifExp (pt_cmpR op_gt (pv 1) pe_int (nomark _)) (pe_call G0 hr1 (by rfl) T.g_law_pick T.F_law_pick.kp T.b_law_pick .nil pass0 (pa_cons (pv 0) (pa_cons pe_int pa_nil))) pe_int) pa_nil)) (pg_name (i := 4) nd rfl (Or.inl rfl))
        (pss_cons (ps_set (i := 5) nd rfl (Or.inl rfl) (pe_call G0 hr1 (by rfl) T.g_law_pick T.F_law_pick.kp T.b_law_pick .nil pass0 (pa_cons (pv 0) (pa_cons (pv 1) pa_nil))))
        (pss_cons (ps_set (i := 6) nd rfl (Or.inl rfl) (pe_op op_modN (pe_callTy call_intI (by rfl) T.z_int boot_int (pa_cons (pe_op op_add (pe_op op_add (pv 5) pe_int) (pe_call G0 hr1 (by rfl) T.g_law_pick T.F_law_pick.kp T.b_law_pick .nil pass0 (pa_cons (pv 0) (pa_cons (pe_op op_sub (pv 1) pe_int) pa_nil)))) pa_nil)) (pv 1)))
        (pss_cons (ps_par (i := 7) (j := 8) rfl nd rfl rfl (by decide) rfl rfl (pa_cons (pe_op op_add (pe_op op_mul pe_int (pv 5)) (pe_call G0 hr1 (by rfl) T.g_law_pick T.F_law_pick.kp T.b_law_pick .nil pass0 (pa_cons (pv 0) (pa_cons pe_int pa_nil))))
            (pa_cons (pe_op op_add (pe_op op_mul pe_int (pv 6)) (pe_call G0 hr1 (by rfl) T.g_law_pick T.F_law_pick.kp T.b_law_pick .nil pass0 (pa_cons (pv 0) (pa_cons pe_int pa_nil)))) pa_nil)) (by rfl))
        (pss_cons (ps_expr (pe_bm PySem.F.plainAttrs_list PySem.F.slot_list_append PySem.F.type_list_append mt_appN (pv 2) (pa_cons (pe_tupN (pa_cons (pe_callTy call_tupleN (by rfl) T.z_tuple boot_tuple (pa_cons (pe_callB cr_sortPN (by rfl) T.z_sorted boot_sorted
            (pa_cons (pe_lstN (pa_cons (pe_tupN (pa_cons (pv 7) (pa_cons pe_int pa_nil))) (pa_cons (pe_tupN (pa_cons (pv 8) (pa_cons pe_int pa_nil))) pa_nil))) pa_nil)) pa_nil)) (pa_cons pe_int pa_nil))) pa_nil)))
        (pss_one (ps_if (pt_cmpR op_gt (pv 3) pe_int (nomark _))
          (pss_one (ps_expr (pe_bm PySem.F.plainAttrs_list PySem.F.slot_list_append PySem.F.type_list_append mt_appN (pv 2) (pa_cons (pe_tupN (pa_cons (pe_callTy call_tupleN (by rfl) T.z_tuple boot_tuple (pa_cons (pe_callB cr_sortPN (by rfl) T.z_sorted boot_sorted
            (pa_cons (pe_lstN (pa_cons (pe_tupN (pa_cons (pe_op op_xor (pv 7) pe_int) (pa_cons pe_int pa_nil))) (pa_cons (pe_tupN (pa_cons (pe_op op_xor (pv 8) pe_int) (pa_cons pe_int pa_nil))) pa_nil))) pa_nil)) pa_nil)) (pa_cons pe_int pa_nil))) pa_nil)))) pss_nil)))))))
      (pss_cons (ps_if (pt_cmpR op_eq (pv 3) pe_int (nomark _))
          (pss_one (ps_expr (pe_bm PySem.F.plainAttrs_list PySem.F.slot_list_insert PySem.F.type_list_insert mt_insN (pv 2)
            (pa_cons (pe_call G0 hr1 (by rfl) T.g_law_pick T.F_law_pick.kp T.b_law_pick .nil pass0 (pa_cons (pv 0) (pa_cons (pe_op op_add (pe_callB call_lenL (by rfl) T.z_len PySem.boot_len (pa_cons (pv 2) pa_nil)) pe_int) pa_nil)))
            (pa_cons (pe_tupN (pa_cons (pe_tupN (pa_cons (pe_tupN (pa_cons (pe_call G0 hr1 (by rfl) T.g_law_pick T.F_law_pick.kp T.b_law_pick .nil pass0 (pa_cons (pv 0) (pa_cons (pe_op op_mul pe_int (pv 1)) pa_nil))) (pa_cons pe_int pa_nil))) pa_nil))
              (pa_cons (pe_op op_add pe_int (pe_call G0 hr1 (by rfl) T.g_law_pick T.F_law_pick.kp T.b_law_pick .nil pass0 (pa_cons (pv 0) (pa_cons pe_int pa_nil)))) pa_nil))) pa_nil))))) pss_nil)
      (pss_cons (ps_set (i := 9) nd rfl (Or.inl rfl) pe_non)
      (pss_cons (ps_if (pt_cmpR op_gt (pe_call G0 hr1 (by rfl) T.g_law_pick T.F_law_pick.kp T.b_law_pick .nil pass0 (pa_cons (pv 0) (pa_cons pe_int pa_nil))) pe_int (nomark _))
          (pss_cons (ps_setLc (i := 10) (own := [("k", 11)]) (g := gName 11) (tt := tTest (tOp (rI0 fun i j => .bl (decide (j < i))) (tCall spPick [] E0 (tCons (tVar 0) (tCons (tC (.int 3)) tNil))) (tC (.int 0)))) rfl nd rfl rfl (sw_true rfl rfl rfl (by decide +kernel)) (pi_range1 (by rfl) T.z_range (pa_cons (pv 1) pa_nil))
            (blkOk_by (N := n_law_tied) (sc := defScope s_law_tied) (by decide +kernel)) (fun _ _ _ _ _ => pg_name (i := 11) nd rfl (Or.inl rfl))
            (fun _ _ _ _ _ => pts_one (pt_cmpR op_gt (pe_call G0 hr1 (by rfl) T.g_law_pick T.F_law_pick.kp T.b_law_pick .nil pass0 (pa_cons (pv 0) (pa_cons pe_int pa_nil))) pe_int (nomark _)))
            (fun _ _ _ _ _ => pe_tupN (pa_cons (pe_op op_add (pe_op op_mul pe_int (pv 11)) (pe_call G0 hr1 (by rfl) T.g_law_pick T.F_law_pick.kp T.b_law_pick .nil pass0 (pa_cons (pv 0) (pa_cons pe_int pa_nil)))) (pa_cons (pe_op op_add pe_int (pe_call G0 hr1 (by rfl) T.g_law_pick T.F_law_pick.kp T.b_law_pick .nil pass0 (pa_cons (pv 0) (pa_cons pe_int pa_nil)))) pa_nil))))
          (pss_one (ps_set (i := 9) nd rfl (Or.inl rfl) (pe_tupN (pa_cons (pe_callTy call_tupleN (by rfl) T.z_tuple boot_tuple (pa_cons (pv 10) pa_nil)) (pa_cons (pe_op op_sub (pe_call G0 hr1 (by rfl) T.g_law_pick T.F_law_pick.kp T.b_law_pick .nil pass0 (pa_cons (pv 0) (pa_cons pe_int pa_nil))) pe_int) pa_nil)))))) pss_nil)
      (pss_one (ps_ret (pe_tupN (pa_cons (pv 1) (pa_cons (pe_callTy call_tupleN (by rfl) T.z_tuple boot_tuple (pa_cons (pv 2) pa_nil)) (pa_cons (pv 9) pa_nil)))))))))), ?_⟩
    refine r_seq ?_
    walk_at "re"
    refine r_iRng ?_
    walk_at "re"
    refine r_call ?_
    walk_at "re"
    refine ⟨d, c, 4, rfl, hD, by decide, by decide, fun r H1 r0 r1 kp1 hD1 => ?_⟩
    walk_at "re"
    refine ⟨_, rfl, by omega, by omega, ?_⟩
    refine r_lcW walk_range (fun D i H' => Ko d c H1 H' ∧ Dk d c H' ∧ ∃ acc, H' D = some (.lst acc) ∧ acc.length = i ∧ ∀ x ∈ acc, SumV 4 H' x) (fun D H' hDn s hDl => ⟨.of s, hD1.same s, [], hDl, rfl, (fun x hx => absurd hx List.not_mem_nil)⟩) (fun _ _ _ _ _ _ => trivial) ?_ ?_
    · rintro D i x H2 H3 hDn hi ⟨kp2, hD2, acc, hacc, hl, hx⟩ ⟨rfl, hxx⟩
      have hxx : x = V.int (i : Int) := hxx.trans (by show V.int (0 + (i : Int)) = _; rw [Int.zero_add])
      subst hxx
      obtain ⟨ned, nec⟩ := hD1.ne hDn
      walk_at "re"
      refine ⟨rfl, ?_⟩
      walk_at "re"
      refine r_call ?_
      walk_at "re"
      refine ⟨by simp, r_new fun l3 H4 l30 s4 hl3 => ?_⟩
      walk_at "re"
      refine r_call ?_
      walk_at "re"
      refine ⟨d, c, 3, rfl, hD2.same s4, by decide, by decide, fun r' H5 r0' r1' kp5 hD5 => ?_⟩
      obtain ⟨o, ho, ho1, ho2⟩ := atI149 r0' r1'
      obtain ⟨ned3, nec3⟩ := hD2.ne l30
      refine r_ixL (SqL.of (kp5 _ _ ned3 nec3 hl3)) ho ?_
      walk_at "re"
      refine ⟨d, c, many, 4, o, rfl, hD5, hm1, hm2, by decide, ho1, ho2, fun v H6 kp6 hD6 hv => ?_⟩
      have hacc6 : H6 D = some (.lst acc) := kp6 _ _ ned nec (kp5 _ _ ned nec (s4 _ _ hacc))
      have t6 : Tk H3 H6 := fun t ys e => hD5.tups kp6 _ _ ((hD2.same s4).tups kp5 _ _ (s4 _ _ e))
      have hi4 : i < 4 := by
        have h' : (i : Int) < 1 + r := by
          have := hi
          omega
        omega
      refine r_acc hacc6 (by omega) (r_chg fun H7 e7 h7 => ?_)
      have tb := tup_but hacc6 e7
      exact ⟨Ko.but (((kp2.trans (.of s4)).trans kp5).trans kp6) hDn e7, hD6.but ned nec e7, _, h7, by rw [List.length_append, hl]; rfl, all_snoc (fun x hx' => ((hx x hx').mono t6).mono tb) (hv.mono tb)⟩
    rintro D H2 hDn ⟨kp2, hD2, acc, hacc, hl, hx⟩
    obtain ⟨ned, nec⟩ := hD1.ne hDn
    have hl4 : acc.length ≤ 4 := by omega
    walk_at "re"
    refine r_call ?_
    walk_at "re"
    refine ⟨d, c, 4, rfl, hD2, by decide, by decide, fun kind H3 k0 k1 kp3 hD3 => ?_⟩
    walk_at "re"
    have hacc3 : H3 D = some (.lst acc) := kp3 _ _ ned nec hacc
    have t3 := hD2.tups kp3
    -- the ties
    refine r_mid (fun σ' H' => ∃ (o4 o5 o6 o7 o8 : Option V) (xs : List V), σ' = [some (.ref d), some (.int many), some (.ref D), some (.int kind), o4, o5, o6, o7, o8, none, none, none] ∧ Ko d c H1 H' ∧ Dk d c H' ∧ H' D = some (.lst xs) ∧ xs.length ≤ 10 ∧ ∀ x ∈ xs, SumV 4 H' x) ?_ fun n hn => ?_
    rotate_left
    · refine r_for ?_
      refine r_iRng ?_
      refine r_cons ?_
      refine r_ex (fun v H' => ∃ j : Int, v = .int j ∧ 0 ≤ j ∧ j ≤ 3 ∧ (1 < many ∨ j = 0) ∧ Ko d c H3 H' ∧ Dk d c H') (fun Q' hQ' => ?_) ?_
      · walk_at "re"
        refine iteB (fun h => ?_) (fun h => ?_)
        · have h' := of_decide_eq_true h
          refine r_call ?_
          walk_at "re"
          refine ⟨d, c, 4, rfl, hD3, by decide, by decide, fun r H4 r0 r1 kp4 hD4 => ?_⟩
          exact hQ' _ _ ⟨r, rfl, r0, by omega, .inl h', kp4, hD4⟩
        · walk_at "re"
          exact hQ' _ _ ⟨0, rfl, by omega, by omega, .inr rfl, .refl, hD3⟩
      rintro _ H4 ⟨j, rfl, j0, j3, hj, kp4, hD4⟩
      walk_at "re"
      refine ⟨j, rfl, by omega, by omega, ?_⟩
      refine r_forW walk_range (fun i σ' H' => ∃ (o4 o5 o6 o7 o8 : Option V) (xs : List V), σ' = [some (.ref d), some (.int many), some (.ref D), some (.int kind), o4, o5, o6, o7, o8, none, none, none] ∧ Ko d c H1 H' ∧ Dk d c H' ∧ H' D = some (.lst xs) ∧ xs.length ≤ 4 + 2 * i ∧ ∀ x ∈ xs, SumV 4 H' x)
        ⟨none, none, none, none, none, acc, rfl, (kp2.trans kp3).trans kp4, hD4, kp4 _ _ ned nec hacc3, by omega, fun x hx' => ((hx x hx').mono t3).mono (hD3.tups kp4)⟩ (fun _ _ _ _ _ => trivial) ?_ ?_
      · rintro i x σ' H5 H6 hi ⟨o4, o5, o6, o7, o8, xs, rfl, kp5, hD5, hxs, hlx, hx5⟩ ⟨rfl, hxx⟩
        have hxx : x = V.int (i : Int) := hxx.trans (by show V.int (0 + (i : Int)) = _; rw [Int.zero_add])
        subst hxx
        have hi3 : i < 3 := by omega
        have hmany : 1 < many := by
          rcases hj with h | h
          · exact h
          · subst h
            exact absurd hi (by simp)
        walk_at "rd"
        refine r_call ?_
        walk_at "rd"
        refine ⟨d, c, many, rfl, hD5, hm1, by omega, fun fi H7 f0 f1 kp7 hD7 => ?_⟩
        walk_at "rd"
        refine r_call ?_
        walk_at "rd"
        refine ⟨d, c, many - 1, rfl, hD7, by omega, by omega, fun se H8 _ _ kp8 hD8 => ?_⟩
        walk_at "rd"
        refine r_I (show many ≠ 0 by omega) ?_
        walk_at "rd"
        have hse := fmod_in (i := fi + 1 + se) hm1
        generalize (fi + 1 + se).fmod many = sec at hse ⊢
        refine r_I (.inl ⟨by decide, by decide⟩) ?_
        walk_at "rd"
        refine r_call ?_
        walk_at "rd"
        refine ⟨d, c, 2, rfl, hD8, by decide, by decide, fun p1 H9 p10 p11 kp9 hD9 => ?_⟩
        walk_at "rd"
        refine r_I (.inl ⟨by decide, by decide⟩) ?_
        walk_at "rd"
        refine r_call ?_
        walk_at "rd"
        refine ⟨d, c, 2, rfl, hD9, by decide, by decide, fun p2 H10 p20 p21 kp10 hD10 => ?_⟩
        walk_at "re"
        have kp510 : Ko d c H6 H10 := (kp7.trans kp8).trans (kp9.trans kp10)
        have hxs10 : H10 D = some (.lst xs) := kp510 _ _ ned nec hxs
        have one0 : 0 ≤ 2 * fi + p1 := by omega
        have one1 : 2 * fi + p1 < 24 := by omega
        have oth0 : 0 ≤ 2 * sec + p2 := by omega
        have oth1 : 2 * sec + p2 < 24 := by omega
        generalize 2 * fi + p1 = one at one0 one1 ⊢
        generalize 2 * sec + p2 = oth at oth0 oth1 ⊢
        refine r_seq ?_
        refine r_twoS (d := d) (c := c) (fun H Q q => r_var (by with_unfolding_all rfl) q) (fun H Q q => r_var (by with_unfolding_all rfl) q) (by with_unfolding_all rfl) hxs10 (by omega) hD10 ned nec (by unfold Sm; omega) (by unfold Sm; omega) fun u H11 kp11 hD11 hl11 hu11 t11 => ?_
        have kp1_11 : Ko d c H1 H11 := fun b o h1 h2 e => kp11 b o (ne_of_none e hDn) ((kp5.trans kp510) b o h1 h2 e)
        have t5_11 : Tk H6 H11 := fun t ys e => t11 _ _ (hD5.tups kp510 _ _ e)
        walk_at "re"
        refine iteB (fun h => ?_) (fun h => ?_)
        · refine r_twoS (a := Builtin.bitXor one 1) (b := Builtin.bitXor oth 1) (d := d) (c := c) (fun H Q q => by walk_at "rd"; exact q) (fun H Q q => by walk_at "rd"; exact q) (by with_unfolding_all rfl) hl11 (by rw [List.length_append, List.length_singleton]; omega) hD11 ned nec (xor_sm one0 one1) (xor_sm oth0 oth1) fun u' H12 kp12 hD12 hl12 hu12 t12 => ?_
          refine ⟨_, _, _, _, _, _, rfl, fun b o h1 h2 e => kp12 b o (ne_of_none e hDn) (kp1_11 b o h1 h2 e), hD12, hl12, by rw [List.length_append, List.length_append, List.length_singleton, List.length_singleton]; omega, ?_⟩
          exact all_snoc (all_snoc (fun x hx' => ((hx5 x hx').mono t5_11).mono t12) (hu11.mono t12)) hu12
        · walk_at "re"
          exact ⟨_, _, _, _, _, _, rfl, kp1_11, hD11, hl11, by rw [List.length_append, List.length_singleton]; omega, all_snoc (fun x hx' => (hx5 x hx').mono t5_11) hu11⟩
      · rintro σ' H5 ⟨o4, o5, o6, o7, o8, xs, rfl, kp5, hD5, hxs, hlx, hx5⟩
        exact hn _ _ ⟨o4, o5, o6, o7, o8, xs, rfl, kp5, hD5, hxs, by omega, hx5⟩
    rintro _ H4 ⟨o4, o5, o6, o7, o8, xs, rfl, kp4, hD4, hxs, hlx, hx4⟩
    -- one more
    refine r_mid (fun σ' H' => ∃ (xs : List V), σ' = [some (.ref d), some (.int many), some (.ref D), some (.int kind), o4, o5, o6, o7, o8, none, none, none] ∧ Ko d c H1 H' ∧ Dk d c H' ∧ H' D = some (.lst xs) ∧ xs.length ≤ 11 ∧ ∀ x ∈ xs, SumV 4 H' x) ?_ fun n hn => ?_
    rotate_left
    · walk_at "re"
      refine iteB (fun h => ?_) (fun h => ?_)
      · walk_at "re"
        refine r_tyl hxs ?_
        walk_at "re"
        refine r_call ?_
        walk_at "re"
        refine r_lenL (SqL.of hxs) ?_
        walk_at "re"
        refine ⟨d, c, _, rfl, hD4, by omega, by omega, fun at_ H5 a0 a1 kp5 hD5 => ?_⟩
        walk_at "re"
        refine r_call ?_
        walk_at "re"
        refine r_I (.inl ⟨by decide, by decide⟩) ?_
        walk_at "re"
        refine ⟨d, c, _, rfl, hD5, by omega, by omega, fun lt H6 l0 l1 kp6 hD6 => ?_⟩
        walk_at "re"
        refine ⟨by simp, r_new fun p H7 p0 s7 hp => ?_⟩
        walk_at "re"
        refine ⟨by simp, r_new fun t H8 t0 s8 ht => ?_⟩
        walk_at "re"
        refine r_call ?_
        walk_at "re"
        have hD8 := (hD6.same s7).same s8
        refine ⟨d, c, 2, rfl, hD8, by decide, by decide, fun dg H9 d0 d1 kp9 hD9 => ?_⟩
        walk_at "re"
        refine ⟨by simp, r_new fun u H10 u0 s10 hu => ?_⟩
        walk_at "re"
        have kp410 : Ko d c H4 H10 := ((kp5.trans kp6).trans (.of (s7.trans s8))).trans (kp9.trans (.of s10))
        have hxs10 : H10 D = some (.lst xs) := kp410 _ _ ned nec hxs
        refine ⟨D, xs, at_, .ref u, rfl, rfl, hxs10, by omega, a0, by omega, r_chg fun H11 e11 h11 => ?_⟩
        have tb := tup_but hxs10 e11
        have t8_11 : Tk H8 H11 := fun t ys e => tb _ _ (s10 _ _ (hD8.tups kp9 _ _ e))
        refine hn _ _ ⟨_, rfl, Ko.but (kp4.trans kp410) hDn e11, (hD9.same s10).but ned nec e11, h11, ?_, ?_⟩
        · rw [List.length_append, List.length_append, List.length_take, List.length_drop, List.length_singleton]
          omega
        · have old : ∀ x ∈ xs, SumV 4 H11 x := fun x hx' => ((hx4 x hx').mono (hD4.tups kp410)).mono tb
          intro x hx'
          rcases List.mem_append.mp hx' with h | h
          · rcases List.mem_append.mp h with h | h
            · exact old x (List.mem_of_mem_take h)
            · rw [List.mem_singleton.mp h]
              refine ⟨u, .ref t, _, rfl, tb _ _ hu, ⟨t, _, rfl, t8_11 _ _ ht, (by show 1 ≤ 4; omega), fun y hy => ?_⟩, by unfold Sm; omega⟩
              rw [List.mem_singleton.mp hy]
              exact ⟨p, lt, 2, rfl, t8_11 _ _ (s8 _ _ hp), by unfold Sm; omega, by unfold Sm; omega⟩
          · exact old x (List.mem_of_mem_drop h)
      · walk_at "re"
        exact hn _ _ ⟨xs, rfl, kp4, hD4, hxs, by omega, hx4⟩
    clear hxs hlx hx4
    rintro _ H5 ⟨xs, rfl, kp5, hD5, hxs, hlx, hx5⟩
    refine r_seq ?_
    walk_at "re"
    -- the price
    refine r_mid (fun σ' H' => ∃ (pv : V) (o10 : Option V), σ' = [some (.ref d), some (.int many), some (.ref D), some (.int kind), o4, o5, o6, o7, o8, some pv, o10, none] ∧ Ko d c H5 H' ∧ Dk d c H' ∧ (pv = .non ∨ SumV 12 H' pv)) ?_ fun n hn => ?_
    · rintro _ H6 ⟨pv, o10, rfl, kp6, hD6, hpv⟩
      walk_at "rd"
      have hxs6 : H6 D = some (.lst xs) := kp6 _ _ ned nec hxs
      refine ⟨D, xs, rfl, SqL.of hxs6, r_new fun t H7 t0 s7 ht => ?_⟩
      walk_at "rd"
      refine ⟨by simp, r_new fun u H8 u0 s8 hu => ?_⟩
      walk_at "rd"
      have s78 := s7.trans s8
      refine q _ H8 (kp1.trans ((kp5.trans kp6).trans (.of s78))) (hD6.same s78) ⟨u, t, xs, pv, many, rfl, hu, by unfold Sm; omega, s8 _ _ ht, hlx, fun x hx' => ((hx5 x hx').mono (hD5.tups kp6)).mono (tup_same s78), hpv.imp id (SumV.mono (tup_same s78))⟩
    · walk_at "re"
      refine r_call ?_
      walk_at "re"
      refine ⟨d, c, 3, rfl, hD5, by decide, by decide, fun r H6 r0 r1 kp6 hD6 => ?_⟩
      walk_at "re"
      refine iteB (fun h => ?_) (fun h => ?_)
      · walk_at "rd"
        refine r_iRng ?_
        walk_at "rd"
        refine ⟨many, rfl, by omega, by omega, ?_⟩
        refine r_lcW walk_range (fun D' i H' => Ko d c H6 H' ∧ Dk d c H' ∧ ∃ acc, H' D' = some (.lst acc) ∧ acc.length ≤ i ∧ ∀ x ∈ acc, PairV H' x) (fun D' H' hDn s hDl => ⟨.of s, hD6.same s, [], hDl, Nat.zero_le _, (fun x hx => absurd hx List.not_mem_nil)⟩) (fun _ _ _ _ _ _ => trivial) ?_ ?_
        · rintro D' i x H7 H8 hDn' hi ⟨kp7, hD7, acc, hacc, hl, hx⟩ ⟨rfl, hxx⟩
          have hxx : x = V.int (i : Int) := hxx.trans (by show V.int (0 + (i : Int)) = _; rw [Int.zero_add])
          subst hxx
          obtain ⟨ned', nec'⟩ := hD6.ne hDn'
          have hi12 : i < 12 := by omega
          walk_at "re"
          refine ⟨rfl, ?_⟩
          walk_at "re"
          refine r_call ?_
          walk_at "re"
          refine ⟨d, c, 3, rfl, hD7, by decide, by decide, fun r' H9 r0' r1' kp9 hD9 => ?_⟩
          walk_at "re"
          have hacc9 : H9 D' = some (.lst acc) := kp9 _ _ ned' nec' hacc
          refine iteB (fun h => ?_) (fun h => ?_)
          · walk_at "re"
            refine r_I (.inl ⟨by decide, by decide⟩) ?_
            walk_at "re"
            refine r_call ?_
            walk_at "re"
            refine ⟨d, c, 2, rfl, hD9, by decide, by decide, fun p1 H10 p10 p11 kp10 hD10 => ?_⟩
            walk_at "re"
            refine r_call ?_
            walk_at "re"
            refine ⟨d, c, 5, rfl, hD10, by decide, by decide, fun p2 H11 p20 p21 kp11 hD11 => ?_⟩
            walk_at "re"
            refine ⟨by simp, r_new fun tp H12 tp0 s12 htp => ?_⟩
            have hacc12 : H12 D' = some (.lst acc) := s12 _ _ (kp11 _ _ ned' nec' (kp10 _ _ ned' nec' hacc9))
            refine r_acc hacc12 (by omega) (r_chg fun H13 e13 h13 => ?_)
            have tb := tup_but hacc12 e13
            have kp813 : Ko d c H8 H12 := (kp9.trans kp10).trans (kp11.trans (.of s12))
            refine ⟨Ko.but (kp7.trans kp813) hDn' e13, (hD11.same s12).but ned' nec' e13, _, h13, by rw [List.length_append, List.length_singleton]; omega, all_snoc (fun x hx' => ((hx x hx').mono (hD7.tups kp813)).mono tb) ⟨tp, _, _, rfl, tb _ _ htp, ?_, by unfold Sm; omega⟩⟩
            unfold Sm
            omega
          · exact ⟨kp7.trans kp9, hD9, acc, hacc9, by omega, fun x hx' => (hx x hx').mono (hD7.tups kp9)⟩
        · rintro D' H7 hDn' ⟨kp7, hD7, acc, hacc, hl, hx⟩
          walk_at "rd"
          refine ⟨D', acc, rfl, SqL.of hacc, r_new fun t H8 t0 s8 ht => ?_⟩
          walk_at "rd"
          refine r_call ?_
          walk_at "rd"
          refine ⟨d, c, 9, rfl, hD7.same s8, by decide, by decide, fun dg H9 d0 d1 kp9 hD9 => ?_⟩
          walk_at "rd"
          refine ⟨by simp, r_new fun u H10 u0 s10 hu => ?_⟩
          walk_at "rd"
          have kp710 : Ko d c H7 H10 := (Ko.of s8).trans (kp9.trans (.of s10))
          refine hn _ _ ⟨.ref u, _, rfl, (kp6.trans kp7).trans kp710, hD9.same s10, .inr ⟨u, _, _, rfl, hu, ⟨t, acc, rfl, s10 _ _ ((hD7.same s8).tups kp9 _ _ ht), by omega, fun x hx' => (hx x hx').mono (hD7.tups kp710)⟩, by unfold Sm; omega⟩⟩
      · walk_at "rd"
        exact hn _ _ ⟨.non, none, rfl, kp6, hD6, .inl rfl⟩
end
end Kt
namespace Kt
open PySem PySem.Spec PyProof.Rows L2
/-! ## 22. The words of a problem -/
def wOk (s : Str) : Bool := decide (s ≠ "") && decide (s.length ≤ 31) && decide ((cp s).count 59 ≤ 1)
def nOk (s : Str) : Bool := decide (s ≠ "") && decide (s.length ≤ 5) && decide ((cp s).count 59 ≤ 0)
def WdV (x : V) : Prop := ∃ s, x = .str s ∧ wOk s = true
theorem nOk_all : ∀ k : Fin 2001, nOk (toString ((k.val : Int) - 1000) : String) = true := by decide +kernel
theorem nOk_sm {i : Int} (h : Sm i) : nOk (toString i : String) = true := by
  unfold Sm at h
  have := nOk_all ⟨(i + 1000).toNat, by omega⟩
  have e : (((⟨(i + 1000).toNat, by omega⟩ : Fin 2001).val : Nat) : Int) - 1000 = i := by
    show (((i + 1000).toNat : Nat) : Int) - 1000 = i
    omega
  rw [e] at this
  exact this
theorem nOk_w {s : Str} (h : nOk s = true) : wOk s = true := by
  unfold nOk at h
  unfold wOk
  rw [Bool.and_eq_true, Bool.and_eq_true] at h
  rw [Bool.and_eq_true, Bool.and_eq_true]
  have h2 := of_decide_eq_true h.1.2
  have h3 := of_decide_eq_true h.2
  exact ⟨⟨h.1.1, decide_eq_true (by omega)⟩, decide_eq_true (by omega)⟩
theorem sm_log {i : Int} (h : Sm i) : i.natAbs.log2 < 1920 := by
  unfold Sm at h
  have h1 : i.natAbs < 2 ^ 1920 := Nat.lt_of_le_of_lt (show i.natAbs ≤ 1000 by omega) (by decide +kernel)
  by_cases h0 : i.natAbs = 0
  · rw [h0]
    decide +kernel
  · exact (Nat.log2_lt h0).mpr h1
theorem cp_app (a b : Str) : cp (a ++ b) = cp a ++ cp b := by
  show (a.cps ++ b.cps).toList = _
  exact Array.toList_append
theorem len_app (a b : Str) : (a ++ b).length = a.length + b.length := by
  rw [← cp_len, cp_app, List.length_append, cp_len, cp_len]
theorem wd_str {s : Str} (h : wOk s = true) : WdV (.str s) := ⟨s, rfl, h⟩
theorem sm_fdiv2 {i : Int} (h : Sm i) : Sm (i.fdiv 2) := by
  unfold Sm at *
  rw [Int.fdiv_eq_ediv_of_nonneg _ (by decide)]
  omega
def OutW (H : Hp) (n : Nat) (Q : VK) : Prop := ∀ a ws H', Same H H' → H a = none → H' a = some (.lst ws) → ws.length ≤ n → (∀ x ∈ ws, WdV x) → Q (.ref a) H'
def spNW : Sp := fun vs H Q _ => ∃ i, vs = [.int i] ∧ Sm i ∧ OutW H 2 Q
def spLW : Sp := fun vs H Q _ => ∃ i, vs = [.int i] ∧ Sm i ∧ OutW H 2 Q
def spTW : Sp := fun vs H Q _ => ∃ v n, vs = [v] ∧ n ≤ 12 ∧ TermsV n H v ∧ OutW H (4 * n + 1) Q
def spPW : Sp := fun vs H Q _ => ∃ v, vs = [v] ∧ ProbV H v ∧ OutW H 297 Q
theorem r_iTp {K : PySem.W.Frag} {te : TE} {σ : L2.St} {H : Hp} {R : It → Hp → Prop} (q : te σ H fun x H1 => ∃ a, x = .ref a ∧ (∃ xs, SqT K H1 a xs) ∧ R (Itt K a) H1) : iTup K te σ H R := q
theorem wd_app {xs ys : List V} (h : ∀ x ∈ xs, WdV x) (h' : ∀ x ∈ ys, WdV x) : ∀ x ∈ xs ++ ys, WdV x := fun x hx => (List.mem_append.mp hx).elim (h x) (h' x)
theorem wd_one {x : V} (h : WdV x) : ∀ y ∈ [x], WdV y := fun y hy => by rw [List.mem_singleton.mp hy]; exact h
theorem wd_two {x x' : V} (h : WdV x) (h' : WdV x') : ∀ y ∈ [x, x'], WdV y := fun y hy => by
  rcases List.mem_cons.mp hy with e | e
  · rw [e]; exact h
  · rw [List.mem_singleton.mp e]; exact h'
section
variable {P : Program} {w : World} {K : PySem.W.Frag} {mg : Str → Option Value} {base : Heap} {fI : Addr}
theorem ok_law_number_words (T : Txt K mg) : FnOk P w K mg base CX0 1 T.f_law_number_words T.d_law_number_words ["number"] spNW := by
  refine T.F_law_number_words.ok sc_law_number_words (fun vs H Q E h => ?_) (fun cdv A outer s H vs Q E hr h => ?_)
  · obtain ⟨i, rfl, _⟩ := h
    rfl
  · obtain ⟨i, rfl, hi, q⟩ := h
    refine ⟨_, pss_one (ps_ret (pe_ifExp (pt_cmpR op_lt (pv 0) pe_int (nomark _)) (pe_lstN (pa_cons pe_str (pa_cons (pe_callTy call_strI (by rfl) T.z_str boot_str (pa_cons (pe_op op_sub pe_int (pv 0)) pa_nil)) pa_nil)))
      (pe_lstN (pa_cons (pe_callTy call_strI (by rfl) T.z_str boot_str (pa_cons (pv 0) pa_nil)) pa_nil)))), ?_⟩
    walk_at "rd"
    refine iteB (fun h => ?_) (fun h => ?_)
    · walk_at "rd"
      have hi' : Sm (0 - i) := by unfold Sm at *; omega
      refine r_strI (sm_log hi') ?_
      walk_at "rd"
      refine ⟨by simp, r_new fun p H1 p0 s1 hp => ?_⟩
      exact q p _ H1 s1 p0 hp (by simp) (wd_two (wd_str (by decide +kernel)) (wd_str (nOk_w (nOk_sm hi'))))
    · walk_at "rd"
      refine r_strI (sm_log hi) ?_
      walk_at "rd"
      refine ⟨by simp, r_new fun p H1 p0 s1 hp => ?_⟩
      exact q p _ H1 s1 p0 hp (by simp) (wd_one (wd_str (nOk_w (nOk_sm hi))))
theorem x_ok {s : Str} (h : nOk s = true) : wOk ("x" ++ s) = true := by
  unfold nOk at h
  unfold wOk
  rw [Bool.and_eq_true, Bool.and_eq_true] at h
  rw [Bool.and_eq_true, Bool.and_eq_true]
  have h2 := of_decide_eq_true h.1.2
  have h3 := of_decide_eq_true h.2
  have hx : ("x" : Str).length = 1 := by decide +kernel
  refine ⟨⟨decide_eq_true fun e => ?_, decide_eq_true (by rw [len_app, hx]; omega)⟩, decide_eq_true ?_⟩
  · have := len_app "x" s
    rw [e, hx, (by decide +kernel : ("" : Str).length = 0)] at this
    omega
  · rw [cp_app, List.count_append, cpx, (by decide +kernel : List.count 59 [120] = 0)]
    omega
theorem ok_law_literal_words (T : Txt K mg) : FnOk P w K mg base CX0 1 T.f_law_literal_words T.d_law_literal_words ["literal"] spLW := by
  refine T.F_law_literal_words.ok sc_law_literal_words (fun vs H Q E h => ?_) (fun cdv A outer s H vs Q E hr h => ?_)
  · obtain ⟨i, rfl, _⟩ := h
    rfl
  · obtain ⟨i, rfl, hi, q⟩ := h
    refine ⟨_, pss_one (ps_ret (pe_op op_catN (pe_op op_repN (pe_lstN (pa_cons pe_str pa_nil)) (pe_op op_modN (pe_callTy call_intI (by rfl) T.z_int boot_int (pa_cons (pv 0) pa_nil)) pe_int))
      (pe_lstN (pa_cons (pe_op op_catS pe_str (pe_callTy call_strI (by rfl) T.z_str boot_str (pa_cons (pe_op op_fdivN (pv 0) pe_int) pa_nil))) pa_nil)))), ?_⟩
    walk_at "rd"
    refine ⟨by simp, r_new fun p H1 p0 s1 hp => ?_⟩
    walk_at "rd"
    refine r_I (show (2 : Int) ≠ 0 by decide) ?_
    have hm := fmod_in (i := i) (m := 2) (by decide)
    generalize i.fmod 2 = m at hm
    refine ⟨p, m, _, rfl, rfl, hp, by omega, by omega, by simp; omega, r_new fun p2 H2 p20 s2 hp2 => ?_⟩
    walk_at "rd"
    refine r_I ⟨by decide, by decide⟩ ?_
    walk_at "rd"
    have hf := sm_fdiv2 hi
    refine r_strI (sm_log hf) ?_
    have hn := nOk_sm hf
    have hl : (Str.ofString (toString (i.fdiv 2))).length ≤ 5 := by
      unfold nOk at hn
      rw [Bool.and_eq_true, Bool.and_eq_true] at hn
      exact of_decide_eq_true hn.1.2
    refine r_catS (by rw [(by decide +kernel : ("x" : Str).length = 1)]; omega) ?_
    walk_at "rd"
    refine ⟨by simp, r_new fun p3 H3 p30 s3 hp3 => ?_⟩
    walk_at "rd"
    have hlr : ((List.replicate m.toNat [V.str "~"]).flatten).length ≤ 1 := by
      rcases (by omega : m = 0 ∨ m = 1) with e | e
      · rw [e]
        decide +kernel
      · rw [e]
        decide +kernel
    refine r_cat (s3 _ _ hp2) hp3 (by simp at hlr ⊢; omega) (r_new fun p4 H4 p40 s4 hp4 => ?_)
    refine q p4 _ H4 ((s1.trans s2).trans (s3.trans s4)) (((s1.trans s2).trans s3).free p40) hp4 (by rw [List.length_append, List.length_singleton]; omega) (wd_app (fun x hx => ?_) (wd_one (wd_str (x_ok hn))))
    obtain ⟨l, hl1, hl2⟩ := List.mem_flatten.mp hx
    rw [(List.mem_replicate.mp hl1).2] at hl2
    rw [List.mem_singleton.mp hl2]
    exact wd_str (by decide +kernel)
theorem ok_law_terms_words (T : Txt K mg) : FnOk P w K mg base CX0 2 T.f_law_terms_words T.d_law_terms_words ["terms"] spTW := by
  have G0 : FnOk P w K mg base CX0 1 T.f_law_literal_words T.d_law_literal_words ["literal"] spLW := ok_law_literal_words T
  refine T.F_law_terms_words.ok sc_law_terms_words (fun vs H Q E h => ?_) (fun cdv A outer s H vs Q E hr h => ?_)
  · obtain ⟨v, n, rfl, _⟩ := h
    rfl
  · obtain ⟨v, n, rfl, hn, ⟨t, xs, rfl, ht, hl, hx⟩, q⟩ := h
    have nd := sc_law_terms_words.nd
    refine ⟨_, pss_cons (ps_set (i := 1) nd rfl (Or.inl rfl) (pe_lstN pa_nil))
      (pss_cons (ps_for PassesOwn.never rfl (pi_tup (pv 0)) (pg_tup rfl (pgs_cons (pg_name (i := 2) nd rfl (Or.inl rfl)) (pgs_cons (pg_name (i := 3) nd rfl (Or.inl rfl)) pgs_nil)))
        (pss_one (ps_set (i := 1) nd rfl (Or.inl rfl) (pe_op op_catN (pe_op op_catN (pv 1) (pe_lstN (pa_cons pe_str (pa_cons (pe_callTy call_strI (by rfl) T.z_str boot_str (pa_cons (pv 3) pa_nil)) pa_nil))))
          (pe_call G0 hr (by rfl) T.g_law_literal_words T.F_law_literal_words.kp T.b_law_literal_words .nil pass0 (pa_cons (pv 2) pa_nil))))))
      (pss_one (ps_ret (pe_ifExp (pt_cmpR (op_neNil hr.units0) (pv 1) (pe_lstN pa_nil) (nomark _)) (pe_slice sl_listN (pv 1) (po_some pe_int) po_none) (pe_lstN (pa_cons pe_str pa_nil)))))), ?_⟩
    walk_at "rd"
    refine ⟨by simp, r_new fun wl H1 wl0 s1 hwl => ?_⟩
    walk_at "rd"
    refine r_iTp ?_
    walk_at "rd"
    refine ⟨t, rfl, ⟨_, SqT.of (s1 _ _ ht)⟩, ?_⟩
    refine r_forW walk_tup (fun i σ' H' => ∃ (wl : Addr) (ws : List V) (o2 o3 : Option V), σ' = [some (.ref t), some (.ref wl), o2, o3] ∧ Same H H' ∧ H wl = none ∧ H' wl = some (.lst ws) ∧ ws.length ≤ 4 * i ∧ ∀ x ∈ ws, WdV x)
      ⟨wl, [], none, none, rfl, s1, wl0, hwl, Nat.zero_le _, (fun x hx => absurd hx List.not_mem_nil)⟩ (fun i σ' H' _ ⟨_, _, _, _, _, s, _⟩ => SqT.of (s _ _ ht)) ?_ ?_
    · rintro i x σ' H2 H3 hi ⟨wl', ws, o2, o3, rfl, s2, wl0', hws, hlw, hww⟩ ⟨rfl, hxx⟩
      obtain ⟨tp, a, b, rfl, htp, ha, hb⟩ := hx x (List.mem_of_getElem? hxx)
      have hi12 : i < 12 := by omega
      refine r_gtup (SqT.of (s2 _ _ htp)) rfl ?_
      walk_at "rd"
      refine r_strI (sm_log hb) ?_
      walk_at "rd"
      refine ⟨by simp, r_new fun p H4 p0 s4 hp => ?_⟩
      walk_at "rd"
      refine r_cat (s4 _ _ hws) hp (by simp; omega) (r_new fun p2 H5 p20 s5 hp2 => ?_)
      refine r_call ?_
      walk_at "rd"
      refine ⟨a, rfl, ha, fun p3 ws3 H6 s6 p30 hp3 hl3 hw3 => ?_⟩
      refine r_cat (s6 _ _ hp2) hp3 (by simp; omega) (r_new fun p4 H7 p40 s7 hp4 => ?_)
      walk_at "rd"
      refine ⟨p4, _, _, _, rfl, (s2.trans (s4.trans s5)).trans (s6.trans s7), ((s2.trans (s4.trans s5)).trans s6).free p40, hp4, by simp; omega, wd_app (wd_app hww (wd_two (wd_str (by decide +kernel)) (wd_str (nOk_w (nOk_sm hb))))) hw3⟩
    · rintro σ' H2 ⟨wl', ws, o2, o3, rfl, s2, wl0', hws, hlw, hww⟩
      walk_at "rd"
      refine ⟨by simp, r_new fun nl H3 nl0 s3 hnl => ?_⟩
      refine r_neNil (SqL.of (s3 _ _ hws)) (SqL.of hnl) ?_
      walk_at "rd"
      refine iteB (fun h => ?_) (fun h => ?_)
      · walk_at "rd"
        refine ⟨wl', ws, rfl, SqL.of (s3 _ _ hws), r_new fun p H4 p0 s4 hp => ?_⟩
        have := cutV_length ws (some 1) none
        exact q p _ H4 ((s2.trans s3).trans s4) ((s2.trans s3).free p0) hp (by omega) (fun x hx' => hww x (cutV_mem hx'))
      · walk_at "rd"
        refine ⟨by simp, r_new fun p H4 p0 s4 hp => ?_⟩
        exact q p _ H4 ((s2.trans s3).trans s4) ((s2.trans s3).free p0) hp (by simp) (wd_one (wd_str (by decide +kernel)))
theorem ok_law_problem_words (T : Txt K mg) : FnOk P w K mg base CX0 3 T.f_law_problem_words T.d_law_problem_words ["problem"] spPW := by
  have G0 : FnOk P w K mg base CX0 2 T.f_law_terms_words T.d_law_terms_words ["terms"] spTW := ok_law_terms_words T
  have G1 : FnOk P w K mg base CX0 1 T.f_law_number_words T.d_law_number_words ["number"] spNW := ok_law_number_words T
  refine T.F_law_problem_words.ok sc_law_problem_words (fun vs H Q E h => ?_) (fun cdv A outer s H vs Q E hr h => ?_)
  · obtain ⟨v, rfl, _⟩ := h
    rfl
  · obtain ⟨v, rfl, ⟨t, ss, xs, pr, m, rfl, ht, hm, hss, hl, hx, hpv⟩, q⟩ := h
    have nd := sc_law_problem_words.nd
    have hr1 : Room 1 _ := hr.mono (by decide)
    refine ⟨_, pss_cons (ps_set (i := 1) nd rfl (Or.inl rfl) (pe_lstN (pa_cons pe_str (pa_cons (pe_callTy call_strI (by rfl) T.z_str boot_str (pa_cons (pe_ix ix_tup (pv 0) pe_int (fun _ _ => rfl)) pa_nil)) pa_nil))))
      (pss_cons (ps_if (pt_cmpR op_notN1 (pe_ix ix_tup (pv 0) pe_int (fun _ _ => rfl)) pe_non rfl)
        (pss_one (ps_set (i := 1) nd rfl (Or.inl rfl) (pe_op op_catN (pe_op op_catN (pe_op op_catN (pe_op op_catN (pv 1) (pe_lstN (pa_cons pe_str pa_nil)))
          (pe_call G0 hr (by rfl) T.g_law_terms_words T.F_law_terms_words.kp T.b_law_terms_words .nil pass0 (pa_cons (pe_ix ix_tup (pe_ix ix_tup (pv 0) pe_int (fun _ _ => rfl)) pe_int (fun _ _ => rfl)) pa_nil))) (pe_lstN (pa_cons pe_str pa_nil)))
          (pe_call G1 hr1 (by rfl) T.g_law_number_words T.F_law_number_words.kp T.b_law_number_words .nil pass0 (pa_cons (pe_ix ix_tup (pe_ix ix_tup (pv 0) pe_int (fun _ _ => rfl)) pe_int (fun _ _ => rfl)) pa_nil))))) pss_nil)
      (pss_cons (ps_for PassesOwn.never rfl (pi_tup (pe_ix ix_tup (pv 0) pe_int (fun _ _ => rfl))) (pg_tup rfl (pgs_cons (pg_name (i := 2) nd rfl (Or.inl rfl)) (pgs_cons (pg_name (i := 3) nd rfl (Or.inl rfl)) pgs_nil)))
        (pss_one (ps_set (i := 1) nd rfl (Or.inl rfl) (pe_op op_catN (pe_op op_catN (pe_op op_catN (pe_op op_catN (pv 1) (pe_lstN (pa_cons pe_str pa_nil)))
          (pe_call G0 hr (by rfl) T.g_law_terms_words T.F_law_terms_words.kp T.b_law_terms_words .nil pass0 (pa_cons (pv 2) pa_nil))) (pe_lstN (pa_cons pe_str (pa_cons pe_str pa_nil))))
          (pe_call G1 hr1 (by rfl) T.g_law_number_words T.F_law_number_words.kp T.b_law_number_words .nil pass0 (pa_cons (pv 3) pa_nil))))))
      (pss_one (ps_ret (pv 1))))), ?_⟩
    refine r_seq ?_
    walk_at "re"
    refine r_ixT (SqT.of ht) (atI_nat (j := 0) rfl) ?_
    walk_at "re"
    refine r_strI (sm_log hm) ?_
    walk_at "re"
    refine ⟨by simp, r_new fun wl H1 wl0 s1 hwl => ?_⟩
    walk_at "re"
    have hw0 := wd_two (wd_str (by decide +kernel : wOk "problem" = true)) (wd_str (nOk_w (nOk_sm hm)))
    refine r_mid (fun σ' H' => ∃ (wl : Addr) (ws : List V), σ' = [some (.ref t), some (.ref wl), none, none] ∧ Same H H' ∧ H wl = none ∧ H' wl = some (.lst ws) ∧ ws.length ≤ 55 ∧ ∀ x ∈ ws, WdV x) ?_ fun n hn => ?_
    · rintro _ H2 ⟨wl', ws, rfl, s2, wl0', hws, hlw, hww⟩
      walk_at "rd"
      refine r_iTp ?_
      walk_at "rd"
      refine r_ixT (SqT.of (s2 _ _ ht)) (atI_nat (j := 1) rfl) ?_
      refine ⟨ss, rfl, ⟨_, SqT.of (s2 _ _ hss)⟩, ?_⟩
      refine r_forW walk_tup (fun i σ' H' => ∃ (wl : Addr) (ws : List V) (o2 o3 : Option V), σ' = [some (.ref t), some (.ref wl), o2, o3] ∧ Same H H' ∧ H wl = none ∧ H' wl = some (.lst ws) ∧ ws.length ≤ 55 + 22 * i ∧ ∀ x ∈ ws, WdV x)
        ⟨wl', ws, none, none, rfl, s2, wl0', hws, by omega, hww⟩ (fun i σ' H' _ ⟨_, _, _, _, _, s, _⟩ => SqT.of (s _ _ hss)) ?_ ?_
      · rintro i x σ' H3 H4 hi ⟨wl', ws, o2, o3, rfl, s3, wl0', hws, hlw, hww⟩ ⟨rfl, hxx⟩
        obtain ⟨tp, tv, dg, rfl, htp, htv, hdg⟩ := (hx x (List.mem_of_getElem? hxx)).mono (tup_same s3)
        have hi11 : i < 11 := by omega
        refine r_gtup (SqT.of htp) rfl ?_
        walk_at "rd"
        refine ⟨by simp, r_new fun p H5 p0 s5 hp => ?_⟩
        refine r_cat (s5 _ _ hws) hp (by simp; omega) (r_new fun p2 H6 p20 s6 hp2 => ?_)
        refine r_call ?_
        walk_at "rd"
        refine ⟨tv, 4, rfl, by decide, htv.mono (tup_same (s5.trans s6)), fun p3 ws3 H7 s7 p30 hp3 hl3 hw3 => ?_⟩
        refine r_cat (s7 _ _ hp2) hp3 (by simp; omega) (r_new fun p4 H8 p40 s8 hp4 => ?_)
        walk_at "rd"
        refine ⟨by simp, r_new fun p5 H9 p50 s9 hp5 => ?_⟩
        refine r_cat (s9 _ _ hp4) hp5 (by simp; omega) (r_new fun p6 H10 p60 s10 hp6 => ?_)
        refine r_call ?_
        walk_at "rd"
        refine ⟨dg, rfl, hdg, fun p7 ws7 H11 s11 p70 hp7 hl7 hw7 => ?_⟩
        refine r_cat (s11 _ _ hp6) hp7 (by simp; omega) (r_new fun p8 H12 p80 s12 hp8 => ?_)
        walk_at "rd"
        have sb : Same H H11 := (((s3.trans s5).trans s6).trans s7).trans ((s8.trans s9).trans (s10.trans s11))
        exact ⟨p8, _, _, _, rfl, sb.trans s12, sb.free p80, hp8, by simp; omega, wd_app (wd_app (wd_app (wd_app hww (wd_one (wd_str (by decide +kernel)))) hw3) (wd_two (wd_str (by decide +kernel)) (wd_str (by decide +kernel)))) hw7⟩
      · rintro σ' H3 ⟨wl', ws, o2, o3, rfl, s3, wl0', hws, hlw, hww⟩
        walk_at "rd"
        exact q wl' _ H3 s3 wl0' hws (by omega) hww
    · walk_at "re"
      refine r_ixT (SqT.of (s1 _ _ ht)) (atI_nat (j := 2) rfl) ?_
      walk_at "re"
      refine ⟨rfl, ?_⟩
      walk_at "re"
      rcases hpv with rfl | hpv
      · walk_at "re"
        exact hn _ _ ⟨wl, _, rfl, s1, wl0, hwl, by simp, hw0⟩
      · obtain ⟨tp, tv, dg, rfl, htp, htv, hdg⟩ := hpv.mono (tup_same s1)
        walk_at "re"
        refine ⟨by simp, r_new fun p H5 p0 s5 hp => ?_⟩
        refine r_cat (s5 _ _ hwl) hp (by simp) (r_new fun p2 H6 p20 s6 hp2 => ?_)
        refine r_call ?_
        walk_at "re"
        have s16 := s5.trans s6
        refine r_ixT (SqT.of (s16 _ _ (s1 _ _ ht))) (atI_nat (j := 2) rfl) ?_
        walk_at "re"
        refine r_ixT (SqT.of (s16 _ _ htp)) (atI_nat (j := 0) rfl) ?_
        walk_at "re"
        refine ⟨tv, 12, rfl, by decide, htv.mono (tup_same s16), fun p3 ws3 H7 s7 p30 hp3 hl3 hw3 => ?_⟩
        refine r_cat (s7 _ _ hp2) hp3 (by simp; omega) (r_new fun p4 H8 p40 s8 hp4 => ?_)
        walk_at "re"
        refine ⟨by simp, r_new fun p5 H9 p50 s9 hp5 => ?_⟩
        refine r_cat (s9 _ _ hp4) hp5 (by simp; omega) (r_new fun p6 H10 p60 s10 hp6 => ?_)
        refine r_call ?_
        walk_at "re"
        have s110 : Same H1 H10 := (s16.trans s7).trans ((s8.trans s9).trans s10)
        refine r_ixT (SqT.of (s110 _ _ (s1 _ _ ht))) (atI_nat (j := 2) rfl) ?_
        walk_at "re"
        refine r_ixT (SqT.of (s110 _ _ htp)) (atI_nat (j := 1) rfl) ?_
        walk_at "re"
        refine ⟨dg, rfl, hdg, fun p7 ws7 H11 s11 p70 hp7 hl7 hw7 => ?_⟩
        refine r_cat (s11 _ _ hp6) hp7 (by simp; omega) (r_new fun p8 H12 p80 s12 hp8 => ?_)
        walk_at "re"
        have sb : Same H H11 := s1.trans (s110.trans s11)
        exact hn _ _ ⟨p8, _, rfl, sb.trans s12, sb.free p80, hp8, by simp; omega, wd_app (wd_app (wd_app (wd_app hw0 (wd_one (wd_str (by decide +kernel)))) hw3) (wd_one (wd_str (by decide +kernel)))) hw7⟩
end
end Kt
namespace Kt
open PySem PySem.Spec PyProof.Rows L2
/-! ## 23. The text spread, the words mixed -/
def zeros : Str := ⟨(List.replicate 30 ("0" : Str).cps).foldl (· ++ ·) #[]⟩
def rZer : R2 := fun x y H Q => x = .str "0" ∧ y = .int 30 ∧ Q (.str zeros) H
theorem op_zer {X : Cx} : OpR X (binaryOp .Mult) rZer := by
  intro pins s σ H x y v u Q I rx ry h
  obtain ⟨rfl, rfl, q⟩ := h
  obtain ⟨t, rfl⟩ := rx
  obtain ⟨t', rfl⟩ := ry
  refine PySem.P.mul_str (by decide) (fun _ _ => by decide +kernel) (fun _ _ => by decide +kernel) ?_
  rw [if_neg (by decide), if_neg (by decide +kernel)]
  exact ⟨by decide +kernel, .str zeros, H, I.tok _, ⟨_, rfl⟩, q⟩
theorem r_zer {Q : VK} {H : Hp} (q : Q (.str zeros) H) : rZer (.str "0") (.int 30) H Q := ⟨rfl, rfl, q⟩
theorem at_in {xs : List V} {r : Int} (h0 : 0 ≤ r) (h1 : r < xs.length) : ∃ v, atI xs r = some v ∧ v ∈ xs := by
  have hr : r.toNat < xs.length := by omega
  have h := atI_nat (List.getElem?_eq_getElem hr)
  rw [show ((r.toNat : Nat) : Int) = r from Int.toNat_of_nonneg h0] at h
  exact ⟨_, h, List.getElem_mem _⟩
def bOk (s : Str) : Bool := decide (s.length ≤ 2) && decide ((cp s).count 59 ≤ 0)
theorem all_str {p : Str → Bool} (l : List Str) (h : l.all p = true) : ∀ x ∈ l.map V.str, ∃ s, x = .str s ∧ p s = true := fun x hx => by
  obtain ⟨s, hs, rfl⟩ := List.mem_map.mp hx
  exact ⟨s, rfl, List.all_eq_true.mp h s hs⟩
theorem bOk_in {s : Str} (h : bOk s = true) : s.length ≤ 2 ∧ (cp s).count 59 = 0 := by
  unfold bOk at h
  rw [Bool.and_eq_true] at h
  have h1 := of_decide_eq_true h.1
  have h2 := of_decide_eq_true h.2
  omega
theorem wOk_in {s : Str} (h : wOk s = true) : s ≠ "" ∧ s.length ≤ 31 ∧ (cp s).count 59 ≤ 1 := by
  unfold wOk at h
  rw [Bool.and_eq_true, Bool.and_eq_true] at h
  exact ⟨of_decide_eq_true h.1.1, of_decide_eq_true h.1.2, of_decide_eq_true h.2⟩
def spSpread : Sp := fun vs H Q _ => ∃ (d c a : Addr) (ws : List V), vs = [.ref d, .ref a] ∧ Dk d c H ∧ a ≠ d ∧ a ≠ c ∧ H a = some (.lst ws) ∧ ws.length ≤ 300 ∧ (∀ x ∈ ws, WdV x) ∧ ∀ (z : Str) H', Ko d c H H' → Dk d c H' → z.length ≤ 20000 → (cp z).count 59 ≤ 300 → Q (.str z) H'
def spMixed : Sp := fun vs H Q _ => ∃ (d c a : Addr) (ws : List V), vs = [.ref d, .ref a] ∧ Dk d c H ∧ a ≠ d ∧ a ≠ c ∧ H a = some (.lst ws) ∧ ws.length ≤ 297 ∧ (∀ x ∈ ws, WdV x) ∧ ∀ a' ws' H', Ko d c H H' → Dk d c H' → H a' = none → H' a' = some (.lst ws') → ws'.length ≤ 300 → (∀ x ∈ ws', WdV x) → Q (.ref a') H'
section
variable {P : Program} {w : World} {K : PySem.W.Frag} {mg : Str → Option Value} {base : Heap} {fI : Addr}
theorem ok_law_spread (T : Txt K mg) : FnOk P w K mg base CX0 2 T.f_law_spread T.d_law_spread ["deck", "words"] spSpread := by
  have G0 : FnOk P w K mg base CX0 1 T.f_law_pick T.d_law_pick ["deck", "many"] spPick := ok_law_pick T
  refine T.F_law_spread.ok sc_law_spread (fun vs H Q E h => ?_) (fun cdv A outer s H vs Q E hr h => ?_)
  · obtain ⟨d, c, a, ws, rfl, _⟩ := h
    rfl
  · obtain ⟨d, c, a, ws, rfl, hD, had, hac, ha, hl, hw, q⟩ := h
    have nd := sc_law_spread.nd
    refine ⟨_, pss_cons (ps_par3 (i := 2) (j := 3) (l := 4) rfl nd rfl rfl rfl (by decide) (by decide) (by decide) rfl rfl rfl (pa_cons pe_str (pa_cons (pe_ix ix_list (pe_lstN (pa_cons pe_str (pa_cons pe_str (pa_cons pe_str pa_nil))))
        (pe_call G0 hr (by rfl) T.g_law_pick T.F_law_pick.kp T.b_law_pick .nil pass0 (pa_cons (pv 0) (pa_cons pe_int pa_nil))) (fun _ _ => rfl)) (pa_cons pe_str pa_nil))) (by rfl))
      (pss_cons (ps_for PassesOwn.never rfl (pi_list (pv 1)) (pg_name (i := 5) nd rfl (Or.inl rfl))
        (pss_cons (ps_set (i := 6) nd rfl (Or.inl rfl) (pe_ix ix_list (pe_lstN (pa_cons pe_str (pa_cons pe_str (pa_cons pe_str (pa_cons pe_str (pa_cons pe_str pa_nil))))))
          (pe_call G0 hr (by rfl) T.g_law_pick T.F_law_pick.kp T.b_law_pick .nil pass0 (pa_cons (pv 0) (pa_cons pe_int pa_nil))) (fun _ _ => rfl)))
        (pss_cons (ps_if (PW.pt (pw_and (pt_cmpR op_eq (pv 6) pe_str (nomark _)) (pw_and (pt_cmpR op_ne (pv 4) pe_str (nomark _)) (pw_and (pt_cmpR op_inSg (pe_ix ix_str (pv 4) (pe_un un_neg pe_int) (fun _ _ => rfl)) (pv 2) rfl)
            (pw_and1 (pt_cmpR op_inSg (pe_ix ix_str (pv 5) pe_int (fun _ _ => rfl)) (pv 2) rfl))))))
          (pss_one (ps_set (i := 6) nd rfl (Or.inl rfl) pe_str)) pss_nil)
        (pss_cons (ps_set (i := 3) nd rfl (Or.inl rfl) (pe_op op_catS (pe_op op_catS (pv 3) (pv 6)) (pv 5)))
        (pss_one (ps_set (i := 4) nd rfl (Or.inl rfl) (pv 5)))))))
      (pss_one (ps_ret (pe_op op_catS (pv 3) (pe_ix ix_list (pe_lstN (pa_cons pe_str (pa_cons pe_str pa_nil))) (pe_call G0 hr (by rfl) T.g_law_pick T.F_law_pick.kp T.b_law_pick .nil pass0 (pa_cons (pv 0) (pa_cons pe_int pa_nil))) (fun _ _ => rfl)))))), ?_⟩
    obtain ⟨rn, hrn⟩ : ∃ rn : Str, rn = "abcdefghijklmnopqrstuvwxyz0123456789" := ⟨_, rfl⟩
    rw [← hrn]
    clear hrn
    walk_at "rd"
    refine ⟨by simp, r_new fun p H1 p0 s1 hp => ?_⟩
    walk_at "rd"
    refine r_call ?_
    walk_at "rd"
    refine ⟨d, c, 3, rfl, hD.same s1, by decide, by decide, fun r H2 r0 r1 kp2 hD2 => ?_⟩
    obtain ⟨npd, npc⟩ := hD.ne p0
    obtain ⟨v, hv, hvm⟩ := at_in (xs := [V.str "", V.str " ", V.str "\n "]) r0 r1
    obtain ⟨t0, rfl, ht0⟩ := all_str (p := bOk) ["", " ", "\n "] (by decide +kernel) v hvm
    refine r_ixL (SqL.of (kp2 _ _ npd npc hp)) hv ?_
    walk_at "rd"
    have hb0 := bOk_in ht0
    have k2 : Ko d c H H2 := (Ko.of s1).trans kp2
    refine r_iList rfl (SqL.of (k2 _ _ had hac ha)) ?_
    refine r_forW walk_list (fun i σ' H' => ∃ (z l : Str) (o5 o6 : Option V), σ' = [some (.ref d), some (.ref a), some (.str rn), some (.str z), some (.str l), o5, o6] ∧ Ko d c H H' ∧ Dk d c H' ∧ z.length ≤ 2 + 33 * i ∧ (cp z).count 59 ≤ i ∧ l.length ≤ 31)
      ⟨t0, "", none, none, rfl, k2, hD2, by omega, by omega, by decide +kernel⟩ (fun i σ' H' _ ⟨_, _, _, _, _, k, _⟩ => SqL.of (k _ _ had hac ha)) ?_ ?_
    · rintro i x σ' H3 H4 hi ⟨z, l, o5, o6, rfl, k3, hD3, hz, hcz, hll⟩ ⟨rfl, hxx⟩
      obtain ⟨wv, rfl, hwv⟩ := hw x (List.mem_of_getElem? hxx)
      have hwi := wOk_in hwv
      have hi3 : i < 300 := by omega
      refine r_seq ?_
      walk_at "re"
      refine ⟨by simp, r_new fun p5 H5 p50 s5 hp5 => ?_⟩
      walk_at "re"
      refine r_call ?_
      walk_at "re"
      refine ⟨d, c, 5, rfl, hD3.same s5, by decide, by decide, fun r H6 r0 r1 kp6 hD6 => ?_⟩
      obtain ⟨np5d, np5c⟩ := hD3.ne p50
      obtain ⟨v5, hv5, hvm5⟩ := at_in (xs := [V.str "", V.str "", V.str " ", V.str "\n", V.str "  "]) r0 r1
      obtain ⟨b, rfl, hb⟩ := all_str (p := bOk) ["", "", " ", "\n", "  "] (by decide +kernel) v5 hvm5
      refine r_ixL (SqL.of (kp6 _ _ np5d np5c hp5)) hv5 ?_
      walk_at "re"
      have k6 : Ko d c H H6 := k3.trans ((Ko.of s5).trans kp6)
      refine r_mid (fun σ' H' => ∃ b : Str, bOk b = true ∧ σ' = [some (.ref d), some (.ref a), some (.str rn), some (.str z), some (.str l), some (.str wv), some (.str b)] ∧ H' = H6) ?_ fun n hn => ?_
      · rintro _ H7 ⟨b, hb, rfl, rfl⟩
        have hbi := bOk_in hb
        walk_at "rd"
        refine r_catS (by omega) ?_
        walk_at "rd"
        refine r_catS (by rw [len_app]; omega) ?_
        walk_at "rd"
        refine ⟨_, _, _, _, rfl, k6, hD6, ?_, ?_, hwi.2.1⟩
        · rw [len_app, len_app]
          omega
        · rw [cp_app, cp_app, List.count_append, List.count_append]
          omega
      · have keep : n [some (.ref d), some (.ref a), some (.str rn), some (.str z), some (.str l), some (.str wv), some (.str b)] H6 := hn _ _ ⟨b, hb, rfl, rfl⟩
        walk_at "re"
        refine iteB (fun h => ?_) (fun h => ?_)
        · walk_at "re"
          refine iteB (fun h => ?_) (fun h => ?_)
          · have hne : l ≠ "" := by simpa using h
            have hcl : cp l ≠ [] := fun e => hne (str_ext (by rw [e, cpE]))
            obtain ⟨l', cl, hl'⟩ : ∃ l' cl, cp l = l' ++ [cl] := ⟨_, _, (List.dropLast_concat_getLast hcl).symm⟩
            have hwc : cp wv ≠ [] := fun e => hwi.1 (str_ext (by rw [e, cpE]))
            obtain ⟨cw, hcw⟩ : ∃ cw, (cp wv)[0]? = some cw := ⟨_, List.getElem?_eq_getElem (List.length_pos_iff.mpr hwc)⟩
            walk_at "re"
            refine r_ixS (c := cl) (by show atI (cp l) (-1) = _; rw [hl']; exact atI_last _ _) (by omega) ?_
            walk_at "re"
            refine iteB (fun h => ?_) (fun h => ?_)
            · walk_at "re"
              refine r_ixS (atI_nat (j := 0) hcw) (by omega) ?_
              walk_at "re"
              refine iteB (fun h => ?_) (fun h => ?_)
              · walk_at "re"
                exact hn _ _ ⟨" ", by decide +kernel, rfl, rfl⟩
              · walk_at "re"
                exact keep
            · walk_at "re"
              exact keep
          · walk_at "re"
            exact keep
        · walk_at "re"
          exact keep
    · rintro σ' H3 ⟨z, l, o5, o6, rfl, k3, hD3, hz, hcz, hll⟩
      walk_at "rd"
      refine ⟨by simp, r_new fun p5 H5 p50 s5 hp5 => ?_⟩
      walk_at "rd"
      refine r_call ?_
      walk_at "rd"
      refine ⟨d, c, 2, rfl, hD3.same s5, by decide, by decide, fun r H6 r0 r1 kp6 hD6 => ?_⟩
      obtain ⟨np5d, np5c⟩ := hD3.ne p50
      obtain ⟨v5, hv5, hvm5⟩ := at_in (xs := [V.str "", V.str "\n"]) r0 r1
      obtain ⟨b, rfl, hb⟩ := all_str (p := bOk) ["", "\n"] (by decide +kernel) v5 hvm5
      have hbi := bOk_in hb
      refine r_ixL (SqL.of (kp6 _ _ np5d np5c hp5)) hv5 ?_
      refine r_catS (by omega) ?_
      refine q _ H6 (k3.trans ((Ko.of s5).trans kp6)) hD6 (by rw [len_app]; omega) ?_
      rw [cp_app, List.count_append]
      omega
end
end Kt
namespace Kt
open PySem PySem.Spec PyProof.Rows L2
/-! ## 24. The words mixed; the semicolons of a text -/
def pool1 : List Str := ["0", "1", "7", "x0", "x1", "x11", "~", "+", ">", "=", ";", "price", "from", "problem", "-", "1000001", "1000000", "007", "x", "x01"]
def pool2 : List Str := ["x60", "X", "1" ++ zeros, "999999999", "a", "_", "(", "00", "x1x", "60", "61", "0x", "from0", "\t", "?"]
theorem pool_ok : (pool1 ++ pool2).all wOk = true := by decide +kernel
theorem cut_to (xs : List V) {k : Int} (h : 0 ≤ k) : cutV xs none (some k) = xs.take k.toNat := by
  unfold cutV
  obtain ⟨n, rfl⟩ : ∃ n : Nat, k = n := ⟨k.toNat, (Int.toNat_of_nonneg h).symm⟩
  rw [HT.sIx_nat, HT.sIx_none, List.drop_zero, Nat.sub_zero, Int.toNat_natCast]
  rcases Nat.lt_or_ge n xs.length with h | h
  · rw [Nat.min_eq_left (Nat.le_of_lt h)]
  · rw [Nat.min_eq_right h, List.take_length, List.take_of_length_le h]
theorem cut_from (xs : List V) {k : Int} (h : 0 ≤ k) : cutV xs (some k) none = xs.drop k.toNat := by
  unfold cutV
  obtain ⟨n, rfl⟩ : ∃ n : Nat, k = n := ⟨k.toNat, (Int.toNat_of_nonneg h).symm⟩
  rw [HT.sIx_nat, HT.sIx_none, Int.toNat_natCast]
  rcases Nat.lt_or_ge n xs.length with h | h
  · rw [Nat.min_eq_left (Nat.le_of_lt h), List.take_of_length_le (by rw [List.length_drop]; exact Nat.le_refl _)]
  · rw [Nat.min_eq_right h, List.drop_length, List.take_nil, List.drop_of_length_le h]
theorem r_exIf {b : Bool} {tA tB : TE} {σ : L2.St} {H : Hp} {Q : VK} (P : V → Hp → Prop) (hA : ∀ Q : VK, (∀ v H', P v H' → Q v H') → tA σ H Q) (hB : ∀ Q : VK, (∀ v H', P v H' → Q v H') → tB σ H Q) (q : ∀ v H', P v H' → Q v H') : if b = true then tA σ H Q else tB σ H Q := by
  split
  · exact hA Q q
  · exact hB Q q
section
variable {P : Program} {w : World} {K : PySem.W.Frag} {mg : Str → Option Value} {base : Heap} {fI : Addr}
theorem ok_law_mixed (T : Txt K mg) : FnOk P w K mg base CX0 2 T.f_law_mixed T.d_law_mixed ["deck", "words"] spMixed := by
  have G0 : FnOk P w K mg base CX0 1 T.f_law_pick T.d_law_pick ["deck", "many"] spPick := ok_law_pick T
  refine T.F_law_mixed.ok sc_law_mixed (fun vs H Q E h => ?_) (fun cdv A outer s H vs Q E hr h => ?_)
  · obtain ⟨d, c, a, ws, rfl, _⟩ := h
    rfl
  · obtain ⟨d, c, a, ws, rfl, hD, had, hac, ha, hl, hw, q⟩ := h
    have nd := sc_law_mixed.nd
    refine ⟨_, pss_cons (ps_set (i := 2) nd rfl (Or.inl rfl) (pe_lstN (pa_cons pe_str (pa_cons pe_str (pa_cons pe_str (pa_cons pe_str (pa_cons pe_str (pa_cons pe_str (pa_cons pe_str (pa_cons pe_str (pa_cons pe_str (pa_cons pe_str (pa_cons pe_str (pa_cons pe_str (pa_cons pe_str (pa_cons pe_str (pa_cons pe_str (pa_cons pe_str (pa_cons pe_str (pa_cons pe_str (pa_cons pe_str (pa_cons pe_str pa_nil))))))))))))))))))))))
      (pss_cons (ps_set (i := 2) nd rfl (Or.inl rfl) (pe_op op_catN (pv 2) (pe_lstN (pa_cons pe_str (pa_cons pe_str (pa_cons (pe_op op_catS pe_str (pe_op op_zer pe_str pe_int)) (pa_cons pe_str (pa_cons pe_str (pa_cons pe_str (pa_cons pe_str (pa_cons pe_str (pa_cons pe_str (pa_cons pe_str (pa_cons pe_str (pa_cons pe_str (pa_cons pe_str (pa_cons pe_str (pa_cons pe_str pa_nil))))))))))))))))))
      (pss_cons (ps_set (i := 3) nd rfl (Or.inl rfl) (pe_callTy call_listN (by rfl) T.z_list boot_list (pa_cons (pv 1) pa_nil)))
      (pss_cons (ps_for PassesOwn.never rfl (pi_range1 (by rfl) T.z_range (pa_cons (pe_call G0 hr (by rfl) T.g_law_pick T.F_law_pick.kp T.b_law_pick .nil pass0 (pa_cons (pv 0) (pa_cons pe_int pa_nil))) pa_nil)) (pg_name (i := 4) nd rfl (Or.inl rfl))
        (pss_cons (ps_par (i := 5) (j := 6) rfl nd rfl rfl (by decide) rfl rfl (pa_cons (pe_call G0 hr (by rfl) T.g_law_pick T.F_law_pick.kp T.b_law_pick .nil pass0 (pa_cons (pv 0) (pa_cons (pe_op op_add (pe_callB call_lenL (by rfl) T.z_len PySem.boot_len (pa_cons (pv 3) pa_nil)) pe_int) pa_nil)))
            (pa_cons (pe_call G0 hr (by rfl) T.g_law_pick T.F_law_pick.kp T.b_law_pick .nil pass0 (pa_cons (pv 0) (pa_cons pe_int pa_nil))) pa_nil)) (by rfl))
        (pss_cons (ps_set (i := 7) nd rfl (Or.inl rfl) (pe_ifExp (PW.pt (pw_or (pt_cmpR op_gt (pe_call G0 hr (by rfl) T.g_law_pick T.F_law_pick.kp T.b_law_pick .nil pass0 (pa_cons (pv 0) (pa_cons pe_int pa_nil))) pe_int (nomark _)) (pw_or1 (pt_cmpR (op_eqNil hr.units0) (pv 3) (pe_lstN pa_nil) (nomark _)))))
            (pe_ix ix_list (pv 2) (pe_call G0 hr (by rfl) T.g_law_pick T.F_law_pick.kp T.b_law_pick .nil pass0 (pa_cons (pv 0) (pa_cons pe_int pa_nil))) (fun _ _ => rfl))
            (pe_ix ix_list (pv 3) (pe_call G0 hr (by rfl) T.g_law_pick T.F_law_pick.kp T.b_law_pick .nil pass0 (pa_cons (pv 0) (pa_cons (pe_callB call_lenL (by rfl) T.z_len PySem.boot_len (pa_cons (pv 3) pa_nil)) pa_nil))) (fun _ _ => rfl))))
        (pss_one (ps_set (i := 3) nd rfl (Or.inl rfl) (pe_op op_catN (pe_op op_catN (pe_slice sl_listN (pv 3) po_none (po_some (pv 5))) (pe_ifExp (pt_cmpR op_lt (pv 6) pe_int (nomark _)) (pe_lstN (pa_cons (pv 7) pa_nil)) (pe_lstN pa_nil)))
            (pe_slice sl_listN (pv 3) (po_some (pe_op op_add (pv 5) (pe_callTy call_intB (by rfl) T.z_int boot_int (pa_cons (pe_cmpR op_gt (pv 6) pe_int (nomark _)) pa_nil)))) po_none)))))))
      (pss_one (ps_ret (pv 3)))))), ?_⟩
    walk_at "rd"
    refine ⟨by simp, r_new fun p1 H1 p10 s1 hp1 => ?_⟩
    walk_at "rd"
    refine r_zer ?_
    refine r_catS (by decide +kernel) ?_
    walk_at "rd"
    refine ⟨by simp, r_new fun p2 H2 p20 s2 hp2 => ?_⟩
    refine r_cat (s2 _ _ hp1) hp2 (by simp) (r_new fun pl H3 pl0 s3 hpl => ?_)
    have hpl : H3 pl = some (.lst ((pool1 ++ pool2).map V.str)) := hpl
    have hpw : ∀ x ∈ (pool1 ++ pool2).map V.str, WdV x := all_str _ pool_ok
    have hpn : ((pool1 ++ pool2).map V.str).length = 35 := by rw [List.length_map]; rfl
    generalize (pool1 ++ pool2).map V.str = pool at hpl hpw hpn
    walk_at "rd"
    have s13 := (s1.trans s2).trans s3
    refine ⟨a, ws, rfl, SqL.of (s13 _ _ ha), r_new fun fl H4 fl0 s4 hfl => ?_⟩
    walk_at "rd"
    refine r_iRng ?_
    walk_at "rd"
    refine r_call ?_
    walk_at "rd"
    have s14 := s13.trans s4
    have hD3 := hD.same (s1.trans s2)
    obtain ⟨pld, plc⟩ := hD3.ne pl0
    refine ⟨d, c, 4, rfl, hD.same s14, by decide, by decide, fun tn H5 tn0 tn1 kp5 hD5 => ?_⟩
    walk_at "rd"
    refine ⟨tn, rfl, by omega, by omega, ?_⟩
    have hpl5 : H5 pl = some (.lst pool) := kp5 _ _ pld plc (s4 _ _ hpl)
    have k5 : Ko d c H H5 := (Ko.of s14).trans kp5
    obtain ⟨fld, flc⟩ := (hD.same s13).ne fl0
    refine r_forW walk_range (fun i σ' H' => ∃ (fl : Addr) (ws : List V) (o4 o5 o6 o7 : Option V), σ' = [some (.ref d), some (.ref a), some (.ref pl), some (.ref fl), o4, o5, o6, o7] ∧ Ko d c H H' ∧ Ko d c H5 H' ∧ Dk d c H' ∧ H fl = none ∧ H' fl = some (.lst ws) ∧ ws.length ≤ 297 + i ∧ ∀ x ∈ ws, WdV x)
      ⟨fl, ws, none, none, none, none, rfl, k5, .refl, hD5, s13.free fl0, kp5 _ _ fld flc hfl, by omega, hw⟩ (fun _ _ _ _ _ => trivial) ?_ ?_
    · rintro i x σ' H6 H7 hi ⟨fl, ws, o4, o5, o6, o7, rfl, k6, k56, hD6, hfl0, hfl, hlw, hww⟩ ⟨rfl, hxx⟩
      have hxx : x = V.int (i : Int) := hxx.trans (by show V.int (0 + (i : Int)) = _; rw [Int.zero_add])
      subst hxx
      have hi3 : i < 3 := by omega
      obtain ⟨fd, fc⟩ := hD.ne hfl0
      refine r_seq ?_
      walk_at "re"
      refine r_call ?_
      walk_at "re"
      refine r_lenL (SqL.of hfl) ?_
      walk_at "re"
      refine ⟨d, c, _, rfl, hD6, by omega, by omega, fun at_ H8 a0 a1 kp8 hD8 => ?_⟩
      walk_at "re"
      refine r_call ?_
      walk_at "re"
      refine ⟨d, c, 4, rfl, hD8, by decide, by decide, fun wh H9 wh0 wh1 kp9 hD9 => ?_⟩
      walk_at "re"
      have k79 : Ko d c H7 H9 := kp8.trans kp9
      have hfl9 : H9 fl = some (.lst ws) := k79 _ _ fd fc hfl
      have hpl9 : H9 pl = some (.lst pool) := (k56.trans k79) _ _ pld plc hpl5
      refine r_mid (fun σ' H' => ∃ v, σ' = [some (.ref d), some (.ref a), some (.ref pl), some (.ref fl), some (.int i), some (.int at_), some (.int wh), some v] ∧ WdV v ∧ Ko d c H9 H' ∧ Dk d c H') ?_ fun n hn => ?_
      · rintro _ H10 ⟨v, rfl, hv, k10, hD10⟩
        have hfl10 : H10 fl = some (.lst ws) := k10 _ _ fd fc hfl9
        walk_at "rd"
        refine ⟨fl, ws, rfl, SqL.of hfl10, r_new fun l1 H11 l10 s11 hl1 => ?_⟩
        walk_at "rd"
        rw [cut_to _ a0] at hl1
        refine r_exIf (fun x H' => ∃ l2 ys, x = .ref l2 ∧ Same H11 H' ∧ H' l2 = some (.lst ys) ∧ ys.length ≤ 1 ∧ (0 ≥ wh ∨ True) ∧ ∀ y ∈ ys, WdV y) (fun Q' hQ' => ?_) (fun Q' hQ' => ?_) ?_
        · walk_at "rd"
          refine ⟨by simp, r_new fun l2 H12 l20 s12 hl2 => ?_⟩
          exact hQ' _ _ ⟨l2, _, rfl, s12, hl2, by simp, .inr trivial, wd_one hv⟩
        · walk_at "rd"
          refine ⟨by simp, r_new fun l2 H12 l20 s12 hl2 => ?_⟩
          exact hQ' _ _ ⟨l2, _, rfl, s12, hl2, by simp, .inr trivial, fun y hy => absurd hy List.not_mem_nil⟩
        rintro _ H12 ⟨l2, ys, rfl, s12, hl2, hly, _, hwy⟩
        refine r_cat (s12 _ _ hl1) hl2 (by rw [List.length_take]; omega) (r_new fun l3 H13 l30 s13' hl3 => ?_)
        walk_at "rd"
        have s1013 := (s11.trans s12).trans s13'
        refine ⟨fl, ws, rfl, SqL.of (s1013 _ _ hfl10), r_new fun l4 H14 l40 s14' hl4 => ?_⟩
        rw [cut_from _ (by split <;> omega)] at hl4
        refine r_cat (s14' _ _ hl3) hl4 (by rw [List.length_append, List.length_take, List.length_drop]; omega) (r_new fun l5 H15 l50 s15 hl5 => ?_)
        walk_at "rd"
        have s1015 := (s1013.trans s14').trans s15
        have k915 : Ko d c H9 H15 := k10.trans (.of s1015)
        have k15 : Ko d c H H15 := (k6.trans k79).trans k915
        have kh14 : Ko d c H H14 := (k6.trans k79).trans (k10.trans (.of (s1013.trans s14')))
        have l5n : H l5 = none := by
          cases e : H l5 with
          | none => rfl
          | some o =>
            have hh : l5 ≠ d ∧ l5 ≠ c := (hD10.same (s1013.trans s14')).ne l50
            have := kh14 _ _ hh.1 hh.2 e
            rw [l50] at this
            cases this
        refine ⟨l5, _, _, _, _, _, rfl, k15, (k56.trans k79).trans k915, hD10.same s1015, l5n, hl5, ?_, ?_⟩
        · rw [List.length_append, List.length_append, List.length_take, List.length_drop]
          omega
        · exact wd_app (wd_app (fun x hx => hww x (List.mem_of_mem_take hx)) hwy) (fun x hx => hww x (List.mem_of_mem_drop hx))
      · have drawn : ∀ (H10 : Hp), Ko d c H9 H10 → Dk d c H10 → tOp (rIxL K) (tVar 2) (tCall spPick [] E0 (tCons (tVar 0) (tCons (tC (.int 35)) tNil))) [some (.ref d), some (.ref a), some (.ref pl), some (.ref fl), some (.int i), some (.int at_), some (.int wh), o7] H10 (fun x H' => gName 7 x [some (.ref d), some (.ref a), some (.ref pl), some (.ref fl), some (.int i), some (.int at_), some (.int wh), o7] H' n) := by
          intro H10 k10 hD10
          walk_at "rd"
          refine r_call ?_
          walk_at "rd"
          refine ⟨d, c, 35, rfl, hD10, by decide, by decide, fun r H11 r0 r1 kp11 hD11 => ?_⟩
          obtain ⟨v, hv, hvm⟩ := at_in (xs := pool) r0 (by rw [hpn]; exact r1)
          refine r_ixL (SqL.of ((k10.trans kp11) _ _ pld plc hpl9)) hv ?_
          walk_at "rd"
          exact hn _ _ ⟨v, rfl, hpw v hvm, k10.trans kp11, hD11⟩
        walk_at "re"
        refine r_call ?_
        walk_at "re"
        refine ⟨d, c, 3, rfl, hD9, by decide, by decide, fun r H10 r0 r1 kp10 hD10 => ?_⟩
        walk_at "re"
        refine iteB (fun h => ?_) (fun h => ?_)
        · refine iteBT rfl ?_
          exact drawn H10 kp10 hD10
        · walk_at "re"
          refine ⟨by simp, r_new fun nl H11 nl0 s11 hnl => ?_⟩
          have hfl11 : H11 fl = some (.lst ws) := s11 _ _ (kp10 _ _ fd fc hfl9)
          refine r_eqNil (SqL.of hfl11) (SqL.of hnl) ?_
          walk_at "re"
          refine iteB (fun h => ?_) (fun h => ?_)
          · exact drawn H11 (kp10.trans (.of s11)) (hD10.same s11)
          · have hpos : 0 < ws.length := by
              cases ws with
              | nil => cases h
              | cons x xs => exact Nat.succ_pos _
            walk_at "re"
            refine r_call ?_
            walk_at "re"
            refine r_lenL (SqL.of hfl11) ?_
            walk_at "re"
            refine ⟨d, c, _, rfl, hD10.same s11, by omega, by omega, fun r H12 r0 r1 kp12 hD12 => ?_⟩
            obtain ⟨v, hv, hvm⟩ := at_in (xs := ws) r0 r1
            refine r_ixL (SqL.of (kp12 _ _ fd fc hfl11)) hv ?_
            walk_at "re"
            exact hn _ _ ⟨v, rfl, hww v hvm, (kp10.trans (.of s11)).trans kp12, hD12⟩
    · rintro σ' H6 ⟨fl, ws, o4, o5, o6, o7, rfl, k6, k56, hD6, hfl0, hfl, hlw, hww⟩
      walk_at "rd"
      exact q fl ws H6 k6 hD6 hfl0 hfl (by omega) hww
end
end Kt
namespace Kt
open PySem PySem.Spec PyProof.Rows L2
/-! ## 25. The law -/
theorem split_semi : ∀ (l : List Nat) (a : Nat), ((splitW a l).filter fun x => decide (x.1 = (";" : Str))).length ≤ l.count 59 := by
  intro l
  induction h : l.length using Nat.strongRecOn generalizing l with
  | _ n ih =>
    intro a
    cases l with
    | nil => unfold splitW; simp
    | cons c r =>
      unfold splitW
      rw [List.filter_append, List.length_append]
      have hd := ih (r.drop (more c r)).length (by rw [← h, List.length_drop, List.length_cons]; omega) _ rfl (a + 1 + more c r)
      have hs : (r.drop (more c r)).count 59 ≤ r.count 59 := (List.drop_sublist _ _).count_le _
      have h1 : ((if isBlank c = true then [] else [(tx (c :: r.take (more c r)), a)]).filter fun x => decide (x.1 = (";" : Str))).length ≤ if c = 59 then 1 else 0 := by
        split
        · simp
        · by_cases e : tx (c :: r.take (more c r)) = (";" : Str)
          · have e2 : cp (tx (c :: r.take (more c r))) = cp (";" : Str) := by rw [e]
            rw [cp_tx, (by decide +kernel : cp (";" : Str) = [59])] at e2
            rw [(List.cons.inj e2).1, if_pos rfl]
            exact List.length_filter_le _ _
          · rw [List.filter_cons_of_neg (by simpa using e)]
            simp
      rw [List.count_cons]
      have h2 : (if c = 59 then 1 else 0) = (if (c == 59) = true then 1 else 0) := by simp
      omega
theorem semi_text {z : Str} (h : (cp z).count 59 ≤ 300) : semi (splitW 0 (cp z)) (splitW 0 (cp z)).length ≤ 300 := by
  unfold semi
  rw [List.take_length]
  exact Nat.le_trans (split_semi _ _) h
theorem cut_sub (z : Str) (lo hi : Option Int) : (cp (cutS z lo hi)).Sublist (cp z) := by
  unfold cutS
  rw [cp_tx]
  exact (List.take_sublist _ _).trans (List.drop_sublist _ _)
def spLaw (K : PySem.W.Frag) : Sp := fun vs H Q _ => ∃ (a : Addr) (ns : List Int), vs = [.ref a] ∧ SqL K H a (ns.map V.int) ∧ ns.length ≤ 63 ∧ ∀ H', Q (.bl true) H'
section
variable {P : Program} {w : World} {K : PySem.W.Frag} {mg : Str → Option Value} {base : Heap} {fI : Addr}
theorem ok_law (T : Txt K mg) (B : BTxt P K mg T.CB fI) (C : ETxt K T.CB T.CS) : FnOk P w K mg base CX0 10 T.f_law T.d_law ["script"] (spLaw K) := by
  have G0 : FnOk P w K mg base CX0 1 T.f_law_deck T.d_law_deck ["script"] (spDeck K) := ok_law_deck T
  have G1 : FnOk P w K mg base CX0 1 T.f_law_pick T.d_law_pick ["deck", "many"] spPick := ok_law_pick T
  have G2 : FnOk P w K mg base CX0 3 T.f_law_tied T.d_law_tied ["deck", "many"] spTied := ok_law_tied T
  have G3 : FnOk P w K mg base CX0 3 T.f_law_problem_words T.d_law_problem_words ["problem"] spPW := ok_law_problem_words T
  have G4 : FnOk P w K mg base CX0 2 T.f_law_mixed T.d_law_mixed ["deck", "words"] spMixed := ok_law_mixed T
  have G5 : FnOk P w K mg base CX0 2 T.f_law_spread T.d_law_spread ["deck", "words"] spSpread := ok_law_spread T
  have G6 : FnOk P w K mg base CX0 9 T.f_law_told T.d_law_told ["text"] (spTold K) := ok_law_told T B C
  have G7 : FnOk P w K mg base CX0 5 T.f_law_read T.d_law_read ["text"] spLRead := ok_law_read T
  have G8 : FnOk P w K mg base CX0 1 T.f_law_alike T.d_law_alike ["told", "due"] spAlike := ok_law_alike T
  refine T.F_law.ok sc_law (fun vs H Q E h => ?_) (fun cdv A outer s H vs Q E hr h => ?_)
  · obtain ⟨a, ns, rfl, _⟩ := h
    rfl
  · obtain ⟨a, ns, rfl, hS, hn, q⟩ := h
    have nd := sc_law.nd
    have hr1 : Room 1 _ := hr.mono (by decide)
    have hr2 : Room 2 _ := hr.mono (by decide)
    have hr3 : Room 3 _ := hr.mono (by decide)
    have hr5 : Room 5 _ := hr.mono (by decide)
    refine ⟨_, pss_cons (ps_set (i := 1) nd rfl (Or.inl rfl) (pe_call G0 hr1 (by rfl) T.g_law_deck T.F_law_deck.kp T.b_law_deck .nil pass0 (pa_cons (pv 0) pa_nil)))
      (pss_cons (ps_for PassesOwn.never rfl (pi_range1 (by rfl) T.z_range (pa_cons (pe_op op_add pe_int (pe_callB (call_minI rfl) (by rfl) T.z_min boot_min (pa_cons (pe_callB call_lenL (by rfl) T.z_len PySem.boot_len (pa_cons (pv 0) pa_nil)) (pa_cons pe_int pa_nil)))) pa_nil)) (pg_name (i := 2) nd rfl (Or.inl rfl))
        (pss_cons (ps_set (i := 3) nd rfl (Or.inl rfl) (pe_op op_add pe_int (pe_call G1 hr1 (by rfl) T.g_law_pick T.F_law_pick.kp T.b_law_pick .nil pass0 (pa_cons (pv 1) (pa_cons pe_int pa_nil)))))
        (pss_cons (ps_set (i := 4) nd rfl (Or.inl rfl) (pe_call G3 hr3 (by rfl) T.g_law_problem_words T.F_law_problem_words.kp T.b_law_problem_words .nil pass0 (pa_cons (pe_call G2 hr3 (by rfl) T.g_law_tied T.F_law_tied.kp T.b_law_tied .nil pass0 (pa_cons (pv 1) (pa_cons (pv 3) pa_nil))) pa_nil)))
        (pss_cons (ps_for PassesOwn.never rfl (pi_range1 (by rfl) T.z_range (pa_cons pe_int pa_nil)) (pg_name (i := 5) nd rfl (Or.inl rfl))
          (pss_cons (ps_set (i := 6) nd rfl (Or.inl rfl) (pe_call G5 hr2 (by rfl) T.g_law_spread T.F_law_spread.kp T.b_law_spread .nil pass0 (pa_cons (pv 1) (pa_cons (pe_call G4 hr2 (by rfl) T.g_law_mixed T.F_law_mixed.kp T.b_law_mixed .nil pass0 (pa_cons (pv 1) (pa_cons (pv 4) pa_nil))) pa_nil))))
          (pss_cons (ps_if (pt_cmpR op_eq (pe_call G1 hr1 (by rfl) T.g_law_pick T.F_law_pick.kp T.b_law_pick .nil pass0 (pa_cons (pv 1) (pa_cons pe_int pa_nil))) pe_int (nomark _))
            (pss_one (ps_set (i := 6) nd rfl (Or.inl rfl) (pe_slice sl_str (pv 6) po_none (po_some (pe_call G1 hr1 (by rfl) T.g_law_pick T.F_law_pick.kp T.b_law_pick .nil pass0 (pa_cons (pv 1) (pa_cons (pe_op op_add (pe_callB call_lenS (by rfl) T.z_len PySem.boot_len (pa_cons (pv 6) pa_nil)) pe_int) pa_nil))))))) pss_nil)
          (pss_one (ps_if (pt_not (pt_val (pe_call G8 hr1 (by rfl) T.g_law_alike T.F_law_alike.kp T.b_law_alike .nil pass0
              (pa_cons (pe_call G6 hr (by rfl) T.g_law_told T.F_law_told.kp T.b_law_told .nil pass0 (pa_cons (pv 6) pa_nil)) (pa_cons (pe_call G7 hr5 (by rfl) T.g_law_read T.F_law_read.kp T.b_law_read .nil pass0 (pa_cons (pv 6) pa_nil)) pa_nil)))))
            (pss_one (ps_ret pe_bl)) pss_nil)))))
        (pss_one (ps_if (pt_not (pt_val (pe_call G8 hr1 (by rfl) T.g_law_alike T.F_law_alike.kp T.b_law_alike .nil pass0
              (pa_cons (pe_call G6 hr (by rfl) T.g_law_told T.F_law_told.kp T.b_law_told .nil pass0 (pa_cons (pe_ix ix_list (pe_lstN (pa_cons pe_non (pa_cons pe_int (pa_cons (pe_tupN (pa_cons pe_str pa_nil)) (pa_cons (pe_lstN (pa_cons pe_str (pa_cons pe_str pa_nil))) pa_nil)))))
                (pe_call G1 hr1 (by rfl) T.g_law_pick T.F_law_pick.kp T.b_law_pick .nil pass0 (pa_cons (pv 1) (pa_cons pe_int pa_nil))) (fun _ _ => rfl)) pa_nil)) (pa_cons (pe_tupN (pa_cons pe_non (pa_cons pe_int pa_nil))) pa_nil)))))
            (pss_one (ps_ret pe_bl)) pss_nil))))))
      (pss_one (ps_ret pe_bl))), ?_⟩
    walk_at "rd"
    refine r_call ?_
    walk_at "rd"
    refine ⟨a, _, rfl, hS, fun x hx => ?_, fun d c H1 s1 hD1 => ?_⟩
    · obtain ⟨i, _, rfl⟩ := List.mem_map.mp hx
      exact ⟨i, rfl⟩
    walk_at "rd"
    refine r_iRng ?_
    walk_at "rd"
    refine r_lenL (s1.seq hS) ?_
    walk_at "rd"
    rw [List.length_map]
    refine ⟨_, rfl, by split <;> omega, by split <;> omega, ?_⟩
    refine r_forW walk_range (fun i σ' H' => ∃ (o2 o3 o4 o5 o6 : Option V), σ' = [some (.ref a), some (.ref d), o2, o3, o4, o5, o6] ∧ Dk d c H') ⟨none, none, none, none, none, rfl, hD1⟩ (fun _ _ _ _ _ => trivial) ?_ ?_
    · rintro i x σ' H2 H3 hi ⟨o2, o3, o4, o5, o6, rfl, hD3⟩ ⟨rfl, rfl⟩
      refine r_seq ?_
      walk_at "re"
      refine r_call ?_
      walk_at "re"
      refine ⟨d, c, 12, rfl, hD3, by decide, by decide, fun r H4 r0 r1 _ hD4 => ?_⟩
      walk_at "re"
      refine r_seq ?_
      walk_at "re"
      refine r_call ?_
      walk_at "re"
      refine r_call ?_
      walk_at "re"
      refine ⟨d, c, 1 + r, rfl, hD4, by omega, by omega, fun pv H5 _ hD5 hpv => ?_⟩
      walk_at "re"
      refine ⟨pv, rfl, hpv, fun wl ws H6 s6 wl0 hws hlw hww => ?_⟩
      walk_at "re"
      obtain ⟨wd_, wc_⟩ := hD5.ne wl0
      have hD6 := hD5.same s6
      refine r_mid (fun σ' H' => ∃ (o5 o6 : Option V), σ' = [some (.ref a), some (.ref d), some (.int (0 + (i : Nat))), some (.int (1 + r)), some (.ref wl), o5, o6] ∧ Dk d c H') ?_ fun n hn => ?_
      · rintro _ H7 ⟨o5, o6, rfl, hD7⟩
        walk_at "rd"
        refine r_call ?_
        walk_at "rd"
        refine r_call ?_
        walk_at "rd"
        refine ⟨by simp, r_new fun t H8 t0 s8 ht => ?_⟩
        walk_at "rd"
        refine ⟨by simp, r_new fun l H9 l0 s9 hl => ?_⟩
        walk_at "rd"
        refine ⟨by simp, r_new fun m H10 m0 s10 hm => ?_⟩
        walk_at "rd"
        refine r_call ?_
        walk_at "rd"
        have s710 := (s8.trans s9).trans s10
        have hD10 := hD7.same s710
        obtain ⟨md, mc⟩ := (hD7.same (s8.trans s9)).ne m0
        refine ⟨d, c, 4, rfl, hD10, by decide, by decide, fun r H11 r0 r1 k11 hD11 => ?_⟩
        obtain ⟨v, hv, hvm⟩ := at_in (xs := [V.non, V.int 1, V.ref t, V.ref l]) r0 r1
        obtain ⟨ld, lc⟩ := (hD7.same s8).ne l0
        have ht11 : H11 t = some (.tup [.str "problem 1"]) := hD10.tups k11 _ _ (s10 _ _ (s9 _ _ ht))
        have hl11 : H11 l = some (.lst [.str "problem", .str "1"]) := k11 _ _ ld lc (s10 _ _ hl)
        refine r_ixL (SqL.of (k11 _ _ md mc hm)) hv ?_
        walk_at "rd"
        have hty : ∃ ty, (∀ H', Same H11 H' → TyX K H' v (.type ty)) ∧ kitB ty "str" = some false := by
          simp only [List.mem_cons, List.not_mem_nil, or_false] at hvm
          rcases hvm with rfl | rfl | rfl | rfl
          · exact ⟨"NoneType", fun _ _ => .base .non, by decide +kernel⟩
          · exact ⟨"int", fun _ _ => .base (.int 1), by decide +kernel⟩
          · exact ⟨"tuple", fun _ s => .base (.tup (s _ _ ht11)), by decide +kernel⟩
          · exact ⟨"list", fun _ s => .base (.lst (s _ _ hl11)), by decide +kernel⟩
        obtain ⟨ty, hty1, hty2⟩ := hty
        refine ⟨v, rfl, .inr ⟨ty, hty1, hty2, fun u H12 s12 hu => ?_⟩⟩
        walk_at "rd"
        refine ⟨by simp, r_new fun t2 H13 t20 s13 ht2 => ?_⟩
        walk_at "rd"
        refine ⟨u, .ref t2, .tuple [.none, .int 0], rfl, Rp.mono (tup_same s13) _ _ hu, .tup ht2 (.cons .non (.cons (.int _) .nil)), rfl, by decide, fun H14 s14 => ?_⟩
        walk_at "rd"
        exact ⟨_, _, _, _, _, rfl, hD11.same ((s12.trans s13).trans s14)⟩
      · refine r_for ?_
        refine r_iRng ?_
        walk_at "re"
        refine ⟨4, rfl, by decide, by decide, ?_⟩
        refine r_forW walk_range (fun j σ' H' => ∃ (o5 o6 : Option V), σ' = [some (.ref a), some (.ref d), some (.int (0 + (i : Nat))), some (.int (1 + r)), some (.ref wl), o5, o6] ∧ Dk d c H' ∧ H' wl = some (.lst ws)) ⟨o5, o6, rfl, hD6, hws⟩ (fun _ _ _ _ _ => trivial) ?_ ?_
        · rintro j x σ' H7 H8 hj ⟨o5, o6, rfl, hD8, hws8⟩ ⟨rfl, rfl⟩
          refine r_seq ?_
          walk_at "re"
          refine r_call ?_
          walk_at "re"
          refine r_call ?_
          walk_at "re"
          refine ⟨d, c, wl, ws, rfl, hD8, wd_, wc_, hws8, hlw, hww, fun a' ws' H9 k9 hD9 a'0 ha' hl' hw' => ?_⟩
          obtain ⟨a'd, a'c⟩ := hD8.ne a'0
          walk_at "re"
          refine ⟨d, c, a', ws', rfl, hD9, a'd, a'c, ha', hl', hw', fun z H10 k10 hD10 hz hcz => ?_⟩
          walk_at "re"
          have hws10 : H10 wl = some (.lst ws) := k10 _ _ wd_ wc_ (k9 _ _ wd_ wc_ hws8)
          refine r_mid (fun σ' H' => ∃ (z : Str), σ' = [some (.ref a), some (.ref d), some (.int (0 + (i : Nat))), some (.int (1 + r)), some (.ref wl), some (.int (0 + (j : Nat))), some (.str z)] ∧ Dk d c H' ∧ H' wl = some (.lst ws) ∧ z.length ≤ 20000 ∧ (cp z).count 59 ≤ 300) ?_ fun n hn => ?_
          · rintro _ H11 ⟨z, rfl, hD11, hws11, hz, hcz⟩
            walk_at "rd"
            refine r_call ?_
            walk_at "rd"
            refine r_call ?_
            walk_at "rd"
            refine ⟨.str z, rfl, .inl ⟨z, rfl, by omega, semi_text hcz, fun u H12 s12 hu => ?_⟩⟩
            walk_at "rd"
            refine r_call ?_
            walk_at "rd"
            refine ⟨z, rfl, by omega, semi_text hcz, fun v H13 s13 hv => ?_⟩
            walk_at "rd"
            refine ⟨u, v, readD z, rfl, Rp.mono (tup_same s13) _ _ hu, hv, read_ok z, read_sz (by omega), fun H14 s14 => ?_⟩
            walk_at "rd"
            have s1114 := (s12.trans s13).trans s14
            exact ⟨_, _, rfl, hD11.same s1114, s1114 _ _ hws11⟩
          · walk_at "re"
            refine r_call ?_
            walk_at "re"
            refine ⟨d, c, 4, rfl, hD10, by decide, by decide, fun r H11 r0 r1 k11 hD11 => ?_⟩
            walk_at "re"
            have hws11 : H11 wl = some (.lst ws) := k11 _ _ wd_ wc_ hws10
            refine iteB (fun h => ?_) (fun h => ?_)
            · walk_at "re"
              refine r_call ?_
              walk_at "re"
              refine r_lenS (by omega) ?_
              walk_at "re"
              refine ⟨d, c, _, rfl, hD11, by omega, by omega, fun r H12 r0 r1 k12 hD12 => ?_⟩
              walk_at "re"
              refine r_slS (by omega) ?_
              walk_at "re"
              have hsub := cut_sub z none (some r)
              refine hn _ _ ⟨_, rfl, hD12, k12 _ _ wd_ wc_ hws11, ?_, ?_⟩
              · have := hsub.length_le
                rw [cp_len, cp_len] at this
                omega
              · have := hsub.count_le 59
                omega
            · walk_at "re"
              exact hn _ _ ⟨z, rfl, hD11, hws11, hz, hcz⟩
        · rintro σ' H7 ⟨o5, o6, rfl, hD7, _⟩
          exact hn _ _ ⟨o5, o6, rfl, hD7⟩
    · rintro σ' H2 ⟨o2, o3, o4, o5, o6, rfl, hD2⟩
      walk_at "rd"
      exact q _
end
end Kt
namespace Kt
open PySem PySem.Spec PyProof.Rows L2
/-! ## 26. What the top must say, put together -/
theorem all_mk {l : PySem.W.OpenLaw} {w : World} {K : PySem.W.Frag} {h : Heap} {mg : Str → Option Value} {fa : Addr} (X : K.In h) (G : h.Ns mainGlobals mg) (hfa : mg "law" = some (.ref fa))
    {t_MOST_VARIABLES : Tok} {t_MOST_SUMS : Tok} {t_MOST_NUMBER : Tok} {t_LONGEST_NUMERAL : Tok} {t_SMALL_LETTERS : Tok} {t_DIGITS : Tok} {t_BLANKS : Tok} {CR CB CS fI : Addr} {f_words_in : Addr} {oc_words_in kV_words_in dc_words_in pm_words_in cd_words_in ct_words_in : Value} {od_words_in an_words_in : Option Addr} {sl_words_in : Array (Option Value)} {f_is_numeral : Addr} {oc_is_numeral kV_is_numeral dc_is_numeral pm_is_numeral cd_is_numeral ct_is_numeral : Value} {od_is_numeral an_is_numeral : Option Addr} {sl_is_numeral : Array (Option Value)} {f_R_init : Addr} {oc_R_init kV_R_init dc_R_init pm_R_init cd_R_init ct_R_init : Value} {od_R_init an_R_init : Option Addr} {sl_R_init : Array (Option Value)} {f_R_word : Addr} {oc_R_word kV_R_word dc_R_word pm_R_word cd_R_word ct_R_word : Value} {od_R_word an_R_word : Option Addr} {sl_R_word : Array (Option Value)} {f_R_stop : Addr} {oc_R_stop kV_R_stop dc_R_stop pm_R_stop cd_R_stop ct_R_stop : Value} {od_R_stop an_R_stop : Option Addr} {sl_R_stop : Array (Option Value)} {f_R_taken : Addr} {oc_R_taken kV_R_taken dc_R_taken pm_R_taken cd_R_taken ct_R_taken : Value} {od_R_taken an_R_taken : Option Addr} {sl_R_taken : Array (Option Value)} {f_R_goes_on : Addr} {oc_R_goes_on kV_R_goes_on dc_R_goes_on pm_R_goes_on cd_R_goes_on ct_R_goes_on : Value} {od_R_goes_on an_R_goes_on : Option Addr} {sl_R_goes_on : Array (Option Value)} {f_R_mark : Addr} {oc_R_mark kV_R_mark dc_R_mark pm_R_mark cd_R_mark ct_R_mark : Value} {od_R_mark an_R_mark : Option Addr} {sl_R_mark : Array (Option Value)} {f_R_numeral : Addr} {oc_R_numeral kV_R_numeral dc_R_numeral pm_R_numeral cd_R_numeral ct_R_numeral : Value} {od_R_numeral an_R_numeral : Option Addr} {sl_R_numeral : Array (Option Value)} {f_R_number : Addr} {oc_R_number kV_R_number dc_R_number pm_R_number cd_R_number ct_R_number : Value} {od_R_number an_R_number : Option Addr} {sl_R_number : Array (Option Value)} {f_R_end : Addr} {oc_R_end kV_R_end dc_R_end pm_R_end cd_R_end ct_R_end : Value} {od_R_end an_R_end : Option Addr} {sl_R_end : Array (Option Value)} {f_is_variable_word : Addr} {oc_is_variable_word kV_is_variable_word dc_is_variable_word pm_is_variable_word cd_is_variable_word ct_is_variable_word : Value} {od_is_variable_word an_is_variable_word : Option Addr} {sl_is_variable_word : Array (Option Value)} {f_take_variable : Addr} {oc_take_variable kV_take_variable dc_take_variable pm_take_variable cd_take_variable ct_take_variable : Value} {od_take_variable an_take_variable : Option Addr} {sl_take_variable : Array (Option Value)} {f_take_literal : Addr} {oc_take_literal kV_take_literal dc_take_literal pm_take_literal cd_take_literal ct_take_literal : Value} {od_take_literal an_take_literal : Option Addr} {sl_take_literal : Array (Option Value)} {f_take_weight : Addr} {oc_take_weight kV_take_weight dc_take_weight pm_take_weight cd_take_weight ct_take_weight : Value} {od_take_weight an_take_weight : Option Addr} {sl_take_weight : Array (Option Value)} {f_take_terms : Addr} {oc_take_terms kV_take_terms dc_take_terms pm_take_terms cd_take_terms ct_take_terms : Value} {od_take_terms an_take_terms : Option Addr} {sl_take_terms : Array (Option Value)} {f_take_sum : Addr} {oc_take_sum kV_take_sum dc_take_sum pm_take_sum cd_take_sum ct_take_sum : Value} {od_take_sum an_take_sum : Option Addr} {sl_take_sum : Array (Option Value)} {f_take_price : Addr} {oc_take_price kV_take_price dc_take_price pm_take_price cd_take_price ct_take_price : Value} {od_take_price an_take_price : Option Addr} {sl_take_price : Array (Option Value)} {f_read_problem : Addr} {oc_read_problem kV_read_problem dc_read_problem pm_read_problem cd_read_problem ct_read_problem : Value} {od_read_problem an_read_problem : Option Addr} {sl_read_problem : Array (Option Value)} {f_law_deck : Addr} {oc_law_deck kV_law_deck dc_law_deck pm_law_deck cd_law_deck ct_law_deck : Value} {od_law_deck an_law_deck : Option Addr} {sl_law_deck : Array (Option Value)} {f_law_pick : Addr} {oc_law_pick kV_law_pick dc_law_pick pm_law_pick cd_law_pick ct_law_pick : Value} {od_law_pick an_law_pick : Option Addr} {sl_law_pick : Array (Option Value)} {f_law_alike : Addr} {oc_law_alike kV_law_alike dc_law_alike pm_law_alike cd_law_alike ct_law_alike : Value} {od_law_alike an_law_alike : Option Addr} {sl_law_alike : Array (Option Value)} {f_law_sum : Addr} {oc_law_sum kV_law_sum dc_law_sum pm_law_sum cd_law_sum ct_law_sum : Value} {od_law_sum an_law_sum : Option Addr} {sl_law_sum : Array (Option Value)} {f_law_tied : Addr} {oc_law_tied kV_law_tied dc_law_tied pm_law_tied cd_law_tied ct_law_tied : Value} {od_law_tied an_law_tied : Option Addr} {sl_law_tied : Array (Option Value)} {f_law_split : Addr} {oc_law_split kV_law_split dc_law_split pm_law_split cd_law_split ct_law_split : Value} {od_law_split an_law_split : Option Addr} {sl_law_split : Array (Option Value)} {f_law_number_words : Addr} {oc_law_number_words kV_law_number_words dc_law_number_words pm_law_number_words cd_law_number_words ct_law_number_words : Value} {od_law_number_words an_law_number_words : Option Addr} {sl_law_number_words : Array (Option Value)} {f_law_literal_words : Addr} {oc_law_literal_words kV_law_literal_words dc_law_literal_words pm_law_literal_words cd_law_literal_words ct_law_literal_words : Value} {od_law_literal_words an_law_literal_words : Option Addr} {sl_law_literal_words : Array (Option Value)} {f_law_terms_words : Addr} {oc_law_terms_words kV_law_terms_words dc_law_terms_words pm_law_terms_words cd_law_terms_words ct_law_terms_words : Value} {od_law_terms_words an_law_terms_words : Option Addr} {sl_law_terms_words : Array (Option Value)} {f_law_problem_words : Addr} {oc_law_problem_words kV_law_problem_words dc_law_problem_words pm_law_problem_words cd_law_problem_words ct_law_problem_words : Value} {od_law_problem_words an_law_problem_words : Option Addr} {sl_law_problem_words : Array (Option Value)} {f_law_spread : Addr} {oc_law_spread kV_law_spread dc_law_spread pm_law_spread cd_law_spread ct_law_spread : Value} {od_law_spread an_law_spread : Option Addr} {sl_law_spread : Array (Option Value)} {f_law_now : Addr} {oc_law_now kV_law_now dc_law_now pm_law_now cd_law_now ct_law_now : Value} {od_law_now an_law_now : Option Addr} {sl_law_now : Array (Option Value)} {f_law_stop : Addr} {oc_law_stop kV_law_stop dc_law_stop pm_law_stop cd_law_stop ct_law_stop : Value} {od_law_stop an_law_stop : Option Addr} {sl_law_stop : Array (Option Value)} {f_law_on : Addr} {oc_law_on kV_law_on dc_law_on pm_law_on cd_law_on ct_law_on : Value} {od_law_on an_law_on : Option Addr} {sl_law_on : Array (Option Value)} {f_law_is_numeral : Addr} {oc_law_is_numeral kV_law_is_numeral dc_law_is_numeral pm_law_is_numeral cd_law_is_numeral ct_law_is_numeral : Value} {od_law_is_numeral an_law_is_numeral : Option Addr} {sl_law_is_numeral : Array (Option Value)} {f_law_numeral : Addr} {oc_law_numeral kV_law_numeral dc_law_numeral pm_law_numeral cd_law_numeral ct_law_numeral : Value} {od_law_numeral an_law_numeral : Option Addr} {sl_law_numeral : Array (Option Value)} {f_law_number : Addr} {oc_law_number kV_law_number dc_law_number pm_law_number cd_law_number ct_law_number : Value} {od_law_number an_law_number : Option Addr} {sl_law_number : Array (Option Value)} {f_law_literal : Addr} {oc_law_literal kV_law_literal dc_law_literal pm_law_literal cd_law_literal ct_law_literal : Value} {od_law_literal an_law_literal : Option Addr} {sl_law_literal : Array (Option Value)} {f_law_terms : Addr} {oc_law_terms kV_law_terms dc_law_terms pm_law_terms cd_law_terms ct_law_terms : Value} {od_law_terms an_law_terms : Option Addr} {sl_law_terms : Array (Option Value)} {f_law_need : Addr} {oc_law_need kV_law_need dc_law_need pm_law_need cd_law_need ct_law_need : Value} {od_law_need an_law_need : Option Addr} {sl_law_need : Array (Option Value)} {f_law_read : Addr} {oc_law_read kV_law_read dc_law_read pm_law_read cd_law_read ct_law_read : Value} {od_law_read an_law_read : Option Addr} {sl_law_read : Array (Option Value)} {f_law_told : Addr} {oc_law_told kV_law_told dc_law_told pm_law_told cd_law_told ct_law_told : Value} {od_law_told an_law_told : Option Addr} {sl_law_told : Array (Option Value)} {f_law_mixed : Addr} {oc_law_mixed kV_law_mixed dc_law_mixed pm_law_mixed cd_law_mixed ct_law_mixed : Value} {od_law_mixed an_law_mixed : Option Addr} {sl_law_mixed : Array (Option Value)} {f_law : Addr} {oc_law kV_law dc_law pm_law cd_law ct_law : Value} {od_law an_law : Option Addr} {sl_law : Array (Option Value)} {bnm bq : Str} {bN : Addr} {bbs bbm : List Value} {bsn : List Str} {bsub : List Value} {bab : Bool} {bcol : Option Bool} {bdd : Option Addr} {b0 b1 b2 b3 b5 : Option Value} {ocI kVI dcI pmI ctI : Value} {odI anI : Option Addr} {cda cc : Addr} {slI : Array (Option Value)} {cclI : Value} {cddI : Option Addr} {vsI : Array Value} {ccsI : Array (Option Value)} {tfI : Tok} {clI : Value} {cldI : Option Addr} {cslI : Array (Option Value)}
    (z_len : PySem.W.nsIn K mainGlobals "len" = some none)
    (z_all : PySem.W.nsIn K mainGlobals "all" = some none)
    (z_isinstance : PySem.W.nsIn K mainGlobals "isinstance" = some none)
    (z_int : PySem.W.nsIn K mainGlobals "int" = some none)
    (z_str : PySem.W.nsIn K mainGlobals "str" = some none)
    (z_tuple : PySem.W.nsIn K mainGlobals "tuple" = some none)
    (z_list : PySem.W.nsIn K mainGlobals "list" = some none)
    (z_abs : PySem.W.nsIn K mainGlobals "abs" = some none)
    (z_min : PySem.W.nsIn K mainGlobals "min" = some none)
    (z_sum : PySem.W.nsIn K mainGlobals "sum" = some none)
    (z_range : PySem.W.nsIn K mainGlobals "range" = some none)
    (z_sorted : PySem.W.nsIn K mainGlobals "sorted" = some none)
    (z_bool : PySem.W.nsIn K mainGlobals "bool" = some none)
    (z_ValueError : PySem.W.nsIn K mainGlobals "ValueError" = some none)
    (z_super : PySem.W.nsIn K mainGlobals "super" = some none)
    (c_MOST_VARIABLES : PySem.W.nsIn K mainGlobals "MOST_VARIABLES" = some (some (.int 60 t_MOST_VARIABLES)))
    (c_MOST_SUMS : PySem.W.nsIn K mainGlobals "MOST_SUMS" = some (some (.int 300 t_MOST_SUMS)))
    (c_MOST_NUMBER : PySem.W.nsIn K mainGlobals "MOST_NUMBER" = some (some (.int 1000000 t_MOST_NUMBER)))
    (c_LONGEST_NUMERAL : PySem.W.nsIn K mainGlobals "LONGEST_NUMERAL" = some (some (.int 30 t_LONGEST_NUMERAL)))
    (c_SMALL_LETTERS : PySem.W.nsIn K mainGlobals "SMALL_LETTERS" = some (some (.str "abcdefghijklmnopqrstuvwxyz" t_SMALL_LETTERS)))
    (c_DIGITS : PySem.W.nsIn K mainGlobals "DIGITS" = some (some (.str "0123456789" t_DIGITS)))
    (c_BLANKS : PySem.W.nsIn K mainGlobals "BLANKS" = some (some (.str " \n" t_BLANKS)))
    (aCR : PySem.W.nsIn K mainGlobals "Reader" = some (some (.ref CR)))
    (aCB : PySem.W.nsIn K mainGlobals "BadText" = some (some (.ref CB)))
    (aCS : PySem.W.nsIn K mainGlobals "SumError" = some (some (.ref CS)))
    (pgR : PySem.W.plainGet K CR Str.empty = true)
    (hdR : PySem.W.hasDictIn K CR = true)
    (poR : PySem.W.plainOver K CR = true)
    (saR : PySem.W.findIn K (.ref CR) "__setattr__" = some (some (.builtin "object.__setattr__")))
    (mkR : PySem.W.makesIn K CR = true)
    (kCR : PySem.W.keepIn K (.ref CR) = true)
    (n_many : PySem.W.findIn K (.ref CR) "many" = some none)
    (n_words : PySem.W.findIn K (.ref CR) "words" = some none)
    (n_at : PySem.W.findIn K (.ref CR) "at" = some none)
    (a_words_in : PySem.W.nsIn K mainGlobals "words_in" = some (some (.ref f_words_in)))
    (l_words_in : K.lookup f_words_in = some ⟨oc_words_in, od_words_in, .func (PySem.W.fnOf "words_in" "words_in" (defArgs s_words_in) (defBody s_words_in) (defScope s_words_in) .none kV_words_in dc_words_in pm_words_in an_words_in cd_words_in ct_words_in), sl_words_in⟩)
    (q_words_in : PySem.W.codeIn K cd_words_in "words_in" = true)
    (k_words_in : PySem.W.keepIn K (.ref f_words_in) = true)
    (a_is_numeral : PySem.W.nsIn K mainGlobals "is_numeral" = some (some (.ref f_is_numeral)))
    (l_is_numeral : K.lookup f_is_numeral = some ⟨oc_is_numeral, od_is_numeral, .func (PySem.W.fnOf "is_numeral" "is_numeral" (defArgs s_is_numeral) (defBody s_is_numeral) (defScope s_is_numeral) .none kV_is_numeral dc_is_numeral pm_is_numeral an_is_numeral cd_is_numeral ct_is_numeral), sl_is_numeral⟩)
    (q_is_numeral : PySem.W.codeIn K cd_is_numeral "is_numeral" = true)
    (k_is_numeral : PySem.W.keepIn K (.ref f_is_numeral) = true)
    (a_R_init : PySem.W.findIn K (.ref CR) "__init__" = some (some (.ref f_R_init)))
    (i_R_init : PySem.W.isFn K (.ref f_R_init) = true)
    (l_R_init : K.lookup f_R_init = some ⟨oc_R_init, od_R_init, .func (PySem.W.fnOf "__init__" "Reader.__init__" (defArgs s_R_init) (defBody s_R_init) (defScope s_R_init) .none kV_R_init dc_R_init pm_R_init an_R_init cd_R_init ct_R_init), sl_R_init⟩)
    (q_R_init : PySem.W.codeIn K cd_R_init "Reader.__init__" = true)
    (k_R_init : PySem.W.keepIn K (.ref f_R_init) = true)
    (a_R_word : PySem.W.findIn K (.ref CR) "word" = some (some (.ref f_R_word)))
    (i_R_word : PySem.W.isFn K (.ref f_R_word) = true)
    (l_R_word : K.lookup f_R_word = some ⟨oc_R_word, od_R_word, .func (PySem.W.fnOf "word" "Reader.word" (defArgs s_R_word) (defBody s_R_word) (defScope s_R_word) .none kV_R_word dc_R_word pm_R_word an_R_word cd_R_word ct_R_word), sl_R_word⟩)
    (q_R_word : PySem.W.codeIn K cd_R_word "Reader.word" = true)
    (k_R_word : PySem.W.keepIn K (.ref f_R_word) = true)
    (a_R_stop : PySem.W.findIn K (.ref CR) "stop" = some (some (.ref f_R_stop)))
    (i_R_stop : PySem.W.isFn K (.ref f_R_stop) = true)
    (l_R_stop : K.lookup f_R_stop = some ⟨oc_R_stop, od_R_stop, .func (PySem.W.fnOf "stop" "Reader.stop" (defArgs s_R_stop) (defBody s_R_stop) (defScope s_R_stop) .none kV_R_stop dc_R_stop pm_R_stop an_R_stop cd_R_stop ct_R_stop), sl_R_stop⟩)
    (q_R_stop : PySem.W.codeIn K cd_R_stop "Reader.stop" = true)
    (k_R_stop : PySem.W.keepIn K (.ref f_R_stop) = true)
    (a_R_taken : PySem.W.findIn K (.ref CR) "taken" = some (some (.ref f_R_taken)))
    (i_R_taken : PySem.W.isFn K (.ref f_R_taken) = true)
    (l_R_taken : K.lookup f_R_taken = some ⟨oc_R_taken, od_R_taken, .func (PySem.W.fnOf "taken" "Reader.taken" (defArgs s_R_taken) (defBody s_R_taken) (defScope s_R_taken) .none kV_R_taken dc_R_taken pm_R_taken an_R_taken cd_R_taken ct_R_taken), sl_R_taken⟩)
    (q_R_taken : PySem.W.codeIn K cd_R_taken "Reader.taken" = true)
    (k_R_taken : PySem.W.keepIn K (.ref f_R_taken) = true)
    (a_R_goes_on : PySem.W.findIn K (.ref CR) "goes_on" = some (some (.ref f_R_goes_on)))
    (i_R_goes_on : PySem.W.isFn K (.ref f_R_goes_on) = true)
    (l_R_goes_on : K.lookup f_R_goes_on = some ⟨oc_R_goes_on, od_R_goes_on, .func (PySem.W.fnOf "goes_on" "Reader.goes_on" (defArgs s_R_goes_on) (defBody s_R_goes_on) (defScope s_R_goes_on) .none kV_R_goes_on dc_R_goes_on pm_R_goes_on an_R_goes_on cd_R_goes_on ct_R_goes_on), sl_R_goes_on⟩)
    (q_R_goes_on : PySem.W.codeIn K cd_R_goes_on "Reader.goes_on" = true)
    (k_R_goes_on : PySem.W.keepIn K (.ref f_R_goes_on) = true)
    (a_R_mark : PySem.W.findIn K (.ref CR) "mark" = some (some (.ref f_R_mark)))
    (i_R_mark : PySem.W.isFn K (.ref f_R_mark) = true)
    (l_R_mark : K.lookup f_R_mark = some ⟨oc_R_mark, od_R_mark, .func (PySem.W.fnOf "mark" "Reader.mark" (defArgs s_R_mark) (defBody s_R_mark) (defScope s_R_mark) .none kV_R_mark dc_R_mark pm_R_mark an_R_mark cd_R_mark ct_R_mark), sl_R_mark⟩)
    (q_R_mark : PySem.W.codeIn K cd_R_mark "Reader.mark" = true)
    (k_R_mark : PySem.W.keepIn K (.ref f_R_mark) = true)
    (a_R_numeral : PySem.W.findIn K (.ref CR) "numeral" = some (some (.ref f_R_numeral)))
    (i_R_numeral : PySem.W.isFn K (.ref f_R_numeral) = true)
    (l_R_numeral : K.lookup f_R_numeral = some ⟨oc_R_numeral, od_R_numeral, .func (PySem.W.fnOf "numeral" "Reader.numeral" (defArgs s_R_numeral) (defBody s_R_numeral) (defScope s_R_numeral) .none kV_R_numeral dc_R_numeral pm_R_numeral an_R_numeral cd_R_numeral ct_R_numeral), sl_R_numeral⟩)
    (q_R_numeral : PySem.W.codeIn K cd_R_numeral "Reader.numeral" = true)
    (k_R_numeral : PySem.W.keepIn K (.ref f_R_numeral) = true)
    (a_R_number : PySem.W.findIn K (.ref CR) "number" = some (some (.ref f_R_number)))
    (i_R_number : PySem.W.isFn K (.ref f_R_number) = true)
    (l_R_number : K.lookup f_R_number = some ⟨oc_R_number, od_R_number, .func (PySem.W.fnOf "number" "Reader.number" (defArgs s_R_number) (defBody s_R_number) (defScope s_R_number) .none kV_R_number dc_R_number pm_R_number an_R_number cd_R_number ct_R_number), sl_R_number⟩)
    (q_R_number : PySem.W.codeIn K cd_R_number "Reader.number" = true)
    (k_R_number : PySem.W.keepIn K (.ref f_R_number) = true)
    (a_R_end : PySem.W.findIn K (.ref CR) "end" = some (some (.ref f_R_end)))
    (i_R_end : PySem.W.isFn K (.ref f_R_end) = true)
    (l_R_end : K.lookup f_R_end = some ⟨oc_R_end, od_R_end, .func (PySem.W.fnOf "end" "Reader.end" (defArgs s_R_end) (defBody s_R_end) (defScope s_R_end) .none kV_R_end dc_R_end pm_R_end an_R_end cd_R_end ct_R_end), sl_R_end⟩)
    (q_R_end : PySem.W.codeIn K cd_R_end "Reader.end" = true)
    (k_R_end : PySem.W.keepIn K (.ref f_R_end) = true)
    (a_is_variable_word : PySem.W.nsIn K mainGlobals "is_variable_word" = some (some (.ref f_is_variable_word)))
    (l_is_variable_word : K.lookup f_is_variable_word = some ⟨oc_is_variable_word, od_is_variable_word, .func (PySem.W.fnOf "is_variable_word" "is_variable_word" (defArgs s_is_variable_word) (defBody s_is_variable_word) (defScope s_is_variable_word) .none kV_is_variable_word dc_is_variable_word pm_is_variable_word an_is_variable_word cd_is_variable_word ct_is_variable_word), sl_is_variable_word⟩)
    (q_is_variable_word : PySem.W.codeIn K cd_is_variable_word "is_variable_word" = true)
    (k_is_variable_word : PySem.W.keepIn K (.ref f_is_variable_word) = true)
    (a_take_variable : PySem.W.nsIn K mainGlobals "take_variable" = some (some (.ref f_take_variable)))
    (l_take_variable : K.lookup f_take_variable = some ⟨oc_take_variable, od_take_variable, .func (PySem.W.fnOf "take_variable" "take_variable" (defArgs s_take_variable) (defBody s_take_variable) (defScope s_take_variable) .none kV_take_variable dc_take_variable pm_take_variable an_take_variable cd_take_variable ct_take_variable), sl_take_variable⟩)
    (q_take_variable : PySem.W.codeIn K cd_take_variable "take_variable" = true)
    (k_take_variable : PySem.W.keepIn K (.ref f_take_variable) = true)
    (a_take_literal : PySem.W.nsIn K mainGlobals "take_literal" = some (some (.ref f_take_literal)))
    (l_take_literal : K.lookup f_take_literal = some ⟨oc_take_literal, od_take_literal, .func (PySem.W.fnOf "take_literal" "take_literal" (defArgs s_take_literal) (defBody s_take_literal) (defScope s_take_literal) .none kV_take_literal dc_take_literal pm_take_literal an_take_literal cd_take_literal ct_take_literal), sl_take_literal⟩)
    (q_take_literal : PySem.W.codeIn K cd_take_literal "take_literal" = true)
    (k_take_literal : PySem.W.keepIn K (.ref f_take_literal) = true)
    (a_take_weight : PySem.W.nsIn K mainGlobals "take_weight" = some (some (.ref f_take_weight)))
    (l_take_weight : K.lookup f_take_weight = some ⟨oc_take_weight, od_take_weight, .func (PySem.W.fnOf "take_weight" "take_weight" (defArgs s_take_weight) (defBody s_take_weight) (defScope s_take_weight) .none kV_take_weight dc_take_weight pm_take_weight an_take_weight cd_take_weight ct_take_weight), sl_take_weight⟩)
    (q_take_weight : PySem.W.codeIn K cd_take_weight "take_weight" = true)
    (k_take_weight : PySem.W.keepIn K (.ref f_take_weight) = true)
    (a_take_terms : PySem.W.nsIn K mainGlobals "take_terms" = some (some (.ref f_take_terms)))
    (l_take_terms : K.lookup f_take_terms = some ⟨oc_take_terms, od_take_terms, .func (PySem.W.fnOf "take_terms" "take_terms" (defArgs s_take_terms) (defBody s_take_terms) (defScope s_take_terms) .none kV_take_terms dc_take_terms pm_take_terms an_take_terms cd_take_terms ct_take_terms), sl_take_terms⟩)
    (q_take_terms : PySem.W.codeIn K cd_take_terms "take_terms" = true)
    (k_take_terms : PySem.W.keepIn K (.ref f_take_terms) = true)
    (a_take_sum : PySem.W.nsIn K mainGlobals "take_sum" = some (some (.ref f_take_sum)))
    (l_take_sum : K.lookup f_take_sum = some ⟨oc_take_sum, od_take_sum, .func (PySem.W.fnOf "take_sum" "take_sum" (defArgs s_take_sum) (defBody s_take_sum) (defScope s_take_sum) .none kV_take_sum dc_take_sum pm_take_sum an_take_sum cd_take_sum ct_take_sum), sl_take_sum⟩)
    (q_take_sum : PySem.W.codeIn K cd_take_sum "take_sum" = true)
    (k_take_sum : PySem.W.keepIn K (.ref f_take_sum) = true)
    (a_take_price : PySem.W.nsIn K mainGlobals "take_price" = some (some (.ref f_take_price)))
    (l_take_price : K.lookup f_take_price = some ⟨oc_take_price, od_take_price, .func (PySem.W.fnOf "take_price" "take_price" (defArgs s_take_price) (defBody s_take_price) (defScope s_take_price) .none kV_take_price dc_take_price pm_take_price an_take_price cd_take_price ct_take_price), sl_take_price⟩)
    (q_take_price : PySem.W.codeIn K cd_take_price "take_price" = true)
    (k_take_price : PySem.W.keepIn K (.ref f_take_price) = true)
    (a_read_problem : PySem.W.nsIn K mainGlobals "read_problem" = some (some (.ref f_read_problem)))
    (l_read_problem : K.lookup f_read_problem = some ⟨oc_read_problem, od_read_problem, .func (PySem.W.fnOf "read_problem" "read_problem" (defArgs s_read_problem) (defBody s_read_problem) (defScope s_read_problem) .none kV_read_problem dc_read_problem pm_read_problem an_read_problem cd_read_problem ct_read_problem), sl_read_problem⟩)
    (q_read_problem : PySem.W.codeIn K cd_read_problem "read_problem" = true)
    (k_read_problem : PySem.W.keepIn K (.ref f_read_problem) = true)
    (a_law_deck : PySem.W.nsIn K mainGlobals "_law_deck" = some (some (.ref f_law_deck)))
    (l_law_deck : K.lookup f_law_deck = some ⟨oc_law_deck, od_law_deck, .func (PySem.W.fnOf "_law_deck" "_law_deck" (defArgs s_law_deck) (defBody s_law_deck) (defScope s_law_deck) .none kV_law_deck dc_law_deck pm_law_deck an_law_deck cd_law_deck ct_law_deck), sl_law_deck⟩)
    (q_law_deck : PySem.W.codeIn K cd_law_deck "_law_deck" = true)
    (k_law_deck : PySem.W.keepIn K (.ref f_law_deck) = true)
    (a_law_pick : PySem.W.nsIn K mainGlobals "_law_pick" = some (some (.ref f_law_pick)))
    (l_law_pick : K.lookup f_law_pick = some ⟨oc_law_pick, od_law_pick, .func (PySem.W.fnOf "_law_pick" "_law_pick" (defArgs s_law_pick) (defBody s_law_pick) (defScope s_law_pick) .none kV_law_pick dc_law_pick pm_law_pick an_law_pick cd_law_pick ct_law_pick), sl_law_pick⟩)
    (q_law_pick : PySem.W.codeIn K cd_law_pick "_law_pick" = true)
    (k_law_pick : PySem.W.keepIn K (.ref f_law_pick) = true)
    (a_law_alike : PySem.W.nsIn K mainGlobals "_law_alike" = some (some (.ref f_law_alike)))
    (l_law_alike : K.lookup f_law_alike = some ⟨oc_law_alike, od_law_alike, .func (PySem.W.fnOf "_law_alike" "_law_alike" (defArgs s_law_alike) (defBody s_law_alike) (defScope s_law_alike) .none kV_law_alike dc_law_alike pm_law_alike an_law_alike cd_law_alike ct_law_alike), sl_law_alike⟩)
    (q_law_alike : PySem.W.codeIn K cd_law_alike "_law_alike" = true)
    (k_law_alike : PySem.W.keepIn K (.ref f_law_alike) = true)
    (a_law_sum : PySem.W.nsIn K mainGlobals "_law_sum" = some (some (.ref f_law_sum)))
    (l_law_sum : K.lookup f_law_sum = some ⟨oc_law_sum, od_law_sum, .func (PySem.W.fnOf "_law_sum" "_law_sum" (defArgs s_law_sum) (defBody s_law_sum) (defScope s_law_sum) .none kV_law_sum dc_law_sum pm_law_sum an_law_sum cd_law_sum ct_law_sum), sl_law_sum⟩)
    (q_law_sum : PySem.W.codeIn K cd_law_sum "_law_sum" = true)
    (k_law_sum : PySem.W.keepIn K (.ref f_law_sum) = true)
    (a_law_tied : PySem.W.nsIn K mainGlobals "_law_tied" = some (some (.ref f_law_tied)))
    (l_law_tied : K.lookup f_law_tied = some ⟨oc_law_tied, od_law_tied, .func (PySem.W.fnOf "_law_tied" "_law_tied" (defArgs s_law_tied) (defBody s_law_tied) (defScope s_law_tied) .none kV_law_tied dc_law_tied pm_law_tied an_law_tied cd_law_tied ct_law_tied), sl_law_tied⟩)
    (q_law_tied : PySem.W.codeIn K cd_law_tied "_law_tied" = true)
    (k_law_tied : PySem.W.keepIn K (.ref f_law_tied) = true)
    (a_law_split : PySem.W.nsIn K mainGlobals "_law_split" = some (some (.ref f_law_split)))
    (l_law_split : K.lookup f_law_split = some ⟨oc_law_split, od_law_split, .func (PySem.W.fnOf "_law_split" "_law_split" (defArgs s_law_split) (defBody s_law_split) (defScope s_law_split) .none kV_law_split dc_law_split pm_law_split an_law_split cd_law_split ct_law_split), sl_law_split⟩)
    (q_law_split : PySem.W.codeIn K cd_law_split "_law_split" = true)
    (k_law_split : PySem.W.keepIn K (.ref f_law_split) = true)
    (a_law_number_words : PySem.W.nsIn K mainGlobals "_law_number_words" = some (some (.ref f_law_number_words)))
    (l_law_number_words : K.lookup f_law_number_words = some ⟨oc_law_number_words, od_law_number_words, .func (PySem.W.fnOf "_law_number_words" "_law_number_words" (defArgs s_law_number_words) (defBody s_law_number_words) (defScope s_law_number_words) .none kV_law_number_words dc_law_number_words pm_law_number_words an_law_number_words cd_law_number_words ct_law_number_words), sl_law_number_words⟩)
    (q_law_number_words : PySem.W.codeIn K cd_law_number_words "_law_number_words" = true)
    (k_law_number_words : PySem.W.keepIn K (.ref f_law_number_words) = true)
    (a_law_literal_words : PySem.W.nsIn K mainGlobals "_law_literal_words" = some (some (.ref f_law_literal_words)))
    (l_law_literal_words : K.lookup f_law_literal_words = some ⟨oc_law_literal_words, od_law_literal_words, .func (PySem.W.fnOf "_law_literal_words" "_law_literal_words" (defArgs s_law_literal_words) (defBody s_law_literal_words) (defScope s_law_literal_words) .none kV_law_literal_words dc_law_literal_words pm_law_literal_words an_law_literal_words cd_law_literal_words ct_law_literal_words), sl_law_literal_words⟩)
    (q_law_literal_words : PySem.W.codeIn K cd_law_literal_words "_law_literal_words" = true)
    (k_law_literal_words : PySem.W.keepIn K (.ref f_law_literal_words) = true)
    (a_law_terms_words : PySem.W.nsIn K mainGlobals "_law_terms_words" = some (some (.ref f_law_terms_words)))
    (l_law_terms_words : K.lookup f_law_terms_words = some ⟨oc_law_terms_words, od_law_terms_words, .func (PySem.W.fnOf "_law_terms_words" "_law_terms_words" (defArgs s_law_terms_words) (defBody s_law_terms_words) (defScope s_law_terms_words) .none kV_law_terms_words dc_law_terms_words pm_law_terms_words an_law_terms_words cd_law_terms_words ct_law_terms_words), sl_law_terms_words⟩)
    (q_law_terms_words : PySem.W.codeIn K cd_law_terms_words "_law_terms_words" = true)
    (k_law_terms_words : PySem.W.keepIn K (.ref f_law_terms_words) = true)
    (a_law_problem_words : PySem.W.nsIn K mainGlobals "_law_problem_words" = some (some (.ref f_law_problem_words)))
    (l_law_problem_words : K.lookup f_law_problem_words = some ⟨oc_law_problem_words, od_law_problem_words, .func (PySem.W.fnOf "_law_problem_words" "_law_problem_words" (defArgs s_law_problem_words) (defBody s_law_problem_words) (defScope s_law_problem_words) .none kV_law_problem_words dc_law_problem_words pm_law_problem_words an_law_problem_words cd_law_problem_words ct_law_problem_words), sl_law_problem_words⟩)
    (q_law_problem_words : PySem.W.codeIn K cd_law_problem_words "_law_problem_words" = true)
    (k_law_problem_words : PySem.W.keepIn K (.ref f_law_problem_words) = true)
    (a_law_spread : PySem.W.nsIn K mainGlobals "_law_spread" = some (some (.ref f_law_spread)))
    (l_law_spread : K.lookup f_law_spread = some ⟨oc_law_spread, od_law_spread, .func (PySem.W.fnOf "_law_spread" "_law_spread" (defArgs s_law_spread) (defBody s_law_spread) (defScope s_law_spread) .none kV_law_spread dc_law_spread pm_law_spread an_law_spread cd_law_spread ct_law_spread), sl_law_spread⟩)
    (q_law_spread : PySem.W.codeIn K cd_law_spread "_law_spread" = true)
    (k_law_spread : PySem.W.keepIn K (.ref f_law_spread) = true)
    (a_law_now : PySem.W.nsIn K mainGlobals "_law_now" = some (some (.ref f_law_now)))
    (l_law_now : K.lookup f_law_now = some ⟨oc_law_now, od_law_now, .func (PySem.W.fnOf "_law_now" "_law_now" (defArgs s_law_now) (defBody s_law_now) (defScope s_law_now) .none kV_law_now dc_law_now pm_law_now an_law_now cd_law_now ct_law_now), sl_law_now⟩)
    (q_law_now : PySem.W.codeIn K cd_law_now "_law_now" = true)
    (k_law_now : PySem.W.keepIn K (.ref f_law_now) = true)
    (a_law_stop : PySem.W.nsIn K mainGlobals "_law_stop" = some (some (.ref f_law_stop)))
    (l_law_stop : K.lookup f_law_stop = some ⟨oc_law_stop, od_law_stop, .func (PySem.W.fnOf "_law_stop" "_law_stop" (defArgs s_law_stop) (defBody s_law_stop) (defScope s_law_stop) .none kV_law_stop dc_law_stop pm_law_stop an_law_stop cd_law_stop ct_law_stop), sl_law_stop⟩)
    (q_law_stop : PySem.W.codeIn K cd_law_stop "_law_stop" = true)
    (k_law_stop : PySem.W.keepIn K (.ref f_law_stop) = true)
    (a_law_on : PySem.W.nsIn K mainGlobals "_law_on" = some (some (.ref f_law_on)))
    (l_law_on : K.lookup f_law_on = some ⟨oc_law_on, od_law_on, .func (PySem.W.fnOf "_law_on" "_law_on" (defArgs s_law_on) (defBody s_law_on) (defScope s_law_on) .none kV_law_on dc_law_on pm_law_on an_law_on cd_law_on ct_law_on), sl_law_on⟩)
    (q_law_on : PySem.W.codeIn K cd_law_on "_law_on" = true)
    (k_law_on : PySem.W.keepIn K (.ref f_law_on) = true)
    (a_law_is_numeral : PySem.W.nsIn K mainGlobals "_law_is_numeral" = some (some (.ref f_law_is_numeral)))
    (l_law_is_numeral : K.lookup f_law_is_numeral = some ⟨oc_law_is_numeral, od_law_is_numeral, .func (PySem.W.fnOf "_law_is_numeral" "_law_is_numeral" (defArgs s_law_is_numeral) (defBody s_law_is_numeral) (defScope s_law_is_numeral) .none kV_law_is_numeral dc_law_is_numeral pm_law_is_numeral an_law_is_numeral cd_law_is_numeral ct_law_is_numeral), sl_law_is_numeral⟩)
    (q_law_is_numeral : PySem.W.codeIn K cd_law_is_numeral "_law_is_numeral" = true)
    (k_law_is_numeral : PySem.W.keepIn K (.ref f_law_is_numeral) = true)
    (a_law_numeral : PySem.W.nsIn K mainGlobals "_law_numeral" = some (some (.ref f_law_numeral)))
    (l_law_numeral : K.lookup f_law_numeral = some ⟨oc_law_numeral, od_law_numeral, .func (PySem.W.fnOf "_law_numeral" "_law_numeral" (defArgs s_law_numeral) (defBody s_law_numeral) (defScope s_law_numeral) .none kV_law_numeral dc_law_numeral pm_law_numeral an_law_numeral cd_law_numeral ct_law_numeral), sl_law_numeral⟩)
    (q_law_numeral : PySem.W.codeIn K cd_law_numeral "_law_numeral" = true)
    (k_law_numeral : PySem.W.keepIn K (.ref f_law_numeral) = true)
    (a_law_number : PySem.W.nsIn K mainGlobals "_law_number" = some (some (.ref f_law_number)))
    (l_law_number : K.lookup f_law_number = some ⟨oc_law_number, od_law_number, .func (PySem.W.fnOf "_law_number" "_law_number" (defArgs s_law_number) (defBody s_law_number) (defScope s_law_number) .none kV_law_number dc_law_number pm_law_number an_law_number cd_law_number ct_law_number), sl_law_number⟩)
    (q_law_number : PySem.W.codeIn K cd_law_number "_law_number" = true)
    (k_law_number : PySem.W.keepIn K (.ref f_law_number) = true)
    (a_law_literal : PySem.W.nsIn K mainGlobals "_law_literal" = some (some (.ref f_law_literal)))
    (l_law_literal : K.lookup f_law_literal = some ⟨oc_law_literal, od_law_literal, .func (PySem.W.fnOf "_law_literal" "_law_literal" (defArgs s_law_literal) (defBody s_law_literal) (defScope s_law_literal) .none kV_law_literal dc_law_literal pm_law_literal an_law_literal cd_law_literal ct_law_literal), sl_law_literal⟩)
    (q_law_literal : PySem.W.codeIn K cd_law_literal "_law_literal" = true)
    (k_law_literal : PySem.W.keepIn K (.ref f_law_literal) = true)
    (a_law_terms : PySem.W.nsIn K mainGlobals "_law_terms" = some (some (.ref f_law_terms)))
    (l_law_terms : K.lookup f_law_terms = some ⟨oc_law_terms, od_law_terms, .func (PySem.W.fnOf "_law_terms" "_law_terms" (defArgs s_law_terms) (defBody s_law_terms) (defScope s_law_terms) .none kV_law_terms dc_law_terms pm_law_terms an_law_terms cd_law_terms ct_law_terms), sl_law_terms⟩)
    (q_law_terms : PySem.W.codeIn K cd_law_terms "_law_terms" = true)
    (k_law_terms : PySem.W.keepIn K (.ref f_law_terms) = true)
    (a_law_need : PySem.W.nsIn K mainGlobals "_law_need" = some (some (.ref f_law_need)))
    (l_law_need : K.lookup f_law_need = some ⟨oc_law_need, od_law_need, .func (PySem.W.fnOf "_law_need" "_law_need" (defArgs s_law_need) (defBody s_law_need) (defScope s_law_need) .none kV_law_need dc_law_need pm_law_need an_law_need cd_law_need ct_law_need), sl_law_need⟩)
    (q_law_need : PySem.W.codeIn K cd_law_need "_law_need" = true)
    (k_law_need : PySem.W.keepIn K (.ref f_law_need) = true)
    (a_law_read : PySem.W.nsIn K mainGlobals "_law_read" = some (some (.ref f_law_read)))
    (l_law_read : K.lookup f_law_read = some ⟨oc_law_read, od_law_read, .func (PySem.W.fnOf "_law_read" "_law_read" (defArgs s_law_read) (defBody s_law_read) (defScope s_law_read) .none kV_law_read dc_law_read pm_law_read an_law_read cd_law_read ct_law_read), sl_law_read⟩)
    (q_law_read : PySem.W.codeIn K cd_law_read "_law_read" = true)
    (k_law_read : PySem.W.keepIn K (.ref f_law_read) = true)
    (a_law_told : PySem.W.nsIn K mainGlobals "_law_told" = some (some (.ref f_law_told)))
    (l_law_told : K.lookup f_law_told = some ⟨oc_law_told, od_law_told, .func (PySem.W.fnOf "_law_told" "_law_told" (defArgs s_law_told) (defBody s_law_told) (defScope s_law_told) .none kV_law_told dc_law_told pm_law_told an_law_told cd_law_told ct_law_told), sl_law_told⟩)
    (q_law_told : PySem.W.codeIn K cd_law_told "_law_told" = true)
    (k_law_told : PySem.W.keepIn K (.ref f_law_told) = true)
    (a_law_mixed : PySem.W.nsIn K mainGlobals "_law_mixed" = some (some (.ref f_law_mixed)))
    (l_law_mixed : K.lookup f_law_mixed = some ⟨oc_law_mixed, od_law_mixed, .func (PySem.W.fnOf "_law_mixed" "_law_mixed" (defArgs s_law_mixed) (defBody s_law_mixed) (defScope s_law_mixed) .none kV_law_mixed dc_law_mixed pm_law_mixed an_law_mixed cd_law_mixed ct_law_mixed), sl_law_mixed⟩)
    (q_law_mixed : PySem.W.codeIn K cd_law_mixed "_law_mixed" = true)
    (k_law_mixed : PySem.W.keepIn K (.ref f_law_mixed) = true)
    (a_law : PySem.W.nsIn K mainGlobals "law" = some (some (.ref f_law)))
    (l_law : K.lookup f_law = some ⟨oc_law, od_law, .func (PySem.W.fnOf "law" "law" (defArgs s_law) (defBody s_law) (defScope s_law) .none kV_law dc_law pm_law an_law cd_law ct_law), sl_law⟩)
    (q_law : PySem.W.codeIn K cd_law "law" = true)
    (k_law : PySem.W.keepIn K (.ref f_law) = true)
    (lB : K.lookup CB = some (PySem.excClassObj bnm bq CB bN bbs bbm true bsn bsub bab bcol bdd b0 b1 b2 b3 b5 "ValueError.__new__"))
    (refsB : PySem.HandSPX.refsVE bbm = true)
    (saB : PySem.W.findIn K (.ref CB) "__setattr__" = some (some (.builtin "object.__setattr__")))
    (gaB : PySem.W.findIn K (.ref CB) "__getattribute__" = some (some (.builtin "BaseException.__getattribute__")))
    (ggB : PySem.W.findIn K (.ref CB) "__getattr__" = some none)
    (noB : PySem.W.findIn K (.ref CB) "place" = some none)
    (iB : PySem.W.findIn K (.ref CB) "__init__" = some (some (.ref fI)))
    (tyI : PySem.W.typeIn K (.ref fI) = some (.type "function"))
    (kB : PySem.W.keepIn K (.ref CB) = true)
    (exB : PySem.W.subIn K (.ref CB) (.type "BaseException") = some true)
    (veB : PySem.W.subIn K (.ref CB) (.type "ValueError") = some true)
    (tyB : PySem.W.typeIn K (.ref CB) = some (.type "type"))
    (hdB : PySem.W.hasDictIn K CB = true)
    (icB : PySem.W.isClsIn K CB = true)
    (ssB : PySem.W.subIn K (.ref CB) (.ref CB) = some true)
    (opB : PySem.W.nsIn K PySem.cStatics "thirdparty.any" = some none)
    (supB : PySem.W.ks_superIn K CB CB "__init__" = some (some (.builtin "ValueError.__init__")))
    (slfB : PySem.W.mroIn K CB (.ref CB) = some true)
    (htop : (l.prog.main.scope.names.lookup ("super" : Str)).isSome = false)
    (lI : K.lookup fI = some ⟨ocI, odI, .func (PySem.W.ksFn "__init__" "BadText.__init__" bArgs bBody bScope .none kVI dcI pmI anI (.ref cda) ctI cc), slI⟩)
    (qI : PySem.W.codeIn K (.ref cda) "BadText.__init__" = true)
    (lcd : K.lookup cda = some ⟨cclI, cddI, .fields vsI, ccsI⟩)
    (vs2 : vsI[2]? = some (.str l.prog.main.file tfI))
    (lcc : K.lookup cc = some ⟨clI, cldI, .cell (some (.ref CB)), cslI⟩)
    (clE : (PySem.W.clsIn K CB).isSome = true)
    (haE : PySem.W.findIn K (.ref CB) "__class__" = some (some (.builtin "object.__class__")))
    (hnE : PySem.W.specialIn K (.builtin "object.__class__") "__get__" = some (some (.builtin "getset_descriptor.__get__")))
    (htE : PySem.W.takesIn K (.builtin "object.__class__") = some true)
    (hmE : PySem.W.mroIn K CB (.type "object") = some true)
    (k1E : PySem.W.kitOne K (.ref CB) (.ref CS) = some true)
    (k2E : PySem.W.kitOne K (.ref CB) (.type "ValueError") = some true) :
    ∃ fd : FuncData, (∀ (s : Shared) (v : Value), BindsTo s fd ⟨[v], []⟩ [("script", v)]) ∧ ∀ base : Heap, K.In base → base.Ns mainGlobals mg → FnOk l.prog w K mg base CX0 10 fa fd ["script"] (spLaw K) := by
  have e := hfa.symm.trans (PySem.W.mg_of X G a_law)
  cases e
  let T : Txt K mg :=
    { z_len := PySem.W.mg_none_of X G z_len, z_all := PySem.W.mg_none_of X G z_all, z_isinstance := PySem.W.mg_none_of X G z_isinstance, z_int := PySem.W.mg_none_of X G z_int, z_str := PySem.W.mg_none_of X G z_str, z_tuple := PySem.W.mg_none_of X G z_tuple, z_list := PySem.W.mg_none_of X G z_list, z_abs := PySem.W.mg_none_of X G z_abs, z_min := PySem.W.mg_none_of X G z_min, z_sum := PySem.W.mg_none_of X G z_sum, z_range := PySem.W.mg_none_of X G z_range, z_sorted := PySem.W.mg_none_of X G z_sorted, z_bool := PySem.W.mg_none_of X G z_bool, z_ValueError := PySem.W.mg_none_of X G z_ValueError, z_super := PySem.W.mg_none_of X G z_super,
      k_MOST_VARIABLES := t_MOST_VARIABLES, c_MOST_VARIABLES := PySem.W.mg_of X G c_MOST_VARIABLES, k_MOST_SUMS := t_MOST_SUMS, c_MOST_SUMS := PySem.W.mg_of X G c_MOST_SUMS, k_MOST_NUMBER := t_MOST_NUMBER, c_MOST_NUMBER := PySem.W.mg_of X G c_MOST_NUMBER, k_LONGEST_NUMERAL := t_LONGEST_NUMERAL, c_LONGEST_NUMERAL := PySem.W.mg_of X G c_LONGEST_NUMERAL, k_SMALL_LETTERS := t_SMALL_LETTERS, c_SMALL_LETTERS := PySem.W.mg_of X G c_SMALL_LETTERS, k_DIGITS := t_DIGITS, c_DIGITS := PySem.W.mg_of X G c_DIGITS, k_BLANKS := t_BLANKS, c_BLANKS := PySem.W.mg_of X G c_BLANKS,
      CR := CR, CB := CB, CS := CS, gCR := PySem.W.mg_of X G aCR, gCB := PySem.W.mg_of X G aCB, gCS := PySem.W.mg_of X G aCS,
      cl := ⟨pgR, hdR, poR, saR⟩, mkR := mkR, kCR := kCR, no_many := n_many, no_words := n_words, no_at := n_at,
      f_words_in := f_words_in, d_words_in := _, F_words_in := fun_mk (st := s_words_in) l_words_in q_words_in k_words_in, g_words_in := PySem.W.mg_of X G a_words_in,
      f_is_numeral := f_is_numeral, d_is_numeral := _, F_is_numeral := fun_mk (st := s_is_numeral) l_is_numeral q_is_numeral k_is_numeral, g_is_numeral := PySem.W.mg_of X G a_is_numeral,
      f_R_init := f_R_init, d_R_init := _, F_R_init := fun_mk (st := s_R_init) l_R_init q_R_init k_R_init, m_R_init := a_R_init, i_R_init := i_R_init,
      f_R_word := f_R_word, d_R_word := _, F_R_word := fun_mk (st := s_R_word) l_R_word q_R_word k_R_word, m_R_word := a_R_word, i_R_word := i_R_word,
      f_R_stop := f_R_stop, d_R_stop := _, F_R_stop := fun_mk (st := s_R_stop) l_R_stop q_R_stop k_R_stop, m_R_stop := a_R_stop, i_R_stop := i_R_stop,
      f_R_taken := f_R_taken, d_R_taken := _, F_R_taken := fun_mk (st := s_R_taken) l_R_taken q_R_taken k_R_taken, m_R_taken := a_R_taken, i_R_taken := i_R_taken,
      f_R_goes_on := f_R_goes_on, d_R_goes_on := _, F_R_goes_on := fun_mk (st := s_R_goes_on) l_R_goes_on q_R_goes_on k_R_goes_on, m_R_goes_on := a_R_goes_on, i_R_goes_on := i_R_goes_on,
      f_R_mark := f_R_mark, d_R_mark := _, F_R_mark := fun_mk (st := s_R_mark) l_R_mark q_R_mark k_R_mark, m_R_mark := a_R_mark, i_R_mark := i_R_mark,
      f_R_numeral := f_R_numeral, d_R_numeral := _, F_R_numeral := fun_mk (st := s_R_numeral) l_R_numeral q_R_numeral k_R_numeral, m_R_numeral := a_R_numeral, i_R_numeral := i_R_numeral,
      f_R_number := f_R_number, d_R_number := _, F_R_number := fun_mk (st := s_R_number) l_R_number q_R_number k_R_number, m_R_number := a_R_number, i_R_number := i_R_number,
      f_R_end := f_R_end, d_R_end := _, F_R_end := fun_mk (st := s_R_end) l_R_end q_R_end k_R_end, m_R_end := a_R_end, i_R_end := i_R_end,
      f_is_variable_word := f_is_variable_word, d_is_variable_word := _, F_is_variable_word := fun_mk (st := s_is_variable_word) l_is_variable_word q_is_variable_word k_is_variable_word, g_is_variable_word := PySem.W.mg_of X G a_is_variable_word,
      f_take_variable := f_take_variable, d_take_variable := _, F_take_variable := fun_mk (st := s_take_variable) l_take_variable q_take_variable k_take_variable, g_take_variable := PySem.W.mg_of X G a_take_variable,
      f_take_literal := f_take_literal, d_take_literal := _, F_take_literal := fun_mk (st := s_take_literal) l_take_literal q_take_literal k_take_literal, g_take_literal := PySem.W.mg_of X G a_take_literal,
      f_take_weight := f_take_weight, d_take_weight := _, F_take_weight := fun_mk (st := s_take_weight) l_take_weight q_take_weight k_take_weight, g_take_weight := PySem.W.mg_of X G a_take_weight,
      f_take_terms := f_take_terms, d_take_terms := _, F_take_terms := fun_mk (st := s_take_terms) l_take_terms q_take_terms k_take_terms, g_take_terms := PySem.W.mg_of X G a_take_terms,
      f_take_sum := f_take_sum, d_take_sum := _, F_take_sum := fun_mk (st := s_take_sum) l_take_sum q_take_sum k_take_sum, g_take_sum := PySem.W.mg_of X G a_take_sum,
      f_take_price := f_take_price, d_take_price := _, F_take_price := fun_mk (st := s_take_price) l_take_price q_take_price k_take_price, g_take_price := PySem.W.mg_of X G a_take_price,
      f_read_problem := f_read_problem, d_read_problem := _, F_read_problem := fun_mk (st := s_read_problem) l_read_problem q_read_problem k_read_problem, g_read_problem := PySem.W.mg_of X G a_read_problem,
      f_law_deck := f_law_deck, d_law_deck := _, F_law_deck := fun_mk (st := s_law_deck) l_law_deck q_law_deck k_law_deck, g_law_deck := PySem.W.mg_of X G a_law_deck,
      f_law_pick := f_law_pick, d_law_pick := _, F_law_pick := fun_mk (st := s_law_pick) l_law_pick q_law_pick k_law_pick, g_law_pick := PySem.W.mg_of X G a_law_pick,
      f_law_alike := f_law_alike, d_law_alike := _, F_law_alike := fun_mk (st := s_law_alike) l_law_alike q_law_alike k_law_alike, g_law_alike := PySem.W.mg_of X G a_law_alike,
      f_law_sum := f_law_sum, d_law_sum := _, F_law_sum := fun_mk (st := s_law_sum) l_law_sum q_law_sum k_law_sum, g_law_sum := PySem.W.mg_of X G a_law_sum,
      f_law_tied := f_law_tied, d_law_tied := _, F_law_tied := fun_mk (st := s_law_tied) l_law_tied q_law_tied k_law_tied, g_law_tied := PySem.W.mg_of X G a_law_tied,
      f_law_split := f_law_split, d_law_split := _, F_law_split := fun_mk (st := s_law_split) l_law_split q_law_split k_law_split, g_law_split := PySem.W.mg_of X G a_law_split,
      f_law_number_words := f_law_number_words, d_law_number_words := _, F_law_number_words := fun_mk (st := s_law_number_words) l_law_number_words q_law_number_words k_law_number_words, g_law_number_words := PySem.W.mg_of X G a_law_number_words,
      f_law_literal_words := f_law_literal_words, d_law_literal_words := _, F_law_literal_words := fun_mk (st := s_law_literal_words) l_law_literal_words q_law_literal_words k_law_literal_words, g_law_literal_words := PySem.W.mg_of X G a_law_literal_words,
      f_law_terms_words := f_law_terms_words, d_law_terms_words := _, F_law_terms_words := fun_mk (st := s_law_terms_words) l_law_terms_words q_law_terms_words k_law_terms_words, g_law_terms_words := PySem.W.mg_of X G a_law_terms_words,
      f_law_problem_words := f_law_problem_words, d_law_problem_words := _, F_law_problem_words := fun_mk (st := s_law_problem_words) l_law_problem_words q_law_problem_words k_law_problem_words, g_law_problem_words := PySem.W.mg_of X G a_law_problem_words,
      f_law_spread := f_law_spread, d_law_spread := _, F_law_spread := fun_mk (st := s_law_spread) l_law_spread q_law_spread k_law_spread, g_law_spread := PySem.W.mg_of X G a_law_spread,
      f_law_now := f_law_now, d_law_now := _, F_law_now := fun_mk (st := s_law_now) l_law_now q_law_now k_law_now, g_law_now := PySem.W.mg_of X G a_law_now,
      f_law_stop := f_law_stop, d_law_stop := _, F_law_stop := fun_mk (st := s_law_stop) l_law_stop q_law_stop k_law_stop, g_law_stop := PySem.W.mg_of X G a_law_stop,
      f_law_on := f_law_on, d_law_on := _, F_law_on := fun_mk (st := s_law_on) l_law_on q_law_on k_law_on, g_law_on := PySem.W.mg_of X G a_law_on,
      f_law_is_numeral := f_law_is_numeral, d_law_is_numeral := _, F_law_is_numeral := fun_mk (st := s_law_is_numeral) l_law_is_numeral q_law_is_numeral k_law_is_numeral, g_law_is_numeral := PySem.W.mg_of X G a_law_is_numeral,
      f_law_numeral := f_law_numeral, d_law_numeral := _, F_law_numeral := fun_mk (st := s_law_numeral) l_law_numeral q_law_numeral k_law_numeral, g_law_numeral := PySem.W.mg_of X G a_law_numeral,
      f_law_number := f_law_number, d_law_number := _, F_law_number := fun_mk (st := s_law_number) l_law_number q_law_number k_law_number, g_law_number := PySem.W.mg_of X G a_law_number,
      f_law_literal := f_law_literal, d_law_literal := _, F_law_literal := fun_mk (st := s_law_literal) l_law_literal q_law_literal k_law_literal, g_law_literal := PySem.W.mg_of X G a_law_literal,
      f_law_terms := f_law_terms, d_law_terms := _, F_law_terms := fun_mk (st := s_law_terms) l_law_terms q_law_terms k_law_terms, g_law_terms := PySem.W.mg_of X G a_law_terms,
      f_law_need := f_law_need, d_law_need := _, F_law_need := fun_mk (st := s_law_need) l_law_need q_law_need k_law_need, g_law_need := PySem.W.mg_of X G a_law_need,
      f_law_read := f_law_read, d_law_read := _, F_law_read := fun_mk (st := s_law_read) l_law_read q_law_read k_law_read, g_law_read := PySem.W.mg_of X G a_law_read,
      f_law_told := f_law_told, d_law_told := _, F_law_told := fun_mk (st := s_law_told) l_law_told q_law_told k_law_told, g_law_told := PySem.W.mg_of X G a_law_told,
      f_law_mixed := f_law_mixed, d_law_mixed := _, F_law_mixed := fun_mk (st := s_law_mixed) l_law_mixed q_law_mixed k_law_mixed, g_law_mixed := PySem.W.mg_of X G a_law_mixed,
      f_law := fa, d_law := _, F_law := fun_mk (st := s_law) l_law q_law k_law, g_law := PySem.W.mg_of X G a_law }
  have B : BTxt l.prog K mg CB fI :=
    { gC := PySem.W.mg_of X G aCB, zS := PySem.W.mg_none_of X G z_super, cls := ⟨bnm, bq, bN, bbs, bbm, bsn, bsub, bab, bcol, bdd, b0, b1, b2, b3, b5, lB, refsB⟩, sa := saB, ga := gaB, gg := ggB, noN := noB, iC := iB, tC := tyI, kC := kB,
      exC := exB, veC := veB, tyC := tyB, hdC := hdB, te := PySem.W.exm_ref exB hdB tyB ssB, op := opB, sup := supB, slf := slfB, htop := htop, fn := ⟨ocI, odI, kVI, dcI, pmI, anI, cda, cc, ctI, slI, lI, qI, ⟨cclI, cddI, vsI, ccsI, tfI, lcd, vs2⟩, clI, cldI, cslI, lcc⟩ }
  have C : ETxt K CB CS := { cl := clE, ga := gaB, gg := ggB, exC := exB, ha := haE, hn := hnE, ht := htE, hm := hmE, k1 := k1E, k2 := k2E }
  exact ⟨PySem.W.fnOf "law" "law" (defArgs s_law) (defBody s_law) (defScope s_law) .none kV_law dc_law pm_law an_law cd_law ct_law, fun s v => .of_eq rfl, fun base _ _ => ok_law T B C⟩
theorem walk {l : PySem.W.OpenLaw} {q : Program} {loose : List Str} {XP : (Str → Option Value) → Heap → Prop} {YP : World → Heap → Prop} {d : DefRec} {K : Params → PySem.W.Frag} (hn : l.most = some 63) (hdf : d.params.defaults = [])
    (hY : ∀ (w : World) (h : Heap), YP w h → (K w.params).In h)
    (F : ∀ (w : World) (mg : Str → Option Value) (fa : Addr) (h : Heap), (K w.params).In h → h.Ns mainGlobals mg → mg d.name = some (.ref fa) →
      ∃ fd : FuncData, (∀ (s : Shared) (u : Value), BindsTo s fd ⟨[u], []⟩ [("script", u)]) ∧ ∀ base : Heap, (K w.params).In base → base.Ns mainGlobals mg → FnOk l.prog w (K w.params) mg base CX0 10 fa fd ["script"] (spLaw (K w.params))) :
    PySem.W.WalkO q loose XP YP l.row.toRowW d [] (fun f vs => PySem.call f vs) :=
  L2.walk_of (n := 63) (k := 10) (x := "script") (CX := fun _ => CX0) (sp := fun w => spLaw (K w.params)) hn (by decide) hdf ⟨rfl, by decide, by decide⟩ hY F (fun _ _ a ns hl _ hS => ⟨a, ns, rfl, hS, hl, fun _ => rfl⟩) fun _ _ _ _ _ z => z
end Kt
open PySem PySem.W PyProof.Rows in
set_option maxRecDepth 100000 in
set_option maxHeartbeats 0 in
theorem PySem.Challenge.cw_sumsworn_k77_texts_that_are_none_holds : PySem.Challenge.rw_sumsworn_k77_texts_that_are_none.Holds := by
  w_on; o_law; k_head; (case hw => w_witness2)
  k_fill
  refine Kt.walk (l := PySem.Challenge.rw_sumsworn_k77_texts_that_are_none) rfl rfl (fun w h Y => PySem.W.kIn_of Y) ?F
  case F =>
    intro w mg fa h KX G hmg
    refine' Kt.all_mk KX G hmg ?z_len ?z_all ?z_isinstance ?z_int ?z_str ?z_tuple ?z_list ?z_abs ?z_min ?z_sum ?z_range ?z_sorted ?z_bool ?z_ValueError ?z_super ?c_MOST_VARIABLES ?c_MOST_SUMS ?c_MOST_NUMBER ?c_LONGEST_NUMERAL ?c_SMALL_LETTERS ?c_DIGITS ?c_BLANKS ?aCR ?aCB ?aCS ?pgR ?hdR ?poR ?saR ?mkR ?kCR ?n_many ?n_words ?n_at ?a_words_in ?l_words_in ?q_words_in ?k_words_in ?a_is_numeral ?l_is_numeral ?q_is_numeral ?k_is_numeral ?a_R_init ?i_R_init ?l_R_init ?q_R_init ?k_R_init ?a_R_word ?i_R_word ?l_R_word ?q_R_word ?k_R_word ?a_R_stop ?i_R_stop ?l_R_stop ?q_R_stop ?k_R_stop ?a_R_taken ?i_R_taken ?l_R_taken ?q_R_taken ?k_R_taken ?a_R_goes_on ?i_R_goes_on ?l_R_goes_on ?q_R_goes_on ?k_R_goes_on ?a_R_mark ?i_R_mark ?l_R_mark ?q_R_mark ?k_R_mark ?a_R_numeral ?i_R_numeral ?l_R_numeral ?q_R_numeral ?k_R_numeral ?a_R_number ?i_R_number ?l_R_number ?q_R_number ?k_R_number ?a_R_end ?i_R_end ?l_R_end ?q_R_end ?k_R_end ?a_is_variable_word ?l_is_variable_word ?q_is_variable_word ?k_is_variable_word ?a_take_variable ?l_take_variable ?q_take_variable ?k_take_variable ?a_take_literal ?l_take_literal ?q_take_literal ?k_take_literal ?a_take_weight ?l_take_weight ?q_take_weight ?k_take_weight ?a_take_terms ?l_take_terms ?q_take_terms ?k_take_terms ?a_take_sum ?l_take_sum ?q_take_sum ?k_take_sum ?a_take_price ?l_take_price ?q_take_price ?k_take_price ?a_read_problem ?l_read_problem ?q_read_problem ?k_read_problem ?a_law_deck ?l_law_deck ?q_law_deck ?k_law_deck ?a_law_pick ?l_law_pick ?q_law_pick ?k_law_pick ?a_law_alike ?l_law_alike ?q_law_alike ?k_law_alike ?a_law_sum ?l_law_sum ?q_law_sum ?k_law_sum ?a_law_tied ?l_law_tied ?q_law_tied ?k_law_tied ?a_law_split ?l_law_split ?q_law_split ?k_law_split ?a_law_number_words ?l_law_number_words ?q_law_number_words ?k_law_number_words ?a_law_literal_words ?l_law_literal_words ?q_law_literal_words ?k_law_literal_words ?a_law_terms_words ?l_law_terms_words ?q_law_terms_words ?k_law_terms_words ?a_law_problem_words ?l_law_problem_words ?q_law_problem_words ?k_law_problem_words ?a_law_spread ?l_law_spread ?q_law_spread ?k_law_spread ?a_law_now ?l_law_now ?q_law_now ?k_law_now ?a_law_stop ?l_law_stop ?q_law_stop ?k_law_stop ?a_law_on ?l_law_on ?q_law_on ?k_law_on ?a_law_is_numeral ?l_law_is_numeral ?q_law_is_numeral ?k_law_is_numeral ?a_law_numeral ?l_law_numeral ?q_law_numeral ?k_law_numeral ?a_law_number ?l_law_number ?q_law_number ?k_law_number ?a_law_literal ?l_law_literal ?q_law_literal ?k_law_literal ?a_law_terms ?l_law_terms ?q_law_terms ?k_law_terms ?a_law_need ?l_law_need ?q_law_need ?k_law_need ?a_law_read ?l_law_read ?q_law_read ?k_law_read ?a_law_told ?l_law_told ?q_law_told ?k_law_told ?a_law_mixed ?l_law_mixed ?q_law_mixed ?k_law_mixed ?a_law ?l_law ?q_law ?k_law ?lB ?refsB ?saB ?gaB ?ggB ?noB ?iB ?tyI ?kB ?exB ?veB ?tyB ?hdB ?icB ?ssB ?opB ?supB ?slfB ?htop ?lI ?qI ?lcd ?vs2 ?lcc ?clE ?haE ?hnE ?htE ?hmE ?k1E ?k2E
    (case z_len => k_is)
    (case z_all => k_is)
    (case z_isinstance => k_is)
    (case z_int => k_is)
    (case z_str => k_is)
    (case z_tuple => k_is)
    (case z_list => k_is)
    (case z_abs => k_is)
    (case z_min => k_is)
    (case z_sum => k_is)
    (case z_range => k_is)
    (case z_sorted => k_is)
    (case z_bool => k_is)
    (case z_ValueError => k_is)
    (case z_super => k_is)
    (case c_MOST_VARIABLES => k_is)
    (case c_MOST_SUMS => k_is)
    (case c_MOST_NUMBER => k_is)
    (case c_LONGEST_NUMERAL => k_is)
    (case c_SMALL_LETTERS => k_is)
    (case c_DIGITS => k_is)
    (case c_BLANKS => k_is)
    (case aCR => k_is)
    (case aCB => k_is)
    (case aCS => k_is)
    (case pgR => k_is)
    (case hdR => k_is)
    (case poR => k_is)
    (case saR => k_is)
    (case mkR => k_is)
    (case kCR => k_is)
    (case n_many => k_is)
    (case n_words => k_is)
    (case n_at => k_is)
    (case a_words_in => k_is)
    (case l_words_in => k_is)
    (case q_words_in => k_is)
    (case k_words_in => k_is)
    (case a_is_numeral => k_is)
    (case l_is_numeral => k_is)
    (case q_is_numeral => k_is)
    (case k_is_numeral => k_is)
    (case a_R_init => k_is)
    (case i_R_init => k_is)
    (case l_R_init => k_is)
    (case q_R_init => k_is)
    (case k_R_init => k_is)
    (case a_R_word => k_is)
    (case i_R_word => k_is)
    (case l_R_word => k_is)
    (case q_R_word => k_is)
    (case k_R_word => k_is)
    (case a_R_stop => k_is)
    (case i_R_stop => k_is)
    (case l_R_stop => k_is)
    (case q_R_stop => k_is)
    (case k_R_stop => k_is)
    (case a_R_taken => k_is)
    (case i_R_taken => k_is)
    (case l_R_taken => k_is)
    (case q_R_taken => k_is)
    (case k_R_taken => k_is)
    (case a_R_goes_on => k_is)
    (case i_R_goes_on => k_is)
    (case l_R_goes_on => k_is)
    (case q_R_goes_on => k_is)
    (case k_R_goes_on => k_is)
    (case a_R_mark => k_is)
    (case i_R_mark => k_is)
    (case l_R_mark => k_is)
    (case q_R_mark => k_is)
    (case k_R_mark => k_is)
    (case a_R_numeral => k_is)
    (case i_R_numeral => k_is)
    (case l_R_numeral => k_is)
    (case q_R_numeral => k_is)
    (case k_R_numeral => k_is)
    (case a_R_number => k_is)
    (case i_R_number => k_is)
    (case l_R_number => k_is)
    (case q_R_number => k_is)
    (case k_R_number => k_is)
    (case a_R_end => k_is)
    (case i_R_end => k_is)
    (case l_R_end => k_is)
    (case q_R_end => k_is)
    (case k_R_end => k_is)
    (case a_is_variable_word => k_is)
    (case l_is_variable_word => k_is)
    (case q_is_variable_word => k_is)
    (case k_is_variable_word => k_is)
    (case a_take_variable => k_is)
    (case l_take_variable => k_is)
    (case q_take_variable => k_is)
    (case k_take_variable => k_is)
    (case a_take_literal => k_is)
    (case l_take_literal => k_is)
    (case q_take_literal => k_is)
    (case k_take_literal => k_is)
    (case a_take_weight => k_is)
    (case l_take_weight => k_is)
    (case q_take_weight => k_is)
    (case k_take_weight => k_is)
    (case a_take_terms => k_is)
    (case l_take_terms => k_is)
    (case q_take_terms => k_is)
    (case k_take_terms => k_is)
    (case a_take_sum => k_is)
    (case l_take_sum => k_is)
    (case q_take_sum => k_is)
    (case k_take_sum => k_is)
    (case a_take_price => k_is)
    (case l_take_price => k_is)
    (case q_take_price => k_is)
    (case k_take_price => k_is)
    (case a_read_problem => k_is)
    (case l_read_problem => k_is)
    (case q_read_problem => k_is)
    (case k_read_problem => k_is)
    (case a_law_deck => k_is)
    (case l_law_deck => k_is)
    (case q_law_deck => k_is)
    (case k_law_deck => k_is)
    (case a_law_pick => k_is)
    (case l_law_pick => k_is)
    (case q_law_pick => k_is)
    (case k_law_pick => k_is)
    (case a_law_alike => k_is)
    (case l_law_alike => k_is)
    (case q_law_alike => k_is)
    (case k_law_alike => k_is)
    (case a_law_sum => k_is)
    (case l_law_sum => k_is)
    (case q_law_sum => k_is)
    (case k_law_sum => k_is)
    (case a_law_tied => k_is)
    (case l_law_tied => k_is)
    (case q_law_tied => k_is)
    (case k_law_tied => k_is)
    (case a_law_split => k_is)
    (case l_law_split => k_is)
    (case q_law_split => k_is)
    (case k_law_split => k_is)
    (case a_law_number_words => k_is)
    (case l_law_number_words => k_is)
    (case q_law_number_words => k_is)
    (case k_law_number_words => k_is)
    (case a_law_literal_words => k_is)
    (case l_law_literal_words => k_is)
    (case q_law_literal_words => k_is)
    (case k_law_literal_words => k_is)
    (case a_law_terms_words => k_is)
    (case l_law_terms_words => k_is)
    (case q_law_terms_words => k_is)
    (case k_law_terms_words => k_is)
    (case a_law_problem_words => k_is)
    (case l_law_problem_words => k_is)
    (case q_law_problem_words => k_is)
    (case k_law_problem_words => k_is)
    (case a_law_spread => k_is)
    (case l_law_spread => k_is)
    (case q_law_spread => k_is)
    (case k_law_spread => k_is)
    (case a_law_now => k_is)
    (case l_law_now => k_is)
    (case q_law_now => k_is)
    (case k_law_now => k_is)
    (case a_law_stop => k_is)
    (case l_law_stop => k_is)
    (case q_law_stop => k_is)
    (case k_law_stop => k_is)
    (case a_law_on => k_is)
    (case l_law_on => k_is)
    (case q_law_on => k_is)
    (case k_law_on => k_is)
    (case a_law_is_numeral => k_is)
    (case l_law_is_numeral => k_is)
    (case q_law_is_numeral => k_is)
    (case k_law_is_numeral => k_is)
    (case a_law_numeral => k_is)
    (case l_law_numeral => k_is)
    (case q_law_numeral => k_is)
    (case k_law_numeral => k_is)
    (case a_law_number => k_is)
    (case l_law_number => k_is)
    (case q_law_number => k_is)
    (case k_law_number => k_is)
    (case a_law_literal => k_is)
    (case l_law_literal => k_is)
    (case q_law_literal => k_is)
    (case k_law_literal => k_is)
    (case a_law_terms => k_is)
    (case l_law_terms => k_is)
    (case q_law_terms => k_is)
    (case k_law_terms => k_is)
    (case a_law_need => k_is)
    (case l_law_need => k_is)
    (case q_law_need => k_is)
    (case k_law_need => k_is)
    (case a_law_read => k_is)
    (case l_law_read => k_is)
    (case q_law_read => k_is)
    (case k_law_read => k_is)
    (case a_law_told => k_is)
    (case l_law_told => k_is)
    (case q_law_told => k_is)
    (case k_law_told => k_is)
    (case a_law_mixed => k_is)
    (case l_law_mixed => k_is)
    (case q_law_mixed => k_is)
    (case k_law_mixed => k_is)
    (case a_law => k_is)
    (case l_law => k_is)
    (case q_law => k_is)
    (case k_law => k_is)
    (case lB => k_is)
    (case refsB => decide +kernel)
    (case saB => k_is)
    (case gaB => k_is)
    (case ggB => k_is)
    (case noB => k_is)
    (case iB => k_is)
    (case tyI => k_is)
    (case kB => k_is)
    (case exB => k_is)
    (case veB => k_is)
    (case tyB => k_is)
    (case hdB => k_is)
    (case icB => k_is)
    (case ssB => first | k_is | rfl)
    (case opB => k_is)
    (case supB => ks_is)
    (case slfB => k_is)
    (case htop => first | rfl | decide +kernel)
    (case lI => k_is)
    (case qI => k_is)
    (case lcd => k_is)
    (case vs2 => rfl)
    (case lcc => k_is)
    (case clE => first | rfl | decide +kernel)
    (case haE => k_is)
    (case hnE => k_is)
    (case htE => k_is)
    (case hmE => k_is)
    (case k1E => first | kit_is | k_is | decide +kernel)
    (case k2E => first | kit_is | k_is | decide +kernel)
