import PyProof.Rows.All
import Wide.All
import OpenK.AllK
import Wide.FinOn
import KE.KStateDown
import Lean
import HandS.ForMost
import HandS.More
import HandS.WordsExc
import HandS.Exc
import HandS.Defaults
import HandS.Style
import HandS.Walk
import HandS.Wide
import HandS.Rev
import HandS.IsInst
import HandS.New0
import HandS.Head0
import HandS.Head1
import HandS.Head2
import HandS.HeadEnd
import HandS.HeadHook1
import HandS.HeadHook2
import HandS.HeadHook4
import KE.KDictList
import HandS.Evl
import HandS.WideBits
import PySem.Challenge.RW_turnframe_k53_whole_frame
set_option Elab.async false
set_option linter.all false
set_option maxRecDepth 100000
set_option maxHeartbeats 4000000
namespace Tf
open PySem PySem.Spec PyProof.Rows L2
def top (i : Nat) : Stmt := PySem.Challenge.pw_turnframe_k53_whole_frame.main.body.getD i (.Pass ⟨0, 0, 0, 0⟩)
abbrev s_is_square : Stmt := top 9
abbrev s_unit : Stmt := top 10
abbrev s_turned : Stmt := top 11
abbrev s_dot : Stmt := top 12
abbrev s_image : Stmt := top 13
abbrev s_is_whole : Stmt := top 15
abbrev s_divisor : Stmt := top 16
abbrev s_shares : Stmt := top 17
abbrev s_is_prime : Stmt := top 18
abbrev s_Kind_minus : Stmt := inClass (top 21) 0
abbrev s_Kind_is_nought : Stmt := inClass (top 21) 2
abbrev s_Fractions_number : Stmt := inClass (top 22) 0
abbrev s_Fractions_plus : Stmt := inClass (top 22) 1
abbrev s_Fractions_times : Stmt := inClass (top 22) 2
abbrev s_Fractions_back : Stmt := inClass (top 22) 3
abbrev s_Rests_init : Stmt := inClass (top 23) 0
abbrev s_Rests_number : Stmt := inClass (top 23) 1
abbrev s_Rests_plus : Stmt := inClass (top 23) 2
abbrev s_Rests_times : Stmt := inClass (top 23) 3
abbrev s_Rests_back : Stmt := inClass (top 23) 4
abbrev s_trimmed : Stmt := top 25
abbrev s_plus_poly : Stmt := top 26
abbrev s_times_poly : Stmt := top 27
abbrev s_Polys_init : Stmt := inClass (top 28) 0
abbrev s_Polys_number : Stmt := inClass (top 28) 1
abbrev s_Polys_plus : Stmt := inClass (top 28) 2
abbrev s_Polys_times : Stmt := inClass (top 28) 3
abbrev s_divided : Stmt := top 29
abbrev s_common : Stmt := top 30
abbrev s_is_turn : Stmt := top 32
abbrev s_rows_behind : Stmt := top 33
abbrev s_done : Stmt := top 34
abbrev s_first_low : Stmt := top 36
abbrev s_lead_turns : Stmt := top 37
abbrev s_clear_turns : Stmt := top 38
abbrev s_steps : Stmt := top 39
abbrev s_kernel_column : Stmt := top 40
abbrev s_kernel : Stmt := top 41
abbrev s_inverse : Stmt := top 43
abbrev s_shown_never : Stmt := top 44
abbrev s_solved : Stmt := top 45
abbrev s_least_of : Stmt := top 47
abbrev s_at_column : Stmt := top 48
abbrev s_parted : Stmt := top 49
abbrev s_joined : Stmt := top 50
abbrev s_least : Stmt := top 51
abbrev s_chained : Stmt := top 53
abbrev s_beside : Stmt := top 54
abbrev s_within : Stmt := top 55
abbrev s_parts : Stmt := top 57
abbrev s_frame : Stmt := top 58
abbrev s_L_whole : Stmt := top 60
abbrev s_L_divisor : Stmt := top 61
abbrev s_L_is_prime : Stmt := top 62
abbrev s_L_prime : Stmt := top 63
abbrev s_L_prime_by : Stmt := top 64
abbrev s_L_kind : Stmt := top 65
abbrev s_L_fraction : Stmt := top 66
abbrev s_L_make : Stmt := top 67
abbrev s_L_plus : Stmt := top 68
abbrev s_L_times : Stmt := top 69
abbrev s_L_minus : Stmt := top 70
abbrev s_L_is_number : Stmt := top 71
abbrev s_L_drawn : Stmt := top 72
abbrev s_L_cut : Stmt := top 73
abbrev s_L_rest_by : Stmt := top 74
abbrev s_L_blocks : Stmt := top 75
abbrev s_L_image : Stmt := top 76
abbrev s_L_across : Stmt := top 77
abbrev s_L_product : Stmt := top 78
abbrev s_L_is_row : Stmt := top 79
abbrev s_L_is_table : Stmt := top 80
abbrev s_L_unit : Stmt := top 81
abbrev s_L_cell_at : Stmt := top 82
abbrev s_L_rows_by : Stmt := top 83
abbrev s_L_size : Stmt := top 84
abbrev s_L_chain_right : Stmt := top 85
abbrev s_L_right : Stmt := top 86
abbrev s_law : Stmt := top 87
/-- the function object at an address -/
def fdAt (K : PySem.W.Frag) (a : Addr) : FuncData := match K.lookup a with
  | some ⟨_, _, .func fd, _⟩ => fd
  | _ => default
theorem fdAt_eq {K : PySem.W.Frag} {x qual : Str} {params : Arguments} {body : List Stmt} {scope : Scope} {dvs : List V} {kws : List (Str × V)} {f : Addr} {fd : FuncData} (F : FunD K x qual params body scope dvs kws f fd) : fdAt K f = fd := by
  obtain ⟨oc, od, dV, kV, doc, pm, an, cdv, ct, osl, e, lk, hcd, _, _⟩ := F.ex
  unfold fdAt
  rw [lk]
/-- what the walk needs of a def: its text, how its arguments bind -/
structure Df (K : PySem.W.Frag) (p : Str × Option Str) (nm qual : Str) (st : Stmt) (ps : List Str) : Prop where
  fn : FunD K nm qual (defArgs st) (defBody st) (defScope st) [] [] (He.fAd K p) (fdAt K (He.fAd K p))
  bd : Binds K (fdAt K (He.fAd K p)) ps []
/-- a def with one default, the int 1 -/
structure Df1 (K : PySem.W.Frag) (p : Str × Option Str) (nm qual : Str) (st : Stmt) (ps : List Str) : Prop where
  fn : FunD K nm qual (defArgs st) (defBody st) (defScope st) [.int 1] [] (He.fAd K p) (fdAt K (He.fAd K p))
  bd : Binds K (fdAt K (He.fAd K p)) ps []
  bd1 : ∃ ds, Vals [.int 1] ds ∧ Binds K (fdAt K (He.fAd K p)) ps ds
structure Txt (K : PySem.W.Frag) (mg : Str → Option Value) : Prop where
  d_is_square : Df K ("is_square", none) "is_square" "is_square" s_is_square ["table"]
  d_unit : Df K ("unit", none) "unit" "unit" s_unit ["kind", "size"]
  d_turned : Df K ("turned", none) "turned" "turned" s_turned ["table"]
  d_dot : Df K ("dot", none) "dot" "dot" s_dot ["kind", "row", "column"]
  d_image : Df K ("image", none) "image" "image" s_image ["kind", "table", "column"]
  d_is_whole : Df K ("is_whole", none) "is_whole" "is_whole" s_is_whole ["thing"]
  d_divisor : Df K ("divisor", none) "divisor" "divisor" s_divisor ["one", "other"]
  d_shares : Df K ("shares", none) "shares" "shares" s_shares ["one", "other"]
  d_is_prime : Df K ("is_prime", none) "is_prime" "is_prime" s_is_prime ["number"]
  d_Fractions_minus : Df K ("Fractions", some "minus") "minus" "Kind.minus" s_Kind_minus ["self", "one", "other"]
  d_Rests_minus : Df K ("Rests", some "minus") "minus" "Kind.minus" s_Kind_minus ["self", "one", "other"]
  d_Polys_minus : Df K ("Polys", some "minus") "minus" "Kind.minus" s_Kind_minus ["self", "one", "other"]
  d_Fractions_is_nought : Df K ("Fractions", some "is_nought") "is_nought" "Kind.is_nought" s_Kind_is_nought ["self", "one"]
  d_Rests_is_nought : Df K ("Rests", some "is_nought") "is_nought" "Kind.is_nought" s_Kind_is_nought ["self", "one"]
  d_Fractions_number : Df1 K ("Fractions", some "number") "number" "Fractions.number" s_Fractions_number ["self", "top", "bottom"]
  d_Fractions_plus : Df K ("Fractions", some "plus") "plus" "Fractions.plus" s_Fractions_plus ["self", "one", "other"]
  d_Fractions_times : Df K ("Fractions", some "times") "times" "Fractions.times" s_Fractions_times ["self", "one", "other"]
  d_Fractions_back : Df K ("Fractions", some "back") "back" "Fractions.back" s_Fractions_back ["self", "one"]
  d_Rests_init : Df K ("Rests", some "__init__") "__init__" "Rests.__init__" s_Rests_init ["self", "prime"]
  d_Rests_number : Df1 K ("Rests", some "number") "number" "Rests.number" s_Rests_number ["self", "top", "bottom"]
  d_Rests_plus : Df K ("Rests", some "plus") "plus" "Rests.plus" s_Rests_plus ["self", "one", "other"]
  d_Rests_times : Df K ("Rests", some "times") "times" "Rests.times" s_Rests_times ["self", "one", "other"]
  d_Rests_back : Df K ("Rests", some "back") "back" "Rests.back" s_Rests_back ["self", "one"]
  d_trimmed : Df K ("trimmed", none) "trimmed" "trimmed" s_trimmed ["kind", "numbers"]
  d_plus_poly : Df K ("plus_poly", none) "plus_poly" "plus_poly" s_plus_poly ["kind", "f", "g"]
  d_times_poly : Df K ("times_poly", none) "times_poly" "times_poly" s_times_poly ["kind", "f", "g"]
  d_Polys_init : Df K ("Polys", some "__init__") "__init__" "Polys.__init__" s_Polys_init ["self", "under"]
  d_Polys_number : Df1 K ("Polys", some "number") "number" "Polys.number" s_Polys_number ["self", "top", "bottom"]
  d_Polys_plus : Df K ("Polys", some "plus") "plus" "Polys.plus" s_Polys_plus ["self", "one", "other"]
  d_Polys_times : Df K ("Polys", some "times") "times" "Polys.times" s_Polys_times ["self", "one", "other"]
  d_divided : Df K ("divided", none) "divided" "divided" s_divided ["kind", "f", "g"]
  d_common : Df K ("common", none) "common" "common" s_common ["kind", "f", "g"]
  d_is_turn : Df K ("is_turn", none) "is_turn" "is_turn" s_is_turn ["kind", "size", "turn"]
  d_rows_behind : Df K ("rows_behind", none) "rows_behind" "rows_behind" s_rows_behind ["kind", "rows", "turn"]
  d_done : Df K ("done", none) "done" "done" s_done ["kind", "table", "turns"]
  d_first_low : Df K ("first_low", none) "first_low" "first_low" s_first_low ["kind", "rows", "start", "column"]
  d_lead_turns : Df K ("lead_turns", none) "lead_turns" "lead_turns" s_lead_turns ["kind", "rows", "at", "low", "column"]
  d_clear_turns : Df K ("clear_turns", none) "clear_turns" "clear_turns" s_clear_turns ["kind", "rows", "at", "column"]
  d_steps : Df K ("steps", none) "steps" "steps" s_steps ["kind", "table"]
  d_kernel_column : Df K ("kernel_column", none) "kernel_column" "kernel_column" s_kernel_column ["kind", "reduced", "leads", "free"]
  d_kernel : Df K ("kernel", none) "kernel" "kernel" s_kernel ["kind", "table"]
  d_inverse : Df K ("inverse", none) "inverse" "inverse" s_inverse ["kind", "table"]
  d_shown_never : Df K ("shown_never", none) "shown_never" "shown_never" s_shown_never ["kind", "table", "turns", "right", "at"]
  d_solved : Df K ("solved", none) "solved" "solved" s_solved ["kind", "table", "column"]
  d_least_of : Df K ("least_of", none) "least_of" "least_of" s_least_of ["kind", "table", "column"]
  d_at_column : Df K ("at_column", none) "at_column" "at_column" s_at_column ["kind", "f", "table", "column"]
  d_parted : Df K ("parted", none) "parted" "parted" s_parted ["kind", "f", "g"]
  d_joined : Df K ("joined", none) "joined" "joined" s_joined ["kind", "table", "first", "second"]
  d_least : Df K ("least", none) "least" "least" s_least ["kind", "table"]
  d_chained : Df K ("chained", none) "chained" "chained" s_chained ["kind", "table", "column", "size"]
  d_beside : Df K ("beside", none) "beside" "beside" s_beside ["kind", "table", "columns"]
  d_within : Df K ("within", none) "within" "within" s_within ["kind", "table", "columns"]
  d_parts : Df K ("parts", none) "parts" "parts" s_parts ["kind", "table"]
  d_frame : Df K ("frame", none) "frame" "frame" s_frame ["kind", "table"]
  d_L_whole : Df K ("_law_whole", none) "_law_whole" "_law_whole" s_L_whole ["_law_found"]
  d_L_divisor : Df K ("_law_divisor", none) "_law_divisor" "_law_divisor" s_L_divisor ["_law_one", "_law_other"]
  d_L_is_prime : Df K ("_law_is_prime", none) "_law_is_prime" "_law_is_prime" s_L_is_prime ["_law_number"]
  d_L_prime : Df K ("_law_prime", none) "_law_prime" "_law_prime" s_L_prime ["_law_number"]
  d_L_prime_by : Df K ("_law_prime_by", none) "_law_prime_by" "_law_prime_by" s_L_prime_by ["_law_cell"]
  d_L_kind : Df K ("_law_kind", none) "_law_kind" "_law_kind" s_L_kind ["_law_prime_here"]
  d_L_fraction : Df K ("_law_fraction", none) "_law_fraction" "_law_fraction" s_L_fraction ["_law_top", "_law_bottom"]
  d_L_make : Df K ("_law_make", none) "_law_make" "_law_make" s_L_make ["_law_prime_here", "_law_number"]
  d_L_plus : Df K ("_law_plus", none) "_law_plus" "_law_plus" s_L_plus ["_law_prime_here", "_law_one", "_law_other"]
  d_L_times : Df K ("_law_times", none) "_law_times" "_law_times" s_L_times ["_law_prime_here", "_law_one", "_law_other"]
  d_L_minus : Df K ("_law_minus", none) "_law_minus" "_law_minus" s_L_minus ["_law_prime_here", "_law_one", "_law_other"]
  d_L_is_number : Df K ("_law_is_number", none) "_law_is_number" "_law_is_number" s_L_is_number ["_law_prime_here", "_law_found"]
  d_L_drawn : Df K ("_law_drawn", none) "_law_drawn" "_law_drawn" s_L_drawn ["_law_prime_here", "_law_number"]
  d_L_cut : Df K ("_law_cut", none) "_law_cut" "_law_cut" s_L_cut ["_law_prime_here", "_law_numbers"]
  d_L_rest_by : Df K ("_law_rest_by", none) "_law_rest_by" "_law_rest_by" s_L_rest_by ["_law_prime_here", "_law_f", "_law_monic"]
  d_L_blocks : Df K ("_law_blocks", none) "_law_blocks" "_law_blocks" s_L_blocks ["_law_prime_here", "_law_chain"]
  d_L_image : Df K ("_law_image", none) "_law_image" "_law_image" s_L_image ["_law_prime_here", "_law_table", "_law_column"]
  d_L_across : Df K ("_law_across", none) "_law_across" "_law_across" s_L_across ["_law_table"]
  d_L_product : Df K ("_law_product", none) "_law_product" "_law_product" s_L_product ["_law_prime_here", "_law_one", "_law_other"]
  d_L_is_row : Df K ("_law_is_row", none) "_law_is_row" "_law_is_row" s_L_is_row ["_law_prime_here", "_law_found", "_law_many"]
  d_L_is_table : Df K ("_law_is_table", none) "_law_is_table" "_law_is_table" s_L_is_table ["_law_prime_here", "_law_found", "_law_size_here"]
  d_L_unit : Df K ("_law_unit", none) "_law_unit" "_law_unit" s_L_unit ["_law_prime_here", "_law_size_here"]
  d_L_cell_at : Df K ("_law_cell_at", none) "_law_cell_at" "_law_cell_at" s_L_cell_at ["_law_cells", "_law_k"]
  d_L_rows_by : Df K ("_law_rows_by", none) "_law_rows_by" "_law_rows_by" s_L_rows_by ["_law_prime_here", "_law_cells", "_law_at", "_law_rows", "_law_columns"]
  d_L_size : Df K ("_law_size", none) "_law_size" "_law_size" s_L_size ["_law_prime_here", "_law_cell"]
  d_L_chain_right : Df K ("_law_chain_right", none) "_law_chain_right" "_law_chain_right" s_L_chain_right ["_law_prime_here", "_law_chain", "_law_size_here"]
  d_L_right : Df K ("_law_right", none) "_law_right" "_law_right" s_L_right ["_law_kind_here", "_law_prime_here", "_law_table", "_law_told"]
  d_law : Df K ("law", none) "law" "law" s_law ["_law_script"]
  g_is_square : mg "is_square" = some (.ref (He.ga K "is_square"))
  g_unit : mg "unit" = some (.ref (He.ga K "unit"))
  g_turned : mg "turned" = some (.ref (He.ga K "turned"))
  g_dot : mg "dot" = some (.ref (He.ga K "dot"))
  g_image : mg "image" = some (.ref (He.ga K "image"))
  g_is_whole : mg "is_whole" = some (.ref (He.ga K "is_whole"))
  g_divisor : mg "divisor" = some (.ref (He.ga K "divisor"))
  g_shares : mg "shares" = some (.ref (He.ga K "shares"))
  g_is_prime : mg "is_prime" = some (.ref (He.ga K "is_prime"))
  g_Fractions : mg "Fractions" = some (.ref (He.ga K "Fractions"))
  g_Rests : mg "Rests" = some (.ref (He.ga K "Rests"))
  g_trimmed : mg "trimmed" = some (.ref (He.ga K "trimmed"))
  g_plus_poly : mg "plus_poly" = some (.ref (He.ga K "plus_poly"))
  g_times_poly : mg "times_poly" = some (.ref (He.ga K "times_poly"))
  g_Polys : mg "Polys" = some (.ref (He.ga K "Polys"))
  g_divided : mg "divided" = some (.ref (He.ga K "divided"))
  g_common : mg "common" = some (.ref (He.ga K "common"))
  g_is_turn : mg "is_turn" = some (.ref (He.ga K "is_turn"))
  g_rows_behind : mg "rows_behind" = some (.ref (He.ga K "rows_behind"))
  g_done : mg "done" = some (.ref (He.ga K "done"))
  g_first_low : mg "first_low" = some (.ref (He.ga K "first_low"))
  g_lead_turns : mg "lead_turns" = some (.ref (He.ga K "lead_turns"))
  g_clear_turns : mg "clear_turns" = some (.ref (He.ga K "clear_turns"))
  g_steps : mg "steps" = some (.ref (He.ga K "steps"))
  g_kernel_column : mg "kernel_column" = some (.ref (He.ga K "kernel_column"))
  g_kernel : mg "kernel" = some (.ref (He.ga K "kernel"))
  g_inverse : mg "inverse" = some (.ref (He.ga K "inverse"))
  g_shown_never : mg "shown_never" = some (.ref (He.ga K "shown_never"))
  g_solved : mg "solved" = some (.ref (He.ga K "solved"))
  g_least_of : mg "least_of" = some (.ref (He.ga K "least_of"))
  g_at_column : mg "at_column" = some (.ref (He.ga K "at_column"))
  g_parted : mg "parted" = some (.ref (He.ga K "parted"))
  g_joined : mg "joined" = some (.ref (He.ga K "joined"))
  g_least : mg "least" = some (.ref (He.ga K "least"))
  g_chained : mg "chained" = some (.ref (He.ga K "chained"))
  g_beside : mg "beside" = some (.ref (He.ga K "beside"))
  g_within : mg "within" = some (.ref (He.ga K "within"))
  g_parts : mg "parts" = some (.ref (He.ga K "parts"))
  g_frame : mg "frame" = some (.ref (He.ga K "frame"))
  g_L_whole : mg "_law_whole" = some (.ref (He.ga K "_law_whole"))
  g_L_divisor : mg "_law_divisor" = some (.ref (He.ga K "_law_divisor"))
  g_L_is_prime : mg "_law_is_prime" = some (.ref (He.ga K "_law_is_prime"))
  g_L_prime : mg "_law_prime" = some (.ref (He.ga K "_law_prime"))
  g_L_prime_by : mg "_law_prime_by" = some (.ref (He.ga K "_law_prime_by"))
  g_L_kind : mg "_law_kind" = some (.ref (He.ga K "_law_kind"))
  g_L_fraction : mg "_law_fraction" = some (.ref (He.ga K "_law_fraction"))
  g_L_make : mg "_law_make" = some (.ref (He.ga K "_law_make"))
  g_L_plus : mg "_law_plus" = some (.ref (He.ga K "_law_plus"))
  g_L_times : mg "_law_times" = some (.ref (He.ga K "_law_times"))
  g_L_minus : mg "_law_minus" = some (.ref (He.ga K "_law_minus"))
  g_L_is_number : mg "_law_is_number" = some (.ref (He.ga K "_law_is_number"))
  g_L_drawn : mg "_law_drawn" = some (.ref (He.ga K "_law_drawn"))
  g_L_cut : mg "_law_cut" = some (.ref (He.ga K "_law_cut"))
  g_L_rest_by : mg "_law_rest_by" = some (.ref (He.ga K "_law_rest_by"))
  g_L_blocks : mg "_law_blocks" = some (.ref (He.ga K "_law_blocks"))
  g_L_image : mg "_law_image" = some (.ref (He.ga K "_law_image"))
  g_L_across : mg "_law_across" = some (.ref (He.ga K "_law_across"))
  g_L_product : mg "_law_product" = some (.ref (He.ga K "_law_product"))
  g_L_is_row : mg "_law_is_row" = some (.ref (He.ga K "_law_is_row"))
  g_L_is_table : mg "_law_is_table" = some (.ref (He.ga K "_law_is_table"))
  g_L_unit : mg "_law_unit" = some (.ref (He.ga K "_law_unit"))
  g_L_cell_at : mg "_law_cell_at" = some (.ref (He.ga K "_law_cell_at"))
  g_L_rows_by : mg "_law_rows_by" = some (.ref (He.ga K "_law_rows_by"))
  g_L_size : mg "_law_size" = some (.ref (He.ga K "_law_size"))
  g_L_chain_right : mg "_law_chain_right" = some (.ref (He.ga K "_law_chain_right"))
  g_L_right : mg "_law_right" = some (.ref (He.ga K "_law_right"))
  g_law : mg "law" = some (.ref (He.ga K "law"))
  free_len : mg "len" = none
  free_range : mg "range" = none
  free_zip : mg "zip" = none
  free_isinstance : mg "isinstance" = none
  free_int : mg "int" = none
  free_bool : mg "bool" = none
  free_list : mg "list" = none
  free_tuple : mg "tuple" = none
  free_abs : mg "abs" = none
  free_all : mg "all" = none
  free_reversed : mg "reversed" = none
  free_enumerate : mg "enumerate" = none
  free_sum : mg "sum" = none
  int_MOST : ∃ t, mg "MOST" = some (.int 1000000 t)
  cls_Fractions : Cls K (He.ga K "Fractions")
  cls_Rests : Cls K (He.ga K "Rests")
  cls_Polys : Cls K (He.ga K "Polys")
  m_Fractions_minus : Meth K (He.ga K "Fractions") "minus" (He.ma K (He.ga K "Fractions") "minus")
  m_Rests_minus : Meth K (He.ga K "Rests") "minus" (He.ma K (He.ga K "Rests") "minus")
  m_Polys_minus : Meth K (He.ga K "Polys") "minus" (He.ma K (He.ga K "Polys") "minus")
  m_Fractions_is_nought : Meth K (He.ga K "Fractions") "is_nought" (He.ma K (He.ga K "Fractions") "is_nought")
  m_Rests_is_nought : Meth K (He.ga K "Rests") "is_nought" (He.ma K (He.ga K "Rests") "is_nought")
  m_Fractions_number : Meth K (He.ga K "Fractions") "number" (He.ma K (He.ga K "Fractions") "number")
  m_Fractions_plus : Meth K (He.ga K "Fractions") "plus" (He.ma K (He.ga K "Fractions") "plus")
  m_Fractions_times : Meth K (He.ga K "Fractions") "times" (He.ma K (He.ga K "Fractions") "times")
  m_Fractions_back : Meth K (He.ga K "Fractions") "back" (He.ma K (He.ga K "Fractions") "back")
  m_Rests_number : Meth K (He.ga K "Rests") "number" (He.ma K (He.ga K "Rests") "number")
  m_Rests_plus : Meth K (He.ga K "Rests") "plus" (He.ma K (He.ga K "Rests") "plus")
  m_Rests_times : Meth K (He.ga K "Rests") "times" (He.ma K (He.ga K "Rests") "times")
  m_Rests_back : Meth K (He.ga K "Rests") "back" (He.ma K (He.ga K "Rests") "back")
  m_Polys_number : Meth K (He.ga K "Polys") "number" (He.ma K (He.ga K "Polys") "number")
  m_Polys_plus : Meth K (He.ga K "Polys") "plus" (He.ma K (He.ga K "Polys") "plus")
  m_Polys_times : Meth K (He.ga K "Polys") "times" (He.ma K (He.ga K "Polys") "times")
  noat_prime : NoAttr K (He.ga K "Rests") "prime"
  noat_under : NoAttr K (He.ga K "Polys") "under"
  mkr_Rests : Mk K (He.ga K "Rests") (He.ma K (He.ga K "Rests") "__init__")
  mkr_Polys : Mk K (He.ga K "Polys") (He.ma K (He.ga K "Polys") "__init__")
  mk0 : PySem.W.makesIn K (He.ga K "Fractions") = true
  ini0 : PySem.W.findIn K (.ref (He.ga K "Fractions")) "__init__" = some (some (.builtin "object.__init__"))
  kp0 : PySem.W.keepIn K (.ref (He.ga K "Fractions")) = true
end Tf
set_option maxRecDepth 100000
set_option maxHeartbeats 0
namespace Tf
open PySem PySem.Spec PyProof.Rows L2
def D_is_square : He.DefD := ⟨("is_square", none), "is_square", "is_square", defArgs s_is_square, defBody s_is_square, defScope s_is_square, [], []⟩
def D_unit : He.DefD := ⟨("unit", none), "unit", "unit", defArgs s_unit, defBody s_unit, defScope s_unit, [], []⟩
def D_turned : He.DefD := ⟨("turned", none), "turned", "turned", defArgs s_turned, defBody s_turned, defScope s_turned, [], []⟩
def D_dot : He.DefD := ⟨("dot", none), "dot", "dot", defArgs s_dot, defBody s_dot, defScope s_dot, [], []⟩
def D_image : He.DefD := ⟨("image", none), "image", "image", defArgs s_image, defBody s_image, defScope s_image, [], []⟩
def D_is_whole : He.DefD := ⟨("is_whole", none), "is_whole", "is_whole", defArgs s_is_whole, defBody s_is_whole, defScope s_is_whole, [], []⟩
def D_divisor : He.DefD := ⟨("divisor", none), "divisor", "divisor", defArgs s_divisor, defBody s_divisor, defScope s_divisor, [], []⟩
def D_shares : He.DefD := ⟨("shares", none), "shares", "shares", defArgs s_shares, defBody s_shares, defScope s_shares, [], []⟩
def D_is_prime : He.DefD := ⟨("is_prime", none), "is_prime", "is_prime", defArgs s_is_prime, defBody s_is_prime, defScope s_is_prime, [], []⟩
def D_Fractions_minus : He.DefD := ⟨("Fractions", some "minus"), "minus", "Kind.minus", defArgs s_Kind_minus, defBody s_Kind_minus, defScope s_Kind_minus, [], []⟩
def D_Rests_minus : He.DefD := ⟨("Rests", some "minus"), "minus", "Kind.minus", defArgs s_Kind_minus, defBody s_Kind_minus, defScope s_Kind_minus, [], []⟩
def D_Polys_minus : He.DefD := ⟨("Polys", some "minus"), "minus", "Kind.minus", defArgs s_Kind_minus, defBody s_Kind_minus, defScope s_Kind_minus, [], []⟩
def D_Fractions_is_nought : He.DefD := ⟨("Fractions", some "is_nought"), "is_nought", "Kind.is_nought", defArgs s_Kind_is_nought, defBody s_Kind_is_nought, defScope s_Kind_is_nought, [], []⟩
def D_Rests_is_nought : He.DefD := ⟨("Rests", some "is_nought"), "is_nought", "Kind.is_nought", defArgs s_Kind_is_nought, defBody s_Kind_is_nought, defScope s_Kind_is_nought, [], []⟩
def D_Fractions_number : He.DefD := ⟨("Fractions", some "number"), "number", "Fractions.number", defArgs s_Fractions_number, defBody s_Fractions_number, defScope s_Fractions_number, [.int 1], []⟩
def D_Fractions_plus : He.DefD := ⟨("Fractions", some "plus"), "plus", "Fractions.plus", defArgs s_Fractions_plus, defBody s_Fractions_plus, defScope s_Fractions_plus, [], []⟩
def D_Fractions_times : He.DefD := ⟨("Fractions", some "times"), "times", "Fractions.times", defArgs s_Fractions_times, defBody s_Fractions_times, defScope s_Fractions_times, [], []⟩
def D_Fractions_back : He.DefD := ⟨("Fractions", some "back"), "back", "Fractions.back", defArgs s_Fractions_back, defBody s_Fractions_back, defScope s_Fractions_back, [], []⟩
def D_Rests_init : He.DefD := ⟨("Rests", some "__init__"), "__init__", "Rests.__init__", defArgs s_Rests_init, defBody s_Rests_init, defScope s_Rests_init, [], []⟩
def D_Rests_number : He.DefD := ⟨("Rests", some "number"), "number", "Rests.number", defArgs s_Rests_number, defBody s_Rests_number, defScope s_Rests_number, [.int 1], []⟩
def D_Rests_plus : He.DefD := ⟨("Rests", some "plus"), "plus", "Rests.plus", defArgs s_Rests_plus, defBody s_Rests_plus, defScope s_Rests_plus, [], []⟩
def D_Rests_times : He.DefD := ⟨("Rests", some "times"), "times", "Rests.times", defArgs s_Rests_times, defBody s_Rests_times, defScope s_Rests_times, [], []⟩
def D_Rests_back : He.DefD := ⟨("Rests", some "back"), "back", "Rests.back", defArgs s_Rests_back, defBody s_Rests_back, defScope s_Rests_back, [], []⟩
def D_trimmed : He.DefD := ⟨("trimmed", none), "trimmed", "trimmed", defArgs s_trimmed, defBody s_trimmed, defScope s_trimmed, [], []⟩
def D_plus_poly : He.DefD := ⟨("plus_poly", none), "plus_poly", "plus_poly", defArgs s_plus_poly, defBody s_plus_poly, defScope s_plus_poly, [], []⟩
def D_times_poly : He.DefD := ⟨("times_poly", none), "times_poly", "times_poly", defArgs s_times_poly, defBody s_times_poly, defScope s_times_poly, [], []⟩
def D_Polys_init : He.DefD := ⟨("Polys", some "__init__"), "__init__", "Polys.__init__", defArgs s_Polys_init, defBody s_Polys_init, defScope s_Polys_init, [], []⟩
def D_Polys_number : He.DefD := ⟨("Polys", some "number"), "number", "Polys.number", defArgs s_Polys_number, defBody s_Polys_number, defScope s_Polys_number, [.int 1], []⟩
def D_Polys_plus : He.DefD := ⟨("Polys", some "plus"), "plus", "Polys.plus", defArgs s_Polys_plus, defBody s_Polys_plus, defScope s_Polys_plus, [], []⟩
def D_Polys_times : He.DefD := ⟨("Polys", some "times"), "times", "Polys.times", defArgs s_Polys_times, defBody s_Polys_times, defScope s_Polys_times, [], []⟩
def D_divided : He.DefD := ⟨("divided", none), "divided", "divided", defArgs s_divided, defBody s_divided, defScope s_divided, [], []⟩
def D_common : He.DefD := ⟨("common", none), "common", "common", defArgs s_common, defBody s_common, defScope s_common, [], []⟩
def D_is_turn : He.DefD := ⟨("is_turn", none), "is_turn", "is_turn", defArgs s_is_turn, defBody s_is_turn, defScope s_is_turn, [], []⟩
def D_rows_behind : He.DefD := ⟨("rows_behind", none), "rows_behind", "rows_behind", defArgs s_rows_behind, defBody s_rows_behind, defScope s_rows_behind, [], []⟩
def D_done : He.DefD := ⟨("done", none), "done", "done", defArgs s_done, defBody s_done, defScope s_done, [], []⟩
def D_first_low : He.DefD := ⟨("first_low", none), "first_low", "first_low", defArgs s_first_low, defBody s_first_low, defScope s_first_low, [], []⟩
def D_lead_turns : He.DefD := ⟨("lead_turns", none), "lead_turns", "lead_turns", defArgs s_lead_turns, defBody s_lead_turns, defScope s_lead_turns, [], []⟩
def D_clear_turns : He.DefD := ⟨("clear_turns", none), "clear_turns", "clear_turns", defArgs s_clear_turns, defBody s_clear_turns, defScope s_clear_turns, [], []⟩
def D_steps : He.DefD := ⟨("steps", none), "steps", "steps", defArgs s_steps, defBody s_steps, defScope s_steps, [], []⟩
def D_kernel_column : He.DefD := ⟨("kernel_column", none), "kernel_column", "kernel_column", defArgs s_kernel_column, defBody s_kernel_column, defScope s_kernel_column, [], []⟩
def D_kernel : He.DefD := ⟨("kernel", none), "kernel", "kernel", defArgs s_kernel, defBody s_kernel, defScope s_kernel, [], []⟩
def D_inverse : He.DefD := ⟨("inverse", none), "inverse", "inverse", defArgs s_inverse, defBody s_inverse, defScope s_inverse, [], []⟩
def D_shown_never : He.DefD := ⟨("shown_never", none), "shown_never", "shown_never", defArgs s_shown_never, defBody s_shown_never, defScope s_shown_never, [], []⟩
def D_solved : He.DefD := ⟨("solved", none), "solved", "solved", defArgs s_solved, defBody s_solved, defScope s_solved, [], []⟩
def D_least_of : He.DefD := ⟨("least_of", none), "least_of", "least_of", defArgs s_least_of, defBody s_least_of, defScope s_least_of, [], []⟩
def D_at_column : He.DefD := ⟨("at_column", none), "at_column", "at_column", defArgs s_at_column, defBody s_at_column, defScope s_at_column, [], []⟩
def D_parted : He.DefD := ⟨("parted", none), "parted", "parted", defArgs s_parted, defBody s_parted, defScope s_parted, [], []⟩
def D_joined : He.DefD := ⟨("joined", none), "joined", "joined", defArgs s_joined, defBody s_joined, defScope s_joined, [], []⟩
def D_least : He.DefD := ⟨("least", none), "least", "least", defArgs s_least, defBody s_least, defScope s_least, [], []⟩
def D_chained : He.DefD := ⟨("chained", none), "chained", "chained", defArgs s_chained, defBody s_chained, defScope s_chained, [], []⟩
def D_beside : He.DefD := ⟨("beside", none), "beside", "beside", defArgs s_beside, defBody s_beside, defScope s_beside, [], []⟩
def D_within : He.DefD := ⟨("within", none), "within", "within", defArgs s_within, defBody s_within, defScope s_within, [], []⟩
def D_parts : He.DefD := ⟨("parts", none), "parts", "parts", defArgs s_parts, defBody s_parts, defScope s_parts, [], []⟩
def D_frame : He.DefD := ⟨("frame", none), "frame", "frame", defArgs s_frame, defBody s_frame, defScope s_frame, [], []⟩
def D_L_whole : He.DefD := ⟨("_law_whole", none), "_law_whole", "_law_whole", defArgs s_L_whole, defBody s_L_whole, defScope s_L_whole, [], []⟩
def D_L_divisor : He.DefD := ⟨("_law_divisor", none), "_law_divisor", "_law_divisor", defArgs s_L_divisor, defBody s_L_divisor, defScope s_L_divisor, [], []⟩
def D_L_is_prime : He.DefD := ⟨("_law_is_prime", none), "_law_is_prime", "_law_is_prime", defArgs s_L_is_prime, defBody s_L_is_prime, defScope s_L_is_prime, [], []⟩
def D_L_prime : He.DefD := ⟨("_law_prime", none), "_law_prime", "_law_prime", defArgs s_L_prime, defBody s_L_prime, defScope s_L_prime, [], []⟩
def D_L_prime_by : He.DefD := ⟨("_law_prime_by", none), "_law_prime_by", "_law_prime_by", defArgs s_L_prime_by, defBody s_L_prime_by, defScope s_L_prime_by, [], []⟩
def D_L_kind : He.DefD := ⟨("_law_kind", none), "_law_kind", "_law_kind", defArgs s_L_kind, defBody s_L_kind, defScope s_L_kind, [], []⟩
def D_L_fraction : He.DefD := ⟨("_law_fraction", none), "_law_fraction", "_law_fraction", defArgs s_L_fraction, defBody s_L_fraction, defScope s_L_fraction, [], []⟩
def D_L_make : He.DefD := ⟨("_law_make", none), "_law_make", "_law_make", defArgs s_L_make, defBody s_L_make, defScope s_L_make, [], []⟩
def D_L_plus : He.DefD := ⟨("_law_plus", none), "_law_plus", "_law_plus", defArgs s_L_plus, defBody s_L_plus, defScope s_L_plus, [], []⟩
def D_L_times : He.DefD := ⟨("_law_times", none), "_law_times", "_law_times", defArgs s_L_times, defBody s_L_times, defScope s_L_times, [], []⟩
def D_L_minus : He.DefD := ⟨("_law_minus", none), "_law_minus", "_law_minus", defArgs s_L_minus, defBody s_L_minus, defScope s_L_minus, [], []⟩
def D_L_is_number : He.DefD := ⟨("_law_is_number", none), "_law_is_number", "_law_is_number", defArgs s_L_is_number, defBody s_L_is_number, defScope s_L_is_number, [], []⟩
def D_L_drawn : He.DefD := ⟨("_law_drawn", none), "_law_drawn", "_law_drawn", defArgs s_L_drawn, defBody s_L_drawn, defScope s_L_drawn, [], []⟩
def D_L_cut : He.DefD := ⟨("_law_cut", none), "_law_cut", "_law_cut", defArgs s_L_cut, defBody s_L_cut, defScope s_L_cut, [], []⟩
def D_L_rest_by : He.DefD := ⟨("_law_rest_by", none), "_law_rest_by", "_law_rest_by", defArgs s_L_rest_by, defBody s_L_rest_by, defScope s_L_rest_by, [], []⟩
def D_L_blocks : He.DefD := ⟨("_law_blocks", none), "_law_blocks", "_law_blocks", defArgs s_L_blocks, defBody s_L_blocks, defScope s_L_blocks, [], []⟩
def D_L_image : He.DefD := ⟨("_law_image", none), "_law_image", "_law_image", defArgs s_L_image, defBody s_L_image, defScope s_L_image, [], []⟩
def D_L_across : He.DefD := ⟨("_law_across", none), "_law_across", "_law_across", defArgs s_L_across, defBody s_L_across, defScope s_L_across, [], []⟩
def D_L_product : He.DefD := ⟨("_law_product", none), "_law_product", "_law_product", defArgs s_L_product, defBody s_L_product, defScope s_L_product, [], []⟩
def D_L_is_row : He.DefD := ⟨("_law_is_row", none), "_law_is_row", "_law_is_row", defArgs s_L_is_row, defBody s_L_is_row, defScope s_L_is_row, [], []⟩
def D_L_is_table : He.DefD := ⟨("_law_is_table", none), "_law_is_table", "_law_is_table", defArgs s_L_is_table, defBody s_L_is_table, defScope s_L_is_table, [], []⟩
def D_L_unit : He.DefD := ⟨("_law_unit", none), "_law_unit", "_law_unit", defArgs s_L_unit, defBody s_L_unit, defScope s_L_unit, [], []⟩
def D_L_cell_at : He.DefD := ⟨("_law_cell_at", none), "_law_cell_at", "_law_cell_at", defArgs s_L_cell_at, defBody s_L_cell_at, defScope s_L_cell_at, [], []⟩
def D_L_rows_by : He.DefD := ⟨("_law_rows_by", none), "_law_rows_by", "_law_rows_by", defArgs s_L_rows_by, defBody s_L_rows_by, defScope s_L_rows_by, [], []⟩
def D_L_size : He.DefD := ⟨("_law_size", none), "_law_size", "_law_size", defArgs s_L_size, defBody s_L_size, defScope s_L_size, [], []⟩
def D_L_chain_right : He.DefD := ⟨("_law_chain_right", none), "_law_chain_right", "_law_chain_right", defArgs s_L_chain_right, defBody s_L_chain_right, defScope s_L_chain_right, [], []⟩
def D_L_right : He.DefD := ⟨("_law_right", none), "_law_right", "_law_right", defArgs s_L_right, defBody s_L_right, defScope s_L_right, [], []⟩
def D_law : He.DefD := ⟨("law", none), "law", "law", defArgs s_law, defBody s_law, defScope s_law, [], []⟩
def fn0 : List He.DefD := [D_is_square, D_unit, D_turned, D_dot, D_image, D_is_whole, D_divisor, D_shares, D_is_prime, D_Fractions_minus, D_Rests_minus, D_Polys_minus, D_Fractions_is_nought, D_Rests_is_nought, D_Fractions_number, D_Fractions_plus, D_Fractions_times, D_Fractions_back, D_Rests_init, D_Rests_number, D_Rests_plus, D_Rests_times, D_Rests_back, D_trimmed, D_plus_poly]
def fn1 : List He.DefD := [D_times_poly, D_Polys_init, D_Polys_number, D_Polys_plus, D_Polys_times, D_divided, D_common, D_is_turn, D_rows_behind, D_done, D_first_low, D_lead_turns, D_clear_turns, D_steps, D_kernel_column, D_kernel, D_inverse, D_shown_never, D_solved, D_least_of, D_at_column, D_parted, D_joined, D_least, D_chained]
def fn2 : List He.DefD := [D_beside, D_within, D_parts, D_frame, D_L_whole, D_L_divisor, D_L_is_prime, D_L_prime, D_L_prime_by, D_L_kind, D_L_fraction, D_L_make, D_L_plus, D_L_times, D_L_minus, D_L_is_number, D_L_drawn, D_L_cut, D_L_rest_by, D_L_blocks, D_L_image, D_L_across, D_L_product, D_L_is_row, D_L_is_table]
def fn3 : List He.DefD := [D_L_unit, D_L_cell_at, D_L_rows_by, D_L_size, D_L_chain_right, D_L_right, D_law]
def fn : List He.DefD := fn0 ++ (fn1 ++ (fn2 ++ (fn3)))
def fa0 : List He.Fa := [.glo "is_square", .glo "unit", .glo "turned", .glo "dot", .glo "image", .glo "is_whole", .glo "divisor", .glo "shares", .glo "is_prime", .glo "Fractions", .glo "Rests", .glo "trimmed", .glo "plus_poly", .glo "times_poly", .glo "Polys", .glo "divided", .glo "common", .glo "is_turn", .glo "rows_behind", .glo "done", .glo "first_low", .glo "lead_turns", .glo "clear_turns", .glo "steps", .glo "kernel_column", .glo "kernel", .glo "inverse", .glo "shown_never", .glo "solved", .glo "least_of", .glo "at_column", .glo "parted", .glo "joined", .glo "least", .glo "chained"]
def fa1 : List He.Fa := [.glo "beside", .glo "within", .glo "parts", .glo "frame", .glo "_law_whole", .glo "_law_divisor", .glo "_law_is_prime", .glo "_law_prime", .glo "_law_prime_by", .glo "_law_kind", .glo "_law_fraction", .glo "_law_make", .glo "_law_plus", .glo "_law_times", .glo "_law_minus", .glo "_law_is_number", .glo "_law_drawn", .glo "_law_cut", .glo "_law_rest_by", .glo "_law_blocks", .glo "_law_image", .glo "_law_across", .glo "_law_product", .glo "_law_is_row", .glo "_law_is_table", .glo "_law_unit", .glo "_law_cell_at", .glo "_law_rows_by", .glo "_law_size", .glo "_law_chain_right", .glo "_law_right", .glo "law", .free "len", .free "range", .free "zip"]
def fa2 : List He.Fa := [.free "isinstance", .free "int", .free "bool", .free "list", .free "tuple", .free "abs", .free "all", .free "reversed", .free "enumerate", .free "sum", .int "MOST" 1000000, .cls "Fractions", .cls "Rests", .cls "Polys", .meth "Fractions" "minus", .meth "Rests" "minus", .meth "Polys" "minus", .meth "Fractions" "is_nought", .meth "Rests" "is_nought", .meth "Fractions" "number", .meth "Fractions" "plus", .meth "Fractions" "times", .meth "Fractions" "back", .meth "Rests" "number", .meth "Rests" "plus", .meth "Rests" "times", .meth "Rests" "back", .meth "Polys" "number", .meth "Polys" "plus", .meth "Polys" "times", .noat "Rests" "prime", .noat "Polys" "under", .mkr "Rests", .mkr "Polys", .keep "Fractions"]
def fa : List He.Fa := fa0 ++ (fa1 ++ (fa2))
def lo0 : List PySem.Str := ["_wall", "__name__", "FrameError", "NoKind", "NoNumber", "NoFit", "NoTurn", "NoInverse", "is_square", "unit", "turned", "dot", "image", "is_whole", "divisor", "shares", "is_prime", "MOST", "Kind", "Fractions", "Rests", "trimmed", "plus_poly", "times_poly", "Polys", "divided", "common", "is_turn", "rows_behind", "done"]
def lo1 : List PySem.Str := ["first_low", "lead_turns", "clear_turns", "steps", "kernel_column", "kernel", "inverse", "shown_never", "solved", "least_of", "at_column", "parted", "joined", "least", "chained", "beside", "within", "parts", "frame", "_law_whole", "_law_divisor", "_law_is_prime", "_law_prime", "_law_prime_by", "_law_kind", "_law_fraction", "_law_make", "_law_plus", "_law_times", "_law_minus"]
def lo2 : List PySem.Str := ["_law_is_number", "_law_drawn", "_law_cut", "_law_rest_by", "_law_blocks", "_law_image", "_law_across", "_law_product", "_law_is_row", "_law_is_table", "_law_unit", "_law_cell_at", "_law_rows_by", "_law_size", "_law_chain_right", "_law_right"]
def lo : List PySem.Str := lo0 ++ (lo1 ++ (lo2))
abbrev R : PySem.W.OpenRow := PySem.W.OpenLaw.row PySem.Challenge.rw_turnframe_k53_whole_frame
def ext (K : PySem.W.Frag) : Bool := PySem.W.makesIn K (He.ga K "Fractions") && He.eqO (PySem.W.findIn K (.ref (He.ga K "Fractions")) "__init__") (some (some (.builtin "object.__init__")))
def obsX (n : Nat) (fa : List He.Fa) (fn : List He.DefD) (g : Addr → Option Obj) : He.AlD × Bool := (He.obsDG n fa fn g, ext (He.frG g (He.asD g n)))
def hookX (n : Nat) (fa : List He.Fa) (fn : List He.DefD) : PySem.W.Hook where
  α := He.AlD × Bool
  obs := fun s => obsX n fa fn s.heap.get?
  val := fun _ => (He.valD fn, true)
  says := fun _ h => ∃ K : PySem.W.Frag, K.In h ∧ He.SaysD fa fn K ∧ ext K = true
  of := fun _ _ e => ⟨_, He.frG_in, congrArg Prod.fst e, congrArg Prod.snd e⟩
  keeps := fun _ _ _ ⟨K, hK, c⟩ k => ⟨K, PySem.W.Frag.In.keeps hK k, c⟩
abbrev hk : PySem.W.Hook := hookX 4 fa fn
def ob (s : PySem.W.SharedT) : He.AlD × Bool := obsX 4 fa fn (HandSHeadRun.getT s)
theorem ob_eq (s : PySem.W.SharedT) : ob s = hk.obs s.abs := by
  have e : HandSHeadRun.getT s = s.abs.heap.get? := funext fun a => HandSHeadRun.getT_eq s a
  show obsX 4 fa fn (HandSHeadRun.getT s) = obsX 4 fa fn s.abs.heap.get?
  rw [e]
theorem run (w : World) : HandSHeadRun.RunEq R (PySem.W.view R.prog [87]) hk ob 6000 lo w := by
  intro os
  kernel_rfl
end Tf
/-! The program's functions as plain Lean functions over a field, each with the list of all numbers that it reckons on its way (its trace). -/
namespace Tf
section
variable {F : Type} [Lean.Grind.Field F] [DecidableEq F]

/-- the number at a place, nought beyond the end -/
def gt (xs : List F) (i : Nat) : F := xs.getD i 0
/-- the row at a place -/
def rw_ (t : List (List F)) (i : Nat) : List F := t.getD i []
def ncols (t : List (List F)) : Nat := (rw_ t 0).length

/-! ### tables -/
def dotL : F → List F → List F → F
  | acc, x :: xs, y :: ys => dotL (acc + x * y) xs ys
  | acc, [], _ => acc
  | acc, _ :: _, [] => acc
def dotT : F → List F → List F → List F
  | acc, x :: xs, y :: ys => x * y :: (acc + x * y) :: dotT (acc + x * y) xs ys
  | _, [], _ => []
  | _, _ :: _, [] => []
def dot (xs ys : List F) : F := dotL 0 xs ys
def image (A : List (List F)) (v : List F) : List F := A.map fun r => dot r v
def imageT (A : List (List F)) (v : List F) : List F := A.flatMap fun r => dotT 0 r v
def turned (A : List (List F)) : List (List F) := (List.range (ncols A)).map fun j => A.map fun r => gt r j
def unitRow (n i : Nat) : List F := (List.range n).map fun j => if i = j then 1 else 0
def unit (n : Nat) : List (List F) := (List.range n).map fun i => unitRow n i
def noughts (n : Nat) : List F := (List.range n).map fun _ => 0

/-! ### turns -/
inductive Turn (F : Type) where
  | swap (i j : Nat)
  | scale (i : Nat) (c : F)
  | add (i j : Nat) (c : F)
def Turn.ok (m : Nat) : Turn F → Prop
  | .swap i j => i < m ∧ j < m ∧ i ≠ j
  | .scale i c => i < m ∧ c ≠ 0
  | .add i j _ => i < m ∧ j < m ∧ i ≠ j
def addRow (c : F) : List F → List F → List F
  | x :: xs, y :: ys => (x + c * y) :: addRow c xs ys
  | [], _ => []
  | _ :: _, [] => []
def addRowT (c : F) : List F → List F → List F
  | x :: xs, y :: ys => (c * y) :: (x + c * y) :: addRowT c xs ys
  | [], _ => []
  | _ :: _, [] => []
def rowsBehind (rows : List (List F)) : Turn F → List (List F)
  | .swap i j => (rows.set i (rw_ rows j)).set j (rw_ rows i)
  | .scale i c => rows.set i ((rw_ rows i).map fun x => c * x)
  | .add i j c => rows.set i (addRow c (rw_ rows i) (rw_ rows j))
def rowsBehindT (rows : List (List F)) : Turn F → List F
  | .swap _ _ => []
  | .scale i c => (rw_ rows i).map fun x => c * x
  | .add i j c => addRowT c (rw_ rows i) (rw_ rows j)
def done : List (List F) → List (Turn F) → List (List F)
  | rows, [] => rows
  | rows, t :: ts => done (rowsBehind rows t) ts
def doneT : List (List F) → List (Turn F) → List F
  | _, [] => []
  | rows, t :: ts => rowsBehindT rows t ++ doneT (rowsBehind rows t) ts

/-! ### steps -/
/-- the first row from i on (n rows are left) whose number in the column is not nought -/
def lowGo (rows : List (List F)) (c : Nat) : Nat → Nat → Option Nat
  | 0, _ => none
  | n + 1, i => if gt (rw_ rows i) c = 0 then lowGo rows c n (i + 1) else some i
def firstLow (rows : List (List F)) (start c : Nat) : Option Nat := lowGo rows c (rows.length - start) start
def leadTurns (rows : List (List F)) (at_ low c : Nat) : List (Turn F) :=
  if low = at_ then [.scale at_ (gt (rw_ rows low) c)⁻¹] else [.swap at_ low, .scale at_ (gt (rw_ rows low) c)⁻¹]
def clearAt (rows : List (List F)) (at_ c i : Nat) : List (Turn F) :=
  if i = at_ then [] else if gt (rw_ rows i) c = 0 then [] else [.add i at_ (0 - gt (rw_ rows i) c)]
def clearTo (rows : List (List F)) (at_ c : Nat) : Nat → List (Turn F)
  | 0 => []
  | n + 1 => clearTo rows at_ c n ++ clearAt rows at_ c n
def clearTurns (rows : List (List F)) (at_ c : Nat) : List (Turn F) := clearTo rows at_ c rows.length
abbrev Stp (F : Type) := List (List F) × List (Turn F) × List Nat
def stepCol (s : Stp F) (c : Nat) : Stp F :=
  match firstLow s.1 s.2.2.length c with
  | none => s
  | some low =>
    let t1 := leadTurns s.1 s.2.2.length low c
    let r1 := done s.1 t1
    let t2 := clearTurns r1 s.2.2.length c
    (done r1 t2, s.2.1 ++ t1 ++ t2, s.2.2 ++ [c])
def stepColT (s : Stp F) (c : Nat) : List F :=
  match firstLow s.1 s.2.2.length c with
  | none => []
  | some low =>
    let t1 := leadTurns s.1 s.2.2.length low c
    let r1 := done s.1 t1
    doneT s.1 t1 ++ doneT r1 (clearTurns r1 s.2.2.length c)
def stepsTo (t : List (List F)) : Nat → Stp F
  | 0 => (t, [], [])
  | n + 1 => stepCol (stepsTo t n) n
def stepsToT (t : List (List F)) : Nat → List F
  | 0 => []
  | n + 1 => stepsToT t n ++ stepColT (stepsTo t n) n
def steps (t : List (List F)) : Stp F := stepsTo t (ncols t)
def stepsT (t : List (List F)) : List F := stepsToT t (ncols t)
/-- column[lead] = 0 - reduced[at][free], lead by lead -/
def kcGo (R : List (List F)) (free : Nat) : Nat → List Nat → List F → List F
  | _, [], c => c
  | k, l :: ls, c => kcGo R free (k + 1) ls (c.set l (0 - gt (rw_ R k) free))
def kernelCol (R : List (List F)) (leads : List Nat) (free : Nat) : List F := kcGo R free 0 leads ((noughts (ncols R)).set free 1)
def kernel (t : List (List F)) : List (List F) := ((List.range (ncols t)).filter fun j => decide (j ∉ (steps t).2.2)).map (kernelCol (steps t).1 (steps t).2.2)

/-! ### solving -/
def inverse (t : List (List F)) : List (List F) := done (unit t.length) (steps t).2.1
def inverseT (t : List (List F)) : List F := stepsT t ++ doneT (unit t.length) (steps t).2.1
def neverRow (m : Nat) (ts : List (Turn F)) (right : List (List F)) (at_ : Nat) : List F :=
  (rw_ (done (unit m) ts) at_).map fun x => (gt (rw_ right at_) 0)⁻¹ * x
def neverT (m : Nat) (ts : List (Turn F)) (right : List (List F)) (at_ : Nat) : List F := doneT (unit m) ts ++ neverRow m ts right at_
/-- found[lead] = right[at][0], lead by lead -/
def scGo (right : List (List F)) : Nat → List Nat → List F → List F
  | _, [], c => c
  | k, l :: ls, c => scGo right (k + 1) ls (c.set l (gt (rw_ right k) 0))
def rightOf (t : List (List F)) (b : List F) : List (List F) := done (b.map fun x => [x]) (steps t).2.1
/-- found or not, and the column or the row -/
def solved (t : List (List F)) (b : List F) : Bool × List F :=
  match firstLow (rightOf t b) (steps t).2.2.length 0 with
  | some at_ => (false, neverRow t.length (steps t).2.1 (rightOf t b) at_)
  | none => (true, scGo (rightOf t b) 0 (steps t).2.2 (noughts (ncols t)))
def solvedT (t : List (List F)) (b : List F) : List F :=
  stepsT t ++ doneT (b.map fun x => [x]) (steps t).2.1 ++
  match firstLow (rightOf t b) (steps t).2.2.length 0 with
  | some at_ => neverT t.length (steps t).2.1 (rightOf t b) at_
  | none => []

/-! ### polynomials -/
def trim : List F → List F
  | [] => []
  | x :: xs => match trim xs with
    | [] => if x = 0 then [] else [x]
    | y :: ys => x :: y :: ys
def addL : List F → List F → List F
  | x :: xs, y :: ys => (x + y) :: addL xs ys
  | xs, [] => xs
  | [], y :: ys => y :: ys
def pplus (f g : List F) : List F := if f.length < g.length then trim (addL g f) else trim (addL f g)
def pplusT (f g : List F) : List F := if f.length < g.length then addL g f else addL f g
/-- told[p + j] = told[p + j] + c * g[j], number by number -/
def tpJ (c : F) : List F → Nat → List F → List F
  | [], _, t => t
  | y :: ys, p, t => tpJ c ys (p + 1) (t.set p (gt t p + c * y))
def tpJT (c : F) : List F → Nat → List F → List F
  | [], _, _ => []
  | y :: ys, p, t => c * y :: (gt t p + c * y) :: tpJT c ys (p + 1) (t.set p (gt t p + c * y))
def tpI (g : List F) : List F → Nat → List F → List F
  | [], _, t => t
  | x :: xs, i, t => tpI g xs (i + 1) (tpJ x g i t)
def tpIT (g : List F) : List F → Nat → List F → List F
  | [], _, _ => []
  | x :: xs, i, t => tpJT x g i t ++ tpIT g xs (i + 1) (tpJ x g i t)
def ptimes (f g : List F) : List F := if f = [] ∨ g = [] then [] else trim (tpI g f 0 (noughts (f.length + g.length - 1)))
def ptimesT (f g : List F) : List F := if f = [] ∨ g = [] then [] else tpIT g f 0 (noughts (f.length + g.length - 1))
def pnum (c : F) : List F := trim [c]
def pminus (f g : List F) : List F := pplus f (ptimes (pnum (0 - 1)) g)
def pminusT (f g : List F) : List F := ptimesT (pnum (0 - 1)) g ++ pplusT f (ptimes (pnum (0 - 1)) g)
/-- the last number -/
def lst (f : List F) : F := gt f (f.length - 1)
/-- rest[p + k] = rest[p + k] - c * g[k] -/
def dvK (c : F) : List F → Nat → List F → List F
  | [], _, t => t
  | y :: ys, p, t => dvK c ys (p + 1) (t.set p (gt t p - c * y))
def dvKT (c : F) : List F → Nat → List F → List F
  | [], _, _ => []
  | y :: ys, p, t => c * y :: (gt t p - c * y) :: dvKT c ys (p + 1) (t.set p (gt t p - c * y))
def dvGo (by_ : F) (g : List F) : Nat → List F → List F → List F × List F
  | 0, q, r => (q, r)
  | n + 1, q, r => if g.length ≤ r.length then dvGo by_ g n (q ++ [lst r * by_]) (dvK (lst r * by_) g (r.length - g.length) r).dropLast else (q, r)
def dvGoT (by_ : F) (g : List F) : Nat → List F → List F
  | 0, _ => []
  | n + 1, r => if g.length ≤ r.length then lst r * by_ :: dvKT (lst r * by_) g (r.length - g.length) r ++ dvGoT by_ g n (dvK (lst r * by_) g (r.length - g.length) r).dropLast else []
def divided (f g : List F) : List F × List F :=
  let p := dvGo (lst g)⁻¹ g (f.length + 1) [] f
  (p.1.reverse, trim p.2)
def dividedT (f g : List F) : List F := dvGoT (lst g)⁻¹ g (f.length + 1) f
structure Eu (F : Type) where
  d : List F
  u : List F
  v : List F
  rest : List F
  low : List F
  high : List F
def euStep (e : Eu F) : Eu F :=
  let q := (divided e.d e.rest).1
  ⟨e.rest, e.low, e.high, (divided e.d e.rest).2, pminus e.u (ptimes q e.low), pminus e.v (ptimes q e.high)⟩
def euStepT (e : Eu F) : List F :=
  let q := (divided e.d e.rest).1
  dividedT e.d e.rest ++ (ptimesT q e.low ++ pminusT e.u (ptimes q e.low)) ++ (ptimesT q e.high ++ pminusT e.v (ptimes q e.high))
def euGo : Nat → Eu F → Eu F
  | 0, e => e
  | n + 1, e => if e.rest = [] then e else euGo n (euStep e)
def euGoT : Nat → Eu F → List F
  | 0, _ => []
  | n + 1, e => if e.rest = [] then [] else euStepT e ++ euGoT n (euStep e)
def eu0 (f g : List F) : Eu F := ⟨f, pnum 1, [], g, [], pnum 1⟩
def euEnd (f g : List F) : Eu F := euGo (g.length + 1) (eu0 f g)
/-- the common part alone (of the tuple only its first part is asked) -/
def common (f g : List F) : List F :=
  let e := euEnd f g
  if e.d = [] then [] else ptimes [(lst e.d)⁻¹] e.d
def commonT (f g : List F) : List F :=
  let e := euEnd f g
  euGoT (g.length + 1) (eu0 f g) ++
  (if e.d = [] then [] else ptimesT [(lst e.d)⁻¹] e.d ++ ptimesT [(lst e.d)⁻¹] e.u ++ ptimesT [(lst e.d)⁻¹] e.v)

/-! ### least polynomials -/
def loGo (A : List (List F)) : Nat → List (List F) → List F → List F
  | 0, _, _ => []
  | n + 1, cs, last =>
    if (solved (turned cs) last).1 then (solved (turned cs) last).2
    else loGo A n (cs ++ [last]) (image A last)
def loGoT (A : List (List F)) : Nat → List (List F) → List F → List F
  | 0, _, _ => []
  | n + 1, cs, last => solvedT (turned cs) last ++
    (if (solved (turned cs) last).1 then []
    else imageT A last ++ loGoT A n (cs ++ [last]) (image A last))
def allNought (v : List F) : Bool := v.all fun x => decide (x = 0)
def leastOf (A : List (List F)) (v : List F) : List F :=
  if allNought v then [1] else (loGo A (v.length + 1) [v] (image A v)).map (fun c => 0 - c) ++ [1]
def leastOfT (A : List (List F)) (v : List F) : List F :=
  if allNought v then [] else imageT A v ++ loGoT A (v.length + 1) [v] (image A v)
/-- told[k] + c * column[k] -/
def plusCol (t : List F) (c : F) (v : List F) : List F := (List.range v.length).map fun k => gt t k + c * gt v k
def plusColT (t : List F) (c : F) (v : List F) : List F := (List.range v.length).flatMap fun k => [c * gt v k, gt t k + c * gt v k]
def atCol (A : List (List F)) (v : List F) : List F → List F
  | [] => noughts v.length
  | c :: q => plusCol (image A (atCol A v q)) c v
def atColT (A : List (List F)) (v : List F) : List F → List F
  | [] => []
  | c :: q => atColT A v q ++ (imageT A (atCol A v q) ++ plusColT (image A (atCol A v q)) c v)
def ptGo (rest : List F) : Nat → List F → List F
  | 0, one => one
  | n + 1, one => if (common one rest).length ≤ 1 then one else ptGo rest n (divided one (common one rest)).1
def ptGoT (rest : List F) : Nat → List F → List F
  | 0, one => []
  | n + 1, one => commonT one rest ++ (if (common one rest).length ≤ 1 then [] else dividedT one (common one rest) ++ ptGoT rest n (divided one (common one rest)).1)
def ptRest (f g : List F) : List F := (divided g (common f g)).1
def parted (f g : List F) : List F × List F :=
  let rest := ptRest f g
  let one := ptGo rest (f.length + 1) f
  (one, (divided (ptimes f rest) one).1)
def partedT (f g : List F) : List F :=
  let rest := ptRest f g
  let one := ptGo rest (f.length + 1) f
  commonT f g ++ dividedT g (common f g) ++ ptimesT f rest ++ ptGoT rest (f.length + 1) f ++ dividedT (ptimes f rest) one
def plusVec (l r : List F) : List F := (List.range l.length).map fun k => gt l k + gt r k
def joined (A : List (List F)) (a b : List F × List F) : List F × List F :=
  let p := parted a.1 b.1
  let l := atCol A a.2 (divided a.1 p.1).1
  let r := atCol A b.2 (divided b.1 p.2).1
  (ptimes p.1 p.2, plusVec l r)
def joinedT (A : List (List F)) (a b : List F × List F) : List F :=
  let p := parted a.1 b.1
  let l := atCol A a.2 (divided a.1 p.1).1
  let r := atCol A b.2 (divided b.1 p.2).1
  partedT a.1 b.1 ++ dividedT a.1 p.1 ++ atColT A a.2 (divided a.1 p.1).1 ++ dividedT b.1 p.2 ++ atColT A b.2 (divided b.1 p.2).1 ++ ptimesT p.1 p.2 ++ plusVec l r
def leastGo (A : List (List F)) : List (List F) → List F × List F → List F × List F
  | [], t => t
  | c :: cs, t =>
    if A.length < (joined A t (leastOf A c, c)).1.length then joined A t (leastOf A c, c)
    else leastGo A cs (joined A t (leastOf A c, c))
def leastGoT (A : List (List F)) : List (List F) → List F × List F → List F
  | [], _ => []
  | c :: cs, t => leastOfT A c ++ joinedT A t (leastOf A c, c) ++
    (if A.length < (joined A t (leastOf A c, c)).1.length then [] else leastGoT A cs (joined A t (leastOf A c, c)))
def least (A : List (List F)) : List F × List F := leastGo A (unit A.length) ([1], noughts A.length)
def leastT (A : List (List F)) : List F := leastGoT A (unit A.length) ([1], noughts A.length)

/-! ### splits, frames -/
/-- the k-th image -/
def pw (A : List (List F)) (v : List F) : Nat → List F
  | 0 => v
  | k + 1 => image A (pw A v k)
def pwT (A : List (List F)) (v : List F) : Nat → List F
  | 0 => []
  | k + 1 => pwT A v k ++ imageT A (pw A v k)
def chained (A : List (List F)) (v : List F) (d : Nat) : List (List F) := (List.range d).map (pw A v)
def chainedT (A : List (List F)) (v : List F) (d : Nat) : List F := pwT A v (d - 1)
def wanted (d : Nat) : List F := noughts (d - 1) ++ [1]
def beside (A cs : List (List F)) : List (List F) := kernel (chained (turned A) (solved cs (wanted cs.length)).2 cs.length)
def besideT (A cs : List (List F)) : List F :=
  let y := (solved cs (wanted cs.length)).2
  solvedT cs (wanted cs.length) ++ chainedT (turned A) y cs.length ++ stepsT (chained (turned A) y cs.length)
def within (A cs : List (List F)) : List (List F) := turned (cs.map fun c => (solved (turned cs) (image A c)).2)
def withinT (A cs : List (List F)) : List F := cs.flatMap fun c => imageT A c ++ solvedT (turned cs) (image A c)
def parts : Nat → List (List F) → List (List F) × List (List F)
  | 0, _ => ([], [])
  | n + 1, A =>
    let l := least A
    let cs := chained A l.2 (l.1.length - 1)
    if cs.length = A.length then ([l.1], cs)
    else
      let more := beside A cs
      let p := parts n (within A more)
      (l.1 :: p.1, cs ++ p.2.map fun o => image (turned more) o)
def partsT : Nat → List (List F) → List F
  | 0, _ => []
  | n + 1, A =>
    let l := least A
    let cs := chained A l.2 (l.1.length - 1)
    leastT A ++ chainedT A l.2 (l.1.length - 1) ++
    (if cs.length = A.length then []
    else
      let more := beside A cs
      let p := parts n (within A more)
      besideT A cs ++ withinT A more ++ partsT n (within A more) ++ p.2.flatMap fun o => imageT (turned more) o)
def frameTurn (A : List (List F)) : List (List F) := turned (parts A.length A).2
def frameT (A : List (List F)) : List F := partsT A.length A ++ inverseT (frameTurn A)
end
end Tf
set_option maxRecDepth 100000
set_option maxHeartbeats 4000000
namespace Tf
open PySem PySem.Spec PyProof.Rows L2
/-! ### what a value stands for: a word of value and heap that outlives new objects -/
structure Pr where
  p : V → Hp → Prop
  mo : ∀ {v H H'}, p v H → Same H H' → p v H'
theorem same_new {H : Hp} {p : Addr} {o : HO} (h : H p = none) : Same H (upd H p o) := fun b u q => by rw [upd_ne (ne_of_none q h)]; exact q
theorem same_mut {H H' : Hp} {p : Addr} {o : HO} (e : Same H H') (h : H p = none) : Same H (upd H' p o) := fun b u q => by rw [upd_ne (ne_of_none q h)]; exact e b u q
def isI (n : Int) : Pr := ⟨fun v _ => v = .int n, fun h _ => h⟩
def isB (b : Bool) : Pr := ⟨fun v _ => v = .bl b, fun h _ => h⟩
def isV (x : V) : Pr := ⟨fun v _ => v = x, fun h _ => h⟩
def isS (x : Str) : Pr := ⟨fun v _ => v = .str x, fun h _ => h⟩
def anyP : Pr := ⟨fun _ _ => True, fun h _ => h⟩
def nilH : Hp := fun _ => none
theorem same_nil (H : Hp) : Same nilH H := fun _ _ h => by cases h
/-- a list, not known to G, of what R says of xs -/
def LR {α : Type} (R : α → Pr) (G : Hp) (xs : List α) : Pr where
  p := fun v H => ∃ a vs, v = .ref a ∧ G a = none ∧ H a = some (.lst vs) ∧ Paired (fun x u => (R x).p u H) xs vs
  mo := fun ⟨a, vs, e, g, h, q⟩ s => ⟨a, vs, e, g, s _ _ h, Paired.mapP q fun _ _ r => (R _).mo r s⟩
/-- a tuple of what the words say, one by one -/
def AllP : List Pr → List V → Hp → Prop
  | [], vs, _ => vs = []
  | P :: Ps, vs, H => ∃ v r, vs = v :: r ∧ P.p v H ∧ AllP Ps r H
theorem AllP.mo : ∀ {Ps : List Pr} {vs : List V} {H H' : Hp}, AllP Ps vs H → Same H H' → AllP Ps vs H'
  | [], _, _, _, h, _ => h
  | _ :: _, _, _, _, ⟨v, r, e, p, q⟩, s => ⟨v, r, e, Pr.mo _ p s, AllP.mo q s⟩
theorem AllP.length : ∀ {Ps : List Pr} {vs : List V} {H : Hp}, AllP Ps vs H → vs.length = Ps.length
  | [], _, _, h => by rw [show _ = [] from h]; rfl
  | _ :: Ps, _, _, ⟨v, r, e, p, q⟩ => by rw [e, List.length_cons, List.length_cons, AllP.length q]
def TR (G : Hp) (Ps : List Pr) : Pr where
  p := fun v H => ∃ a vs, v = .ref a ∧ G a = none ∧ H a = some (.tup vs) ∧ AllP Ps vs H
  mo := fun ⟨a, vs, e, g, h, q⟩ s => ⟨a, vs, e, g, s _ _ h, q.mo s⟩
theorem lr_low {α : Type} {R R' : α → Pr} {G G' : Hp} {xs : List α} {v : V} {H : Hp} (h : (LR R G xs).p v H) (s : ∀ a, G a = none → G' a = none) (hr : ∀ x u, (R x).p u H → (R' x).p u H) : (LR R' G' xs).p v H := by
  obtain ⟨a, vs, e, g, h, q⟩ := h
  exact ⟨a, vs, e, s a g, h, Paired.mapP q fun x u r => hr x u r⟩
theorem paired_get {α β : Type} {F : α → β → Prop} {xs : List α} {ys : List β} (h : Paired F xs ys) : ∀ {i : Nat} {x : α}, xs[i]? = some x → ∃ y, ys[i]? = some y ∧ F x y := by
  induction h with
  | nil => intro i x e; cases e
  | cons a t ih =>
    intro i x e
    cases i with
    | zero => cases e; exact ⟨_, rfl, a⟩
    | succ i => rw [List.getElem?_cons_succ] at e; obtain ⟨y, h1, h2⟩ := ih e; exact ⟨y, by rw [List.getElem?_cons_succ]; exact h1, h2⟩
theorem paired_get2 {α β : Type} {F : α → β → Prop} {xs : List α} {ys : List β} (h : Paired F xs ys) : ∀ {i : Nat} {y : β}, ys[i]? = some y → ∃ x, xs[i]? = some x ∧ F x y := by
  induction h with
  | nil => intro i x e; cases e
  | cons a t ih =>
    intro i x e
    cases i with
    | zero => cases e; exact ⟨_, rfl, a⟩
    | succ i => rw [List.getElem?_cons_succ] at e; obtain ⟨y, h1, h2⟩ := ih e; exact ⟨y, by rw [List.getElem?_cons_succ]; exact h1, h2⟩
/-- what it says does not hang on the list at d -/
def Sta (P : Pr) (d : Addr) : Prop := ∀ (v : V) (H : Hp) (o o' : List V), H d = some (.lst o) → P.p v H → P.p v (upd H d (.lst o'))
theorem sta_I {n : Int} {d : Addr} : Sta (isI n) d := fun _ _ _ _ _ h => h
theorem sta_B {n : Bool} {d : Addr} : Sta (isB n) d := fun _ _ _ _ _ h => h
theorem sta_V {x : V} {d : Addr} : Sta (isV x) d := fun _ _ _ _ _ h => h
theorem sta_S {x : Str} {d : Addr} : Sta (isS x) d := fun _ _ _ _ _ h => h
theorem sta_L {α : Type} {R : α → Pr} {G : Hp} {xs : List α} {d : Addr} (hd : G d ≠ none) (hr : ∀ x, Sta (R x) d) : Sta (LR R G xs) d := fun v H o o' e ⟨a, vs, ea, g, h, q⟩ =>
  ⟨a, vs, ea, g, by rw [upd_ne (fun z => hd (by rw [← z]; exact g))]; exact h, Paired.mapP q fun x u r => hr x u H o o' e r⟩
theorem AllP.sta {d : Addr} : ∀ {Ps : List Pr} {vs : List V} {H : Hp} {o o' : List V}, (∀ P ∈ Ps, Sta P d) → H d = some (.lst o) → AllP Ps vs H → AllP Ps vs (upd H d (.lst o'))
  | [], _, _, _, _, _, _, h => h
  | P :: Ps, _, _, o, o', hs, e, ⟨v, r, ev, p, q⟩ => ⟨v, r, ev, hs P (List.mem_cons_self ..) v _ o o' e p, AllP.sta (fun P h => hs P (List.mem_cons_of_mem _ h)) e q⟩
theorem sta_T {G : Hp} {Ps : List Pr} {d : Addr} (hs : ∀ P ∈ Ps, Sta P d) : Sta (TR G Ps) d := fun v H o o' e ⟨a, vs, ea, g, h, q⟩ =>
  ⟨a, vs, ea, g, by rw [upd_ne (ne_of h e (by intro z; cases z))]; exact h, q.sta hs e⟩
theorem paired_set {α β : Type} {F : α → β → Prop} {x : α} {y : β} (h : F x y) : ∀ {xs : List α} {ys : List β} (i : Nat), Paired F xs ys → Paired F (xs.set i x) (ys.set i y)
  | _, _, _, .nil => .nil
  | _, _, 0, .cons _ t => .cons h t
  | _, _, i + 1, .cons a t => .cons a (paired_set h i t)
theorem paired_app {α β : Type} {F : α → β → Prop} : ∀ {xs xs' : List α} {ys ys' : List β}, Paired F xs ys → Paired F xs' ys' → Paired F (xs ++ xs') (ys ++ ys')
  | _, _, _, _, .nil, h => h
  | _, _, _, _, .cons a t, h => .cons a (paired_app t h)
theorem paired_take {α β : Type} {F : α → β → Prop} : ∀ {xs : List α} {ys : List β} (n : Nat), Paired F xs ys → Paired F (xs.take n) (ys.take n)
  | _, _, 0, _ => .nil
  | _, _, _ + 1, .nil => .nil
  | _, _, n + 1, .cons a t => .cons a (paired_take n t)
theorem paired_drop {α β : Type} {F : α → β → Prop} : ∀ {xs : List α} {ys : List β} (n : Nat), Paired F xs ys → Paired F (xs.drop n) (ys.drop n)
  | _, _, 0, h => h
  | _, _, _ + 1, .nil => .nil
  | _, _, n + 1, .cons a t => paired_drop n t
theorem paired_rev {α β : Type} {F : α → β → Prop} : ∀ {xs : List α} {ys : List β}, Paired F xs ys → Paired F xs.reverse ys.reverse
  | _, _, .nil => .nil
  | _, _, .cons a t => by rw [List.reverse_cons, List.reverse_cons]; exact paired_app (paired_rev t) (.cons a .nil)
theorem paired_map {α β γ : Type} {F : γ → β → Prop} {f : α → γ} : ∀ {xs : List α} {ys : List β}, Paired (fun x y => F (f x) y) xs ys → Paired F (xs.map f) ys
  | _, _, .nil => .nil
  | _, _, .cons a t => .cons a (paired_map t)

/-! ### what a part evaluates to -/
def Ev (te : TE) (σ : L2.St) (H : Hp) (P : Pr) : Prop := ∀ H1, Same H H1 → ∀ Q : VK, (∀ v H2, Same H1 H2 → P.p v H2 → Q v H2) → te σ H1 Q
def EvA (t : TA) (σ : L2.St) (H : Hp) (Ps : List Pr) : Prop := ∀ H1, Same H H1 → ∀ Q : List V → Hp → Prop, (∀ vs H2, Same H1 H2 → AllP Ps vs H2 → Q vs H2) → t σ H1 Q
def EvT (t : TT) (σ : L2.St) (H : Hp) (b : Bool) : Prop := ∀ H1, Same H H1 → ∀ Q : Bool → Hp → Prop, (∀ H2, Same H1 H2 → Q b H2) → t σ H1 Q
def EvO (t : TO) (σ : L2.St) (H : Hp) (o : Option Int) : Prop := ∀ H1, Same H H1 → ∀ Q : Option Int → Hp → Prop, (∀ H2, Same H1 H2 → Q o H2) → t σ H1 Q
section
variable {K : PySem.W.Frag} {σ : L2.St} {H H' : Hp} {ta tb te : TE} {t u : TT} {P P' : Pr} {x y v : V}
theorem Ev.mono (e : Same H H') (h : Ev te σ H P) : Ev te σ H' P := fun H1 a Q q => h H1 (e.trans a) Q q
theorem EvA.mono {ta : TA} {Ps : List Pr} (e : Same H H') (h : EvA ta σ H Ps) : EvA ta σ H' Ps := fun H1 a Q q => h H1 (e.trans a) Q q
theorem EvT.mono {b : Bool} (e : Same H H') (h : EvT t σ H b) : EvT t σ H' b := fun H1 a Q q => h H1 (e.trans a) Q q
theorem Ev.imp (h : Ev te σ H P) (hp : ∀ v H1, Same H H1 → P.p v H1 → P'.p v H1) : Ev te σ H P' := fun H1 a Q q => h H1 a Q fun v H2 s p => q v H2 s (hp v H2 (a.trans s) p)
theorem Ev.to (h : Ev te σ H P) (e : P = P') : Ev te σ H P' := e ▸ h
theorem EvT.to {b b' : Bool} (h : EvT t σ H b) (e : b = b') : EvT t σ H b' := e ▸ h
theorem ev_var {i : Nat} (h : σ[i]? = some (some v)) (hp : P.p v H) : Ev (tVar i) σ H P := fun H1 s Q q => ⟨v, h, q v H1 (Same.refl H1) (P.mo hp s)⟩
theorem ev_c : Ev (tC v) σ H (isV v) := fun H1 _ Q q => q v H1 (Same.refl H1) rfl
theorem ev_int {n : Int} : Ev (tC (.int n)) σ H (isI n) := fun H1 _ Q q => q _ H1 (Same.refl H1) rfl
theorem ev_vint {i : Nat} {n : Int} (h : σ[i]? = some (some (.int n))) : Ev (tVar i) σ H (isI n) := ev_var h rfl
theorem ea_nil : EvA tNil σ H [] := fun H1 _ Q q => q [] H1 (Same.refl H1) rfl
theorem ea_cons {tr : TA} {Ps : List Pr} (h : Ev ta σ H P) (hr : EvA tr σ H Ps) : EvA (tCons ta tr) σ H (P :: Ps) := fun H1 s Q q =>
  h H1 s _ fun v H2 s2 p => hr H2 (s.trans s2) _ fun vs H3 s3 ps => q _ H3 (s2.trans s3) ⟨v, vs, rfl, P.mo p s3, ps⟩
theorem ev_op {r : R2} {A B : Pr} (ha : Ev ta σ H A) (hb : Ev tb σ H B) (hr : ∀ x y H1, Same H H1 → A.p x H1 → B.p y H1 → ∀ Q : VK, (∀ v H2, Same H1 H2 → P.p v H2 → Q v H2) → r x y H1 Q) : Ev (tOp r ta tb) σ H P := fun H1 s Q q =>
  ha H1 s _ fun x H2 s2 px => hb H2 (s.trans s2) _ fun y H3 s3 py => hr x y H3 ((s.trans s2).trans s3) (A.mo px s3) py Q fun v H4 s4 p => q v H4 ((s2.trans s3).trans s4) p
theorem ev_opI {g : Int → Int → Int} {i j : Int} (ha : Ev ta σ H (isI i)) (hb : Ev tb σ H (isI j)) : Ev (tOp (rI0 fun i j => .int (g i j)) ta tb) σ H (isI (g i j)) :=
  ev_op ha hb fun x y H1 _ ex ey Q q => ⟨i, j, ex, ey, q _ H1 (Same.refl H1) rfl⟩
theorem ev_opC {C : Int → Int → Prop} {g : Int → Int → Int} {i j : Int} (ha : Ev ta σ H (isI i)) (hb : Ev tb σ H (isI j)) (hc : C i j) : Ev (tOp (rI C fun i j => .int (g i j)) ta tb) σ H (isI (g i j)) :=
  ev_op ha hb fun x y H1 _ ex ey Q q => ⟨i, j, ex, ey, hc, q _ H1 (Same.refl H1) rfl⟩
theorem ev_opB {g : Int → Int → Bool} {i j : Int} (ha : Ev ta σ H (isI i)) (hb : Ev tb σ H (isI j)) : Ev (tOp (rI0 fun i j => .bl (g i j)) ta tb) σ H (isB (g i j)) :=
  ev_op ha hb fun x y H1 _ ex ey Q q => ⟨i, j, ex, ey, q _ H1 (Same.refl H1) rfl⟩
theorem ev_eqI {i j : Int} (ha : Ev ta σ H (isI i)) (hb : Ev tb σ H (isI j)) : Ev (tOp rEq ta tb) σ H (isB (decide (i = j))) :=
  ev_op ha hb fun x y H1 _ ex ey Q q => by
    subst ex ey
    refine ⟨rfl, q _ H1 (Same.refl H1) ?_⟩
    show V.bl _ = V.bl _
    simp only [V.int.injEq]
theorem ev_neI {i j : Int} (ha : Ev ta σ H (isI i)) (hb : Ev tb σ H (isI j)) : Ev (tOp rNe ta tb) σ H (isB (!decide (i = j))) :=
  ev_op ha hb fun x y H1 _ ex ey Q q => by
    subst ex ey
    refine ⟨rfl, q _ H1 (Same.refl H1) ?_⟩
    show V.bl _ = V.bl _
    simp only [V.int.injEq]
theorem ev_eqS {i j : Str} (ha : Ev ta σ H (isS i)) (hb : Ev tb σ H (isS j)) : Ev (tOp rEq ta tb) σ H (isB (decide (i = j))) :=
  ev_op ha hb fun x y H1 _ ex ey Q q => by
    subst ex ey
    refine ⟨rfl, q _ H1 (Same.refl H1) ?_⟩
    show V.bl _ = V.bl _
    simp only [V.str.injEq]
theorem ev_neg {i : Int} (ha : Ev ta σ H (isI i)) : Ev (tUn (rU fun i => .int (-i)) ta) σ H (isI (-i)) := fun H1 s Q q => ha H1 s _ fun x H2 s2 e => ⟨i, e, q _ H2 s2 rfl⟩
/-! tests -/
theorem et_test {b : Bool} (h : Ev te σ H (isB b)) : EvT (tTest te) σ H b := fun H1 s Q q => h H1 s _ fun v H2 s2 e => ⟨b, e, q H2 s2⟩
theorem et_B {b : Bool} (h : Ev te σ H (isB b)) : EvT (tB te) σ H b := fun H1 s Q q => h H1 s _ fun v H2 s2 e => ⟨b, e, q H2 s2⟩
theorem et_and {a b : Bool} (h1 : EvT t σ H a) (h2 : a = true → EvT u σ H b) : EvT (tAnd t u) σ H (a && b) := fun H1 e Q q => h1 H1 e _ fun H2 e2 => by
  cases a with
  | true => exact h2 rfl H2 (e.trans e2) Q fun H3 e3 => q H3 (e2.trans e3)
  | false => exact q H2 e2
theorem et_or {a b : Bool} (h1 : EvT t σ H a) (h2 : a = false → EvT u σ H b) : EvT (tOr t u) σ H (a || b) := fun H1 e Q q => h1 H1 e _ fun H2 e2 => by
  cases a with
  | true => exact q H2 e2
  | false => exact h2 rfl H2 (e.trans e2) Q fun H3 e3 => q H3 (e2.trans e3)
theorem et_not {a : Bool} (h1 : EvT t σ H a) : EvT (tNot t) σ H (!a) := fun H1 e _ q => h1 H1 e _ fun H2 e2 => q H2 e2
theorem et_yes : EvT tYes σ H true := fun H1 _ Q q => q H1 (Same.refl H1)
theorem ev_and {a b : Bool} (h1 : Ev ta σ H (isB a)) (h2 : a = true → Ev tb σ H (isB b)) : Ev (tAndV ta tb) σ H (isB (a && b)) := fun H1 e Q q => h1 H1 e _ fun x H2 e2 ex => ⟨a, ex, by
  cases a with
  | true => exact h2 rfl H2 (e.trans e2) Q fun v H3 e3 p => q v H3 (e2.trans e3) p
  | false => exact q _ H2 e2 rfl⟩
theorem ev_or {a b : Bool} (h1 : Ev ta σ H (isB a)) (h2 : a = false → Ev tb σ H (isB b)) : Ev (tOrV ta tb) σ H (isB (a || b)) := fun H1 e Q q => h1 H1 e _ fun x H2 e2 ex => ⟨a, ex, by
  cases a with
  | true => exact q _ H2 e2 rfl
  | false => exact h2 rfl H2 (e.trans e2) Q fun v H3 e3 p => q v H3 (e2.trans e3) p⟩
theorem ev_not {a : Bool} (h1 : Ev ta σ H (isB a)) : Ev (tNotV ta) σ H (isB (!a)) := fun H1 e Q q => h1 H1 e _ fun x H2 e2 ex => ⟨a, ex, q _ H2 e2 rfl⟩
/-! lists, tuples -/
theorem paired_len {α β : Type} {F : α → β → Prop} {xs : List α} {ys : List β} (h : Paired F xs ys) : xs.length = ys.length := Paired.length h
theorem ev_len {α : Type} {R : α → Pr} {G : Hp} {xs : List α} (h : Ev ta σ H (LR R G xs)) :
    Ev (tCB (fun vs H Q => ∃ p ys, vs = [.ref p] ∧ (SqL K H p ys ∨ SqT K H p ys) ∧ Q (.int ys.length) H) (tCons ta tNil)) σ H (isI (xs.length : Nat)) := fun H1 s Q q =>
  h H1 s _ fun v H2 s2 ⟨a, vs, e, _, ha, hp⟩ => ⟨a, vs, by rw [e], .inl (SqL.of ha), q _ H2 s2 (show V.int _ = V.int _ by rw [paired_len hp])⟩
theorem ev_ix {α : Type} {R : α → Pr} {G : Hp} {xs : List α} {i : Nat} {x : α} (h : Ev ta σ H (LR R G xs)) (hi : Ev tb σ H (isI (i : Nat))) (hx : xs[i]? = some x) : Ev (tOp (rIxL K) ta tb) σ H (R x) :=
  ev_op h hi fun v y H1 _ ⟨a, vs, e, _, ha, hp⟩ ey Q q => by
    obtain ⟨u, hu, r⟩ := paired_get hp hx
    exact ⟨a, vs, i, u, e, ey, SqL.of ha, atI_nat hu, q u H1 (Same.refl H1) r⟩
theorem allP_get : ∀ {Ps : List Pr} {vs : List V} {H : Hp} {i : Nat} {P : Pr}, AllP Ps vs H → Ps[i]? = some P → ∃ u, vs[i]? = some u ∧ P.p u H := by
  intro Ps
  induction Ps with
  | nil => intro vs H i P _ h; cases h
  | cons P0 Ps ih =>
    intro vs H i P ⟨v, r, e, p, q⟩ h
    subst e
    cases i with
    | zero => cases h; exact ⟨v, rfl, p⟩
    | succ i => rw [List.getElem?_cons_succ] at h; obtain ⟨u, h1, h2⟩ := ih q h; exact ⟨u, by rw [List.getElem?_cons_succ]; exact h1, h2⟩
theorem ev_tix {G : Hp} {Ps : List Pr} {i : Nat} {P : Pr} (h : Ev ta σ H (TR G Ps)) (hi : Ev tb σ H (isI (i : Nat))) (hx : Ps[i]? = some P) : Ev (tOp (rIxT K) ta tb) σ H P :=
  ev_op h hi fun v y H1 _ ⟨a, vs, e, _, ha, hp⟩ ey Q q => by
    obtain ⟨u, hu, r⟩ := allP_get hp hx
    exact ⟨a, vs, i, u, e, ey, SqT.of ha, atI_nat hu, q u H1 (Same.refl H1) r⟩
theorem small_len {n : Nat} (h : n ≤ 1000) : n ≤ sizeLine := Nat.le_of_lt (small1000 h)
theorem ev_tup {t : TA} {Ps : List Pr} (h : EvA t σ H Ps) (hl : Ps.length ≤ 1000 := by simp) : Ev (tTup t) σ H (TR H Ps) := fun H1 s Q q =>
  h H1 s _ fun vs H2 s2 p => ⟨by rw [p.length]; exact small_len hl, fun a ha => q _ _ (s2.trans (same_new ha)) ⟨a, vs, rfl, Same.free (s.trans s2) ha, upd_same, p.mo (same_new ha)⟩⟩
theorem allP_paired {α : Type} {R : α → Pr} : ∀ {xs : List α} {vs : List V} {H : Hp}, AllP (xs.map R) vs H → Paired (fun x u => (R x).p u H) xs vs
  | [], _, _, h => by rw [show _ = [] from h]; exact .nil
  | _ :: _, _, _, ⟨v, r, e, p, q⟩ => by rw [e]; exact .cons p (allP_paired q)
theorem ev_lst {α : Type} {R : α → Pr} {t : TA} {xs : List α} (h : EvA t σ H (xs.map R)) (hl : xs.length ≤ 1000 := by simp) : Ev (tLst t) σ H (LR R H xs) := fun H1 s Q q =>
  h H1 s _ fun vs H2 s2 p => ⟨by rw [p.length, List.length_map]; exact small_len hl, fun a ha => q _ _ (s2.trans (same_new ha)) ⟨a, vs, rfl, Same.free (s.trans s2) ha, upd_same, allP_paired (p.mo (same_new ha))⟩⟩
/-- list(xs) -/
theorem ev_list {α : Type} {R : α → Pr} {G : Hp} {xs : List α} (h : Ev ta σ H (LR R G xs)) :
    Ev (tCB (fun vs H Q => ∃ p ys, vs = [.ref p] ∧ (SqL K H p ys ∨ SqT K H p ys) ∧ ∀ l, H l = none → Q (.ref l) (upd H l (.lst ys))) (tCons ta tNil)) σ H (LR R H xs) := fun H1 s Q q =>
  h H1 s _ fun v H2 s2 ⟨a, vs, e, _, ha, hp⟩ => ⟨a, vs, by rw [e], .inl (SqL.of ha), fun l hl => q _ _ (s2.trans (same_new hl)) ⟨l, vs, rfl, Same.free (s.trans s2) hl, upd_same, Paired.mapP hp fun _ _ r => (R _).mo r (same_new hl)⟩⟩
/-- xs + ys -/
theorem ev_cat {α : Type} {R : α → Pr} {G G' : Hp} {xs ys : List α} (h : Ev ta σ H (LR R G xs)) (h' : Ev tb σ H (LR R G' ys)) (hl : xs.length + ys.length ≤ 1000) : Ev (tOp rCat ta tb) σ H (LR R H (xs ++ ys)) :=
  ev_op h h' fun v y H1 s1 ⟨a, vs, e, _, ha, hp⟩ ⟨b, ws, e', _, hb, hq⟩ Q q => ⟨a, b, vs, ws, e, e', ha, hb, by rw [← paired_len hp, ← paired_len hq]; exact small_len hl, fun p hp' =>
    q _ _ (same_new hp') ⟨p, vs ++ ws, rfl, Same.free s1 hp', upd_same, paired_app (Paired.mapP hp fun _ _ r => (R _).mo r (same_new hp')) (Paired.mapP hq fun _ _ r => (R _).mo r (same_new hp'))⟩⟩
/-! ### statements -/
variable {D : Ends} {tu tw : TS} {g : TG}
theorem s_asg {i : Nat} (h : Ev te σ H P) (k : ∀ v H1, Same H H1 → P.p v H1 → D.nx (σ.set i (some v)) H1) : tAsg te (gName i) D σ H := h H (Same.refl H) _ fun v H1 s p => k v H1 s p
theorem s_ret (h : Ev te σ H P) (k : ∀ v H1, Same H H1 → P.p v H1 → D.rt v H1) : tRet te D σ H := h H (Same.refl H) _ k
theorem s_if {b : Bool} (h : EvT t σ H b) (h1 : b = true → ∀ H1, Same H H1 → tu D σ H1) (h2 : b = false → ∀ H1, Same H H1 → tw D σ H1) : tIfS t tu tw D σ H := h H (Same.refl H) _ fun H1 e => by
  cases b with
  | true => exact h1 rfl H1 e
  | false => exact h2 rfl H1 e
theorem s_ifF (h : EvT t σ H false) (h2 : ∀ H1, Same H H1 → tw D σ H1) : tIfS t tu tw D σ H := s_if h (fun q => by cases q) fun _ => h2
theorem s_ifT (h : EvT t σ H true) (h1 : ∀ H1, Same H H1 → tu D σ H1) : tIfS t tu tw D σ H := s_if h (fun _ => h1) fun q => by cases q
theorem s_par {i j : Nat} {ta : TA} {A B : Pr} (h : EvA ta σ H [A, B]) (k : ∀ v w H1, Same H H1 → A.p v H1 → B.p w H1 → D.nx ((σ.set i (some v)).set j (some w)) H1) : tPar i j ta D σ H :=
  h H (Same.refl H) _ fun vs H1 s ⟨v, r, e, pv, w, r', e', pw, e2⟩ => ⟨v, w, by rw [e, e', show r' = [] from e2], k v w H1 s pv pw⟩
theorem s_par3 {i j l : Nat} {ta : TA} {A B C : Pr} (h : EvA ta σ H [A, B, C]) (k : ∀ u v w H1, Same H H1 → A.p u H1 → B.p v H1 → C.p w H1 → D.nx (((σ.set i (some u)).set j (some v)).set l (some w)) H1) : tPar3 i j l ta D σ H :=
  h H (Same.refl H) _ fun vs H1 s ⟨v, r, e, pv, w, r', e', pw, z, r2, e2, pz, e3⟩ => ⟨v, w, z, by rw [e, e', e2, show r2 = [] from e3], k v w z H1 s pv pw pz⟩
theorem s_aug {i : Nat} {f : Int → Int → Int} {a b : Int} (hx : σ[i]? = some (some (.int a))) (h : Ev te σ H (isI b)) (k : ∀ H1, Same H H1 → D.nx (σ.set i (some (.int (f a b)))) H1) : tAug i te (ipI f) D σ H :=
  ⟨.int a, hx, h H (Same.refl H) _ fun v H1 e ev => ⟨a, b, rfl, ev, k H1 e⟩⟩
/-- a, b = e, e a tuple of two -/
theorem s_unp2 {i j : Nat} {G : Hp} {A B : Pr} (h : Ev te σ H (TR G [A, B])) (k : ∀ v w H1, Same H H1 → A.p v H1 → B.p w H1 → D.nx ((σ.set i (some v)).set j (some w)) H1) : tAsg te (gTup K 2 (gCons (gName i) (gCons (gName j) gNil))) D σ H :=
  h H (Same.refl H) _ fun v H1 s ⟨a, vs, e, _, ha, v1, r1, e1, p1, v2, r2, e2, p2, e3⟩ => by
    have e4 : vs = [v1, v2] := by rw [e1, e2, show r2 = [] from e3]
    exact ⟨a, vs, e, SqT.of ha, by rw [e4]; rfl, v1, [v2], e4, v2, [], rfl, rfl, k v1 v2 H1 s p1 p2⟩
theorem s_unp3 {i j l : Nat} {G : Hp} {A B C : Pr} (h : Ev te σ H (TR G [A, B, C])) (k : ∀ u v w H1, Same H H1 → A.p u H1 → B.p v H1 → C.p w H1 → D.nx (((σ.set i (some u)).set j (some v)).set l (some w)) H1) : tAsg te (gTup K 3 (gCons (gName i) (gCons (gName j) (gCons (gName l) gNil)))) D σ H :=
  h H (Same.refl H) _ fun v H1 s ⟨a, vs, e, _, ha, v1, r1, e1, p1, v2, r2, e2, p2, v3, r3, e3, p3, e4⟩ => by
    have e5 : vs = [v1, v2, v3] := by rw [e1, e2, e3, show r3 = [] from e4]
    exact ⟨a, vs, e, SqT.of ha, by rw [e5]; rfl, v1, [v2, v3], e5, v2, [v3], rfl, v3, [], rfl, rfl, k v1 v2 v3 H1 s p1 p2 p3⟩
/-- xs.append(e), xs a list that H0 does not know -/
theorem s_app {l : Addr} {vs : List V} (hl : H l = some (.lst vs)) (ha : Ev ta σ H (isV (.ref l))) (h : Ev te σ H P) (hz : vs.length ≤ 1000) (k : ∀ v H1, Same H H1 → P.p v H1 → D.nx σ (upd H1 l (.lst (vs ++ [v])))) :
    tDrop (tBM K "list" rAppend ta (tCons te tNil)) D σ H := ha H (Same.refl H) _ fun x H1 e1 ex => by
  subst ex
  exact ⟨Or.inl ⟨rfl, vs, SqL.of (e1 l _ hl)⟩, h H1 e1 _ fun v H2 e2 p => ⟨l, vs, v, rfl, rfl, e2 l _ (e1 l _ hl), small1000 hz, k v H2 (e1.trans e2) p⟩⟩
theorem s_ext {l b : Addr} {vs ws : List V} (hl : H l = some (.lst vs)) (hb : H b = some (.lst ws)) (ha : Ev ta σ H (isV (.ref l))) (h : Ev te σ H (isV (.ref b))) (hz : vs.length + ws.length ≤ 1000) (k : ∀ H1, Same H H1 → D.nx σ (upd H1 l (.lst (vs ++ ws)))) :
    tDrop (tBM K "list" rExtend ta (tCons te tNil)) D σ H := ha H (Same.refl H) _ fun x H1 e1 ex => by
  subst ex
  refine ⟨Or.inl ⟨rfl, vs, SqL.of (e1 l _ hl)⟩, h H1 e1 _ fun v H2 e2 p => ?_⟩
  subst p
  exact ⟨l, b, vs, ws, rfl, rfl, e2 l _ (e1 l _ hl), e2 b _ (e1 b _ hb), small_len hz, k H2 (e1.trans e2)⟩
theorem ixN_nat {n j : Nat} (hj : j < n) : ixN n (j : Int) = some j := by
  unfold ixN
  rw [if_pos (by omega), if_pos (by omega)]
  simp
/-- xs[i] = e -/
theorem s_set {l : Addr} {vs : List V} {j : Nat} (hl : H l = some (.lst vs)) (h : Ev te σ H P) (ho : Ev ta σ H (isV (.ref l))) (hi : Ev tb σ H (isI (j : Nat))) (hj : j < vs.length) (k : ∀ v H1, Same H H1 → P.p v H1 → D.nx σ (upd H1 l (.lst (vs.set j v)))) :
    tAsg te (gSub ta tb rSetL) D σ H := h H (Same.refl H) _ fun v H1 e1 p => ho H1 e1 _ fun x H2 e2 ex => hi H2 (e1.trans e2) _ fun y H3 e3 ey => by
  subst ex
  exact ⟨l, vs, (j : Int), j, rfl, ey, ((e1.trans e2).trans e3) l _ hl, ixN_nat hj, k v H3 ((e1.trans e2).trans e3) (P.mo p (e2.trans e3))⟩
/-! ### loops -/
theorem s_for {J : It} {n : Nat} {G : Hp → Prop} {Y : Nat → Hp → V → Hp → Prop} {wi : TI} (w : Walk J n G Y) (hwi : ∀ R : It → Hp → Prop, (∀ H1, Same H H1 → R J H1) → wi σ H R)
    (Pv : Nat → L2.St → Hp → Prop) (h0 : ∀ H1, Same H H1 → Pv 0 σ H1) (hG : ∀ i σ H, i ≤ n → Pv i σ H → G H)
    (hs : ∀ i x σ H H', i < n → Pv i σ H → Y i H x H' → g x σ H' fun σ2 H2 => tu { D with nx := Pv (i + 1), ct := Pv (i + 1), bk := D.nx } σ2 H2) (hd : ∀ σ H, Pv n σ H → D.nx σ H) : tFor wi g tu D σ H :=
  hwi _ fun H1 s => for_it w Pv (h0 H1 s) hG hs hd
/-- for i in range(n) -/
theorem s_forR {ta : TA} {j : Nat} {n : Nat} (h : EvA ta σ H [isI (n : Nat)]) (hn : n ≤ 1000000) (Pv : Nat → L2.St → Hp → Prop) (h0 : ∀ H1, Same H H1 → Pv 0 σ H1)
    (hs : ∀ (i : Nat) σ' H', i < n → Pv i σ' H' → tu { D with nx := Pv (i + 1), ct := Pv (i + 1), bk := D.nx } (σ'.set j (some (.int (i : Int)))) H') (hd : ∀ σ' H', Pv n σ' H' → D.nx σ' H') : tFor (iRng1 ta) (gName j) tu D σ H :=
  h H (Same.refl H) _ fun vs H1 e ⟨v, r, e1, ev, e2⟩ => by
    have ev' : v = .int (n : Nat) := ev
    refine ⟨n, by rw [e1, ev', show r = [] from e2], by omega, by omega, ?_⟩
    rw [show ((n : Nat) : Int).toNat = n from by simp]
    refine for_it (walk_range (lo := 0) (n := n)) Pv (h0 H1 e) (fun _ _ _ _ _ => trivial) (fun i x σ' H' H'' hi p y => ?_) hd
    obtain ⟨y1, y2⟩ := y
    subst y1 y2
    show tu _ (σ'.set j (some (.int ((0 : Int) + (i : Int))))) H''
    rw [Int.zero_add]
    exact hs i σ' H'' hi p
/-- for i in range(a, n) -/
theorem s_forR2 {ta : TA} {j : Nat} {a n : Nat} (h : EvA ta σ H [isI (a : Nat), isI (n : Nat)]) (hn : a ≤ 1000000 ∧ n ≤ 1000000) (Pv : Nat → L2.St → Hp → Prop) (h0 : ∀ H1, Same H H1 → Pv 0 σ H1)
    (hs : ∀ (i : Nat) σ' H', i < n - a → Pv i σ' H' → tu { D with nx := Pv (i + 1), ct := Pv (i + 1), bk := D.nx } (σ'.set j (some (.int ((a + i : Nat) : Int)))) H') (hd : ∀ σ' H', Pv (n - a) σ' H' → D.nx σ' H') : tFor (iRng2 ta) (gName j) tu D σ H :=
  h H (Same.refl H) _ fun vs H1 e ⟨v, r, e1, ev, v2, r2, e2, ev2, e3⟩ => by
    have ev' : v = .int (a : Nat) := ev
    have ev2' : v2 = .int (n : Nat) := ev2
    refine ⟨a, n, by rw [e1, ev', e2, ev2', show r2 = [] from e3], by omega, ?_⟩
    rw [show (((n : Nat) : Int) - ((a : Nat) : Int)).toNat = n - a from by omega]
    refine for_it (walk_range (lo := a) (n := n - a)) Pv (h0 H1 e) (fun _ _ _ _ _ => trivial) (fun i x σ' H' H'' hi p y => ?_) hd
    obtain ⟨y1, y2⟩ := y
    subst y1 y2
    have q := hs i σ' H'' hi p
    rw [Int.natCast_add] at q
    exact q
/-- while, by a word and a number that falls -/
theorem s_while (Pv : Nat → L2.St → Hp → Prop) (m0 : Nat) (h0 : Pv m0 σ H)
    (hs : ∀ m σ' H', Pv m σ' H' → ∃ b, EvT t σ' H' b ∧ (b = true → ∀ H1, Same H' H1 → ∃ N : L2.St → Hp → Prop, (∀ σ2 H2, N σ2 H2 → ∃ m', m' < m ∧ Pv m' σ2 H2) ∧ tu { D with nx := N, ct := N, bk := D.nx } σ' H1) ∧ (b = false → ∀ H1, Same H' H1 → D.nx σ' H1)) : tWhile t tu D σ H :=
  ⟨Pv, ⟨m0, h0⟩, fun m σ' H' hw => by
    obtain ⟨b, hb, h1, h2⟩ := hs m σ' H' hw
    refine hb H' (Same.refl H') _ fun H1 e => ?_
    cases b with
    | true => exact h1 rfl H1 e
    | false => exact h2 rfl H1 e⟩
/-! ### comprehensions -/
/-- what has been made so far, at Dl -/
def Cw {α : Type} (Rn : Hp → α → Pr) (H : Hp) (Dl : Addr) (xs : List α) (H' : Hp) : Prop := H Dl = none ∧ Same H H' ∧ ∃ vs, H' Dl = some (.lst vs) ∧ Paired (fun x u => (Rn (upd H Dl (.lst [])) x).p u H') xs vs
/-- a word by a heap: fewer known addresses, weaker; not touched at the known ones -/
structure Fam {α : Type} (Rn : Hp → α → Pr) : Prop where
  an : ∀ {G G' x u H}, (∀ a, G a = none → G' a = none) → (Rn G x).p u H → (Rn G' x).p u H
  st : ∀ {G x d}, G d ≠ none → Sta (Rn G x) d
theorem cw0 {α : Type} {Rn : Hp → α → Pr} {H0 : Hp} (e : Same H H0) {Dl : Addr} (h : H0 Dl = none) : Cw Rn H Dl [] (upd H0 Dl (.lst [])) := ⟨Same.free e h, e.trans (same_new h), [], upd_same, .nil⟩
theorem cw_put {α : Type} {Rn : Hp → α → Pr} (hF : Fam Rn) {Dl : Addr} {xs : List α} {x : α} {y : V} {H4 : Hp} (p : Cw Rn H Dl xs H') (s4 : Same H' H4) (py : (Rn H' x).p y H4) :
    ∃ acc, H4 Dl = some (.lst acc) ∧ acc.length = xs.length ∧ Cw Rn H Dl (xs ++ [x]) (upd H4 Dl (.lst (acc ++ [y]))) := by
  obtain ⟨p1, p2, ws, p3, p4⟩ := p
  have hd : (upd H Dl (.lst [])) Dl ≠ none := by rw [upd_same]; intro z; cases z
  have dm : ∀ a, H' a = none → (upd H Dl (.lst [])) a = none := fun a ha => by
    have n1 : a ≠ Dl := fun z => by rw [z, p3] at ha; cases ha
    rw [upd_ne n1]
    exact Same.free p2 ha
  have e4 := s4 _ _ p3
  refine ⟨ws, e4, (paired_len p4).symm, p1, same_mut (p2.trans s4) p1, ws ++ [y], upd_same, ?_⟩
  exact paired_app (Paired.mapP p4 fun z u r => hF.st hd u H4 ws _ e4 ((Rn _ z).mo r s4)) (.cons (hF.st hd y H4 ws _ e4 (hF.an dm py)) .nil)
theorem cw_end {α : Type} {Rn : Hp → α → Pr} (hF : Fam Rn) {Dl : Addr} {xs : List α} (p : Cw Rn H Dl xs H') : (LR (Rn H) H xs).p (.ref Dl) H' := by
  obtain ⟨p1, p2, ws, p3, p4⟩ := p
  refine ⟨Dl, ws, rfl, p1, p3, Paired.mapP p4 fun z u r => hF.an (fun a ha => ?_) r⟩
  by_cases e : a = Dl
  · rw [e]; exact p1
  · rw [upd_ne e] at ha; exact ha
/-- a comprehension without a test, over anything that is walked -/
theorem ev_lc {α : Type} {Rn : Hp → α → Pr} (hF : Fam Rn) {J : It} {n : Nat} {G : Hp → Prop} {Y : Nat → Hp → V → Hp → Prop} {wi : TI} {g : TG} {vs : List Nat} (xs : List α) (w : Walk J n G Y)
    (hwi : ∀ H1, Same H H1 → ∀ R : It → Hp → Prop, (∀ H2, Same H1 H2 → R J H2) → wi σ H1 R) (hl : xs.length = n) (hn : n ≤ 1000) (hG : ∀ H1, Same H H1 → G H1)
    (hs : ∀ (i : Nat) (x : α) (y : V) H1 H2, xs[i]? = some x → Same H H1 → Y i H1 y H2 → Same H1 H2 ∧ ∀ Q : L2.St → Hp → Prop, (∀ σ2 H3, Same H2 H3 → wipe σ2 vs = wipe σ vs → Ev te σ2 H3 (Rn H3 x) → Q σ2 H3) → g y (wipe σ vs) H2 Q) :
    Ev (tLc wi g tYes te vs) σ H (LR (Rn H) H xs) := fun H1 s1 Q q => hwi H1 s1 _ fun H2 s2 Dl hD =>
  lc_it w (fun i H' => Cw Rn H Dl (xs.take i) H' ∧ Same H1 H') ⟨by rw [List.take_zero]; exact cw0 (s1.trans s2) hD, s2.trans (same_new (o := HO.lst []) hD)⟩ (fun i H' _ p => hG H' (s1.trans p.2))
    (fun i y H' H'' hi p yy => by
      obtain ⟨p, sp⟩ := p
      have hi2 : i < xs.length := by omega
      have hx : xs[i]? = some xs[i] := List.getElem?_eq_getElem hi2
      obtain ⟨t1, t2⟩ := hs i xs[i] y H' H'' hx p.2.1 yy
      refine t2 _ fun σ2 H3 s3 hw he => ⟨hw, ?_⟩
      refine he H3 (Same.refl _) (fun y H4 => ∃ acc, H4 Dl = some (.lst acc) ∧ acc.length < sizeLine ∧ (Cw Rn H Dl (xs.take (i + 1)) (upd H4 Dl (.lst (acc ++ [y]))) ∧ Same H1 (upd H4 Dl (.lst (acc ++ [y]))))) fun v H4 s4 pv => ?_
      have p3 : Cw Rn H Dl (xs.take i) H3 := ⟨p.1, p.2.1.trans (t1.trans s3), by
        obtain ⟨ws, w1, w2⟩ := p.2.2
        exact ⟨ws, (t1.trans s3) _ _ w1, Paired.mapP w2 fun z u r => (Rn _ z).mo r (t1.trans s3)⟩⟩
      obtain ⟨acc, a1, a2, a3⟩ := cw_put hF p3 s4 pv
      refine ⟨acc, a1, by rw [a2, List.length_take]; exact small1000 (by omega), ?_, ?_⟩
      · rw [List.take_succ, hx]; exact a3
      · refine same_mut (sp.trans (t1.trans (s3.trans s4))) ?_
        exact Same.free s2 hD)
    (fun H' p => by
      have e : xs.take n = xs := List.take_of_length_le (by omega)
      rw [e] at p
      exact q _ H' p.2 (cw_end hF p.1))
/-- [e for i in range(n)] -/
theorem ev_lcR {α : Type} {Rn : Hp → α → Pr} (hF : Fam Rn) {ta : TA} {j : Nat} {vs : List Nat} {n : Nat} (f : Nat → α) (h : EvA ta σ H [isI (n : Nat)]) (hn : n ≤ 1000) (hw : ∀ x, wipe ((wipe σ vs).set j (some x)) vs = wipe σ vs)
    (he : ∀ i H1, Same H H1 → i < n → Ev te ((wipe σ vs).set j (some (.int (i : Nat)))) H1 (Rn H1 (f i))) : Ev (tLc (iRng1 ta) (gName j) tYes te vs) σ H (LR (Rn H) H ((List.range n).map f)) :=
  ev_lc hF ((List.range n).map f) (walk_range (lo := 0) (n := n)) (fun H1 s R r => h H1 s _ fun us H2 s2 ⟨v, rr, e1, ev, e2⟩ => by
      have ev' : v = .int (n : Nat) := ev
      refine ⟨n, by rw [e1, ev', show rr = [] from e2], by omega, by omega, ?_⟩
      rw [show ((n : Nat) : Int).toNat = n from by simp]
      exact r H2 s2) (by simp) hn (fun _ _ => trivial) (fun i x y H1 H2 hx s yy => by
      obtain ⟨y1, y2⟩ := yy
      subst y1 y2
      refine ⟨Same.refl _, fun Q q => ?_⟩
      have hi : i < n := by have := (List.getElem?_eq_some_iff.mp hx).1; simpa using this
      have hx2 : f i = x := by rw [List.getElem?_map, List.getElem?_range hi] at hx; exact Option.some.inj hx
      subst hx2
      show Q ((wipe σ vs).set j (some (.int ((0 : Int) + (i : Int))))) H2
      rw [Int.zero_add]
      exact q _ _ (Same.refl _) (hw _) (he i _ s hi))
/-- [e for x in xs], xs a list that stands -/
theorem ev_lcL {α β : Type} {Rn : Hp → β → Pr} (hF : Fam Rn) {R : α → Pr} {G : Hp} {xs : List α} {tl : TE} {j : Nat} {vs : List Nat} {i0 : Nat} (f : α → β) {v0 : V} (h0 : tl = tVar i0) (hv : σ[i0]? = some (some v0)) (hx : (LR R G xs).p v0 H) (hn : xs.length ≤ 1000)
    (hw : ∀ x, wipe ((wipe σ vs).set j (some x)) vs = wipe σ vs)
    (he : ∀ (i : Nat) (x : α) (u : V) H1, Same H H1 → xs[i]? = some x → (R x).p u H1 → Ev te ((wipe σ vs).set j (some u)) H1 (Rn H1 (f x))) : Ev (tLc (iList K tl) (gName j) tYes te vs) σ H (LR (Rn H) H (xs.map f)) := by
  obtain ⟨a, us, e, g0, ha, hp⟩ := hx
  subst h0 e
  refine ev_lc hF (xs.map f) (walk_list (K := K) (a := a) (xs := us)) (fun H1 s R r => ⟨_, hv, a, rfl, ⟨us, SqL.of (s _ _ ha)⟩, r H1 (Same.refl _)⟩) (by rw [List.length_map]; exact paired_len hp) (by rw [← paired_len hp]; exact hn)
    (fun H1 s => SqL.of (s _ _ ha)) (fun i z y H1 H2 hz s yy => ?_)
  obtain ⟨y1, y2⟩ := yy
  subst y1
  refine ⟨Same.refl _, fun Q q => ?_⟩
  rw [List.getElem?_map] at hz
  obtain ⟨x, hx, r⟩ := paired_get2 hp y2
  rw [hx] at hz
  have hz2 : f x = z := Option.some.inj hz
  subst hz2
  exact q _ _ (Same.refl _) (hw _) (he i x y _ s hx ((R x).mo r s))
end
end Tf
set_option maxRecDepth 100000
set_option maxHeartbeats 4000000
namespace Tf
open PySem PySem.Spec PyProof.Rows L2
/-! ### a def's promise as data -/
structure Spc where
  ι : Type
  pre : ι → Prop
  args : ι → List Pr
  post : ι → Hp → Pr
  an : ∀ {i G G' v H}, (∀ a, G a = none → G' a = none) → (post i G).p v H → (post i G').p v H
def Spc.sp (S : Spc) : Sp := fun vs H Q _ => ∃ i, S.pre i ∧ AllP (S.args i) vs H ∧ ∀ v H', Same H H' → (S.post i H).p v H' → Q v H'
/-- a def keeps its promise -/
abbrev Ok (P : Program) (w : World) (K : PySem.W.Frag) (mg : Str → Option Value) (base : Heap) (k : Nat) (p : Str × Option Str) (ps : List Str) (S : Spc) : Prop := FnOk P w K mg base CX0 k (He.fAd K p) (fdAt K (He.fAd K p)) ps S.sp
section
variable {P : Program} {w : World} {K : PySem.W.Frag} {mg : Str → Option Value} {base : Heap}
theorem ok_of {S : Spc} {x qual : Str} {params : Arguments} {body : List Stmt} {scope : Scope} {dvs : List V} {f : Addr} {fd : FuncData} {N ps : List Str} {k : Nat} (F : FunD K x qual params body scope dvs [] f fd) (Sc : FnScope N ps scope) (hl : ∀ i, (S.args i).length = ps.length)
    (hbody : ∀ (cdv : Value) (A : Around) (outer : List Env) (s : Shared) (H : Hp) (vs : List V) (Q : VK) (E : XK) (i : S.ι), Room k (A.deeper (envOfC qual scope s.heap.objs.size f cdv)) → S.pre i → AllP (S.args i) vs H → (∀ v H', Same H H' → (S.post i H).p v H' → Q v H') →
      ∃ t, PSs (cxOf CX0 P w K mg base N qual scope f cdv A outer s H E).nox body t ∧ t { nx := fun _ H' => Q .non H', rt := Q } (start N vs) H) : FnOk P w K mg base CX0 (k + 1) f fd ps S.sp :=
  F.ok Sc (fun vs H Q E ⟨i, _, h, _⟩ => by rw [h.length, hl]) fun cdv A outer s H vs Q E hr ⟨i, h1, h2, h3⟩ => by
    obtain ⟨t, a, b⟩ := hbody cdv A outer s H vs Q E i hr h1 h2 h3
    exact ⟨t, PSs.nox a, b⟩
theorem Df.ok {S : Spc} {p : Str × Option Str} {nm qual : Str} {st : Stmt} {N ps : List Str} {k : Nat} (F : Df K p nm qual st ps) (Sc : FnScope N ps (defScope st)) (hl : ∀ i, (S.args i).length = ps.length)
    (hbody : ∀ (cdv : Value) (A : Around) (outer : List Env) (s : Shared) (H : Hp) (vs : List V) (Q : VK) (E : XK) (i : S.ι), Room k (A.deeper (envOfC qual (defScope st) s.heap.objs.size (He.fAd K p) cdv)) → S.pre i → AllP (S.args i) vs H → (∀ v H', Same H H' → (S.post i H).p v H' → Q v H') →
      ∃ t, PSs (cxOf CX0 P w K mg base N qual (defScope st) (He.fAd K p) cdv A outer s H E).nox (defBody st) t ∧ t { nx := fun _ H' => Q .non H', rt := Q } (start N vs) H) : Ok P w K mg base (k + 1) p ps S := ok_of F.fn Sc hl hbody
variable {σ : L2.St} {H : Hp} {t : TA} {to : TE}
theorem ev_call {S : Spc} {E : XK} (i : S.ι) (ha : EvA t σ H (S.args i)) (hp : S.pre i) : Ev (tCall S.sp [] E t) σ H (S.post i H) := fun H1 s Q q => ha H1 s _ fun vs H2 s2 h =>
  ⟨i, hp, by rw [List.append_nil]; exact h, fun v H3 s3 p => q v H3 (s2.trans s3) (S.an (fun a e => Same.free (s.trans s2) e) p)⟩
/-- an object of a class, whose methods are asked -/
structure ObjOf (K : PySem.W.Frag) (C : Addr) (m : Str) (O : Pr) : Prop where
  at_ : ∀ {v H}, O.p v H → ∃ a dx fs, v = .ref a ∧ H a = some (.ins C dx fs) ∧ fs.lookup m = none
theorem ev_meth {S : Spc} {E : XK} {C : Addr} {m : Str} {O : Pr} {Ps : List Pr} (i : S.ι) (hO : ObjOf K C m O) (ho : Ev to σ H O) (ha : EvA t σ H Ps) (hp : S.pre i) (he : S.args i = O :: Ps := by rfl) : Ev (tMeth C m S.sp [] E to t) σ H (S.post i H) := fun H1 s Q q =>
  ho H1 s _ fun v H2 s2 po => by
    obtain ⟨a, dx, fs, e, h1, h2⟩ := hO.at_ po
    exact ⟨a, dx, fs, e, h1, h2, ha H2 (s.trans s2) _ fun vs H3 s3 h => ⟨i, hp, by rw [List.append_nil, he]; exact ⟨v, vs, rfl, O.mo po s3, h⟩, fun u H4 s4 p => q u H4 ((s2.trans s3).trans s4) (S.an (fun a e => Same.free ((s.trans s2).trans s3) e) p)⟩⟩
/-- .. with one default, the int 1 -/
theorem ev_meth1 {S : Spc} {E : XK} {C : Addr} {m : Str} {O P1 : Pr} (i : S.ι) (hO : ObjOf K C m O) (ho : Ev to σ H O) (ha : EvA t σ H [P1]) (hp : S.pre i) (he : S.args i = [O, P1, isI 1] := by rfl) : Ev (tMeth C m S.sp [.int 1] E to t) σ H (S.post i H) := fun H1 s Q q =>
  ho H1 s _ fun v H2 s2 po => by
    obtain ⟨a, dx, fs, e, h1, h2⟩ := hO.at_ po
    exact ⟨a, dx, fs, e, h1, h2, ha H2 (s.trans s2) _ fun vs H3 s3 ⟨v1, r1, e1, p1, e2⟩ => ⟨i, hp, by rw [he, e1, show r1 = [] from e2]; exact ⟨v, _, rfl, O.mo po s3, v1, _, rfl, p1, _, [], rfl, rfl, rfl⟩, fun u H4 s4 p => q u H4 ((s2.trans s3).trans s4) (S.an (fun a e => Same.free ((s.trans s2).trans s3) e) p)⟩⟩
/-! ### a kind of numbers -/
section
variable {F : Type} [Lean.Grind.Field F] [DecidableEq F]
/-- nought, one, minus one -/
def ofI (n : Int) : F := if n = 0 then 0 else if n = 1 then 1 else 0 - 1
theorem ofI0 : (ofI 0 : F) = 0 := rfl
theorem ofI1 : (ofI 1 : F) = 1 := rfl
theorem ofIm : (ofI (-1) : F) = 0 - 1 := rfl
/-- number(n), n one of these -/
def sNum (Sm : F → Prop) (rep : F → Pr) (obj : Pr) : Spc where
  ι := Int
  pre := fun n => n = 0 ∨ n = 1 ∨ n = -1
  args := fun n => [obj, isI n, isI 1]
  post := fun n _ => rep (ofI n)
  an := fun _ h => h
def s2 (Sm : F → Prop) (rep : F → Pr) (obj : Pr) (op : F → F → F) : Spc where
  ι := F × F
  pre := fun x => Sm (op x.1 x.2)
  args := fun x => [obj, rep x.1, rep x.2]
  post := fun x _ => rep (op x.1 x.2)
  an := fun _ h => h
def sBack (rep : F → Pr) (obj : Pr) : Spc where
  ι := F
  pre := fun x => x ≠ 0
  args := fun x => [obj, rep x]
  post := fun x _ => rep x⁻¹
  an := fun _ h => h
def sNou (rep : F → Pr) (obj : Pr) : Spc where
  ι := F
  pre := fun _ => True
  args := fun x => [obj, rep x]
  post := fun x _ => isB (decide (x = 0))
  an := fun _ h => h
/-- what the walk needs of a kind: the class at C -/
structure Kd (F : Type) [Lean.Grind.Field F] [DecidableEq F] (P : Program) (w : World) (K : PySem.W.Frag) (mg : Str → Option Value) (base : Heap) where
  C : Addr
  Sm : F → Prop
  rep : F → Pr
  obj : Pr
  cls : Cls K C
  rep_sm : ∀ {x v H}, (rep x).p v H → Sm x
  rep_sta : ∀ x d, Sta (rep x) d
  obj_sta : ∀ d, Sta obj d
  at_ : ∀ {m : Str}, m ∈ (["number", "plus", "times", "minus", "back", "is_nought"] : List Str) → ObjOf K C m obj
  sm0 : Sm 0
  sm1 : Sm 1
  sm_neg : ∀ {x}, Sm x → Sm (0 - x)
  sm_inv : ∀ {x}, Sm x → Sm x⁻¹
  m_number : Meth K C "number" (He.ma K C "number")
  m_plus : Meth K C "plus" (He.ma K C "plus")
  m_times : Meth K C "times" (He.ma K C "times")
  m_minus : Meth K C "minus" (He.ma K C "minus")
  m_back : Meth K C "back" (He.ma K C "back")
  m_nought : Meth K C "is_nought" (He.ma K C "is_nought")
  b_number : ∃ ds, Vals [.int 1] ds ∧ Binds K (fdAt K (He.ma K C "number")) ["self", "top", "bottom"] ds
  b_number0 : Binds K (fdAt K (He.ma K C "number")) ["self", "top", "bottom"] []
  b_plus : Binds K (fdAt K (He.ma K C "plus")) ["self", "one", "other"] []
  b_times : Binds K (fdAt K (He.ma K C "times")) ["self", "one", "other"] []
  b_minus : Binds K (fdAt K (He.ma K C "minus")) ["self", "one", "other"] []
  b_back : Binds K (fdAt K (He.ma K C "back")) ["self", "one"] []
  b_nought : Binds K (fdAt K (He.ma K C "is_nought")) ["self", "one"] []
  number : FnOk P w K mg base CX0 40 (He.ma K C "number") (fdAt K (He.ma K C "number")) ["self", "top", "bottom"] (sNum Sm rep obj).sp
  plus : FnOk P w K mg base CX0 40 (He.ma K C "plus") (fdAt K (He.ma K C "plus")) ["self", "one", "other"] (s2 Sm rep obj fun a b => a + b).sp
  times : FnOk P w K mg base CX0 40 (He.ma K C "times") (fdAt K (He.ma K C "times")) ["self", "one", "other"] (s2 Sm rep obj fun a b => a * b).sp
  minus : FnOk P w K mg base CX0 40 (He.ma K C "minus") (fdAt K (He.ma K C "minus")) ["self", "one", "other"] (s2 Sm rep obj fun a b => a - b).sp
  back : FnOk P w K mg base CX0 40 (He.ma K C "back") (fdAt K (He.ma K C "back")) ["self", "one"] (sBack rep obj).sp
  nought : FnOk P w K mg base CX0 40 (He.ma K C "is_nought") (fdAt K (He.ma K C "is_nought")) ["self", "one"] (sNou rep obj).sp
  dat : F → PyData
  dat_ok : ∀ {x v H}, (rep x).p v H → Dp K H v (dat x)
  dat_sh : ∀ x, (dat x).canLay0 = true ∧ (dat x).depth ≤ 8
  dat_eq : ∀ x y, PyData.eqv (dat x) (dat y) = decide (x = y)
variable (κ : Kd F P w K mg base)
/-- all of these are small -/
def Kd.Al (l : List F) : Prop := ∀ z ∈ l, κ.Sm z
/-- a list of numbers, a table -/
def Kd.L (G : Hp) (xs : List F) : Pr := LR κ.rep G xs
def Kd.T (G : Hp) (t : List (List F)) : Pr := LR (κ.L G) G t
theorem Kd.fam : Fam (fun (_ : Hp) (x : F) => κ.rep x) := ⟨fun _ h => h, fun _ => κ.rep_sta _ _⟩
theorem Kd.famL : Fam κ.L := ⟨fun g h => lr_low h g fun _ _ r => r, fun h => sta_L h fun x => κ.rep_sta x _⟩
theorem Kd.famT : Fam κ.T := ⟨fun g h => lr_low h g fun _ _ r => lr_low r g fun _ _ r => r, fun h => sta_L h fun x => sta_L h fun x => κ.rep_sta x _⟩
end
section
variable {F : Type} [Lean.Grind.Field F] [DecidableEq F] (κ : Kd F P w K mg base) {σ : L2.St} {H : Hp} {ta tb to te : TE} {E : XK} {x y : F}
theorem ev_num {n : Int} (hn : n = 0 ∨ n = 1 ∨ n = -1) (ho : Ev to σ H κ.obj) (ha : Ev ta σ H (isI n)) : Ev (tMeth κ.C "number" (sNum κ.Sm κ.rep κ.obj).sp [.int 1] E to (tCons ta tNil)) σ H (κ.rep (ofI n)) :=
  ev_meth1 (S := sNum κ.Sm κ.rep κ.obj) n (κ.at_ (by decide +kernel)) ho (ea_cons ha ea_nil) hn
theorem ev_num0 (ho : Ev to σ H κ.obj) : Ev (tMeth κ.C "number" (sNum κ.Sm κ.rep κ.obj).sp [.int 1] E to (tCons (tC (.int 0)) tNil)) σ H (κ.rep 0) := ev_num κ (.inl rfl) ho ev_int
theorem ev_num1 (ho : Ev to σ H κ.obj) : Ev (tMeth κ.C "number" (sNum κ.Sm κ.rep κ.obj).sp [.int 1] E to (tCons (tC (.int 1)) tNil)) σ H (κ.rep 1) := ev_num κ (.inr (.inl rfl)) ho ev_int
theorem ev_plus (ho : Ev to σ H κ.obj) (ha : Ev ta σ H (κ.rep x)) (hb : Ev tb σ H (κ.rep y)) (hs : κ.Sm (x + y)) : Ev (tMeth κ.C "plus" (s2 κ.Sm κ.rep κ.obj fun a b => a + b).sp [] E to (tCons ta (tCons tb tNil))) σ H (κ.rep (x + y)) :=
  ev_meth (S := s2 κ.Sm κ.rep κ.obj fun a b => a + b) (x, y) (κ.at_ (by decide +kernel)) ho (ea_cons ha (ea_cons hb ea_nil)) hs
theorem ev_times (ho : Ev to σ H κ.obj) (ha : Ev ta σ H (κ.rep x)) (hb : Ev tb σ H (κ.rep y)) (hs : κ.Sm (x * y)) : Ev (tMeth κ.C "times" (s2 κ.Sm κ.rep κ.obj fun a b => a * b).sp [] E to (tCons ta (tCons tb tNil))) σ H (κ.rep (x * y)) :=
  ev_meth (S := s2 κ.Sm κ.rep κ.obj fun a b => a * b) (x, y) (κ.at_ (by decide +kernel)) ho (ea_cons ha (ea_cons hb ea_nil)) hs
theorem ev_minus (ho : Ev to σ H κ.obj) (ha : Ev ta σ H (κ.rep x)) (hb : Ev tb σ H (κ.rep y)) (hs : κ.Sm (x - y)) : Ev (tMeth κ.C "minus" (s2 κ.Sm κ.rep κ.obj fun a b => a - b).sp [] E to (tCons ta (tCons tb tNil))) σ H (κ.rep (x - y)) :=
  ev_meth (S := s2 κ.Sm κ.rep κ.obj fun a b => a - b) (x, y) (κ.at_ (by decide +kernel)) ho (ea_cons ha (ea_cons hb ea_nil)) hs
theorem ev_back (ho : Ev to σ H κ.obj) (ha : Ev ta σ H (κ.rep x)) (hx : x ≠ 0) : Ev (tMeth κ.C "back" (sBack κ.rep κ.obj).sp [] E to (tCons ta tNil)) σ H (κ.rep x⁻¹) :=
  ev_meth (S := sBack κ.rep κ.obj) x (κ.at_ (by decide +kernel)) ho (ea_cons ha ea_nil) hx
theorem ev_nou (ho : Ev to σ H κ.obj) (ha : Ev ta σ H (κ.rep x)) : Ev (tMeth κ.C "is_nought" (sNou κ.rep κ.obj).sp [] E to (tCons ta tNil)) σ H (isB (decide (x = 0))) :=
  ev_meth (S := sNou κ.rep κ.obj) x (κ.at_ (by decide +kernel)) ho (ea_cons ha ea_nil) trivial
end
end
end Tf
set_option maxRecDepth 100000
set_option maxHeartbeats 4000000
namespace Tf
open PySem PySem.Spec PyProof.Rows L2
/-! ### places in a text -/
def stE : Stmt → Expr
  | .Return (some e) _ => e
  | .Assign _ e _ => e
  | .Expr e _ => e
  | .If c _ _ _ => c
  | .While c _ _ _ => c
  | .For _ e _ _ _ => e
  | _ => .Name "" ⟨0, 0, 0, 0⟩
def stB : Stmt → List Stmt
  | .If _ b _ _ => b
  | .While _ b _ _ => b
  | .For _ _ b _ _ => b
  | _ => []
def stO : Stmt → List Stmt
  | .If _ _ b _ => b
  | _ => []
def lcScope : Expr → Scope
  | .ListComp _ _ sc _ => sc
  | _ => ⟨.function, [], false, false, []⟩
/-- a block's names within a block of this scope -/
def relS (inner outer : Scope) : Scope := relabel inner { scope := outer, locals := 0, globals := 0, cells := [] }
def lcElt : Expr → Expr
  | .ListComp e _ _ _ => e
  | e => e
def lcIter : Expr → Expr
  | .ListComp _ (⟨_, it, _, _⟩ :: _) _ _ => it
  | e => e
def argE (i : Nat) : Expr → Expr
  | .Call _ es _ _ => es.getD i (.Name "" ⟨0, 0, 0, 0⟩)
  | e => e
def recvE : Expr → Expr
  | .Call (.Attribute e _ _) _ _ _ => e
  | e => e
def leftE : Expr → Expr
  | .BinOp a _ _ _ => a
  | .Compare a _ _ _ => a
  | e => e
def rightE : Expr → Expr
  | .BinOp _ _ b _ => b
  | .Compare _ _ (b :: _) _ => b
  | e => e
def eltE (i : Nat) : Expr → Expr
  | .Tuple es _ _ => es.getD i (.Name "" ⟨0, 0, 0, 0⟩)
  | .List es _ => es.getD i (.Name "" ⟨0, 0, 0, 0⟩)
  | e => e
def subE : Expr → Expr
  | .Subscript a _ _ => a
  | e => e
def valE (i : Nat) : Expr → Expr
  | .BoolOp _ es _ => es.getD i (.Name "" ⟨0, 0, 0, 0⟩)
  | e => e
/-! ### rules whose reading names the written part as it stands -/
section
variable {X : Cx} (K : PySem.W.Frag) {l e a b : Expr} {tl ta tb : TE} {t : TA} {tg : Expr} {p pos : Pos} {elts : List Expr} {kk : Nat} {tpos : Pos}
theorem ixL (h : X.K = K := by rfl) : IxR X (rIxL K) := by subst h; exact ix_list
theorem ixT (h : X.K = K := by rfl) : IxR X (rIxT K) := by subst h; exact ix_tup
theorem slL (h : X.K = K := by rfl) : SlR X (rSlL K) := by subst h; exact sl_list
theorem lenK (h : X.K = K := by rfl) : CallR X (.builtin "len") (fun xs H Q => ∃ p ys, xs = [.ref p] ∧ (SqL K H p ys ∨ SqT K H p ys) ∧ Q (.int ys.length) H) := by subst h; exact call_len_seq
theorem listK (h : X.K = K := by rfl) : CallR X (.type "list") (fun xs H Q => ∃ p ys, xs = [.ref p] ∧ (SqL K H p ys ∨ SqT K H p ys) ∧ ∀ l, H l = none → Q (.ref l) (upd H l (.lst ys))) := by subst h; exact call_list_of
theorem allK (hc : X.calm = true) (h : X.K = K := by rfl) : CallR X (.builtin "all") (rAll K) := by subst h; exact cr_all hc
theorem sumK (hc : X.calm = true) (h : X.K = K := by rfl) : CallR X (.builtin "sum") (rSum K) := by subst h; exact cr_sum hc
theorem notInK (h : X.K = K := by rfl) : OpR X (compareOp .NotIn) (rIn K true) := by subst h; exact op_notIn_seq
theorem eqDK (hu : X.A.units + 64 < cLine) (h : X.K = K := by rfl) : OpR X (compareOp .Eq) (rEqD K) := by subst h; exact op_eqD hu
theorem neDK (hu : X.A.units + 64 < cLine) (h : X.K = K := by rfl) : OpR X (compareOp .NotEq) (rNeD K) := by subst h; exact op_neD hu
theorem isiK (h : X.K = K := by rfl) : CallR X (.builtin "isinstance") (rIsi K) := by subst h; exact call_isi
theorem pi_listK (h : X.K = K := by rfl) (hl : PE X l tl) : PI X tg l (iList K tl) := by subst h; exact pi_list hl
theorem pg_tupK {n : Nat} {gs : TGs} (h : X.K = K := by rfl) (hp : PG X e (gTup X.K n gs)) : PG X e (gTup K n gs) := by subst h; exact hp
theorem pi_zipK (h : X.K = K := by rfl) (hp : PI X tg e (iZip X.K t)) : PI X tg e (iZip K t) := by subst h; exact hp
theorem pi_enumK (h : X.K = K := by rfl) (hp : PI X tg e (iEnum X.K t)) : PI X tg e (iEnum K t) := by subst h; exact hp
theorem pi_revK (h : X.K = K := by rfl) (hp : PI X tg e (iRev X.K t)) : PI X tg e (iRev K t) := by subst h; exact hp
end
section
variable {K : PySem.W.Frag} {σ : L2.St} {H H' : Hp} {ta : TA} {tl te : TE} {D : Ends} {tu : TS} {g : TG} {α β : Type} {R : α → Pr} {R' : β → Pr} {G G' : Hp} {xs : List α} {ys : List β}
/-- for x in xs -/
theorem s_forL (h : Ev tl σ H (LR R G xs)) (Pv : Hp → Nat → L2.St → Hp → Prop) (h0 : ∀ H1, Same H H1 → Pv H1 0 σ H1) (hm : ∀ H1 i σ' H', Same H H1 → Pv H1 i σ' H' → Same H1 H')
    (hs : ∀ H1 i x u σ' H', Same H H1 → xs[i]? = some x → Pv H1 i σ' H' → (R x).p u H' → g u σ' H' fun σ2 H2 => tu { D with nx := Pv H1 (i + 1), ct := Pv H1 (i + 1), bk := D.nx } σ2 H2) (hd : ∀ H1 σ' H', Same H H1 → Pv H1 xs.length σ' H' → D.nx σ' H') : tFor (iList K tl) g tu D σ H :=
  h H (Same.refl H) _ fun v H1 s1 ⟨a, vs, e, g0, ha, hp⟩ => ⟨a, e, ⟨vs, SqL.of ha⟩, by
    refine for_list (xs := vs) (Pv H1) (h0 H1 s1) (fun i σ' H' _ p => SqL.of (hm H1 i σ' H' s1 p _ _ ha)) (fun i u σ' H' hi p => ?_) (fun σ' H' p => hd H1 σ' H' s1 (by rw [paired_len hp]; exact p))
    obtain ⟨x, hx, r⟩ := paired_get2 hp hi
    exact hs H1 i x u σ' H' s1 hx p ((R x).mo r (hm H1 i σ' H' s1 p))⟩
/-- for x in reversed(xs) -/
theorem s_forV (h : EvA ta σ H [LR R G xs]) (Pv : Hp → Nat → L2.St → Hp → Prop) (h0 : ∀ H1, Same H H1 → Pv H1 0 σ H1) (hm : ∀ H1 i σ' H', Same H H1 → Pv H1 i σ' H' → Same H1 H')
    (hs : ∀ H1 i x u σ' H', Same H H1 → i < xs.length → xs[xs.length - 1 - i]? = some x → Pv H1 i σ' H' → (R x).p u H' → g u σ' H' fun σ2 H2 => tu { D with nx := Pv H1 (i + 1), ct := Pv H1 (i + 1), bk := D.nx } σ2 H2) (hd : ∀ H1 σ' H', Same H H1 → Pv H1 xs.length σ' H' → D.nx σ' H') : tFor (iRev K ta) g tu D σ H :=
  h H (Same.refl H) _ fun us H1 s1 ⟨v, r, e1, ⟨a, vs, e, g0, ha, hp⟩, e2⟩ => ⟨a, vs, by rw [e1, e, show r = [] from e2], SqL.of ha, by
    refine for_it (walk_rev (K := K) (a := a) (xs := vs)) (Pv H1) (h0 H1 s1) (fun i σ' H' _ p => SqL.of (hm H1 i σ' H' s1 p _ _ ha)) (fun i u σ' H' H'' hi p y => ?_) (fun σ' H' p => hd H1 σ' H' s1 (by rw [paired_len hp]; exact p))
    obtain ⟨y1, y2⟩ := y
    subst y1
    rw [← paired_len hp] at hi y2
    obtain ⟨x, hx, r⟩ := paired_get2 hp y2
    exact hs H1 i x u σ' _ s1 hi hx p ((R x).mo r (hm H1 i σ' _ s1 p))⟩
/-- for x, y in zip(xs, ys), of one length -/
theorem s_forZ {i1 j1 : Nat} (h : EvA ta σ H [LR R G xs, LR R' G' ys]) (hl : xs.length = ys.length) (Pv : Hp → Nat → L2.St → Hp → Prop) (h0 : ∀ H1, Same H H1 → Pv H1 0 σ H1) (hm : ∀ H1 i σ' H', Same H H1 → Pv H1 i σ' H' → Same H1 H')
    (hs : ∀ H1 i x y u v σ' H' H2, Same H H1 → xs[i]? = some x → ys[i]? = some y → Pv H1 i σ' H' → Same H' H2 → (R x).p u H2 → (R' y).p v H2 → tu { D with nx := Pv H1 (i + 1), ct := Pv H1 (i + 1), bk := D.nx } ((σ'.set i1 (some u)).set j1 (some v)) H2)
    (hd : ∀ H1 σ' H', Same H H1 → Pv H1 xs.length σ' H' → D.nx σ' H') : tFor (iZip K ta) (gTup K 2 (gCons (gName i1) (gCons (gName j1) gNil))) tu D σ H :=
  h H (Same.refl H) _ fun us H1 s1 ⟨v, r, e1, ⟨a, vs, e, g0, ha, hp⟩, v2, r2, e2, ⟨b, ws, e', g0', hb, hq⟩, e3⟩ => ⟨a, b, vs, ws, by rw [e1, e, e2, e', show r2 = [] from e3], SqL.of ha, SqL.of hb, by
    have l1 := paired_len hp
    have l2 := paired_len hq
    refine for_it (walk_zip (K := K) (a := a) (b := b) (xs := vs) (ys := ws) (n := vs.length) (by omega)) (Pv H1) (h0 H1 s1) (fun i σ' H' _ p => ⟨SqL.of (hm H1 i σ' H' s1 p _ _ ha), SqL.of (hm H1 i σ' H' s1 p _ _ hb)⟩) (fun i z σ' H' H'' hi p y => ?_) (fun σ' H' p => hd H1 σ' H' s1 (by rw [l1]; exact p))
    obtain ⟨T, x', y', e4, hT, e5, y1, y2⟩ := y
    subst e4 e5
    obtain ⟨x, hx, rx⟩ := paired_get2 hp y1
    obtain ⟨y, hy, ry⟩ := paired_get2 hq y2
    have s2 : Same H' (upd H' T (.tup [x', y'])) := same_new hT
    have s3 := (hm H1 i σ' H' s1 p).trans s2
    exact ⟨T, [x', y'], rfl, SqT.of upd_same, rfl, x', [y'], rfl, y', [], rfl, rfl, hs H1 i x y x' y' σ' H' _ s1 hx hy p s2 ((R x).mo rx s3) ((R' y).mo ry s3)⟩⟩
/-- for i, x in enumerate(xs), xs a list that stands -/
theorem s_forE {i1 j1 : Nat} {a : Addr} {vs : List V} (h : EvA ta σ H [isV (.ref a)]) (ha : H a = some (.lst vs)) (hp : Paired (fun x u => (R x).p u H) xs vs) (Pv : Hp → Nat → L2.St → Hp → Prop) (h0 : ∀ H1, Same H H1 → Pv H1 0 σ H1) (hm : ∀ H1 i σ' H', Same H H1 → Pv H1 i σ' H' → H' a = some (.lst vs))
    (hs : ∀ H1 i x u σ' H' H2, Same H H1 → xs[i]? = some x → (R x).p u H → Pv H1 i σ' H' → Same H' H2 → tu { D with nx := Pv H1 (i + 1), ct := Pv H1 (i + 1), bk := D.nx } ((σ'.set i1 (some (.int (i : Nat)))).set j1 (some u)) H2)
    (hd : ∀ H1 σ' H', Same H H1 → Pv H1 xs.length σ' H' → D.nx σ' H') : tFor (iEnum K ta) (gTup K 2 (gCons (gName i1) (gCons (gName j1) gNil))) tu D σ H :=
  h H (Same.refl H) _ fun us H1 s1 ⟨v, r, e1, e, e3⟩ => by
    refine ⟨a, vs, by rw [e1, show v = _ from e, show r = [] from e3], SqL.of (s1 _ _ ha), ?_⟩
    have l1 := paired_len hp
    refine for_it (walk_enum (K := K) (a := a) (xs := vs)) (Pv H1) (h0 H1 s1) (fun i σ' H' _ p => SqL.of (hm H1 i σ' H' s1 p)) (fun i z σ' H' H'' hi p y => ?_) (fun σ' H' p => hd H1 σ' H' s1 (by rw [l1]; exact p))
    obtain ⟨T, x', y', e4, hT, e5, y1, y2⟩ := y
    subst e4 e5
    have e6 : V.int (i : Nat) = x' := Option.some.inj y1
    subst e6
    obtain ⟨x, hx, rx⟩ := paired_get2 hp y2
    have s2 : Same H' (upd H' T (.tup [V.int (i : Nat), y'])) := same_new hT
    exact ⟨T, [V.int (i : Nat), y'], rfl, SqT.of upd_same, rfl, _, [y'], rfl, y', [], rfl, rfl, hs H1 i x y' σ' H' _ s1 hx rx p s2⟩
/-- [e for x, y in zip(xs, ys)], of one length -/
theorem ev_lcZ {γ : Type} {Rn : Hp → γ → Pr} (hF : Fam Rn) {i1 j1 : Nat} {vs0 : List Nat} (f : α → β → γ) (h : EvA ta σ H [LR R G xs, LR R' G' ys]) (hl : xs.length = ys.length) (hn : xs.length ≤ 1000) (hw : ∀ x y, wipe (((wipe σ vs0).set i1 (some x)).set j1 (some y)) vs0 = wipe σ vs0)
    (he : ∀ (i : Nat) x y u v H1, Same H H1 → xs[i]? = some x → ys[i]? = some y → (R x).p u H1 → (R' y).p v H1 → Ev te (((wipe σ vs0).set i1 (some u)).set j1 (some v)) H1 (Rn H1 (f x y))) :
    Ev (tLc (iZip K ta) (gTup K 2 (gCons (gName i1) (gCons (gName j1) gNil))) tYes te vs0) σ H (LR (Rn H) H (List.zipWith f xs ys)) := fun H0 s0 Q q =>
  h H0 s0 _ fun us H1 s1 ⟨v, r, e1, ⟨a, vs, e, g0, ha, hp⟩, v2, r2, e2, ⟨b, ws, e', g0', hb, hq⟩, e3⟩ => ⟨a, b, vs, ws, by rw [e1, e, e2, e', show r2 = [] from e3], SqL.of ha, SqL.of hb, fun Dl hD => by
    have l1 := paired_len hp
    have l2 := paired_len hq
    have lz : (List.zipWith f xs ys).length = vs.length := by rw [List.length_zipWith]; omega
    refine lc_it (walk_zip (K := K) (a := a) (b := b) (xs := vs) (ys := ws) (n := vs.length) (by omega)) (fun i H' => Cw Rn H Dl ((List.zipWith f xs ys).take i) H' ∧ Same H1 H') ⟨by rw [List.take_zero]; exact cw0 (s0.trans s1) hD, same_new hD⟩
      (fun i H' _ p => ⟨SqL.of (p.2 _ _ ha), SqL.of (p.2 _ _ hb)⟩) (fun i z H' H'' hi p y => ?_) (fun H' p => ?_)
    · obtain ⟨p, sp⟩ := p
      obtain ⟨T, x', y', e4, hT, e5, y1, y2⟩ := y
      subst e4 e5
      obtain ⟨x, hx, rx⟩ := paired_get2 hp y1
      obtain ⟨y, hy, ry⟩ := paired_get2 hq y2
      have s2 : Same H' (upd H' T (.tup [x', y'])) := same_new hT
      refine ⟨T, [x', y'], rfl, SqT.of upd_same, rfl, x', [y'], rfl, y', [], rfl, rfl, hw x' y', ?_⟩
      have sx := sp.trans s2
      refine he i x y x' y' _ ((s0.trans s1).trans sx) hx hy ((R x).mo rx sx) ((R' y).mo ry sx) _ (Same.refl _) (fun y H4 => ∃ acc, H4 Dl = some (.lst acc) ∧ acc.length < sizeLine ∧ (Cw Rn H Dl ((List.zipWith f xs ys).take (i + 1)) (upd H4 Dl (.lst (acc ++ [y]))) ∧ Same H1 (upd H4 Dl (.lst (acc ++ [y]))))) fun w H4 s4 pv => ?_
      have p3 : Cw Rn H Dl ((List.zipWith f xs ys).take i) (upd H' T (.tup [x', y'])) := ⟨p.1, p.2.1.trans s2, by
        obtain ⟨us, w1, w2⟩ := p.2.2
        exact ⟨us, s2 _ _ w1, Paired.mapP w2 fun z u r => (Rn _ z).mo r s2⟩⟩
      obtain ⟨acc, a1, a2, a3⟩ := cw_put hF p3 s4 pv
      refine ⟨acc, a1, by rw [a2, List.length_take]; exact small1000 (by omega), ?_, same_mut (sx.trans s4) hD⟩
      have hz : (List.zipWith f xs ys)[i]? = some (f x y) := by rw [List.getElem?_zipWith, hx, hy]
      rw [List.take_succ, hz]
      exact a3
    · have e : (List.zipWith f xs ys).take vs.length = List.zipWith f xs ys := List.take_of_length_le (by omega)
      rw [e] at p
      exact q _ H' (s1.trans p.2) (cw_end hF p.1)⟩
/-- [e for x in xs], xs made on the way -/
theorem ev_lcN {Rn : Hp → β → Pr} (hF : Fam Rn) {j : Nat} {vs0 : List Nat} (f : α → β) (h : Ev tl σ H (LR R G xs)) (hn : xs.length ≤ 1000) (hw : ∀ x, wipe ((wipe σ vs0).set j (some x)) vs0 = wipe σ vs0)
    (he : ∀ (i : Nat) (x : α) (u : V) H1, Same H H1 → xs[i]? = some x → (R x).p u H1 → Ev te ((wipe σ vs0).set j (some u)) H1 (Rn H1 (f x))) : Ev (tLc (iList K tl) (gName j) tYes te vs0) σ H (LR (Rn H) H (xs.map f)) := fun H0 s0 Q q =>
  h H0 s0 _ fun v H1 s1 ⟨a, vs, e, g0, ha, hp⟩ => ⟨a, e, ⟨vs, SqL.of ha⟩, fun Dl hD => by
    have l1 := paired_len hp
    refine lc_it (walk_list (K := K) (a := a) (xs := vs)) (fun i H' => Cw Rn H Dl ((xs.map f).take i) H' ∧ Same H1 H') ⟨by rw [List.take_zero]; exact cw0 (s0.trans s1) hD, same_new hD⟩
      (fun i H' _ p => SqL.of (p.2 _ _ ha)) (fun i z H' H'' hi p y => ?_) (fun H' p => ?_)
    · obtain ⟨p, sp⟩ := p
      obtain ⟨y1, y2⟩ := y
      subst y1
      obtain ⟨x, hx, rx⟩ := paired_get2 hp y2
      refine ⟨hw z, ?_⟩
      refine he i x z _ ((s0.trans s1).trans sp) hx ((R x).mo rx sp) _ (Same.refl _) (fun y H4 => ∃ acc, H4 Dl = some (.lst acc) ∧ acc.length < sizeLine ∧ (Cw Rn H Dl ((xs.map f).take (i + 1)) (upd H4 Dl (.lst (acc ++ [y]))) ∧ Same H1 (upd H4 Dl (.lst (acc ++ [y]))))) fun w H4 s4 pv => ?_
      obtain ⟨acc, a1, a2, a3⟩ := cw_put hF p s4 pv
      refine ⟨acc, a1, by rw [a2, List.length_take, List.length_map]; exact small1000 (by omega), ?_, same_mut (sp.trans s4) hD⟩
      have hz : (xs.map f)[i]? = some (f x) := by rw [List.getElem?_map, hx]; rfl
      rw [List.take_succ, hz]
      exact a3
    · have e : (xs.map f).take vs.length = xs.map f := List.take_of_length_le (by rw [List.length_map]; omega)
      rw [e] at p
      exact q _ H' (s1.trans p.2) (cw_end hF p.1)⟩
end
end Tf
set_option maxRecDepth 100000
set_option maxHeartbeats 4000000
namespace Tf
open PySem PySem.Spec PyProof.Rows L2
theorem sc_is_square : FnScope ["table"] ["table"] (defScope s_is_square) := ⟨rfl, rfl, rfl, by decide +kernel, rfl, by decide +kernel, by decide +kernel⟩
theorem sc_unit : FnScope ["kind", "size", "i", "j"] ["kind", "size"] (defScope s_unit) := ⟨rfl, rfl, rfl, by decide +kernel, rfl, by decide +kernel, by decide +kernel⟩
theorem sc_turned : FnScope ["table", "j", "row"] ["table"] (defScope s_turned) := ⟨rfl, rfl, rfl, by decide +kernel, rfl, by decide +kernel, by decide +kernel⟩
theorem sc_dot : FnScope ["kind", "row", "column", "found", "x", "y"] ["kind", "row", "column"] (defScope s_dot) := ⟨rfl, rfl, rfl, by decide +kernel, rfl, by decide +kernel, by decide +kernel⟩
theorem sc_image : FnScope ["kind", "table", "column", "row"] ["kind", "table", "column"] (defScope s_image) := ⟨rfl, rfl, rfl, by decide +kernel, rfl, by decide +kernel, by decide +kernel⟩
theorem sc_is_whole : FnScope ["thing"] ["thing"] (defScope s_is_whole) := ⟨rfl, rfl, rfl, by decide +kernel, rfl, by decide +kernel, by decide +kernel⟩
theorem sc_divisor : FnScope ["one", "other"] ["one", "other"] (defScope s_divisor) := ⟨rfl, rfl, rfl, by decide +kernel, rfl, by decide +kernel, by decide +kernel⟩
theorem sc_shares : FnScope ["one", "other", "d", "u", "v", "rest", "low", "high", "times"] ["one", "other"] (defScope s_shares) := ⟨rfl, rfl, rfl, by decide +kernel, rfl, by decide +kernel, by decide +kernel⟩
theorem sc_is_prime : FnScope ["number", "by"] ["number"] (defScope s_is_prime) := ⟨rfl, rfl, rfl, by decide +kernel, rfl, by decide +kernel, by decide +kernel⟩
theorem sc_Kind_minus : FnScope ["self", "one", "other"] ["self", "one", "other"] (defScope s_Kind_minus) := ⟨rfl, rfl, rfl, by decide +kernel, rfl, by decide +kernel, by decide +kernel⟩
theorem sc_Kind_is_nought : FnScope ["self", "one"] ["self", "one"] (defScope s_Kind_is_nought) := ⟨rfl, rfl, rfl, by decide +kernel, rfl, by decide +kernel, by decide +kernel⟩
theorem sc_Fractions_number : FnScope ["self", "top", "bottom", "by"] ["self", "top", "bottom"] (defScope s_Fractions_number) := ⟨rfl, rfl, rfl, by decide +kernel, rfl, by decide +kernel, by decide +kernel⟩
theorem sc_Fractions_plus : FnScope ["self", "one", "other"] ["self", "one", "other"] (defScope s_Fractions_plus) := ⟨rfl, rfl, rfl, by decide +kernel, rfl, by decide +kernel, by decide +kernel⟩
theorem sc_Fractions_times : FnScope ["self", "one", "other"] ["self", "one", "other"] (defScope s_Fractions_times) := ⟨rfl, rfl, rfl, by decide +kernel, rfl, by decide +kernel, by decide +kernel⟩
theorem sc_Fractions_back : FnScope ["self", "one"] ["self", "one"] (defScope s_Fractions_back) := ⟨rfl, rfl, rfl, by decide +kernel, rfl, by decide +kernel, by decide +kernel⟩
theorem sc_Rests_init : FnScope ["self", "prime"] ["self", "prime"] (defScope s_Rests_init) := ⟨rfl, rfl, rfl, by decide +kernel, rfl, by decide +kernel, by decide +kernel⟩
theorem sc_Rests_number : FnScope ["self", "top", "bottom"] ["self", "top", "bottom"] (defScope s_Rests_number) := ⟨rfl, rfl, rfl, by decide +kernel, rfl, by decide +kernel, by decide +kernel⟩
theorem sc_Rests_plus : FnScope ["self", "one", "other"] ["self", "one", "other"] (defScope s_Rests_plus) := ⟨rfl, rfl, rfl, by decide +kernel, rfl, by decide +kernel, by decide +kernel⟩
theorem sc_Rests_times : FnScope ["self", "one", "other"] ["self", "one", "other"] (defScope s_Rests_times) := ⟨rfl, rfl, rfl, by decide +kernel, rfl, by decide +kernel, by decide +kernel⟩
theorem sc_Rests_back : FnScope ["self", "one"] ["self", "one"] (defScope s_Rests_back) := ⟨rfl, rfl, rfl, by decide +kernel, rfl, by decide +kernel, by decide +kernel⟩
theorem sc_trimmed : FnScope ["kind", "numbers", "size"] ["kind", "numbers"] (defScope s_trimmed) := ⟨rfl, rfl, rfl, by decide +kernel, rfl, by decide +kernel, by decide +kernel⟩
theorem sc_plus_poly : FnScope ["kind", "f", "g", "told", "k"] ["kind", "f", "g"] (defScope s_plus_poly) := ⟨rfl, rfl, rfl, by decide +kernel, rfl, by decide +kernel, by decide +kernel⟩
theorem sc_times_poly : FnScope ["kind", "f", "g", "told", "k", "i", "j"] ["kind", "f", "g"] (defScope s_times_poly) := ⟨rfl, rfl, rfl, by decide +kernel, rfl, by decide +kernel, by decide +kernel⟩
theorem sc_Polys_init : FnScope ["self", "under"] ["self", "under"] (defScope s_Polys_init) := ⟨rfl, rfl, rfl, by decide +kernel, rfl, by decide +kernel, by decide +kernel⟩
theorem sc_Polys_number : FnScope ["self", "top", "bottom"] ["self", "top", "bottom"] (defScope s_Polys_number) := ⟨rfl, rfl, rfl, by decide +kernel, rfl, by decide +kernel, by decide +kernel⟩
theorem sc_Polys_plus : FnScope ["self", "one", "other"] ["self", "one", "other"] (defScope s_Polys_plus) := ⟨rfl, rfl, rfl, by decide +kernel, rfl, by decide +kernel, by decide +kernel⟩
theorem sc_Polys_times : FnScope ["self", "one", "other"] ["self", "one", "other"] (defScope s_Polys_times) := ⟨rfl, rfl, rfl, by decide +kernel, rfl, by decide +kernel, by decide +kernel⟩
theorem sc_divided : FnScope ["kind", "f", "g", "by", "rest", "quotient", "number", "at", "k"] ["kind", "f", "g"] (defScope s_divided) := ⟨rfl, rfl, rfl, by decide +kernel, rfl, by decide +kernel, by decide +kernel⟩
theorem sc_common : FnScope ["kind", "f", "g", "polys", "d", "u", "v", "rest", "low", "high", "quotient", "left", "by"] ["kind", "f", "g"] (defScope s_common) := ⟨rfl, rfl, rfl, by decide +kernel, rfl, by decide +kernel, by decide +kernel⟩
theorem sc_is_turn : FnScope ["kind", "size", "turn"] ["kind", "size", "turn"] (defScope s_is_turn) := ⟨rfl, rfl, rfl, by decide +kernel, rfl, by decide +kernel, by decide +kernel⟩
theorem sc_rows_behind : FnScope ["kind", "rows", "turn", "found", "at", "x", "y"] ["kind", "rows", "turn"] (defScope s_rows_behind) := ⟨rfl, rfl, rfl, by decide +kernel, rfl, by decide +kernel, by decide +kernel⟩
theorem sc_done : FnScope ["kind", "table", "turns", "rows", "row", "turn"] ["kind", "table", "turns"] (defScope s_done) := ⟨rfl, rfl, rfl, by decide +kernel, rfl, by decide +kernel, by decide +kernel⟩
theorem sc_first_low : FnScope ["kind", "rows", "start", "column", "i"] ["kind", "rows", "start", "column"] (defScope s_first_low) := ⟨rfl, rfl, rfl, by decide +kernel, rfl, by decide +kernel, by decide +kernel⟩
theorem sc_lead_turns : FnScope ["kind", "rows", "at", "low", "column", "scale"] ["kind", "rows", "at", "low", "column"] (defScope s_lead_turns) := ⟨rfl, rfl, rfl, by decide +kernel, rfl, by decide +kernel, by decide +kernel⟩
theorem sc_clear_turns : FnScope ["kind", "rows", "at", "column", "turns", "i"] ["kind", "rows", "at", "column"] (defScope s_clear_turns) := ⟨rfl, rfl, rfl, by decide +kernel, rfl, by decide +kernel, by decide +kernel⟩
theorem sc_steps : FnScope ["kind", "table", "rows", "row", "turns", "leads", "column", "at", "low", "more"] ["kind", "table"] (defScope s_steps) := ⟨rfl, rfl, rfl, by decide +kernel, rfl, by decide +kernel, by decide +kernel⟩
theorem sc_kernel_column : FnScope ["kind", "reduced", "leads", "free", "column", "j", "at", "lead"] ["kind", "reduced", "leads", "free"] (defScope s_kernel_column) := ⟨rfl, rfl, rfl, by decide +kernel, rfl, by decide +kernel, by decide +kernel⟩
theorem sc_kernel : FnScope ["kind", "table", "reduced", "turns", "leads", "j"] ["kind", "table"] (defScope s_kernel) := ⟨rfl, rfl, rfl, by decide +kernel, rfl, by decide +kernel, by decide +kernel⟩
theorem sc_inverse : FnScope ["kind", "table", "reduced", "turns", "leads"] ["kind", "table"] (defScope s_inverse) := ⟨rfl, rfl, rfl, by decide +kernel, rfl, by decide +kernel, by decide +kernel⟩
theorem sc_shown_never : FnScope ["kind", "table", "turns", "right", "at", "way", "by", "x"] ["kind", "table", "turns", "right", "at"] (defScope s_shown_never) := ⟨rfl, rfl, rfl, by decide +kernel, rfl, by decide +kernel, by decide +kernel⟩
theorem sc_solved : FnScope ["kind", "table", "column", "reduced", "turns", "leads", "right", "x", "at", "found", "j", "lead"] ["kind", "table", "column"] (defScope s_solved) := ⟨rfl, rfl, rfl, by decide +kernel, rfl, by decide +kernel, by decide +kernel⟩
theorem sc_least_of : FnScope ["kind", "table", "column", "nought", "number", "columns", "last", "word", "found"] ["kind", "table", "column"] (defScope s_least_of) := ⟨rfl, rfl, rfl, by decide +kernel, rfl, by decide +kernel, by decide +kernel⟩
theorem sc_at_column : FnScope ["kind", "f", "table", "column", "told", "number", "k"] ["kind", "f", "table", "column"] (defScope s_at_column) := ⟨rfl, rfl, rfl, by decide +kernel, rfl, by decide +kernel, by decide +kernel⟩
theorem sc_parted : FnScope ["kind", "f", "g", "rest", "whole", "one", "part"] ["kind", "f", "g"] (defScope s_parted) := ⟨rfl, rfl, rfl, by decide +kernel, rfl, by decide +kernel, by decide +kernel⟩
theorem sc_joined : FnScope ["kind", "table", "first", "second", "f", "g", "left", "right", "k"] ["kind", "table", "first", "second"] (defScope s_joined) := ⟨rfl, rfl, rfl, by decide +kernel, rfl, by decide +kernel, by decide +kernel⟩
theorem sc_least : FnScope ["kind", "table", "size", "told", "k", "column"] ["kind", "table"] (defScope s_least) := ⟨rfl, rfl, rfl, by decide +kernel, rfl, by decide +kernel, by decide +kernel⟩
theorem sc_chained : FnScope ["kind", "table", "column", "size", "columns"] ["kind", "table", "column", "size"] (defScope s_chained) := ⟨rfl, rfl, rfl, by decide +kernel, rfl, by decide +kernel, by decide +kernel⟩
theorem sc_beside : FnScope ["kind", "table", "columns", "wanted", "k", "row"] ["kind", "table", "columns"] (defScope s_beside) := ⟨rfl, rfl, rfl, by decide +kernel, rfl, by decide +kernel, by decide +kernel⟩
theorem sc_within : FnScope ["kind", "table", "columns", "across", "column"] ["kind", "table", "columns"] (defScope s_within) := ⟨rfl, rfl, rfl, by decide +kernel, rfl, by decide +kernel, by decide +kernel⟩
theorem sc_parts : FnScope ["kind", "table", "f", "column", "columns", "more", "chain", "others", "across", "other"] ["kind", "table"] (defScope s_parts) := ⟨rfl, rfl, rfl, by decide +kernel, rfl, by decide +kernel, by decide +kernel⟩
theorem sc_frame : FnScope ["kind", "table", "chain", "columns", "turn"] ["kind", "table"] (defScope s_frame) := ⟨rfl, rfl, rfl, by decide +kernel, rfl, by decide +kernel, by decide +kernel⟩
theorem sc_L_whole : FnScope ["_law_found"] ["_law_found"] (defScope s_L_whole) := ⟨rfl, rfl, rfl, by decide +kernel, rfl, by decide +kernel, by decide +kernel⟩
theorem sc_L_divisor : FnScope ["_law_one", "_law_other"] ["_law_one", "_law_other"] (defScope s_L_divisor) := ⟨rfl, rfl, rfl, by decide +kernel, rfl, by decide +kernel, by decide +kernel⟩
theorem sc_L_is_prime : FnScope ["_law_number", "_law_by"] ["_law_number"] (defScope s_L_is_prime) := ⟨rfl, rfl, rfl, by decide +kernel, rfl, by decide +kernel, by decide +kernel⟩
theorem sc_L_prime : FnScope ["_law_number"] ["_law_number"] (defScope s_L_prime) := ⟨rfl, rfl, rfl, by decide +kernel, rfl, by decide +kernel, by decide +kernel⟩
theorem sc_L_prime_by : FnScope ["_law_cell"] ["_law_cell"] (defScope s_L_prime_by) := ⟨rfl, rfl, rfl, by decide +kernel, rfl, by decide +kernel, by decide +kernel⟩
theorem sc_L_kind : FnScope ["_law_prime_here"] ["_law_prime_here"] (defScope s_L_kind) := ⟨rfl, rfl, rfl, by decide +kernel, rfl, by decide +kernel, by decide +kernel⟩
theorem sc_L_fraction : FnScope ["_law_top", "_law_bottom", "_law_by"] ["_law_top", "_law_bottom"] (defScope s_L_fraction) := ⟨rfl, rfl, rfl, by decide +kernel, rfl, by decide +kernel, by decide +kernel⟩
theorem sc_L_make : FnScope ["_law_prime_here", "_law_number"] ["_law_prime_here", "_law_number"] (defScope s_L_make) := ⟨rfl, rfl, rfl, by decide +kernel, rfl, by decide +kernel, by decide +kernel⟩
theorem sc_L_plus : FnScope ["_law_prime_here", "_law_one", "_law_other"] ["_law_prime_here", "_law_one", "_law_other"] (defScope s_L_plus) := ⟨rfl, rfl, rfl, by decide +kernel, rfl, by decide +kernel, by decide +kernel⟩
theorem sc_L_times : FnScope ["_law_prime_here", "_law_one", "_law_other"] ["_law_prime_here", "_law_one", "_law_other"] (defScope s_L_times) := ⟨rfl, rfl, rfl, by decide +kernel, rfl, by decide +kernel, by decide +kernel⟩
theorem sc_L_minus : FnScope ["_law_prime_here", "_law_one", "_law_other"] ["_law_prime_here", "_law_one", "_law_other"] (defScope s_L_minus) := ⟨rfl, rfl, rfl, by decide +kernel, rfl, by decide +kernel, by decide +kernel⟩
theorem sc_L_is_number : FnScope ["_law_prime_here", "_law_found"] ["_law_prime_here", "_law_found"] (defScope s_L_is_number) := ⟨rfl, rfl, rfl, by decide +kernel, rfl, by decide +kernel, by decide +kernel⟩
theorem sc_L_drawn : FnScope ["_law_prime_here", "_law_number"] ["_law_prime_here", "_law_number"] (defScope s_L_drawn) := ⟨rfl, rfl, rfl, by decide +kernel, rfl, by decide +kernel, by decide +kernel⟩
theorem sc_L_cut : FnScope ["_law_prime_here", "_law_numbers"] ["_law_prime_here", "_law_numbers"] (defScope s_L_cut) := ⟨rfl, rfl, rfl, by decide +kernel, rfl, by decide +kernel, by decide +kernel⟩
theorem sc_L_rest_by : FnScope ["_law_prime_here", "_law_f", "_law_monic", "_law_rest", "_law_by", "_law_at", "_law_k"] ["_law_prime_here", "_law_f", "_law_monic"] (defScope s_L_rest_by) := ⟨rfl, rfl, rfl, by decide +kernel, rfl, by decide +kernel, by decide +kernel⟩
theorem sc_L_blocks : FnScope ["_law_prime_here", "_law_chain", "_law_size_here", "_law_f", "_law_told", "_law_i", "_law_j", "_law_at", "_law_many", "_law_k"] ["_law_prime_here", "_law_chain"] (defScope s_L_blocks) := ⟨rfl, rfl, rfl, by decide +kernel, rfl, by decide +kernel, by decide +kernel⟩
theorem sc_L_image : FnScope ["_law_prime_here", "_law_table", "_law_column", "_law_told", "_law_row", "_law_one", "_law_j"] ["_law_prime_here", "_law_table", "_law_column"] (defScope s_L_image) := ⟨rfl, rfl, rfl, by decide +kernel, rfl, by decide +kernel, by decide +kernel⟩
theorem sc_L_across : FnScope ["_law_table", "_law_j", "_law_row"] ["_law_table"] (defScope s_L_across) := ⟨rfl, rfl, rfl, by decide +kernel, rfl, by decide +kernel, by decide +kernel⟩
theorem sc_L_product : FnScope ["_law_prime_here", "_law_one", "_law_other", "_law_column"] ["_law_prime_here", "_law_one", "_law_other"] (defScope s_L_product) := ⟨rfl, rfl, rfl, by decide +kernel, rfl, by decide +kernel, by decide +kernel⟩
theorem sc_L_is_row : FnScope ["_law_prime_here", "_law_found", "_law_many", "_law_one"] ["_law_prime_here", "_law_found", "_law_many"] (defScope s_L_is_row) := ⟨rfl, rfl, rfl, by decide +kernel, rfl, by decide +kernel, by decide +kernel⟩
theorem sc_L_is_table : FnScope ["_law_prime_here", "_law_found", "_law_size_here", "_law_row"] ["_law_prime_here", "_law_found", "_law_size_here"] (defScope s_L_is_table) := ⟨rfl, rfl, rfl, by decide +kernel, rfl, by decide +kernel, by decide +kernel⟩
theorem sc_L_unit : FnScope ["_law_prime_here", "_law_size_here", "_law_i", "_law_j"] ["_law_prime_here", "_law_size_here"] (defScope s_L_unit) := ⟨rfl, rfl, rfl, by decide +kernel, rfl, by decide +kernel, by decide +kernel⟩
theorem sc_L_cell_at : FnScope ["_law_cells", "_law_k"] ["_law_cells", "_law_k"] (defScope s_L_cell_at) := ⟨rfl, rfl, rfl, by decide +kernel, rfl, by decide +kernel, by decide +kernel⟩
theorem sc_L_rows_by : FnScope ["_law_prime_here", "_law_cells", "_law_at", "_law_rows", "_law_columns", "_law_told", "_law_i", "_law_j"] ["_law_prime_here", "_law_cells", "_law_at", "_law_rows", "_law_columns"] (defScope s_L_rows_by) := ⟨rfl, rfl, rfl, by decide +kernel, rfl, by decide +kernel, by decide +kernel⟩
theorem sc_L_size : FnScope ["_law_prime_here", "_law_cell"] ["_law_prime_here", "_law_cell"] (defScope s_L_size) := ⟨rfl, rfl, rfl, by decide +kernel, rfl, by decide +kernel, by decide +kernel⟩
theorem sc_L_chain_right : FnScope ["_law_prime_here", "_law_chain", "_law_size_here", "_law_left", "_law_k", "_law_f"] ["_law_prime_here", "_law_chain", "_law_size_here"] (defScope s_L_chain_right) := ⟨rfl, rfl, rfl, by decide +kernel, rfl, by decide +kernel, by decide +kernel⟩
theorem sc_L_right : FnScope ["_law_kind_here", "_law_prime_here", "_law_table", "_law_told", "_law_size_here", "_law_due", "_law_many", "_law_f"] ["_law_kind_here", "_law_prime_here", "_law_table", "_law_told"] (defScope s_L_right) := ⟨rfl, rfl, rfl, by decide +kernel, rfl, by decide +kernel, by decide +kernel⟩
theorem sc_law : FnScope ["_law_script", "_law_prime_here", "_law_kind_here", "_law_cells", "_law_at", "_law_tables", "_law_held", "_law_size_here", "_law_table", "_law_handed", "_law_row", "_law_k"] ["_law_script"] (defScope s_law) := ⟨rfl, rfl, rfl, by decide +kernel, rfl, by decide +kernel, by decide +kernel⟩
end Tf
set_option maxRecDepth 100000
set_option maxHeartbeats 4000000
/-! list(reversed(xs)), xs a list: a new list -/
namespace Tf
open PySem PySem.Spec PyProof.Rows L2
section
variable {prog : Program} {w : World} {A : Around} {E : Value → Shared → Prop} {s : Shared} {it l : Addr} {items : Array Value}
/-- S, an empty list, takes what the iterator has left -/
theorem rev_fill {R : Result → Shared → Prop} (hA : A.handled = none) (hi : s.heap.IsRevIter it l ((items.size : Int) - 1)) (hx : s.heap.IsList l items) (ne : l ≠ it) (sz : items.size ≤ sizeLine) (S : Addr) (n1 : S ≠ it) (n2 : S ≠ l) (c : Nat)
    (hS : s.heap.get? S = some { cls := .type "list", data := .seq #[] c })
    (hR : ∀ h' tk acc c', (∀ b o, b ≠ S → b ≠ it → s.heap.get? b = some o → h'.get? b = some o) → h'.get? S = some { cls := .type "list", dict := none, data := .seq acc c', slots := #[] } → ItemsOf (fun i v => items[items.size - 1 - i]? = some v) acc items.size → R (.ok (.ret .none)) { s with heap := h', toks := tk }) :
    wpAny (model prog w) A.in1 (Builtin.List.listExtendWith (.ref S) (.ref it) .none) (fun fin s' => match fin with | .done f => R (.ok f) s' | .again c' => c'.quiet = true ∧ codeAny (model prog w) A c' R s') (fun e s' => R (.error e) s') s := by
  have W := (Walks.listRev (prog := prog) (w := w) (A := A.in1) hA it l ne items).toS
  have nS : S ∉ [it, l] := by
    intro h
    rcases List.mem_cons.mp h with e | h
    · exact n1 e
    · exact n2 (List.mem_singleton.mp h)
  have hT : s.TypeIs (.ref it) "list_reverseiterator" := Heap.IsRevIter.typeIs hi
  have other : Builtin.List.listSameRef (.ref S) (.ref it) = false := by simp [Builtin.List.listSameRef, n1]
  unfold Builtin.List.listExtendWith
  refine wpAny_bind (wpAny_typeOf hT ?_)
  rw [if_neg (by rw [other]; decide)]
  refine wpAny_bind (wpAny_pyIter_revIter hi ?_)
  refine wpAny_bind (wpAny_holding ?_)
  unfold Builtin.List.listLengthHint
  refine wpAny_bind (wpAny_specialOf hT RT.nolen_lri ?_)
  show wpAny _ _ (specialOf (Value.ref it) (Str.ofString "__length_hint__") >>= _) _ _ s
  refine wpAny_bind (wpAny_specialOf hT RT.hint_lri ?_)
  generalize hid : ("list_reverseiterator.__length_hint__" : String) = id0
  wp_delta
  rw [show splitId id0 = some ("list_reverseiterator", "__length_hint__") by subst hid; decide +kernel]
  subst hid
  refine wpAny_bind (wpAny_isInstance (b := true) hT (by rw [isSubtype_type]; kernel_rfl) (wpAny_pure ?_))
  rw [if_neg (by decide)]
  have e0 : ((items.size : Nat) : Int) - 1 - ((0 : Nat) : Int) = (items.size : Int) - 1 := by omega
  refine wpAny_pure ⟨plainId_quiet PySem.F.plain_extend_loop _, codeAny_extend_loopS W sz S nS .none items.size 0 _ #[] c rfl (Nat.zero_le _) ⟨Nat.zero_le _, by rw [e0]; exact hi, hx⟩ hS (ItemsOf.nil _) fun s' acc c' hm hS' ha => ?_⟩
  rw [Moved.eq_with hm]
  refine hR s'.heap s'.toks acc c' (fun b o b1 b2 e => hm.heap b o (fun hmem => ?_) e) hS' ha
  rcases List.mem_cons.mp hmem with z | z
  · exact b1 z
  · exact b2 (List.mem_singleton.mp z)
theorem rev_list {Q : Value → Shared → Prop} (hA : A.handled = none) (hi : s.heap.IsRevIter it l ((items.size : Int) - 1)) (hx : s.heap.IsList l items) (ne : l ≠ it) (sz : items.size ≤ sizeLine)
    (hQ : ∀ h' tk acc c', (∀ b o, b ≠ it → s.heap.get? b = some o → h'.get? b = some o) → h'.get? s.heap.objs.size = some { cls := .type "list", dict := none, data := .seq acc c', slots := #[] } → ItemsOf (fun i v => items[items.size - 1 - i]? = some v) acc items.size → Q (.ref s.heap.objs.size) { s with heap := h', toks := tk }) :
    wpAny (model prog w) A (call (.type "list") [.ref it]) Q E s := by
  obtain ⟨oi, hoi, _⟩ := id hi
  obtain ⟨ol, hol, _⟩ := id hx
  refine callType_codes (Q₁ := fun obj s₁ => obj = .ref s.heap.objs.size ∧ s₁ = { s with heap := s.heap.push { cls := .type "list", data := .seq #[] } }) PySem.F.called_list (PySem.F.typeCall_list_1 _) PySem.F.entry_list_init (code_list_new _ ⟨rfl, rfl⟩) fun obj s₁ h₁ => ?_
  obtain ⟨rfl, rfl⟩ := h₁
  have hS : (s.heap.push { cls := .type "list", data := .seq #[] }).get? s.heap.objs.size = some { cls := .type "list", data := .seq #[] } := Heap.get?_push_size _ rfl
  have n1 : s.heap.objs.size ≠ it := Nat.ne_of_gt (Heap.lt_size hoi)
  have n2 : s.heap.objs.size ≠ l := Nat.ne_of_gt (Heap.lt_size hol)
  refine ⟨⟨_, hS, rfl⟩, PySem.F.args_list_init_2 _ _, ?_⟩
  show wpAny _ _ (do let old ← Builtin.List.listItems (.ref s.heap.objs.size); Builtin.List.listUpdate (.ref s.heap.objs.size) (fun _ => #[]); letGo old.toList.reverse; Builtin.List.listExtendWith (.ref s.heap.objs.size) (.ref it) .none) _ _ _
  refine wpAny_bind ?_
  unfold Builtin.List.listItems
  refine wpAny_bind (wpAny_seqItems hS rfl (wpAny_pure ?_))
  show wpAny _ _ (updateSeq s.heap.objs.size (fun _ => #[]) >>= fun _ => letGo (#[] : Array Value).toList.reverse >>= fun _ => Builtin.List.listExtendWith (.ref s.heap.objs.size) (.ref it) .none) _ _ _
  refine wpAny_bind (wpAny_updateSeq hS rfl ?_)
  have hS2 := Heap.get?_update_self (Obj.mapSeq (fun _ => (#[] : Array Value))) hS rfl
  have oth : ∀ b o, b ≠ s.heap.objs.size → s.heap.get? b = some o → ((s.heap.push { cls := .type "list", data := .seq #[] }).update s.heap.objs.size (Obj.mapSeq (fun _ => (#[] : Array Value)))).get? b = some o :=
    fun b o hb e => (Heap.get?_update_other _ _ (Ne.symm hb)).trans (Heap.get?_push_of_some _ e)
  refine wpAny_bind (wpAny_letGo ?_)
  refine rev_fill (A := A.in1) hA (hi.at fun o e => oth _ o (Ne.symm n1) e) ?_ ne sz _ n1 n2 _ hS2 fun h' tk acc c' hk hS' ha => ⟨rfl, hQ h' tk acc c' (fun b o hb e => hk b o (Nat.ne_of_lt (Heap.lt_size e)) hb (oth b o (Nat.ne_of_lt (Heap.lt_size e)) e)) hS' ha⟩
  exact hx.at fun o e => oth _ o (Ne.symm n2) e
end
def tLstRev (K : PySem.W.Frag) (te : TE) : TE := fun σ H Q => te σ H fun v H1 => ∃ (a : Addr) (xs : List V), v = .ref a ∧ SqL K H1 a xs ∧ ∀ q, H1 q = none → Q (.ref q) (upd H1 q (.lst xs.reverse))
section
variable {X : Cx} (K : PySem.W.Frag)
theorem pe_lstRev {e : Expr} {te : TE} {p p2 pos pos2 : Pos} (hK : X.K = K) (hc : X.calm = true) (g1 : Gl X "list") (m1 : X.mg "list" = none) (g2 : Gl X "reversed") (m2 : X.mg "reversed" = none) (he : PE X e te)
    (hs : starEach [e] X.env = (false, eval e X.env) :: starEach [] X.env := by rfl)
    (hs2 : starEach [.Call (.Name "reversed" p2) [e] [] pos2] X.env = (false, eval (.Call (.Name "reversed" p2) [e] [] pos2) X.env) :: starEach [] X.env := by rfl) :
    PE X (.Call (.Name "list" p) [.Call (.Name "reversed" p2) [e] [] pos2] [] pos) (tLstRev K te) := by
  subst hK
  refine ⟨fun pins s σ H Q I h => ?_⟩
  refine Call_ (ld_blt I g1 m1 boot_list (PyProof.Rows.callWith_type1 (args_cons (Call_ (ld_blt I g2 m2 PyProof.Rows.boot_reversed (PyProof.Rows.callWith_type1 (args_cons (thn (he.run pins s σ H _ I h) fun u s1 ⟨v, H1, I1, r1, q1⟩ => args_nil ?_) hs) hs rfl))) hs2) hs2 rfl))
  obtain ⟨a, xs, rfl, hq, q⟩ := q1
  obtain rfl : u = Value.ref a := r1
  obtain ⟨its, rv, pl, hz⟩ := I1.list hq
  refine call_reversed_list pl.isList (args_nil ?_)
  have I2 : Inv X pins σ H1 { s1 with heap := s1.heap.push (revObj a ((its.toArray.size : Int) - 1)) } := I1.kept (t' := s1.toks) fun b o e => Heap.get?_push_of_some _ e
  obtain ⟨f0, f1, f2, f3, f4, f5⟩ := I1.fpOk (H' := H1) (b := s1.heap.objs.size) (Nat.le_refl _) (I1.hok.fresh (Nat.le_refl _))
  have hl := pl.isList
  obtain ⟨ol, hol, _⟩ := id hl
  have hne : a ≠ s1.heap.objs.size := Nat.ne_of_lt (Heap.lt_size hol)
  have hn : its.toArray.size ≤ sizeLine := by rw [List.size_toArray, ← rv.length]; exact hz
  refine rev_list (s := { s1 with heap := s1.heap.push (revObj a ((its.toArray.size : Int) - 1)) }) (I1.ok.hd hc) ⟨_, Heap.get?_push_size _ rfl, rfl, rfl⟩ (hl.push _) hne hn fun h' tk acc c' hk hS hi => ?_
  have I3 : Inv X pins σ (upd H1 (s1.heap.push (revObj a ((its.toArray.size : Int) - 1))).objs.size (.lst xs.reverse)) { s1 with heap := (s1.heap.push (revObj a ((its.toArray.size : Int) - 1))).push { cls := .type "list", dict := none, data := .seq acc c', slots := #[] } } :=
    I2.laid (t' := s1.toks) (fun b o e => Heap.get?_push_of_some _ e) (Nat.le_refl _) (show ObjOk X.prog X.w _ _ _ (.lst xs.reverse) from ⟨by rw [List.length_reverse]; exact hz, acc.toList, c', RT.vals_rev rv hi, by rw [Array.toArray_toList]; exact Heap.get?_push_size _ rfl⟩)
  have nt : s1.heap.objs.size ≠ (s1.heap.push (revObj a ((its.toArray.size : Int) - 1))).objs.size := by rw [Heap.size_push]; exact Nat.ne_of_lt (Nat.lt_succ_self _)
  have I4 : Inv X pins σ (upd H1 (s1.heap.push (revObj a ((its.toArray.size : Int) - 1))).objs.size (.lst xs.reverse)) { s1 with heap := h', toks := tk } := I3.turned (t' := tk) (fun b o hb e => by
    rcases Heap.get?_push_cases e with ⟨e1, e2⟩ | e1
    · rw [e1, e2]; exact hS
    · exact hk b o hb e1) (by rw [upd_ne nt]; exact f0) f1 f3 f4 f5
  exact ⟨V.ref (s1.heap.push (revObj a ((its.toArray.size : Int) - 1))).objs.size, _, I4, rfl, q _ (I2.hok.fresh (Nat.le_refl _))⟩
end
end Tf
set_option maxRecDepth 100000
set_option maxHeartbeats 4000000
namespace Tf
open PySem PySem.Spec PyProof.Rows L2
/-- P, and all of G stands -/
def since (G : Hp) (P : Pr) : Pr := ⟨fun v H => P.p v H ∧ Same G H, fun ⟨a, b⟩ s => ⟨P.mo a s, b.trans s⟩⟩
theorem pset {α : Type} {R : α → Pr} {H : Hp} {xs : List α} {vs : List V} {x : α} {y : V} (h : (R x).p y H) (i : Nat) (hp : Paired (fun x u => (R x).p u H) xs vs) : Paired (fun x u => (R x).p u H) (xs.set i x) (vs.set i y) := paired_set (F := fun x u => (R x).p u H) h i hp
theorem pmo {α : Type} {R : α → Pr} {H H' : Hp} {xs : List α} {vs : List V} (hp : Paired (fun x u => (R x).p u H) xs vs) (s : Same H H') : Paired (fun x u => (R x).p u H') xs vs := Paired.mapP hp fun _ _ r => (R _).mo r s
theorem psnoc {α : Type} {R : α → Pr} {H : Hp} {xs : List α} {vs : List V} {x : α} {y : V} (hp : Paired (fun x u => (R x).p u H) xs vs) (h : (R x).p y H) : Paired (fun x u => (R x).p u H) (xs ++ [x]) (vs ++ [y]) := Paired.snoc hp h
theorem psta {α : Type} {R : α → Pr} {H : Hp} {xs : List α} {vs : List V} {d : Addr} {o o' : List V} (hs : ∀ x, Sta (R x) d) (e : H d = some (.lst o)) (hp : Paired (fun x u => (R x).p u H) xs vs) : Paired (fun x u => (R x).p u (upd H d (.lst o'))) xs vs := Paired.mapP hp fun _ _ r => hs _ _ _ _ _ e r
section
variable {K : PySem.W.Frag} {σ : L2.St} {H H' : Hp} {ta tb tc te tl : TE} {t : TA} {D : Ends} {tu : TS}
theorem ev_chain {f g : Int → Int → Bool} {a b c : Int} (ha : Ev ta σ H (isI a)) (hb : Ev tb σ H (isI b)) (hc : Ev tc σ H (isI c)) :
    Ev (tChain (rI0 fun i j => .bl (f i j)) (rI0 fun i j => .bl (g i j)) ta tb tc) σ H (isB (f a b && g b c)) := fun H1 s Q q =>
  ha H1 s _ fun x H2 s2 ex => hb H2 (s.trans s2) _ fun y H3 s3 ey => ⟨a, b, ex, ey, f a b, rfl, by
    cases hf : f a b with
    | true => exact hc H3 ((s.trans s2).trans s3) _ fun z H4 s4 ez => ⟨b, c, ey, ez, q _ H4 ((s2.trans s3).trans s4) (by show V.bl _ = V.bl _; rw [hf]; rfl)⟩
    | false => exact q _ H3 (s2.trans s3) (by show V.bl _ = V.bl _; rw [hf]; rfl)⟩
/-- the very item -/
theorem ev_ixV {a : Addr} {vs : List V} {i : Nat} {u : V} (ha : Ev ta σ H (isV (.ref a))) (h : H a = some (.lst vs)) (hi : Ev tb σ H (isI (i : Nat))) (hu : vs[i]? = some u) : Ev (tOp (rIxL K) ta tb) σ H (isV u) :=
  ev_op ha hi fun x y H1 s ex ey Q q => ⟨a, vs, i, u, ex, ey, SqL.of (s _ _ h), atI_nat hu, q u H1 (Same.refl H1) rfl⟩
theorem ev_nilL {α : Type} {R : α → Pr} : Ev (tLst tNil) σ H (LR R H ([] : List α)) := ev_lst (xs := []) ea_nil (by simp)
/-- xs[:n], xs[n:] -/
theorem ev_to {α : Type} {R : α → Pr} {G : Hp} {xs : List α} {n : Nat} (h : Ev te σ H (LR R G xs)) (hn : Ev ta σ H (isI (n : Nat))) (hl : n ≤ xs.length) : Ev (tSl (rSlL K) te tNoPart (tPart ta)) σ H (LR R H (xs.take n)) := fun H1 s Q q =>
  h H1 s _ fun v H2 s2 ⟨a, vs, e, _, ha, hp⟩ => hn H2 (s.trans s2) _ fun x H3 s3 ex => ⟨n, ex, a, vs, e, SqL.of (s3 _ _ ha), fun p hp' => by
    have e2 : cutV vs none (some (n : Int)) = vs.take n := by
      unfold cutV
      rw [HT.sIx_none, HT.sIx_nat, List.drop_zero, ← paired_len hp]
      congr 1; omega
    rw [e2]
    exact q _ _ ((s2.trans s3).trans (same_new hp')) ⟨p, vs.take n, rfl, Same.free ((s.trans s2).trans s3) hp', upd_same, paired_take n (Paired.mapP hp fun _ _ r => (R _).mo r (s3.trans (same_new hp')))⟩⟩
theorem ev_from {α : Type} {R : α → Pr} {G : Hp} {xs : List α} {n : Nat} (h : Ev te σ H (LR R G xs)) (hn : Ev ta σ H (isI (n : Nat))) (hl : n ≤ xs.length) : Ev (tSl (rSlL K) te (tPart ta) tNoPart) σ H (LR R H (xs.drop n)) := fun H1 s Q q =>
  h H1 s _ fun v H2 s2 ⟨a, vs, e, _, ha, hp⟩ => hn H2 (s.trans s2) _ fun x H3 s3 ex => ⟨n, ex, a, vs, e, SqL.of (s3 _ _ ha), fun p hp' => by
    have e2 : cutV vs (some (n : Int)) none = vs.drop n := by
      unfold cutV
      rw [HT.sIx_none, HT.sIx_nat, List.take_of_length_le]
      · congr 1; rw [← paired_len hp]; omega
      · rw [List.length_drop]; exact Nat.le_refl _
    rw [e2]
    exact q _ _ ((s2.trans s3).trans (same_new hp')) ⟨p, vs.drop n, rfl, Same.free ((s.trans s2).trans s3) hp', upd_same, paired_drop n (Paired.mapP hp fun _ _ r => (R _).mo r (s3.trans (same_new hp')))⟩⟩
/-- xs[:-1] -/
theorem ev_butlast {α : Type} {R : α → Pr} {G : Hp} {xs : List α} (h : Ev te σ H (LR R G xs)) (hn : Ev ta σ H (isI (-1))) : Ev (tSl (rSlL K) te tNoPart (tPart ta)) σ H (LR R H xs.dropLast) := fun H1 s Q q =>
  h H1 s _ fun v H2 s2 ⟨a, vs, e, _, ha, hp⟩ => hn H2 (s.trans s2) _ fun x H3 s3 ex => ⟨-1, ex, a, vs, e, SqL.of (s3 _ _ ha), fun p hp' => by
    have e2 : cutV vs none (some (-1)) = vs.take (xs.length - 1) := by
      unfold cutV
      rw [HT.sIx_none, List.drop_zero]
      show vs.take ((if (-1 : Int) < 0 then ((-1 : Int) + (vs.length : Int)).toNat else min (-1 : Int).toNat vs.length) - 0) = _
      rw [if_pos (by decide), ← paired_len hp]
      congr 1; omega
    have e3 : xs.dropLast = xs.take (xs.length - 1) := List.dropLast_eq_take
    rw [e2]
    rw [e3] at q
    exact q _ _ ((s2.trans s3).trans (same_new hp')) ⟨p, vs.take (xs.length - 1), rfl, Same.free ((s.trans s2).trans s3) hp', upd_same, paired_take _ (Paired.mapP hp fun _ _ r => (R _).mo r (s3.trans (same_new hp')))⟩⟩
/-- [e for j in range(n) if test] -/
theorem ev_lcRF {α : Type} {Rn : Hp → α → Pr} (hF : Fam Rn) {ta : TA} {tt : TT} {j : Nat} {vs : List Nat} {n : Nat} (f : Nat → α) (b : Nat → Bool) (h : EvA ta σ H [isI (n : Nat)]) (hn : n ≤ 1000) (hw : ∀ x, wipe ((wipe σ vs).set j (some x)) vs = wipe σ vs)
    (ht : ∀ i H1, Same H H1 → i < n → EvT tt ((wipe σ vs).set j (some (.int (i : Nat)))) H1 (b i))
    (he : ∀ i H1, Same H H1 → i < n → b i = true → Ev te ((wipe σ vs).set j (some (.int (i : Nat)))) H1 (Rn H1 (f i))) : Ev (tLc (iRng1 ta) (gName j) tt te vs) σ H (LR (Rn H) H (((List.range n).filter b).map f)) := fun H0 s0 Q q =>
  h H0 s0 _ fun us H1 s1 ⟨v, rr, e1, ev, e2⟩ => by
    have ev' : v = .int (n : Nat) := ev
    refine ⟨n, by rw [e1, ev', show rr = [] from e2], by omega, by omega, fun Dl hD => ?_⟩
    rw [show ((n : Nat) : Int).toNat = n from by simp]
    refine lc_it (walk_range (lo := 0) (n := n)) (fun i H' => Cw Rn H Dl (((List.range i).filter b).map f) H' ∧ Same H1 H') ⟨cw0 (s0.trans s1) hD, same_new hD⟩ (fun _ _ _ _ => trivial) (fun i z H' H'' hi p y => ?_) (fun H' p => q _ H' (s1.trans p.2) (cw_end hF p.1))
    obtain ⟨p, sp⟩ := p
    obtain ⟨y1, y2⟩ := y
    subst y1 y2
    have ez : V.int ((0 : Int) + (i : Int)) = V.int (i : Nat) := by rw [Int.zero_add]
    have ht' := ht i H'' ((s0.trans s1).trans sp) hi
    have he' := he i
    rw [← ez] at ht'
    simp only [← ez] at he'
    refine ⟨hw _, ht' H'' (Same.refl _) _ fun H3 s3 => ?_⟩
    have p3 : Cw Rn H Dl (((List.range i).filter b).map f) H3 := ⟨p.1, p.2.1.trans s3, by
      obtain ⟨us, w1, w2⟩ := p.2.2
      exact ⟨us, s3 _ _ w1, Paired.mapP w2 fun z u r => (Rn _ z).mo r s3⟩⟩
    have fl : ((List.range i).filter b).length ≤ i := by
      have := List.length_filter_le b (List.range i)
      rw [List.length_range] at this
      exact this
    cases hb : b i with
    | true =>
      refine he' H3 ((s0.trans s1).trans (sp.trans s3)) hi hb H3 (Same.refl _) (fun y H4 => ∃ acc, H4 Dl = some (.lst acc) ∧ acc.length < sizeLine ∧ (Cw Rn H Dl (((List.range (i + 1)).filter b).map f) (upd H4 Dl (.lst (acc ++ [y]))) ∧ Same H1 (upd H4 Dl (.lst (acc ++ [y]))))) fun w H4 s4 pv => ?_
      obtain ⟨acc, a1, a2, a3⟩ := cw_put hF p3 s4 pv
      refine ⟨acc, a1, by rw [a2, List.length_map]; exact small1000 (by omega), ?_, same_mut (sp.trans (s3.trans s4)) hD⟩
      rw [List.range_succ, List.filter_append, List.map_append, List.filter_cons, if_pos hb]
      exact a3
    | false =>
      refine ⟨?_, sp.trans s3⟩
      rw [List.range_succ, List.filter_append, List.map_append, List.filter_cons, if_neg (by rw [hb]; decide)]
      show Cw Rn H Dl (_ ++ []) H3
      rw [List.append_nil]
      exact p3
/-- x not in xs, whole numbers -/
theorem ev_notIn {G : Hp} {xs : List Nat} {x : Nat} (ha : Ev ta σ H (isI (x : Nat))) (hb : Ev tb σ H (LR (fun n : Nat => isI (n : Nat)) G xs)) : Ev (tOp (rIn K true) ta tb) σ H (isB (decide (x ∉ xs))) := by
  refine ev_op ha hb fun u v H1 s eu ⟨a, vs, e, _, hl, hp⟩ Q q => ?_
  have eu' : u = .int (x : Nat) := eu
  subst eu' e
  have hv : vs = xs.map fun n : Nat => V.int (n : Nat) := by
    have key : ∀ {xs : List Nat} {vs : List V}, Paired (fun (x : Nat) u => (isI (x : Nat)).p u H1) xs vs → vs = xs.map fun n : Nat => V.int (n : Nat) := by
      intro xs vs h
      induction h with
      | nil => rfl
      | cons a t ih => rw [List.map_cons, ← ih, ← (show _ = V.int _ from a)]
    exact key hp
  refine ⟨a, vs, rfl, .inl (SqL.of hl), rfl, by rw [hv]; simp [flatV], q _ H1 (Same.refl _) ?_⟩
  have hi : inV (.int (x : Nat)) vs = decide (x ∈ xs) := by
    rw [hv]
    unfold inV
    rw [Bool.eq_iff_iff]
    simp [eqV]
    constructor
    · rintro ⟨y, h1, h2⟩
      have : y = x := by omega
      rw [← this]; exact h1
    · intro h; exact ⟨x, h, rfl⟩
  show V.bl (if true = true then !inV (.int (x : Nat)) vs else _) = V.bl _
  rw [if_pos rfl, hi]
  simp
/-- xs.pop() as a statement -/
theorem s_pop {l : Addr} {vs : List V} (hl : H l = some (.lst vs)) (ha : Ev ta σ H (isV (.ref l))) (hz : vs ≠ []) (k : ∀ H1, Same H H1 → D.nx σ (upd H1 l (.lst vs.dropLast))) : tDrop (tBM0 K "list" rPop ta) D σ H := ha H (Same.refl H) _ fun x H1 e1 ex => by
  subst ex
  have h0 : 0 < vs.length := List.length_pos_iff.mpr hz
  exact ⟨Or.inl ⟨rfl, vs, SqL.of (e1 l _ hl)⟩, l, vs, vs[vs.length - 1]'(by omega), rfl, rfl, e1 l _ hl, List.getElem?_eq_getElem _, k H1 e1⟩
theorem ev_lstRev {α : Type} {R : α → Pr} {G : Hp} {xs : List α} (h : Ev te σ H (LR R G xs)) : Ev (tLstRev K te) σ H (LR R H xs.reverse) := fun H1 s Q q =>
  h H1 s _ fun v H2 s2 ⟨a, vs, e, _, ha, hp⟩ => ⟨a, vs, e, SqL.of ha, fun l hl => q _ _ (s2.trans (same_new hl)) ⟨l, vs.reverse, rfl, Same.free (s.trans s2) hl, upd_same, paired_rev (pmo hp (same_new hl))⟩⟩
end
theorem sta_nat {n : Nat} {d : Addr} : Sta ((fun n : Nat => isI (n : Nat)) n) d := sta_I
theorem fam_nat : Fam (fun (_ : Hp) (n : Nat) => isI (n : Nat)) := ⟨fun _ h => h, fun _ => sta_I⟩
theorem fam_int : Fam (fun (_ : Hp) (n : Int) => isI n) := ⟨fun _ h => h, fun _ => sta_I⟩
theorem fam_bool : Fam (fun (_ : Hp) (b : Bool) => isB b) := ⟨fun _ h => h, fun _ => sta_B⟩
/-! lists of numbers compared -/
section
variable {P : Program} {w : World} {K : PySem.W.Frag} {mg : Str → Option Value} {base : Heap} {F : Type} [Lean.Grind.Field F] [DecidableEq F] (κ : Kd F P w K mg base) {σ : L2.St} {H : Hp} {ta tb : TE}
theorem dp_all {xs : List F} {vs : List V} (h : Paired (fun x u => (κ.rep x).p u H) xs vs) : DpAll K H vs (xs.map κ.dat) := by
  induction h with
  | nil => exact .nil
  | cons a t ih => exact .cons (κ.dat_ok a) ih
theorem dp_L {G : Hp} {xs : List F} {v : V} (h : (κ.L G xs).p v H) : Dp K H v (.list (xs.map κ.dat)) := by
  obtain ⟨a, vs, rfl, _, ha, hp⟩ := h
  exact .lst (SqL.of ha) (dp_all κ hp)
theorem canLay_map (xs : List F) : PyData.canLayAll0 (xs.map κ.dat) = true := by
  induction xs with
  | nil => rfl
  | cons x xs ih => simp only [List.map_cons, PyData.canLayAll0, (κ.dat_sh x).1, ih, Bool.and_self]
theorem depth_map (xs : List F) : PyData.depthAll (xs.map κ.dat) ≤ 8 := by
  induction xs with
  | nil => simp [PyData.depthAll]
  | cons x xs ih =>
    have := (κ.dat_sh x).2
    simp only [List.map_cons, PyData.depthAll]
    omega
theorem shaped_L (xs : List F) : SeqAt.shaped (.list (xs.map κ.dat)) = true := by
  have h := depth_map κ xs
  have c : PyData.canLay0 (.list (xs.map κ.dat)) = true := by simp only [PyData.canLay0]; exact canLay_map κ xs
  have d : PyData.depth (.list (xs.map κ.dat)) ≤ 64 := by simp only [PyData.depth]; omega
  unfold SeqAt.shaped
  rw [c, decide_eq_true d]
  rfl
theorem eqv_L : ∀ xs ys : List F, PyData.eqvAll (xs.map κ.dat) (ys.map κ.dat) = decide (xs = ys)
  | [], [] => rfl
  | [], _ :: _ => rfl
  | _ :: _, [] => rfl
  | x :: xs, y :: ys => by
    simp only [List.map_cons, PyData.eqvAll, κ.dat_eq, eqv_L xs ys]
    by_cases h1 : x = y <;> by_cases h2 : xs = ys <;> simp [h1, h2]
theorem ev_eqL {G G' : Hp} {xs ys : List F} (ha : Ev ta σ H (κ.L G xs)) (hb : Ev tb σ H (κ.L G' ys)) : Ev (tOp (rEqD K) ta tb) σ H (isB (decide (xs = ys))) :=
  ev_op ha hb fun u v H1 s pu pv Q q => ⟨_, _, dp_L κ pu, dp_L κ pv, shaped_L κ xs, shaped_L κ ys, q _ H1 (Same.refl _) (by show V.bl _ = V.bl _; rw [show PyData.eqv (.list (xs.map κ.dat)) (.list (ys.map κ.dat)) = PyData.eqvAll (xs.map κ.dat) (ys.map κ.dat) by simp only [PyData.eqv], eqv_L])⟩
theorem ev_neL {G G' : Hp} {xs ys : List F} (ha : Ev ta σ H (κ.L G xs)) (hb : Ev tb σ H (κ.L G' ys)) : Ev (tOp (rNeD K) ta tb) σ H (isB (!decide (xs = ys))) :=
  ev_op ha hb fun u v H1 s pu pv Q q => ⟨_, _, dp_L κ pu, dp_L κ pv, shaped_L κ xs, shaped_L κ ys, q _ H1 (Same.refl _) (by show V.bl _ = V.bl _; rw [show PyData.eqv (.list (xs.map κ.dat)) (.list (ys.map κ.dat)) = PyData.eqvAll (xs.map κ.dat) (ys.map κ.dat) by simp only [PyData.eqv], eqv_L])⟩
end
end Tf
set_option maxRecDepth 100000
set_option maxHeartbeats 4000000
namespace Tf
open PySem PySem.Spec PyProof.Rows L2
section
variable {F : Type} [Lean.Grind.Field F] [DecidableEq F]
theorem gt_some {xs : List F} {i : Nat} (h : i < xs.length) : xs[i]? = some (gt xs i) := by
  unfold gt
  rw [List.getD_eq_getElem?_getD, List.getElem?_eq_getElem h]
  rfl
theorem hd_some {t : List (List F)} (h : t ≠ []) : t[0]? = some (rw_ t 0) := by
  unfold rw_
  rw [List.getD_eq_getElem?_getD, List.getElem?_eq_getElem (List.length_pos_iff.mpr h)]
  rfl
theorem ev_intB {b : Bool} {σ : L2.St} {H : Hp} {ta : TE} (h : Ev ta σ H (isB b)) : Ev (tCB (fun xs H Q => (∃ i, xs = [.int i] ∧ Q (.int i) H) ∨ ∃ k, xs = [.bl k] ∧ Q (.int (if k then 1 else 0)) H) (tCons ta tNil)) σ H (isI (if b then 1 else 0)) := fun H1 s Q q =>
  h H1 s _ fun v H2 s2 e => .inr ⟨b, by rw [show v = _ from e], q _ H2 s2 rfl⟩
def Rect (t : List (List F)) (n : Nat) : Prop := ∀ r ∈ t, r.length = n
end
section
variable {P : Program} {w : World} {K : PySem.W.Frag} {mg : Str → Option Value} {base : Heap} {F : Type} [Lean.Grind.Field F] [DecidableEq F] (κ : Kd F P w K mg base) (T : Txt K mg)
include T
/-! dot(kind, row, column) -/
def sDot : Spc where
  ι := List F × List F
  pre := fun x => x.1.length = x.2.length ∧ κ.Al (dotT 0 x.1 x.2)
  args := fun x => [κ.obj, κ.L nilH x.1, κ.L nilH x.2]
  post := fun x _ => κ.rep (dot x.1 x.2)
  an := fun _ h => h

-- 0 kind, 1 row, 2 column, 3 found, 4 x, 5 y
theorem ok_dot : Ok P w K mg base 41 ("dot", none) ["kind", "row", "column"] (sDot κ) := by
  refine T.d_dot.ok sc_dot (fun _ => rfl) fun cdv A outer s H vs Q E ⟨xs, ys⟩ hr ⟨hl, hs⟩ ha k => ?_
  obtain ⟨kd, _, rfl, hk, rv, _, rfl, hx, cv, _, rfl, hy, rfl⟩ := ha
  obtain ⟨dsN, vN_κ, bN_κ⟩ := κ.b_number
  have hr_κ : Room 40 _ := hr
  refine ⟨_, (pss_cons (ps_set (i := 3) sc_dot.nd rfl (Or.inl rfl) (pe_meth (pv 0) κ.cls κ.m_number κ.number hr_κ bN_κ vN_κ pass0 (pa_cons pe_int pa_nil)))
      (pss_cons (ps_for PassesOwn.never rfl (pi_zipK K rfl (pi_zip (by rfl) T.free_zip (pa_cons (pv 1) (pa_cons (pv 2) pa_nil)))) (pg_tupK K (n := 2) rfl (pg_tup (n := 2) rfl (pgs_cons (pg_name (i := 4) sc_dot.nd rfl (Or.inl rfl)) (pgs_cons (pg_name (i := 5) sc_dot.nd rfl (Or.inl rfl)) pgs_nil)))) (pss_one (ps_set (i := 3) sc_dot.nd rfl (Or.inl rfl) (pe_meth (pv 0) κ.cls κ.m_plus κ.plus hr_κ κ.b_plus .nil pass0 (pa_cons (pv 3) (pa_cons (pe_meth (pv 0) κ.cls κ.m_times κ.times hr_κ κ.b_times .nil pass0 (pa_cons (pv 4) (pa_cons (pv 5) pa_nil))) pa_nil))))))
      (pss_one (ps_ret (pv 3))))), ?_⟩
  refine s_asg (ev_num0 κ (ev_var rfl hk)) fun v1 H1 e1 h1 => ?_
  refine s_forZ (K := K) (R := κ.rep) (R' := κ.rep) (ea_cons (ev_var rfl ((κ.L nilH xs).mo hx e1)) (ea_cons (ev_var rfl ((κ.L nilH ys).mo hy e1)) ea_nil)) hl
    (fun H1 i σ H' => Same H1 H' ∧ ∃ a b v acc, σ = [some kd, some rv, some cv, some v, a, b] ∧ (κ.rep acc).p v H' ∧ dotL acc (xs.drop i) (ys.drop i) = dot xs ys ∧ κ.Al (dotT acc (xs.drop i) (ys.drop i)))
    (fun H2 e2 => ⟨Same.refl _, none, none, v1, 0, rfl, (κ.rep 0).mo h1 e2, rfl, hs⟩) (fun _ _ _ _ _ p => p.1) ?_ ?_
  · rintro H2 i x y u v σ' H' H3 e2 hxi hyi ⟨e3, a, b, v', acc, rfl, hacc, hd, hal⟩ e4 hu hv
    have d1 : xs.drop i = x :: xs.drop (i + 1) := by rw [List.drop_eq_getElem_cons (List.getElem?_eq_some_iff.mp hxi).1, (List.getElem?_eq_some_iff.mp hxi).2]
    have d2 : ys.drop i = y :: ys.drop (i + 1) := by rw [List.drop_eq_getElem_cons (List.getElem?_eq_some_iff.mp hyi).1, (List.getElem?_eq_some_iff.mp hyi).2]
    rw [d1, d2] at hd hal
    have hk3 := κ.obj.mo hk (e1.trans (e2.trans (e3.trans e4)))
    refine s_asg (ev_plus κ (ev_var rfl hk3) (ev_var rfl ((κ.rep acc).mo hacc e4)) (ev_times κ (ev_var rfl hk3) (ev_var rfl hu) (ev_var rfl hv) (hal _ (List.mem_cons_self ..))) (hal _ (List.mem_cons_of_mem _ (List.mem_cons_self ..)))) fun v5 H5 e5 h5 => ?_
    exact ⟨e3.trans (e4.trans e5), _, _, v5, acc + x * y, rfl, h5, hd, fun z hz => hal z (List.mem_cons_of_mem _ (List.mem_cons_of_mem _ hz))⟩
  · rintro H2 σ' H' e2 ⟨e3, a, b, v', acc, rfl, hacc, hd, hal⟩
    refine s_ret (ev_var rfl hacc) fun v H5 e5 h5 => k v H5 (e1.trans (e2.trans (e3.trans e5))) ?_
    have e : acc = dot xs ys := by rw [← hd, List.drop_length]; rfl
    show (κ.rep (dot xs ys)).p v H5
    rw [← e]
    exact h5
/-! image(kind, table, column) -/
def sImage : Spc where
  ι := List (List F) × List F
  pre := fun x => x.1 ≠ [] ∧ (∀ r ∈ x.1, r.length = x.2.length) ∧ x.1.length ≤ 1000 ∧ κ.Al (imageT x.1 x.2)
  args := fun x => [κ.obj, κ.T nilH x.1, κ.L nilH x.2]
  post := fun x G => κ.L G (image x.1 x.2)
  an := fun g h => κ.famL.an g h

-- 0 kind, 1 table, 2 column, 3 row
theorem ok_image : Ok P w K mg base 42 ("image", none) ["kind", "table", "column"] (sImage κ) := by
  refine T.d_image.ok sc_image (fun _ => rfl) fun cdv A outer s H vs Q E ⟨t, c⟩ hr ⟨hne, hl, h1000, hs⟩ ha k => ?_
  obtain ⟨kd, _, rfl, hk, tv, _, rfl, ht, cv, _, rfl, hc, rfl⟩ := ha
  have hr_dot : Room 41 _ := hr
  have G_dot := ok_dot κ T
  refine ⟨_, (pss_cons (ps_if (pt_cmpR op_ne (pe_callB (lenK K) (by rfl) T.free_len PySem.boot_len (pa_cons (pe_ix (ixL K) (pv 1) pe_int (fun _ _ => rfl)) pa_nil)) (pe_callB (lenK K) (by rfl) T.free_len PySem.boot_len (pa_cons (pv 2) pa_nil)) (nomark _)) pss_never pss_nil)
      (pss_one (ps_ret (pe_lc (own := [("row", 3)]) rfl sc_image.nd (pi_listK K rfl (pv 1)) (blkOk_by (own := [("row", 3)]) (N := ["kind", "table", "column", "row"]) (sc := defScope s_image) (by decide +kernel)) (fun _ _ _ _ _ => (pg_name (i := 3) sc_image.nd rfl (Or.inl rfl))) (fun _ _ _ _ _ => pts_nil) (fun _ _ _ _ _ => (pe_call G_dot hr_dot rfl T.g_dot T.d_dot.fn.kp T.d_dot.bd .nil pass0 (pa_cons (pv 0) (pa_cons (pv 3) (pa_cons (pv 2) pa_nil))))))))), ?_⟩
  obtain ⟨r0, hr0⟩ : ∃ r0, t[0]? = some r0 := ⟨t[0]'(List.length_pos_iff.mpr hne), List.getElem?_eq_getElem _⟩
  refine s_ifF (et_test ((ev_neI (ev_len (ev_ix (i := 0) (ev_var rfl ht) ev_int hr0)) (ev_len (ev_var rfl hc))).to ?_)) fun H1 e1 => ?_
  · rw [hl r0 (List.mem_of_getElem? hr0)]
    simp
  refine s_ret (ev_lcN κ.fam (fun r => dot r c) (ev_var rfl ((κ.T nilH t).mo ht e1)) h1000 (fun _ => rfl) fun i r u H2 e2 hi hu => ?_) fun v H2 e2 h2 => k v H2 (e1.trans e2) (κ.famL.an (fun a e => Same.free e1 e) h2)
  have hm : r ∈ t := List.mem_of_getElem? hi
  exact ev_call (S := sDot κ) (r, c) (ea_cons (ev_var rfl (κ.obj.mo hk (e1.trans e2))) (ea_cons (ev_var rfl hu) (ea_cons (ev_var rfl ((κ.L nilH c).mo hc (e1.trans e2))) ea_nil))) ⟨hl r hm, fun z hz => hs z (List.mem_flatMap.mpr ⟨r, hm, hz⟩)⟩
/-! is_square(table) -/
def sIsSquare : Spc where
  ι := List (List F)
  pre := fun t => t ≠ []
  args := fun t => [κ.T nilH t]
  post := fun t _ => isB (decide (t.length = ncols t))
  an := fun _ h => h
theorem ok_is_square : Ok P w K mg base 1 ("is_square", none) ["table"] (sIsSquare κ) := by
  refine T.d_is_square.ok sc_is_square (fun _ => rfl) fun cdv A outer s H vs Q E t hr hne ha k => ?_
  obtain ⟨tv, _, rfl, ht, rfl⟩ := ha
  refine ⟨_, (pss_one (ps_ret (pe_cmpR op_eq (pe_callB (lenK K) (by rfl) T.free_len PySem.boot_len (pa_cons (pv 0) pa_nil)) (pe_callB (lenK K) (by rfl) T.free_len PySem.boot_len (pa_cons (pe_ix (ixL K) (pv 0) pe_int (fun _ _ => rfl)) pa_nil)) (nomark _)))), ?_⟩
  exact s_ret (ev_eqI (ev_len (ev_var rfl ht)) (ev_len (ev_ix (i := 0) (ev_var rfl ht) ev_int (hd_some hne)))) fun v H2 e2 h2 => k v H2 e2 (by
    have e : decide (((t.length : Nat) : Int) = ((rw_ t 0).length : Nat)) = decide (t.length = ncols t) := by simp only [Int.natCast_inj]; rfl
    rw [e] at h2
    exact h2)
/-! unit(kind, size) -/
def sUnit : Spc where
  ι := Nat
  pre := fun n => n ≤ 1000
  args := fun n => [κ.obj, isI (n : Nat)]
  post := fun n G => κ.T G (unit n)
  an := fun g h => κ.famT.an g h
theorem ok_unit : Ok P w K mg base 41 ("unit", none) ["kind", "size"] (sUnit κ) := by
  refine T.d_unit.ok sc_unit (fun _ => rfl) fun cdv A outer s H vs Q E n hr hn ha k => ?_
  obtain ⟨kd, _, rfl, hk, _, _, rfl, rfl, rfl⟩ := ha
  obtain ⟨dsN, vN_κ, bN_κ⟩ := κ.b_number
  have hr_κ : Room 40 _ := hr
  refine ⟨_, (pss_one (ps_ret (pe_lc (own := [("i", 2)]) rfl sc_unit.nd (pi_range1 (by rfl) T.free_range (pa_cons (pv 1) pa_nil)) (blkOk_by (own := [("i", 2)]) (N := ["kind", "size", "i", "j"]) (sc := defScope s_unit) (by decide +kernel)) (fun _ _ _ _ _ => (pg_name (i := 2) sc_unit.nd rfl (Or.inr rfl))) (fun _ _ _ _ _ => pts_nil) (fun _ _ _ _ _ => (pe_lc (own := [("j", 3)]) rfl sc_unit.nd (pi_range1 (by rfl) T.free_range (pa_cons (pv 1) pa_nil)) (blkOk_by (own := [("j", 3)]) (N := ["kind", "size", "i", "j"]) (sc := relS (lcScope (stE ((defBody s_unit).getD 0 (.Pass ⟨0, 0, 0, 0⟩)))) (defScope s_unit)) (by decide +kernel)) (fun _ _ _ _ _ => (pg_name (i := 3) sc_unit.nd rfl (Or.inl rfl))) (fun _ _ _ _ _ => pts_nil) (fun _ _ _ _ _ => (pe_meth (pv 0) κ.cls κ.m_number κ.number hr_κ bN_κ vN_κ pass0 (pa_cons (pe_callTy call_int1 (by rfl) T.free_int (by decide +kernel) (pa_cons (pe_cmpR op_eq (pv 2) (pv 3) (nomark _)) pa_nil)) pa_nil)))))))), ?_⟩
  refine s_ret (ev_lcR κ.famL (fun i => unitRow n i) (ea_cons (ev_vint rfl) ea_nil) hn (fun _ => rfl) fun i H1 e1 hi => ?_) fun v H2 e2 h2 => k v H2 e2 h2
  refine ev_lcR κ.fam (fun j => if i = j then 1 else 0) (ea_cons (ev_vint rfl) ea_nil) hn (fun _ => rfl) fun j H2 e2 hj => ?_
  refine (ev_num κ (n := if decide (((i : Nat) : Int) = (j : Nat)) then 1 else 0) ?_ (ev_var rfl (κ.obj.mo hk (e1.trans e2))) (ev_intB (ev_eqI (ev_vint rfl) (ev_vint rfl)))).to ?_
  · split
    · exact .inr (.inl rfl)
    · exact .inl rfl
  · congr 1
    by_cases h : i = j
    · subst h; simp [ofI]
    · have h2 : ¬ (((i : Nat) : Int) = (j : Nat)) := by omega
      simp [ofI, h, h2]
/-! turned(table) -/
def sTurned : Spc where
  ι := List (List F)
  pre := fun t => t ≠ [] ∧ Rect t (ncols t) ∧ t.length ≤ 1000 ∧ ncols t ≤ 1000
  args := fun t => [κ.T nilH t]
  post := fun t G => κ.T G (turned t)
  an := fun g h => κ.famT.an g h
theorem ok_turned : Ok P w K mg base 1 ("turned", none) ["table"] (sTurned κ) := by
  refine T.d_turned.ok sc_turned (fun _ => rfl) fun cdv A outer s H vs Q E t hr ⟨hne, hrc, hl, hc⟩ ha k => ?_
  obtain ⟨tv, _, rfl, ht, rfl⟩ := ha
  refine ⟨_, (pss_one (ps_ret (pe_lc (own := [("j", 1)]) rfl sc_turned.nd (pi_range1 (by rfl) T.free_range (pa_cons (pe_callB (lenK K) (by rfl) T.free_len PySem.boot_len (pa_cons (pe_ix (ixL K) (pv 0) pe_int (fun _ _ => rfl)) pa_nil)) pa_nil)) (blkOk_by (own := [("j", 1)]) (N := ["table", "j", "row"]) (sc := defScope s_turned) (by decide +kernel)) (fun _ _ _ _ _ => (pg_name (i := 1) sc_turned.nd rfl (Or.inr rfl))) (fun _ _ _ _ _ => pts_nil) (fun _ _ _ _ _ => (pe_lc (own := [("row", 2)]) rfl sc_turned.nd (pi_listK K rfl (pv 0)) (blkOk_by (own := [("row", 2)]) (N := ["table", "j", "row"]) (sc := relS (lcScope (stE ((defBody s_turned).getD 0 (.Pass ⟨0, 0, 0, 0⟩)))) (defScope s_turned)) (by decide +kernel)) (fun _ _ _ _ _ => (pg_name (i := 2) sc_turned.nd rfl (Or.inl rfl))) (fun _ _ _ _ _ => pts_nil) (fun _ _ _ _ _ => (pe_ix (ixL K) (pv 2) (pv 1) (fun _ _ => rfl)))))))), ?_⟩
  refine s_ret (ev_lcR κ.famL (fun j => t.map fun r => gt r j) (ea_cons (ev_len (ev_ix (i := 0) (ev_var rfl ht) ev_int (hd_some hne))) ea_nil) hc (fun _ => rfl) fun j H1 e1 hj => ?_) fun v H2 e2 h2 => k v H2 e2 h2
  refine ev_lcN κ.fam (fun r => gt r j) (ev_var rfl ((κ.T nilH t).mo ht e1)) hl (fun _ => rfl) fun i r u H2 e2 hi hu => ?_
  exact ev_ix (i := j) (ev_var rfl hu) (ev_vint rfl) (gt_some (by rw [hrc r (List.mem_of_getElem? hi)]; exact hj))
end
end Tf
set_option maxRecDepth 100000
set_option maxHeartbeats 4000000
namespace Tf
open PySem PySem.Spec PyProof.Rows L2
section
variable {F : Type} [Lean.Grind.Field F] [DecidableEq F]
theorem rw_some {t : List (List F)} {i : Nat} (h : i < t.length) : t[i]? = some (rw_ t i) := by
  unfold rw_
  rw [List.getD_eq_getElem?_getD, List.getElem?_eq_getElem h]
  rfl
theorem rw_mem {t : List (List F)} {i : Nat} (h : i < t.length) : rw_ t i ∈ t := List.mem_of_getElem? (rw_some h)
theorem addRow_zip (c : F) : ∀ xs ys : List F, addRow c xs ys = List.zipWith (fun x y => x + c * y) xs ys
  | [], ys => by cases ys <;> rfl
  | _ :: _, [] => rfl
  | x :: xs, y :: ys => congrArg ((x + c * y) :: ·) (addRow_zip c xs ys)
theorem addRowT_mem (c : F) : ∀ (xs ys : List F) (i : Nat) (x y : F), xs[i]? = some x → ys[i]? = some y → c * y ∈ addRowT c xs ys ∧ x + c * y ∈ addRowT c xs ys
  | [], _, i, x, y, h, _ => by cases h
  | _ :: _, [], i, x, y, _, h => by cases h
  | a :: xs, b :: ys, 0, x, y, h, h' => by
    cases h; cases h'
    exact ⟨List.mem_cons_self .., List.mem_cons_of_mem _ (List.mem_cons_self ..)⟩
  | a :: xs, b :: ys, i + 1, x, y, h, h' => by
    rw [List.getElem?_cons_succ] at h h'
    obtain ⟨p, q⟩ := addRowT_mem c xs ys i x y h h'
    exact ⟨List.mem_cons_of_mem _ (List.mem_cons_of_mem _ p), List.mem_cons_of_mem _ (List.mem_cons_of_mem _ q)⟩
theorem rb_length (rows : List (List F)) (t : Turn F) : (rowsBehind rows t).length = rows.length := by
  cases t <;> simp [rowsBehind]
theorem addRow_length (c : F) (xs ys : List F) (h : xs.length = ys.length) : (addRow c xs ys).length = xs.length := by
  rw [addRow_zip, List.length_zipWith]; omega
theorem rb_rect {rows : List (List F)} {t : Turn F} {n : Nat} (hr : Rect rows n) (ht : t.ok rows.length) : Rect (rowsBehind rows t) n := by
  intro r hm
  cases t with
  | swap i j =>
    obtain ⟨h1, h2, _⟩ := ht
    rcases List.mem_or_eq_of_mem_set hm with h | h
    · rcases List.mem_or_eq_of_mem_set h with h | h
      · exact hr r h
      · rw [h]; exact hr _ (rw_mem h2)
    · rw [h]; exact hr _ (rw_mem h1)
  | scale i c =>
    rcases List.mem_or_eq_of_mem_set hm with h | h
    · exact hr r h
    · rw [h, List.length_map]; exact hr _ (rw_mem ht.1)
  | add i j c =>
    obtain ⟨h1, h2, _⟩ := ht
    rcases List.mem_or_eq_of_mem_set hm with h | h
    · exact hr r h
    · rw [h, addRow_length _ _ _ (by rw [hr _ (rw_mem h1), hr _ (rw_mem h2)])]; exact hr _ (rw_mem h1)
end
section
variable {P : Program} {w : World} {K : PySem.W.Frag} {mg : Str → Option Value} {base : Heap} {F : Type} [Lean.Grind.Field F] [DecidableEq F] (κ : Kd F P w K mg base) (T : Txt K mg)
/-- a turn as a tuple -/
def tnArgs : Turn F → List Pr
  | .swap i j => [isS "swap", isI (i : Nat), isI (j : Nat)]
  | .scale i c => [isS "scale", isI (i : Nat), κ.rep c]
  | .add i j c => [isS "add", isI (i : Nat), isI (j : Nat), κ.rep c]
def Kd.Tn (t : Turn F) : Pr := TR nilH (tnArgs κ t)
theorem tn_sta (t : Turn F) (d : Addr) : Sta (κ.Tn t) d := sta_T (by
  intro P hP
  cases t with
  | swap i j => simp only [tnArgs, List.mem_cons, List.not_mem_nil, or_false] at hP; rcases hP with rfl | rfl | rfl <;> first | exact sta_S | exact sta_I
  | scale i c => simp only [tnArgs, List.mem_cons, List.not_mem_nil, or_false] at hP; rcases hP with rfl | rfl | rfl <;> first | exact sta_S | exact sta_I | exact κ.rep_sta _ _
  | add i j c => simp only [tnArgs, List.mem_cons, List.not_mem_nil, or_false] at hP; rcases hP with rfl | rfl | rfl | rfl <;> first | exact sta_S | exact sta_I | exact κ.rep_sta _ _)
theorem famTn : Fam (fun (_ : Hp) (t : Turn F) => κ.Tn t) := ⟨fun _ h => h, fun _ => tn_sta κ _ _⟩
include T
/-! is_turn(kind, size, turn) -/
def sIsTurn : Spc where
  ι := Nat × Turn F
  pre := fun x => x.2.ok x.1
  args := fun x => [κ.obj, isI (x.1 : Nat), κ.Tn x.2]
  post := fun _ _ => isB true
  an := fun _ h => h
-- 0 kind, 1 size, 2 turn
theorem ok_is_turn : Ok P w K mg base 41 ("is_turn", none) ["kind", "size", "turn"] (sIsTurn κ) := by
  refine T.d_is_turn.ok sc_is_turn (fun _ => rfl) fun cdv A outer s H vs Q E ⟨m, t⟩ hr hok ha k => ?_
  obtain ⟨kd, _, rfl, hk, _, _, rfl, rfl, tv, _, rfl, ht, rfl⟩ := ha
  have hr_κ : Room 40 _ := hr
  refine ⟨_, (pss_cons (ps_if (pt_not (pt_chain op_le op_lt pe_int (pe_ix (ixT K) (pv 2) pe_int (fun _ _ => rfl)) (pv 1))) (pss_one (ps_ret pe_bl)) pss_nil)
      (pss_cons (ps_if (pt_cmpR op_eq (pe_ix (ixT K) (pv 2) pe_int (fun _ _ => rfl)) pe_str (nomark _)) (pss_one (ps_ret (pe_not (pe_meth (pv 0) κ.cls κ.m_nought κ.nought hr_κ κ.b_nought .nil pass0 (pa_cons (pe_ix (ixT K) (pv 2) pe_int (fun _ _ => rfl)) pa_nil))))) pss_nil)
      (pss_one (ps_ret (pe_and (pe_chain op_le op_lt pe_int (pe_ix (ixT K) (pv 2) pe_int (fun _ _ => rfl)) (pv 1)) (pe_one (pe_cmpR op_ne (pe_ix (ixT K) (pv 2) pe_int (fun _ _ => rfl)) (pe_ix (ixT K) (pv 2) pe_int (fun _ _ => rfl)) (nomark _)))))))), ?_⟩
  cases t with
  | swap i j =>
    obtain ⟨h1, h2, h3⟩ : i < m ∧ j < m ∧ i ≠ j := hok
    refine s_ifF (et_not (et_test (ev_chain ev_int (ev_tix (i := 1) (ev_var rfl ht) ev_int rfl) (ev_vint rfl))) |>.to (by simp; omega)) fun H1 e1 => ?_
    have ht1 := (κ.Tn _).mo ht e1
    refine s_ifF (et_test (ev_eqS (ev_tix (i := 0) (ev_var rfl ht1) ev_int rfl) (ev_c)) |>.to (by decide +kernel)) fun H2 e2 => ?_
    have ht2 := (κ.Tn _).mo ht1 e2
    refine s_ret (ev_and (ev_chain ev_int (ev_tix (i := 2) (ev_var rfl ht2) ev_int rfl) (ev_vint rfl)) fun _ => ev_neI (ev_tix (i := 1) (ev_var rfl ht2) ev_int rfl) (ev_tix (i := 2) (ev_var rfl ht2) ev_int rfl)) fun v H3 e3 h3' => k v H3 (e1.trans (e2.trans e3)) ?_
    have e : ((decide ((0 : Int) ≤ (j : Nat)) && decide (((j : Nat) : Int) < (m : Nat))) && !decide (((i : Nat) : Int) = (j : Nat))) = true := by simp; omega
    rw [e] at h3'
    exact h3'
  | scale i c =>
    obtain ⟨h1, h2⟩ : i < m ∧ c ≠ 0 := hok
    refine s_ifF (et_not (et_test (ev_chain ev_int (ev_tix (i := 1) (ev_var rfl ht) ev_int rfl) (ev_vint rfl))) |>.to (by simp; omega)) fun H1 e1 => ?_
    have ht1 := (κ.Tn _).mo ht e1
    refine s_ifT (et_test (ev_eqS (ev_tix (i := 0) (ev_var rfl ht1) ev_int rfl) (ev_c)) |>.to (by decide +kernel)) fun H2 e2 => ?_
    have ht2 := (κ.Tn _).mo ht1 e2
    refine s_ret (ev_not (ev_nou κ (ev_var rfl (κ.obj.mo hk (e1.trans e2))) (ev_tix (i := 2) (ev_var rfl ht2) ev_int rfl))) fun v H3 e3 h3' => k v H3 (e1.trans (e2.trans e3)) ?_
    rw [decide_eq_false h2] at h3'
    exact h3'
  | add i j c =>
    obtain ⟨h1, h2, h3⟩ : i < m ∧ j < m ∧ i ≠ j := hok
    refine s_ifF (et_not (et_test (ev_chain ev_int (ev_tix (i := 1) (ev_var rfl ht) ev_int rfl) (ev_vint rfl))) |>.to (by simp; omega)) fun H1 e1 => ?_
    have ht1 := (κ.Tn _).mo ht e1
    refine s_ifF (et_test (ev_eqS (ev_tix (i := 0) (ev_var rfl ht1) ev_int rfl) (ev_c)) |>.to (by decide +kernel)) fun H2 e2 => ?_
    have ht2 := (κ.Tn _).mo ht1 e2
    refine s_ret (ev_and (ev_chain ev_int (ev_tix (i := 2) (ev_var rfl ht2) ev_int rfl) (ev_vint rfl)) fun _ => ev_neI (ev_tix (i := 1) (ev_var rfl ht2) ev_int rfl) (ev_tix (i := 2) (ev_var rfl ht2) ev_int rfl)) fun v H3 e3 h3' => k v H3 (e1.trans (e2.trans e3)) ?_
    have e : ((decide ((0 : Int) ≤ (j : Nat)) && decide (((j : Nat) : Int) < (m : Nat))) && !decide (((i : Nat) : Int) = (j : Nat))) = true := by simp; omega
    rw [e] at h3'
    exact h3'
/-! rows_behind(kind, rows, turn): the rows that it makes are not known to G0 -/
def sRows : Spc where
  ι := Hp × List (List F) × Turn F
  pre := fun x => x.2.2.ok x.2.1.length ∧ x.2.1.length ≤ 1000 ∧ (∃ n, n ≤ 1000 ∧ Rect x.2.1 n) ∧ κ.Al (rowsBehindT x.2.1 x.2.2)
  args := fun x => [since x.1 κ.obj, LR (κ.L x.1) nilH x.2.1, κ.Tn x.2.2]
  post := fun x G => LR (κ.L x.1) G (rowsBehind x.2.1 x.2.2)
  an := fun g h => lr_low h g fun _ _ r => r
-- 0 kind, 1 rows, 2 turn, 3 found, 4 at, 5 x, 6 y
theorem ok_rows_behind : Ok P w K mg base 41 ("rows_behind", none) ["kind", "rows", "turn"] (sRows κ) := by
  refine T.d_rows_behind.ok sc_rows_behind (fun _ => rfl) fun cdv A outer s H vs Q E ⟨G0, rows, t⟩ hr ⟨hok, hm, ⟨n, hn, hrc⟩, hs⟩ ha k => ?_
  obtain ⟨kd, _, rfl, ⟨hk, hG⟩, rv, _, rfl, hrow, tv, _, rfl, ht, rfl⟩ := ha
  have hr_κ : Room 40 _ := hr
  refine ⟨_, (pss_cons (ps_set (i := 3) sc_rows_behind.nd rfl (Or.inl rfl) (pe_callTy (listK K) (by rfl) T.free_list (by decide +kernel) (pa_cons (pv 1) pa_nil)))
      (pss_cons (ps_set (i := 4) sc_rows_behind.nd rfl (Or.inl rfl) (pe_ix (ixT K) (pv 2) pe_int (fun _ _ => rfl)))
      (pss_cons (ps_if (pt_cmpR op_eq (pe_ix (ixT K) (pv 2) pe_int (fun _ _ => rfl)) pe_str (nomark _)) (pss_cons (ps_asg (pe_ix (ixL K) (pv 1) (pe_ix (ixT K) (pv 2) pe_int (fun _ _ => rfl)) (fun _ _ => rfl)) (pg_sub (pv 3) (pv 4) set_list))
      (pss_one (ps_asg (pe_ix (ixL K) (pv 1) (pv 4) (fun _ _ => rfl)) (pg_sub (pv 3) (pe_ix (ixT K) (pv 2) pe_int (fun _ _ => rfl)) set_list)))) (pss_one (ps_if (pt_cmpR op_eq (pe_ix (ixT K) (pv 2) pe_int (fun _ _ => rfl)) pe_str (nomark _)) (pss_one (ps_asg (pe_lc (own := [("x", 5)]) rfl sc_rows_behind.nd (pi_listK K rfl (pe_ix (ixL K) (pv 1) (pv 4) (fun _ _ => rfl))) (blkOk_by (own := [("x", 5)]) (N := ["kind", "rows", "turn", "found", "at", "x", "y"]) (sc := defScope s_rows_behind) (by decide +kernel)) (fun _ _ _ _ _ => (pg_name (i := 5) sc_rows_behind.nd rfl (Or.inl rfl))) (fun _ _ _ _ _ => pts_nil) (fun _ _ _ _ _ => (pe_meth (pv 0) κ.cls κ.m_times κ.times hr_κ κ.b_times .nil pass0 (pa_cons (pe_ix (ixT K) (pv 2) pe_int (fun _ _ => rfl)) (pa_cons (pv 5) pa_nil))))) (pg_sub (pv 3) (pv 4) set_list))) (pss_one (ps_asg (pe_lc (own := [("x", 5), ("y", 6)]) rfl sc_rows_behind.nd (pi_zipK K rfl (pi_zip (by rfl) T.free_zip (pa_cons (pe_ix (ixL K) (pv 1) (pv 4) (fun _ _ => rfl)) (pa_cons (pe_ix (ixL K) (pv 1) (pe_ix (ixT K) (pv 2) pe_int (fun _ _ => rfl)) (fun _ _ => rfl)) pa_nil)))) (blkOk_by (own := [("x", 5), ("y", 6)]) (N := ["kind", "rows", "turn", "found", "at", "x", "y"]) (sc := defScope s_rows_behind) (by decide +kernel)) (fun _ _ _ _ _ => (pg_tupK K (n := 2) rfl (pg_tup (n := 2) rfl (pgs_cons (pg_name (i := 5) sc_rows_behind.nd rfl (Or.inl rfl)) (pgs_cons (pg_name (i := 6) sc_rows_behind.nd rfl (Or.inl rfl)) pgs_nil))))) (fun _ _ _ _ _ => pts_nil) (fun _ _ _ _ _ => (pe_meth (pv 0) κ.cls κ.m_plus κ.plus hr_κ κ.b_plus .nil pass0 (pa_cons (pv 5) (pa_cons (pe_meth (pv 0) κ.cls κ.m_times κ.times hr_κ κ.b_times .nil pass0 (pa_cons (pe_ix (ixT K) (pv 2) pe_int (fun _ _ => rfl)) (pa_cons (pv 6) pa_nil))) pa_nil))))) (pg_sub (pv 3) (pv 4) set_list))))))
      (pss_one (ps_ret (pv 3)))))), ?_⟩
  have hrow' : (LR (κ.L G0) nilH rows).p rv H := hrow
  obtain ⟨a0, vs0, rfl, _, ha0, hp0⟩ := id hrow'
  have hlen : rows.length = vs0.length := paired_len hp0
  refine ⟨_, rfl, a0, vs0, rfl, .inl (SqL.of ha0), fun l hl => ?_⟩
  have e1 : Same H (upd H l (.lst vs0)) := same_new hl
  have hl1 : upd H l (.lst vs0) l = some (.lst vs0) := upd_same
  generalize upd H l (.lst vs0) = H1 at e1 hl1
  have ht1 := (κ.Tn t).mo ht e1
  have hrow1 := (LR (κ.L G0) nilH rows).mo hrow' e1
  have hG1 : ∀ {a : Addr} {H' : Hp}, Same H H' → H' a = none → G0 a = none := fun s e => Same.free (hG.trans s) e
  -- a row of the old ones, a new one: at the list l
  have old : ∀ {i : Nat} {u : V} {H' : Hp}, Same H H' → vs0[i]? = some u → (κ.L G0 (rw_ rows i)).p u H' := fun {i u H'} s hu => by
    obtain ⟨x, hx, r⟩ := paired_get2 hp0 hu
    have hi : i < rows.length := (List.getElem?_eq_some_iff.mp hx).1
    rw [rw_some hi] at hx
    cases hx
    exact (κ.L G0 _).mo r s
  cases t with
  | swap i j =>
    obtain ⟨h1, h2, h3⟩ : i < rows.length ∧ j < rows.length ∧ i ≠ j := hok
    refine s_asg (i := 4) (ev_tix (i := 1) (ev_var rfl ht1) ev_int rfl) fun v2 H2 e2 h2' => ?_
    cases (show v2 = .int (i : Nat) from h2')
    have ht2 := (κ.Tn _).mo ht1 e2
    refine s_ifT (et_test (ev_eqS (ev_tix (i := 0) (ev_var rfl ht2) ev_int rfl) ev_c) |>.to (by decide +kernel)) fun H3 e3 => ?_
    have ht3 := (κ.Tn _).mo ht2 e3
    have s3 : Same H H3 := e1.trans (e2.trans e3)
    obtain ⟨uj, huj⟩ : ∃ u, vs0[j]? = some u := ⟨vs0[j]'(by omega), List.getElem?_eq_getElem _⟩
    obtain ⟨ui, hui⟩ : ∃ u, vs0[i]? = some u := ⟨vs0[i]'(by omega), List.getElem?_eq_getElem _⟩
    refine s_set (j := i) ((e2.trans e3) _ _ hl1) (ev_ixV (u := uj) (ev_var rfl rfl) (s3 _ _ ha0) (ev_tix (i := 2) (ev_var rfl ht3) ev_int rfl) huj) (ev_var rfl rfl) (ev_vint rfl) (by omega) fun vj H4 e4 hj4 => ?_
    cases (show vj = uj from hj4)
    have s4 : Same H (upd H4 l (.lst (vs0.set i uj))) := same_mut (s3.trans e4) hl
    refine s_set (j := j) upd_same (ev_ixV (u := ui) (ev_var rfl rfl) (s4 _ _ ha0) (ev_vint rfl) hui) (ev_var rfl rfl) (ev_tix (i := 2) (ev_var rfl ((κ.Tn _).mo ht s4)) ev_int rfl) (by rw [List.length_set]; omega) fun vi H5 e5 hi5 => ?_
    cases (show vi = ui from hi5)
    have s5 : Same H (upd H5 l (.lst ((vs0.set i uj).set j ui))) := same_mut (s4.trans e5) hl
    refine s_ret (ev_var (P := LR (κ.L G0) H (rowsBehind rows (.swap i j))) rfl ⟨l, _, rfl, hl, upd_same, ?_⟩) fun v H6 e6 h6 => k v H6 (s5.trans e6) h6
    exact pset (R := κ.L G0) (old s5 hui) j (pset (R := κ.L G0) (old s5 huj) i (pmo hp0 s5))
  | scale i c =>
    obtain ⟨h1, h2⟩ : i < rows.length ∧ c ≠ 0 := hok
    refine s_asg (i := 4) (ev_tix (i := 1) (ev_var rfl ht1) ev_int rfl) fun v2 H2 e2 h2' => ?_
    cases (show v2 = .int (i : Nat) from h2')
    have ht2 := (κ.Tn _).mo ht1 e2
    refine s_ifF (et_test (ev_eqS (ev_tix (i := 0) (ev_var rfl ht2) ev_int rfl) ev_c) |>.to (by decide +kernel)) fun H3 e3 => ?_
    have ht3 := (κ.Tn _).mo ht2 e3
    refine s_ifT (et_test (ev_eqS (ev_tix (i := 0) (ev_var rfl ht3) ev_int rfl) ev_c) |>.to (by decide +kernel)) fun H4 e4 => ?_
    have ht4 := (κ.Tn _).mo ht3 e4
    have s4 : Same H H4 := e1.trans (e2.trans (e3.trans e4))
    have hl4 := (e2.trans (e3.trans e4)) _ _ hl1
    refine s_set (j := i) hl4 (ev_lcN κ.fam (fun x => c * x) (ev_ix (i := i) (ev_var rfl ((LR (κ.L G0) nilH rows).mo hrow' s4)) (ev_vint rfl) (rw_some h1)) (by rw [hrc _ (rw_mem h1)]; exact hn) (fun _ => rfl) fun q x u H5 e5 hq hu =>
      ev_times κ (ev_var rfl (κ.obj.mo hk (s4.trans e5))) (ev_tix (i := 2) (ev_var rfl ((κ.Tn _).mo ht4 e5)) ev_int rfl) (ev_var rfl hu) (hs _ (List.mem_map.mpr ⟨x, List.mem_of_getElem? hq, rfl⟩))) (ev_var rfl rfl) (ev_vint rfl) (by omega) fun v5 H5 e5 h5 => ?_
    have s5 : Same H (upd H5 l (.lst (vs0.set i v5))) := same_mut (s4.trans e5) hl
    have h6 : (κ.L H4 ((rw_ rows i).map fun x => c * x)).p v5 (upd H5 l (.lst (vs0.set i v5))) := κ.famL.st (by rw [hl4]; intro z; cases z) _ _ _ _ (e5 _ _ hl4) h5
    refine s_ret (ev_var (P := LR (κ.L G0) H (rowsBehind rows (.scale i c))) rfl ⟨l, _, rfl, hl, upd_same, ?_⟩) fun v H6 e6 h6 => k v H6 (s5.trans e6) h6
    exact pset (R := κ.L G0) (κ.famL.an (fun a e => hG1 s4 e) h6) i (pmo hp0 s5)
  | add i j c =>
    obtain ⟨h1, h2, h3⟩ : i < rows.length ∧ j < rows.length ∧ i ≠ j := hok
    refine s_asg (i := 4) (ev_tix (i := 1) (ev_var rfl ht1) ev_int rfl) fun v2 H2 e2 h2' => ?_
    cases (show v2 = .int (i : Nat) from h2')
    have ht2 := (κ.Tn _).mo ht1 e2
    refine s_ifF (et_test (ev_eqS (ev_tix (i := 0) (ev_var rfl ht2) ev_int rfl) ev_c) |>.to (by decide +kernel)) fun H3 e3 => ?_
    have ht3 := (κ.Tn _).mo ht2 e3
    refine s_ifF (et_test (ev_eqS (ev_tix (i := 0) (ev_var rfl ht3) ev_int rfl) ev_c) |>.to (by decide +kernel)) fun H4 e4 => ?_
    have ht4 := (κ.Tn _).mo ht3 e4
    have s4 : Same H H4 := e1.trans (e2.trans (e3.trans e4))
    have hl4 := (e2.trans (e3.trans e4)) _ _ hl1
    have hr4 := (LR (κ.L G0) nilH rows).mo hrow' s4
    have l1 := hrc _ (rw_mem h1)
    have l2 := hrc _ (rw_mem h2)
    refine s_set (j := i) hl4 (ev_lcZ κ.fam (fun x y => x + c * y) (ea_cons (ev_ix (i := i) (ev_var rfl hr4) (ev_vint rfl) (rw_some h1)) (ea_cons (ev_ix (i := j) (ev_var rfl hr4) (ev_tix (i := 2) (ev_var rfl ht4) ev_int rfl) (rw_some h2)) ea_nil)) (by rw [l1, l2]) (by rw [l1]; exact hn) (fun _ _ => rfl) fun q x y u v H5 e5 hx hy hu hv =>
      (fun mem => ev_plus κ (ev_var rfl (κ.obj.mo hk (s4.trans e5))) (ev_var rfl hu) (ev_times κ (ev_var rfl (κ.obj.mo hk (s4.trans e5))) (ev_tix (i := 3) (ev_var rfl ((κ.Tn _).mo ht4 e5)) ev_int rfl) (ev_var rfl hv) (hs _ mem.1)) (hs _ mem.2)) (addRowT_mem c _ _ q x y hx hy)) (ev_var rfl rfl) (ev_vint rfl) (by omega) fun v5 H5 e5 h5 => ?_
    have s5 : Same H (upd H5 l (.lst (vs0.set i v5))) := same_mut (s4.trans e5) hl
    have h6 : (κ.L H4 (List.zipWith (fun x y => x + c * y) (rw_ rows i) (rw_ rows j))).p v5 (upd H5 l (.lst (vs0.set i v5))) := κ.famL.st (by rw [hl4]; intro z; cases z) _ _ _ _ (e5 _ _ hl4) h5
    rw [← addRow_zip] at h6
    refine s_ret (ev_var (P := LR (κ.L G0) H (rowsBehind rows (.add i j c))) rfl ⟨l, _, rfl, hl, upd_same, ?_⟩) fun v H6 e6 h6 => k v H6 (s5.trans e6) h6
    exact pset (R := κ.L G0) (κ.famL.an (fun a e => hG1 s4 e) h6) i (pmo hp0 s5)
/-! done(kind, table, turns) -/
def sDone : Spc where
  ι := List (List F) × List (Turn F)
  pre := fun x => (∀ t ∈ x.2, t.ok x.1.length) ∧ x.1.length ≤ 1000 ∧ (∃ n, n ≤ 1000 ∧ Rect x.1 n) ∧ κ.Al (doneT x.1 x.2)
  args := fun x => [κ.obj, κ.T nilH x.1, LR κ.Tn nilH x.2]
  post := fun x G => κ.T G (done x.1 x.2)
  an := fun g h => κ.famT.an g h
-- 0 kind, 1 table, 2 turns, 3 rows, 4 row, 5 turn
theorem ok_done : Ok P w K mg base 42 ("done", none) ["kind", "table", "turns"] (sDone κ) := by
  refine T.d_done.ok sc_done (fun _ => rfl) fun cdv A outer s H vs Q E ⟨t, ts⟩ hr ⟨hok, hm, ⟨n, hn, hrc⟩, hs⟩ ha k => ?_
  obtain ⟨kd, _, rfl, hk, tv, _, rfl, ht, sv, _, rfl, hts, rfl⟩ := ha
  have hr_is_turn : Room 41 _ := hr
  have hr_rows_behind : Room 41 _ := hr
  have G_is_turn := ok_is_turn κ T
  have G_rows_behind := ok_rows_behind κ T
  have ht : (κ.T nilH t).p tv H := ht
  have hts : (LR κ.Tn nilH ts).p sv H := hts
  refine ⟨_, (pss_cons (ps_setLc (i := 3) (own := [("row", 4)]) rfl sc_done.nd rfl rfl (sw_true rfl rfl rfl (by decide +kernel)) (pi_listK K rfl (pv 1)) (blkOk_by (own := [("row", 4)]) (N := ["kind", "table", "turns", "rows", "row", "turn"]) (sc := defScope s_done) (by decide +kernel)) (fun _ _ _ _ _ => (pg_name (i := 4) sc_done.nd rfl (Or.inl rfl))) (fun _ _ _ _ _ => pts_nil) (fun _ _ _ _ _ => (pe_callTy (listK K) (by rfl) T.free_list (by decide +kernel) (pa_cons (pv 4) pa_nil))))
      (pss_cons (ps_for PassesOwn.never rfl (pi_listK K rfl (pv 2)) (pg_name (i := 5) sc_done.nd rfl (Or.inl rfl)) (pss_cons (ps_if (pt_not (pt_val (pe_call G_is_turn hr_is_turn rfl T.g_is_turn T.d_is_turn.fn.kp T.d_is_turn.bd .nil pass0 (pa_cons (pv 0) (pa_cons (pe_callB (lenK K) (by rfl) T.free_len PySem.boot_len (pa_cons (pv 3) pa_nil)) (pa_cons (pv 5) pa_nil)))))) pss_never pss_nil)
      (pss_one (ps_set (i := 3) sc_done.nd rfl (Or.inl rfl) (pe_call G_rows_behind hr_rows_behind rfl T.g_rows_behind T.d_rows_behind.fn.kp T.d_rows_behind.bd .nil pass0 (pa_cons (pv 0) (pa_cons (pv 3) (pa_cons (pv 5) pa_nil))))))))
      (pss_one (ps_ret (pv 3))))), ?_⟩
  refine s_asg (ev_lcN κ.famL (fun r => r) (ev_var rfl ht) hm (fun _ => rfl) fun i r u H1 e1 hi hu => ev_list (ev_var rfl hu)) fun v1 H1 e1 h1 => ?_
  rw [List.map_id'] at h1
  refine s_forL (R := κ.Tn) (ev_var rfl ((LR κ.Tn nilH ts).mo hts e1)) (fun H2 i σ H' => Same H2 H' ∧ ∃ (a b : Option V) (v : V) (acc : List (List F)), σ = [some kd, some tv, some sv, some v, b, a] ∧ (κ.T H acc).p v H' ∧ acc.length = t.length ∧ Rect acc n ∧ done acc (ts.drop i) = done t ts ∧ κ.Al (doneT acc (ts.drop i)))
    (fun H2 e2 => ⟨Same.refl _, none, none, v1, t, rfl, (κ.T H t).mo h1 e2, rfl, hrc, rfl, hs⟩) (fun _ _ _ _ _ p => p.1) ?_ ?_
  · rintro H2 i x u σ' H' e2 hxi ⟨e3, a, b, v, acc, rfl, hacc, hal, hrect, hd, hA⟩ hu
    have hmem : x ∈ ts := List.mem_of_getElem? hxi
    have d1 : ts.drop i = x :: ts.drop (i + 1) := by rw [List.drop_eq_getElem_cons (List.getElem?_eq_some_iff.mp hxi).1, (List.getElem?_eq_some_iff.mp hxi).2]
    rw [d1] at hd hA
    have sH' : Same H H' := e1.trans (e2.trans e3)
    have hx : x.ok acc.length := by rw [hal]; exact hok x hmem
    refine s_ifF (et_not (et_B (ev_call (S := sIsTurn κ) (acc.length, x) (ea_cons (ev_var rfl (κ.obj.mo hk sH')) (ea_cons (ev_len (ev_var rfl hacc)) (ea_cons (ev_var rfl hu) ea_nil))) hx))) fun H4 e4 => ?_
    refine s_asg (ev_call (S := sRows κ) (H, acc, x) (ea_cons (ev_var rfl ⟨κ.obj.mo hk (sH'.trans e4), sH'.trans e4⟩) (ea_cons (ev_var rfl (lr_low ((κ.T H acc).mo hacc e4) (fun _ _ => rfl) fun _ _ r => r)) (ea_cons (ev_var rfl ((κ.Tn x).mo hu e4)) ea_nil)))
      ⟨hx, by rw [hal]; exact hm, ⟨n, hn, hrect⟩, fun z hz => hA z (List.mem_append_left _ hz)⟩) fun v5 H5 e5 h5 => ?_
    exact ⟨e3.trans (e4.trans e5), _, _, v5, rowsBehind acc x, rfl, lr_low h5 (fun a e => Same.free (sH'.trans e4) e) (fun _ _ r => r), by rw [rb_length]; exact hal, rb_rect hrect hx, hd, fun z hz => hA z (List.mem_append_right _ hz)⟩
  · rintro H2 σ' H' e2 ⟨e3, a, b, v, acc, rfl, hacc, hal, hrect, hd, hA⟩
    refine s_ret (ev_var rfl hacc) fun v5 H5 e5 h5 => k v5 H5 (e1.trans (e2.trans (e3.trans e5))) ?_
    have e : acc = done t ts := by rw [← hd, List.drop_length]; rfl
    show (κ.T H (done t ts)).p v5 H5
    rw [← e]
    exact h5
end
end Tf
set_option maxRecDepth 100000
set_option maxHeartbeats 4000000
namespace Tf
open PySem PySem.Spec PyProof.Rows L2
section
variable {F : Type} [Lean.Grind.Field F] [DecidableEq F]
/-- the place, or -1 -/
def lowI : Option Nat → Int
  | some i => i
  | none => -1
theorem lowGo_ge (rows : List (List F)) (c : Nat) : ∀ n i j, lowGo rows c n i = some j → i ≤ j ∧ j < i + n ∧ gt (rw_ rows j) c ≠ 0
  | 0, i, j, h => by cases h
  | n + 1, i, j, h => by
    unfold lowGo at h
    split at h
    · obtain ⟨h1, h2, h3⟩ := lowGo_ge rows c n (i + 1) j h; exact ⟨by omega, by omega, h3⟩
    · cases h; rename_i q; exact ⟨Nat.le_refl _, by omega, q⟩
theorem firstLow_some {rows : List (List F)} {s c j : Nat} (h : firstLow rows s c = some j) : s ≤ j ∧ j < rows.length ∧ gt (rw_ rows j) c ≠ 0 := by
  have := lowGo_ge rows c _ _ _ h
  refine ⟨this.1, ?_, this.2.2⟩
  omega
theorem inv_ne {x : F} (h : x ≠ 0) : x⁻¹ ≠ 0 := by
  intro e
  have q := Lean.Grind.Field.mul_inv_cancel h
  rw [e] at q
  have z := Lean.Grind.Field.zero_ne_one (α := F)
  apply z
  rw [← q]
  exact (Lean.Grind.Semiring.mul_zero x).symm
theorem leadTurns_ok {rows : List (List F)} {a low c : Nat} (h1 : a ≤ low) (h2 : low < rows.length) (h3 : gt (rw_ rows low) c ≠ 0) : ∀ t ∈ leadTurns rows a low c, t.ok rows.length := by
  intro t ht
  unfold leadTurns at ht
  split at ht
  · simp only [List.mem_cons, List.not_mem_nil, or_false] at ht
    subst ht
    exact ⟨by omega, inv_ne h3⟩
  · rename_i hne
    simp only [List.mem_cons, List.not_mem_nil, or_false] at ht
    rcases ht with rfl | rfl
    · exact ⟨by omega, h2, fun e => hne e.symm⟩
    · exact ⟨by omega, inv_ne h3⟩
theorem clearTo_ok {rows : List (List F)} {a c m : Nat} (ha : a < m) : ∀ n, n ≤ m → ∀ t ∈ clearTo rows a c n, t.ok m
  | 0, _, t, ht => by cases ht
  | n + 1, hn, t, ht => by
    rcases List.mem_append.mp ht with h | h
    · exact clearTo_ok ha n (by omega) t h
    · unfold clearAt at h
      split at h
      · cases h
      · split at h
        · cases h
        · rename_i q _
          simp only [List.mem_cons, List.not_mem_nil, or_false] at h
          subst h
          exact ⟨by omega, ha, q⟩
theorem clearTo_len {rows : List (List F)} {a c : Nat} : ∀ n, (clearTo rows a c n).length ≤ n
  | 0 => Nat.le_refl _
  | n + 1 => by
    have h := clearTo_len (rows := rows) (a := a) (c := c) n
    show (clearTo rows a c n ++ clearAt rows a c n).length ≤ n + 1
    rw [List.length_append]
    have : (clearAt rows a c n).length ≤ 1 := by
      unfold clearAt
      split
      · exact Nat.zero_le _
      · split <;> simp
    omega
theorem leadTurns_len {rows : List (List F)} {a low c : Nat} : (leadTurns rows a low c).length ≤ 2 := by
  unfold leadTurns; split <;> simp
theorem done_rect {n : Nat} : ∀ (ts : List (Turn F)) {rows : List (List F)}, Rect rows n → (∀ t ∈ ts, t.ok rows.length) → Rect (done rows ts) n ∧ (done rows ts).length = rows.length
  | [], rows, h, _ => ⟨h, rfl⟩
  | t :: ts, rows, h, hok => by
    have h1 := hok t (List.mem_cons_self ..)
    have := done_rect ts (rows := rowsBehind rows t) (rb_rect h h1) (fun u hu => by rw [rb_length]; exact hok u (List.mem_cons_of_mem _ hu))
    exact ⟨this.1, by rw [show done rows (t :: ts) = done (rowsBehind rows t) ts from rfl, this.2, rb_length]⟩
theorem stepCol_ok {s : Stp F} {m n c : Nat} (h : Rect s.1 n ∧ s.1.length = m) (ht : ∀ t ∈ s.2.1, t.ok m) : (Rect (stepCol s c).1 n ∧ (stepCol s c).1.length = m) ∧ (∀ t ∈ (stepCol s c).2.1, t.ok m) := by
  unfold stepCol
  split
  · exact ⟨h, ht⟩
  · rename_i low hl
    obtain ⟨l1, l2, l3⟩ := firstLow_some hl
    have o1 := leadTurns_ok l1 l2 l3
    obtain ⟨r1, m1⟩ := done_rect _ h.1 o1
    have o2 : ∀ t ∈ clearTurns (done s.1 (leadTurns s.1 s.2.2.length low c)) s.2.2.length c, t.ok (done s.1 (leadTurns s.1 s.2.2.length low c)).length := clearTo_ok (by omega) _ (Nat.le_refl _)
    obtain ⟨r2, m2⟩ := done_rect _ r1 o2
    refine ⟨⟨r2, ?_⟩, fun t hm => ?_⟩
    · dsimp only; omega
    rcases List.mem_append.mp hm with hm | hm
    · rcases List.mem_append.mp hm with hm | hm
      · exact ht t hm
      · rw [← h.2]; exact o1 t hm
    · have := o2 t hm
      rw [m1, h.2] at this
      exact this
theorem stepsTo_ok {t : List (List F)} {n : Nat} (h : Rect t n) : ∀ i, (Rect (stepsTo t i).1 n ∧ (stepsTo t i).1.length = t.length) ∧ (∀ u ∈ (stepsTo t i).2.1, u.ok t.length)
  | 0 => ⟨⟨h, rfl⟩, fun u hu => by cases hu⟩
  | i + 1 => stepCol_ok (stepsTo_ok h i).1 (stepsTo_ok h i).2
theorem stepCol_len {s : Stp F} {c : Nat} : (stepCol s c).2.2.length ≤ s.2.2.length + 1 ∧ (Rect s.1 (ncols s.1) → (stepCol s c).2.1.length ≤ s.2.1.length + 2 + s.1.length) := by
  unfold stepCol
  split
  · exact ⟨by omega, fun _ => by omega⟩
  · rename_i low hl
    obtain ⟨l1, l2, l3⟩ := firstLow_some hl
    refine ⟨by simp, fun h => ?_⟩
    have o1 := leadTurns_ok l1 l2 l3
    obtain ⟨r1, m1⟩ := done_rect _ h o1
    have c1 : (leadTurns s.1 s.2.2.length low c).length ≤ 2 := leadTurns_len
    have c2 : (clearTurns (done s.1 (leadTurns s.1 s.2.2.length low c)) s.2.2.length c).length ≤ (done s.1 (leadTurns s.1 s.2.2.length low c)).length := clearTo_len _
    rw [List.length_append, List.length_append]
    omega
theorem rect_ncols {t : List (List F)} {n : Nat} (h : Rect t n) : Rect t (ncols t) := by
  intro r hr
  rw [h r hr]
  have hl : 0 < t.length := List.length_pos_of_mem hr
  exact (h _ (rw_mem hl)).symm
theorem stepsTo_len {t : List (List F)} {n : Nat} (h : Rect t n) : ∀ i, (stepsTo t i).2.2.length ≤ i ∧ (stepsTo t i).2.1.length ≤ i * (2 + t.length)
  | 0 => ⟨Nat.le_refl _, Nat.zero_le _⟩
  | i + 1 => by
    obtain ⟨a, b⟩ := stepsTo_len h i
    have ⟨c1, c2⟩ := stepCol_len (s := stepsTo t i) (c := i)
    have r := (stepsTo_ok h i).1
    have c3 := c2 (rect_ncols r.1)
    rw [r.2] at c3
    refine ⟨Nat.le_trans c1 (by omega), Nat.le_trans c3 ?_⟩
    rw [Nat.succ_mul]
    omega
theorem stepsToT_mem {t : List (List F)} : ∀ {n i : Nat}, i < n → ∀ z ∈ stepColT (stepsTo t i) i, z ∈ stepsToT t n
  | n + 1, i, h, z, hz => by
    by_cases e : i = n
    · subst e; exact List.mem_append_right _ hz
    · exact List.mem_append_left _ (stepsToT_mem (by omega) z hz)
end
section
variable {P : Program} {w : World} {K : PySem.W.Frag} {mg : Str → Option Value} {base : Heap} {F : Type} [Lean.Grind.Field F] [DecidableEq F] (κ : Kd F P w K mg base) (T : Txt K mg)
include T
/-! first_low(kind, rows, start, column) -/
def sLow : Spc where
  ι := List (List F) × Nat × Nat
  pre := fun ⟨rows, st, c⟩ => (∃ n, Rect rows n ∧ c < n) ∧ st ≤ 1000 ∧ rows.length ≤ 1000
  args := fun ⟨rows, st, c⟩ => [κ.obj, κ.T nilH rows, isI (st : Nat), isI (c : Nat)]
  post := fun ⟨rows, st, c⟩ _ => isI (lowI (firstLow rows st c))
  an := fun _ h => h
-- 0 kind, 1 rows, 2 start, 3 column, 4 i
theorem ok_first_low : Ok P w K mg base 41 ("first_low", none) ["kind", "rows", "start", "column"] (sLow κ) := by
  refine T.d_first_low.ok sc_first_low (fun _ => rfl) fun cdv A outer s H vs Q E ⟨rows, st, c⟩ hr ⟨⟨n, hrc, hc⟩, hst, hm⟩ ha k => ?_
  obtain ⟨kd, _, rfl, hk, rv, _, rfl, hro, _, _, rfl, rfl, _, _, rfl, rfl, rfl⟩ := ha
  have hr_κ : Room 40 _ := hr
  have hro : (κ.T nilH rows).p rv H := hro
  refine ⟨_, (pss_cons (ps_for PassesOwn.never rfl (pi_range2 (by rfl) T.free_range (pa_cons (pv 2) (pa_cons (pe_callB (lenK K) (by rfl) T.free_len PySem.boot_len (pa_cons (pv 1) pa_nil)) pa_nil))) (pg_name (i := 4) sc_first_low.nd rfl (Or.inl rfl)) (pss_one (ps_if (pt_not (pt_val (pe_meth (pv 0) κ.cls κ.m_nought κ.nought hr_κ κ.b_nought .nil pass0 (pa_cons (pe_ix (ixL K) (pe_ix (ixL K) (pv 1) (pv 4) (fun _ _ => rfl)) (pv 3) (fun _ _ => rfl)) pa_nil)))) (pss_one (ps_ret (pv 4))) pss_nil)))
      (pss_one (ps_ret (pe_un un_neg pe_int)))), ?_⟩
  refine s_forR2 (a := st) (n := rows.length) (ea_cons (ev_vint rfl) (ea_cons (ev_len (ev_var rfl hro)) ea_nil)) ⟨by have : st ≤ 1000 := hst; omega, by have : rows.length ≤ 1000 := hm; omega⟩
    (fun i σ H' => Same H H' ∧ ∃ a, σ = [some kd, some rv, some (.int (st : Nat)), some (.int (c : Nat)), a] ∧ lowGo rows c (rows.length - st - i) (st + i) = firstLow rows st c)
    (fun H1 e1 => ⟨e1, none, rfl, rfl⟩) ?_ ?_
  · rintro i σ' H' hi ⟨e1, a, rfl, hg⟩
    have hi2 : st + i < rows.length := by omega
    have hc2 : c < (rw_ rows (st + i)).length := by rw [hrc _ (rw_mem hi2)]; exact hc
    have d : rows.length - st - i = (rows.length - st - (i + 1)) + 1 := by omega
    rw [d] at hg
    refine s_if (et_not (et_B (ev_nou κ (ev_var rfl (κ.obj.mo hk e1)) (ev_ix (i := c) (ev_ix (i := st + i) (ev_var rfl ((κ.T nilH rows).mo hro e1)) (ev_vint rfl) (rw_some hi2)) (ev_vint rfl) (gt_some hc2))))) (fun hb H2 e2 => ?_) (fun hb H2 e2 => ?_)
    · have hz : gt (rw_ rows (st + i)) c ≠ 0 := by simpa using hb
      refine s_ret (ev_vint (n := ((st + i : Nat) : Int)) rfl) fun v H3 e3 h3 => k v H3 (e1.trans (e2.trans e3)) ?_
      have e : firstLow rows st c = some (st + i) := by rw [← hg]; unfold lowGo; rw [if_neg hz]
      show v = _
      rw [show lowI ((firstLow rows st c)) = ((st + i : Nat) : Int) by rw [e]; rfl]
      exact h3
    · have hz : gt (rw_ rows (st + i)) c = 0 := by simpa using hb
      refine ⟨e1.trans e2, _, rfl, ?_⟩
      rw [← hg]
      show _ = lowGo rows c ((rows.length - st - (i + 1)) + 1) (st + i)
      conv => rhs; unfold lowGo
      rw [if_pos hz]
      rfl
  · rintro σ' H' ⟨e1, a, rfl, hg⟩
    refine s_ret (σ := [some kd, some rv, some (.int (st : Nat)), some (.int (c : Nat)), a]) (ev_neg ev_int) fun v H3 e3 h3 => k v H3 (e1.trans e3) ?_
    have e : firstLow rows st c = none := by
      rw [← hg, show rows.length - st - (rows.length - st) = 0 by omega]; rfl
    show v = _
    rw [show lowI ((firstLow rows st c)) = -1 by rw [e]; rfl]
    exact h3
/-! lead_turns(kind, rows, at, low, column) -/
def sLead : Spc where
  ι := List (List F) × Nat × Nat × Nat
  pre := fun ⟨rows, at_, low, c⟩ => (∃ n, Rect rows n ∧ c < n) ∧ low < rows.length ∧ gt (rw_ rows low) c ≠ 0
  args := fun ⟨rows, at_, low, c⟩ => [κ.obj, κ.T nilH rows, isI (at_ : Nat), isI (low : Nat), isI (c : Nat)]
  post := fun ⟨rows, at_, low, c⟩ G => LR κ.Tn G (leadTurns rows at_ low c)
  an := fun {i _ _ _ _} g h => by obtain ⟨rows, at_, low, c⟩ := i; exact lr_low h g fun _ _ r => r
-- 0 kind, 1 rows, 2 at, 3 low, 4 column, 5 scale
theorem ok_lead_turns : Ok P w K mg base 41 ("lead_turns", none) ["kind", "rows", "at", "low", "column"] (sLead κ) := by
  refine T.d_lead_turns.ok sc_lead_turns (fun _ => rfl) fun cdv A outer s H vs Q E ⟨rows, at_, low, c⟩ hr ⟨⟨n, hrc, hc⟩, hlo, hz⟩ ha k => ?_
  obtain ⟨kd, _, rfl, hk, rv, _, rfl, hro, _, _, rfl, rfl, _, _, rfl, rfl, _, _, rfl, rfl, rfl⟩ := ha
  have hr_κ : Room 40 _ := hr
  have hro : (κ.T nilH rows).p rv H := hro
  have hc2 : c < (rw_ rows low).length := by rw [hrc _ (rw_mem hlo)]; exact hc
  refine ⟨_, (pss_cons (ps_set (i := 5) sc_lead_turns.nd rfl (Or.inl rfl) (pe_tup (pa_cons pe_str (pa_cons (pv 2) (pa_cons (pe_meth (pv 0) κ.cls κ.m_back κ.back hr_κ κ.b_back .nil pass0 (pa_cons (pe_ix (ixL K) (pe_ix (ixL K) (pv 1) (pv 3) (fun _ _ => rfl)) (pv 4) (fun _ _ => rfl)) pa_nil)) pa_nil)))))
      (pss_cons (ps_if (pt_cmpR op_eq (pv 3) (pv 2) (nomark _)) (pss_one (ps_ret (pe_lst (pa_cons (pv 5) pa_nil)))) pss_nil)
      (pss_one (ps_ret (pe_lst (pa_cons (pe_tup (pa_cons pe_str (pa_cons (pv 2) (pa_cons (pv 3) pa_nil)))) (pa_cons (pv 5) pa_nil))))))), ?_⟩
  refine s_asg (P := κ.Tn (.scale at_ (gt (rw_ rows low) c)⁻¹)) ((ev_tup (Ps := [isS "scale", isI (at_ : Nat), κ.rep (gt (rw_ rows low) c)⁻¹]) (ea_cons ev_c (ea_cons (ev_vint rfl) (ea_cons (ev_back κ (ev_var rfl hk) (ev_ix (i := c) (ev_ix (i := low) (ev_var rfl hro) (ev_vint rfl) (rw_some hlo)) (ev_vint rfl) (gt_some hc2)) hz) ea_nil)))).imp (fun v H1 _ ⟨a, vs, e, _, h, q⟩ => ⟨a, vs, e, rfl, h, q⟩)) fun v1 H1 e1 h1 => ?_
  refine s_if (et_test (ev_eqI (ev_vint rfl) (ev_vint rfl))) (fun hb H2 e2 => ?_) (fun hb H2 e2 => ?_)
  · have e : low = at_ := by have := of_decide_eq_true hb; omega
    refine s_ret (ev_lst (R := κ.Tn) (xs := [.scale at_ (gt (rw_ rows low) c)⁻¹]) (ea_cons (ev_var rfl ((κ.Tn _).mo h1 e2)) ea_nil)) fun v H3 e3 h3 => k v H3 (e1.trans (e2.trans e3)) ?_
    show (LR κ.Tn H (leadTurns rows at_ low c)).p v H3
    rw [show leadTurns rows at_ low c = [.scale at_ (gt (rw_ rows low) c)⁻¹] by unfold leadTurns; rw [if_pos e]]
    exact lr_low h3 (fun a q => Same.free (e1.trans e2) q) fun _ _ r => r
  · have e : ¬ low = at_ := by have := of_decide_eq_false hb; omega
    refine s_ret (ev_lst (R := κ.Tn) (xs := [.swap at_ low, .scale at_ (gt (rw_ rows low) c)⁻¹]) (ea_cons ((ev_tup (Ps := [isS "swap", isI (at_ : Nat), isI (low : Nat)]) (ea_cons ev_c (ea_cons (ev_vint rfl) (ea_cons (ev_vint rfl) ea_nil)))).imp (fun v H1 _ ⟨a, vs, e, _, h, q⟩ => ⟨a, vs, e, rfl, h, q⟩)) (ea_cons (ev_var rfl ((κ.Tn _).mo h1 e2)) ea_nil))) fun v H3 e3 h3 => k v H3 (e1.trans (e2.trans e3)) ?_
    show (LR κ.Tn H (leadTurns rows at_ low c)).p v H3
    rw [show leadTurns rows at_ low c = [.swap at_ low, .scale at_ (gt (rw_ rows low) c)⁻¹] by unfold leadTurns; rw [if_neg e]]
    exact lr_low h3 (fun a q => Same.free (e1.trans e2) q) fun _ _ r => r
/-! clear_turns(kind, rows, at, column) -/
def sClear : Spc where
  ι := List (List F) × Nat × Nat
  pre := fun ⟨rows, at_, c⟩ => (∃ n, Rect rows n ∧ c < n) ∧ rows.length ≤ 1000
  args := fun ⟨rows, at_, c⟩ => [κ.obj, κ.T nilH rows, isI (at_ : Nat), isI (c : Nat)]
  post := fun ⟨rows, at_, c⟩ G => LR κ.Tn G (clearTurns rows at_ c)
  an := fun {i _ _ _ _} g h => by obtain ⟨rows, at_, c⟩ := i; exact lr_low h g fun _ _ r => r
-- 0 kind, 1 rows, 2 at, 3 column, 4 turns, 5 i
theorem ok_clear_turns : Ok P w K mg base 41 ("clear_turns", none) ["kind", "rows", "at", "column"] (sClear κ) := by
  refine T.d_clear_turns.ok sc_clear_turns (fun _ => rfl) fun cdv A outer s H vs Q E ⟨rows, at_, c⟩ hr ⟨⟨n, hrc, hc⟩, hm⟩ ha k => ?_
  obtain ⟨kd, _, rfl, hk, rv, _, rfl, hro, _, _, rfl, rfl, _, _, rfl, rfl, rfl⟩ := ha
  obtain ⟨dsN, vN_κ, bN_κ⟩ := κ.b_number
  have hr_κ : Room 40 _ := hr
  have hro : (κ.T nilH rows).p rv H := hro
  refine ⟨_, (pss_cons (ps_set (i := 4) sc_clear_turns.nd rfl (Or.inl rfl) (pe_lst pa_nil))
      (pss_cons (ps_for PassesOwn.never rfl (pi_range1 (by rfl) T.free_range (pa_cons (pe_callB (lenK K) (by rfl) T.free_len PySem.boot_len (pa_cons (pv 1) pa_nil)) pa_nil)) (pg_name (i := 5) sc_clear_turns.nd rfl (Or.inl rfl)) (pss_one (ps_if (PW.pt (pw_and (pt_cmpR op_ne (pv 5) (pv 2) (nomark _)) (pw_and1 (pt_not (pt_val (pe_meth (pv 0) κ.cls κ.m_nought κ.nought hr_κ κ.b_nought .nil pass0 (pa_cons (pe_ix (ixL K) (pe_ix (ixL K) (pv 1) (pv 5) (fun _ _ => rfl)) (pv 3) (fun _ _ => rfl)) pa_nil))))))) (pss_one (ps_expr (pe_bm PySem.F.plainAttrs_list PySem.F.slot_list_append PySem.F.type_list_append mt_append (pv 4) (pa_cons (pe_tup (pa_cons pe_str (pa_cons (pv 5) (pa_cons (pv 2) (pa_cons (pe_meth (pv 0) κ.cls κ.m_minus κ.minus hr_κ κ.b_minus .nil pass0 (pa_cons (pe_meth (pv 0) κ.cls κ.m_number κ.number hr_κ bN_κ vN_κ pass0 (pa_cons pe_int pa_nil)) (pa_cons (pe_ix (ixL K) (pe_ix (ixL K) (pv 1) (pv 5) (fun _ _ => rfl)) (pv 3) (fun _ _ => rfl)) pa_nil))) pa_nil))))) pa_nil)))) pss_nil)))
      (pss_one (ps_ret (pv 4))))), ?_⟩
  refine s_asg (ev_nilL (R := κ.Tn)) fun v1 H1 e1 h1 => ?_
  obtain ⟨l, vs, rfl, hl, hl1, hp1⟩ := h1
  refine s_forR (n := rows.length) (ea_cons (ev_len (ev_var rfl ((κ.T nilH rows).mo hro e1))) ea_nil) (by have : rows.length ≤ 1000 := hm; omega)
    (fun i σ H' => Same H H' ∧ ∃ a vs, σ = [some kd, some rv, some (.int (at_ : Nat)), some (.int (c : Nat)), some (.ref l), a] ∧ H' l = some (.lst vs) ∧ Paired (fun x u => (κ.Tn x).p u H') (clearTo rows at_ c i) vs)
    (fun H2 e2 => ⟨e1.trans e2, none, vs, rfl, e2 _ _ hl1, pmo hp1 e2⟩) ?_ ?_
  · rintro i σ' H' hi ⟨e2, a, vs, rfl, hl2, hp2⟩
    have hc2 : c < (rw_ rows i).length := by rw [hrc _ (rw_mem hi)]; exact hc
    have hlen := paired_len hp2
    have hcl := clearTo_len (rows := rows) (a := at_) (c := c) i
    have ix : ∀ H3, Same H' H3 → Ev (tOp (rIxL K) (tOp (rIxL K) (tVar 1) (tVar 5)) (tVar 3)) [some kd, some rv, some (.int (at_ : Nat)), some (.int (c : Nat)), some (.ref l), some (.int (i : Nat))] H3 (κ.rep (gt (rw_ rows i) c)) := fun H3 e3 =>
      ev_ix (i := c) (ev_ix (i := i) (ev_var rfl ((κ.T nilH rows).mo hro (e2.trans e3))) (ev_vint rfl) (rw_some hi)) (ev_vint rfl) (gt_some hc2)
    refine s_if (et_and (et_test (ev_neI (ev_vint rfl) (ev_vint rfl))) fun _ => et_not (et_B (ev_nou κ (ev_var rfl (κ.obj.mo hk e2)) (ix H' (Same.refl _))))) (fun hb H3 e3 => ?_) (fun hb H3 e3 => ?_)
    · simp only [Bool.and_eq_true, Bool.not_eq_true', decide_eq_false_iff_not] at hb
      have n1 : ¬ i = at_ := by intro e; exact hb.1 (by rw [e])
      have ec : clearAt rows at_ c i = [.add i at_ (0 - gt (rw_ rows i) c)] := by unfold clearAt; rw [if_neg n1, if_neg hb.2]
      have ok := κ.obj.mo hk (e2.trans e3)
      have hsm : κ.Sm (0 - gt (rw_ rows i) c) := by
        obtain ⟨aa, ws, _, _, _, hp⟩ := id hro
        obtain ⟨u, hu, au, us, _, _, _, hq⟩ := paired_get hp (rw_some hi)
        obtain ⟨z, hz, rz⟩ := paired_get hq (gt_some hc2)
        exact κ.sm_neg (κ.rep_sm rz)
      refine s_app (e3 _ _ hl2) (ev_var rfl rfl) ((ev_tup (Ps := [isS "add", isI (i : Nat), isI (at_ : Nat), κ.rep (0 - gt (rw_ rows i) c)]) (ea_cons ev_c (ea_cons (ev_vint rfl) (ea_cons (ev_vint rfl) (ea_cons (ev_minus κ (ev_var rfl ok) (ev_num0 κ (ev_var rfl ok)) (ix H3 e3) hsm) ea_nil))))).imp (P' := κ.Tn (.add i at_ (0 - gt (rw_ rows i) c))) (fun v H1 _ ⟨a, vs, e, _, h, q⟩ => ⟨a, vs, e, rfl, h, q⟩))
        (by rw [← hlen]; have : rows.length ≤ 1000 := hm; omega) fun v H4 e4 h4 => ?_
      refine ⟨same_mut (e2.trans (e3.trans e4)) hl, _, _, rfl, upd_same, ?_⟩
      show Paired _ (clearTo rows at_ c i ++ clearAt rows at_ c i) _
      rw [ec]
      exact psnoc (R := κ.Tn) (psta (fun x => tn_sta κ x l) (e4 _ _ (e3 _ _ hl2)) (pmo hp2 (e3.trans e4))) (tn_sta κ _ l _ _ _ _ (e4 _ _ (e3 _ _ hl2)) h4)
    · have ec : clearAt rows at_ c i = [] := by
        unfold clearAt
        split
        · rfl
        · split
          · rfl
          · rename_i n1 n2
            exfalso
            simp only [Bool.and_eq_false_iff, Bool.not_eq_false', decide_eq_true_eq] at hb
            rcases hb with h | h
            · exact n1 (by omega)
            · exact n2 h
      refine ⟨e2.trans e3, _, vs, rfl, e3 _ _ hl2, ?_⟩
      show Paired _ (clearTo rows at_ c i ++ clearAt rows at_ c i) _
      rw [ec, List.append_nil]
      exact pmo hp2 e3
  · rintro σ' H' ⟨e2, a, vs, rfl, hl2, hp2⟩
    exact s_ret (ev_var (P := LR κ.Tn H (clearTurns rows at_ c)) rfl ⟨l, vs, rfl, hl, hl2, hp2⟩) fun v H3 e3 h3 => k v H3 (e2.trans e3) h3
end
end Tf
set_option maxRecDepth 100000
set_option maxHeartbeats 4000000
namespace Tf
open PySem PySem.Spec PyProof.Rows L2
section
variable {P : Program} {w : World} {K : PySem.W.Frag} {mg : Str → Option Value} {base : Heap} {F : Type} [Lean.Grind.Field F] [DecidableEq F] (κ : Kd F P w K mg base) (T : Txt K mg)
/-- places -/
abbrev LN (G : Hp) (xs : List Nat) : Pr := LR (fun n : Nat => isI (n : Nat)) G xs
include T
/-! steps(kind, table) -/
def sSteps : Spc where
  ι := List (List F)
  pre := fun t => t ≠ [] ∧ t.length ≤ 20 ∧ ncols t ≤ 20 ∧ Rect t (ncols t) ∧ κ.Al (stepsT t)
  args := fun t => [κ.obj, κ.T nilH t]
  post := fun t G => TR nilH [κ.T G (steps t).1, LR κ.Tn G (steps t).2.1, LN G (steps t).2.2]
  an := fun {t _ _ _ _} g ⟨a, vs, e, _, h, v1, r1, e1, p1, v2, r2, e2, p2, v3, r3, e3, p3, e4⟩ => ⟨a, vs, e, rfl, h, v1, r1, e1, κ.famT.an g p1, v2, r2, e2, lr_low p2 g (fun _ _ r => r), v3, r3, e3, lr_low p3 g (fun _ _ r => r), e4⟩
-- 0 kind, 1 table, 2 rows, 3 row, 4 turns, 5 leads, 6 column, 7 at, 8 low, 9 more
theorem ok_steps : Ok P w K mg base 43 ("steps", none) ["kind", "table"] (sSteps κ) := by
  refine T.d_steps.ok sc_steps (fun _ => rfl) fun cdv A outer s H vs Q E (t : List (List F)) hr ⟨hne, hm, hn, hrc, hs⟩ ha k => ?_
  obtain ⟨kd, _, rfl, hk, tv, _, rfl, ht, rfl⟩ := ha
  have hr_done : Room 42 _ := hr
  have hr_first_low : Room 41 _ := hr.mono (by decide)
  have hr_lead_turns : Room 41 _ := hr.mono (by decide)
  have hr_clear_turns : Room 41 _ := hr.mono (by decide)
  have G_done := ok_done κ T
  have G_first_low := ok_first_low κ T
  have G_lead_turns := ok_lead_turns κ T
  have G_clear_turns := ok_clear_turns κ T
  refine ⟨_, (pss_cons (ps_setLc (i := 2) (own := [("row", 3)]) rfl sc_steps.nd rfl rfl (sw_true rfl rfl rfl (by decide +kernel)) (pi_listK K rfl (pv 1)) (blkOk_by (own := [("row", 3)]) (N := ["kind", "table", "rows", "row", "turns", "leads", "column", "at", "low", "more"]) (sc := defScope s_steps) (by decide +kernel)) (fun _ _ _ _ _ => (pg_name (i := 3) sc_steps.nd rfl (Or.inl rfl))) (fun _ _ _ _ _ => pts_nil) (fun _ _ _ _ _ => (pe_callTy (listK K) (by rfl) T.free_list (by decide +kernel) (pa_cons (pv 3) pa_nil))))
      (pss_cons (ps_set (i := 4) sc_steps.nd rfl (Or.inl rfl) (pe_lst pa_nil))
      (pss_cons (ps_set (i := 5) sc_steps.nd rfl (Or.inl rfl) (pe_lst pa_nil))
      (pss_cons (ps_for PassesOwn.never rfl (pi_range1 (by rfl) T.free_range (pa_cons (pe_callB (lenK K) (by rfl) T.free_len PySem.boot_len (pa_cons (pe_ix (ixL K) (pv 1) pe_int (fun _ _ => rfl)) pa_nil)) pa_nil)) (pg_name (i := 6) sc_steps.nd rfl (Or.inl rfl)) (pss_cons (ps_set (i := 7) sc_steps.nd rfl (Or.inl rfl) (pe_callB (lenK K) (by rfl) T.free_len PySem.boot_len (pa_cons (pv 5) pa_nil)))
      (pss_cons (ps_set (i := 8) sc_steps.nd rfl (Or.inl rfl) (pe_call G_first_low hr_first_low rfl T.g_first_low T.d_first_low.fn.kp T.d_first_low.bd .nil pass0 (pa_cons (pv 0) (pa_cons (pv 2) (pa_cons (pv 7) (pa_cons (pv 6) pa_nil))))))
      (pss_cons (ps_if (pt_cmpR op_lt (pv 8) pe_int (nomark _)) (pss_one ps_continue) pss_nil)
      (pss_cons (ps_set (i := 9) sc_steps.nd rfl (Or.inl rfl) (pe_call G_lead_turns hr_lead_turns rfl T.g_lead_turns T.d_lead_turns.fn.kp T.d_lead_turns.bd .nil pass0 (pa_cons (pv 0) (pa_cons (pv 2) (pa_cons (pv 7) (pa_cons (pv 8) (pa_cons (pv 6) pa_nil)))))))
      (pss_cons (ps_set (i := 2) sc_steps.nd rfl (Or.inl rfl) (pe_call G_done hr_done rfl T.g_done T.d_done.fn.kp T.d_done.bd .nil pass0 (pa_cons (pv 0) (pa_cons (pv 2) (pa_cons (pv 9) pa_nil)))))
      (pss_cons (ps_expr (pe_bm PySem.F.plainAttrs_list PySem.F.slot_list_extend PySem.F.type_list_extend mt_extend (pv 4) (pa_cons (pv 9) pa_nil)))
      (pss_cons (ps_set (i := 9) sc_steps.nd rfl (Or.inl rfl) (pe_call G_clear_turns hr_clear_turns rfl T.g_clear_turns T.d_clear_turns.fn.kp T.d_clear_turns.bd .nil pass0 (pa_cons (pv 0) (pa_cons (pv 2) (pa_cons (pv 7) (pa_cons (pv 6) pa_nil))))))
      (pss_cons (ps_set (i := 2) sc_steps.nd rfl (Or.inl rfl) (pe_call G_done hr_done rfl T.g_done T.d_done.fn.kp T.d_done.bd .nil pass0 (pa_cons (pv 0) (pa_cons (pv 2) (pa_cons (pv 9) pa_nil)))))
      (pss_cons (ps_expr (pe_bm PySem.F.plainAttrs_list PySem.F.slot_list_extend PySem.F.type_list_extend mt_extend (pv 4) (pa_cons (pv 9) pa_nil)))
      (pss_one (ps_expr (pe_bm PySem.F.plainAttrs_list PySem.F.slot_list_append PySem.F.type_list_append mt_append (pv 5) (pa_cons (pv 6) pa_nil))))))))))))))
      (pss_one (ps_ret (pe_tup (pa_cons (pv 2) (pa_cons (pv 4) (pa_cons (pv 5) pa_nil)))))))))), ?_⟩
  refine s_asg (ev_lcN κ.famL (fun r => r) (ev_var rfl ht) (by omega) (fun _ => rfl) fun i r u H1 e1 hi hu => ev_list (ev_var rfl hu)) fun v1 H1 e1 h1 => ?_
  rw [List.map_id'] at h1
  refine s_asg (ev_nilL (R := κ.Tn)) fun v2 H2 e2 h2 => ?_
  obtain ⟨lt, vt, rfl, hlt, hlt1, hpt⟩ := h2
  refine s_asg (ev_nilL (R := fun n : Nat => isI (n : Nat))) fun v3 H3 e3 h3 => ?_
  obtain ⟨ll, vl, rfl, hll, hll1, hpl⟩ := h3
  have hlt3 := e3 _ _ hlt1
  have nll : lt ≠ ll := ne_of_none hlt1 hll
  have E3 := e1.trans (e2.trans e3)
  have hltH : H lt = none := Same.free e1 hlt
  have hllH : H ll = none := Same.free (e1.trans e2) hll
  refine s_forR (n := ncols t) (ea_cons (ev_len (ev_ix (i := 0) (ev_var rfl ((κ.T nilH t).mo ht E3)) ev_int (hd_some hne))) ea_nil) (by omega)
    (fun i σ H' => Same H H' ∧ ∃ (r c a b d : Option V) (v : V) (vt vl : List V), σ = [some kd, some tv, some v, r, some (.ref lt), some (.ref ll), c, a, b, d] ∧ (κ.T H (stepsTo t i).1).p v H' ∧
      H' lt = some (.lst vt) ∧ Paired (fun x u => (κ.Tn x).p u H') (stepsTo t i).2.1 vt ∧ H' ll = some (.lst vl) ∧ Paired (fun (x : Nat) u => (isI (x : Nat)).p u H') (stepsTo t i).2.2 vl)
    (fun H4 e4 => ⟨E3.trans e4, none, none, none, none, none, v1, vt, vl, rfl, (κ.T H t).mo h1 (e2.trans (e3.trans e4)), e4 _ _ hlt3, pmo hpt (e3.trans e4), e4 _ _ hll1, pmo (R := fun n : Nat => isI (n : Nat)) hpl e4⟩) ?_ ?_
  · rintro i σ' H' hi ⟨e4, r, c, a, b, d, v, vt, vl, rfl, hv, hlt4, hpt4, hll4, hpl4⟩
    obtain ⟨⟨rc, rm⟩, tok⟩ := stepsTo_ok hrc i
    obtain ⟨ll_le, lt_le⟩ := stepsTo_len hrc i
    have hAl : κ.Al (stepColT (stepsTo t i) i) := fun z hz => hs z (stepsToT_mem hi z hz)
    have hst : stepsTo t (i + 1) = stepCol (stepsTo t i) i := rfl
    have prod : i * (2 + t.length) ≤ 20 * 22 := Nat.mul_le_mul (by omega) (by omega)
    refine s_asg (ev_len (R := fun n : Nat => isI (n : Nat)) (G := H) (ev_var rfl ⟨ll, vl, rfl, hllH, hll4, hpl4⟩)) fun v5 H5 e5 h5 => ?_
    cases (show v5 = .int ((stepsTo t i).2.2.length : Nat) from h5)
    have E5 := e4.trans e5
    have hv5 : (κ.T nilH (stepsTo t i).1).p v H5 := κ.famT.an (fun _ _ => rfl) ((κ.T H _).mo hv e5)
    refine s_asg (ev_call (S := sLow κ) ((stepsTo t i).1, (stepsTo t i).2.2.length, i) (ea_cons (ev_var rfl (κ.obj.mo hk E5)) (ea_cons (ev_var rfl hv5) (ea_cons (ev_vint rfl) (ea_cons (ev_vint rfl) ea_nil)))) ⟨⟨ncols t, rc, hi⟩, by omega, by omega⟩) fun v6 H6 e6 h6 => ?_
    cases (show v6 = .int (lowI (firstLow (stepsTo t i).1 (stepsTo t i).2.2.length i)) from h6)
    have E6 := E5.trans e6
    cases hlow : firstLow (stepsTo t i).1 (stepsTo t i).2.2.length i with
    | none =>
      refine s_ifT (et_test (ev_opB (g := fun i j => decide (i < j)) (ev_vint (n := lowI none) rfl) ev_int) |>.to (by decide)) fun H7 e7 => ?_
      have hc : stepCol (stepsTo t i) i = stepsTo t i := by unfold stepCol; rw [hlow]
      refine ⟨E6.trans e7, _, _, _, _, _, v, vt, vl, rfl, ?_, (e5.trans (e6.trans e7)) _ _ hlt4, ?_, (e5.trans (e6.trans e7)) _ _ hll4, ?_⟩
      · rw [hst, hc]; exact (κ.T H _).mo hv (e5.trans (e6.trans e7))
      · rw [hst, hc]; exact pmo hpt4 (e5.trans (e6.trans e7))
      · rw [hst, hc]; exact pmo (R := fun n : Nat => isI (n : Nat)) hpl4 (e5.trans (e6.trans e7))
    | some low =>
      obtain ⟨l1, l2, l3⟩ := firstLow_some hlow
      have o1 := leadTurns_ok l1 l2 l3
      obtain ⟨rr1, mm1⟩ := done_rect _ rc o1
      have hAl2 : κ.Al (doneT (stepsTo t i).1 (leadTurns (stepsTo t i).1 (stepsTo t i).2.2.length low i) ++ doneT (done (stepsTo t i).1 (leadTurns (stepsTo t i).1 (stepsTo t i).2.2.length low i)) (clearTurns (done (stepsTo t i).1 (leadTurns (stepsTo t i).1 (stepsTo t i).2.2.length low i)) (stepsTo t i).2.2.length i)) := by
        unfold stepColT at hAl
        rw [hlow] at hAl
        exact hAl
      have hc : stepCol (stepsTo t i) i = (done (done (stepsTo t i).1 (leadTurns (stepsTo t i).1 (stepsTo t i).2.2.length low i)) (clearTurns (done (stepsTo t i).1 (leadTurns (stepsTo t i).1 (stepsTo t i).2.2.length low i)) (stepsTo t i).2.2.length i),
          (stepsTo t i).2.1 ++ leadTurns (stepsTo t i).1 (stepsTo t i).2.2.length low i ++ clearTurns (done (stepsTo t i).1 (leadTurns (stepsTo t i).1 (stepsTo t i).2.2.length low i)) (stepsTo t i).2.2.length i, (stepsTo t i).2.2 ++ [i]) := by unfold stepCol; rw [hlow]
      rw [hst, hc]
      generalize stepsTo t i = S at *
      obtain ⟨S1, S2, S3⟩ := S
      dsimp only at *
      have c1 : (leadTurns S1 S3.length low i).length ≤ 2 := leadTurns_len
      have c2 : (clearTurns (done S1 (leadTurns S1 S3.length low i)) S3.length i).length ≤ (done S1 (leadTurns S1 S3.length low i)).length := clearTo_len _
      generalize ht1 : leadTurns S1 S3.length low i = t1 at *
      have lt2 := paired_len hpt4
      have ll2 := paired_len hpl4
      refine s_ifF (et_test (ev_opB (g := fun i j => decide (i < j)) (ev_vint (n := lowI (some low)) rfl) ev_int) |>.to (by show decide ((low : Int) < 0) = false; simp)) fun H7 e7 => ?_
      have E7 := E6.trans e7
      have hv7 : (κ.T nilH S1).p v H7 := (κ.T nilH S1).mo hv5 (e6.trans e7)
      refine s_asg (ev_call (S := sLead κ) (S1, S3.length, low, i) (ea_cons (ev_var rfl (κ.obj.mo hk E7)) (ea_cons (ev_var rfl hv7) (ea_cons (ev_vint rfl) (ea_cons (ev_vint rfl) (ea_cons (ev_vint rfl) ea_nil))))) ⟨⟨ncols t, rc, hi⟩, l2, l3⟩) fun v8 H8 e8 h8 => ?_
      have h8 : (LR κ.Tn H7 t1).p v8 H8 := by rw [← ht1]; exact h8
      have E8 := E7.trans e8
      have hv8 : (κ.T nilH S1).p v H8 := (κ.T nilH S1).mo hv7 e8
      refine s_asg (ev_call (S := sDone κ) (S1, t1) (ea_cons (ev_var rfl (κ.obj.mo hk E8)) (ea_cons (ev_var rfl hv8) (ea_cons (ev_var (P := LR κ.Tn nilH t1) rfl (lr_low h8 (fun _ _ => rfl) fun _ _ r => r)) ea_nil))) ⟨o1, by rw [rm]; omega, ⟨ncols t, by omega, rc⟩, fun z hz => hAl2 z (List.mem_append_left _ hz)⟩) fun v9 H9 e9 h9 => ?_
      have h9 : (κ.T H8 (done S1 t1)).p v9 H9 := h9
      have E9 := E8.trans e9
      -- turns.extend(more)
      obtain ⟨b8, w8, rfl, hb8, hb8', hp8⟩ := (LR κ.Tn H7 t1).mo h8 e9
      have x49 := e5.trans (e6.trans (e7.trans (e8.trans e9)))
      refine s_ext (x49 _ _ hlt4) hb8' (ev_var rfl rfl) (ev_var rfl rfl) (by rw [← lt2, ← paired_len hp8]; omega) fun H10 e10 => ?_
      have hlt10 : H10 lt = some (.lst vt) := e10 _ _ (x49 _ _ hlt4)
      generalize hU : upd H10 lt (.lst (vt ++ w8)) = U10
      have E10 : Same H U10 := by rw [← hU]; exact same_mut (E9.trans e10) hltH
      have nltG : ∀ {G : Hp}, Same H' G → G lt ≠ none := fun s => by rw [s _ _ hlt4]; intro z; cases z
      have d10 : (κ.T H8 (done S1 t1)).p v9 U10 := by rw [← hU]; exact κ.famT.st (nltG (e5.trans (e6.trans (e7.trans e8)))) _ _ _ _ hlt10 ((κ.T H8 _).mo h9 e10)
      have t10 : U10 lt = some (.lst (vt ++ w8)) := by rw [← hU]; exact upd_same
      have tp10 : Paired (fun x u => (κ.Tn x).p u U10) (S2 ++ t1) (vt ++ w8) := by
        rw [← hU]
        exact paired_app (psta (R := κ.Tn) (fun x => tn_sta κ x lt) hlt10 (pmo hpt4 (x49.trans e10))) (psta (R := κ.Tn) (fun x => tn_sta κ x lt) hlt10 (pmo hp8 e10))
      have l10 : U10 ll = some (.lst vl) := by rw [← hU, upd_ne nll.symm]; exact e10 _ _ (x49 _ _ hll4)
      have d10' : (κ.T nilH (done S1 t1)).p v9 U10 := κ.famT.an (fun _ _ => rfl) d10
      have dH10 : ∀ a, H8 a = none → H a = none := fun a e => Same.free E8 e
      -- more = clear_turns(..)
      refine s_asg (ev_call (S := sClear κ) (done S1 t1, S3.length, i) (ea_cons (ev_var rfl (κ.obj.mo hk E10)) (ea_cons (ev_var rfl d10') (ea_cons (ev_vint rfl) (ea_cons (ev_vint rfl) ea_nil)))) ⟨⟨ncols t, rr1, hi⟩, by rw [mm1, rm]; omega⟩) fun v11 H11 e11 h11 => ?_
      have h11 : (LR κ.Tn U10 (clearTurns (done S1 t1) S3.length i)).p v11 H11 := h11
      have o2 : ∀ u ∈ clearTurns (done S1 t1) S3.length i, u.ok (done S1 t1).length := clearTo_ok (by omega) _ (Nat.le_refl _)
      generalize clearTurns (done S1 t1) S3.length i = t2 at h11 o2 c2 hAl2 ⊢
      refine s_asg (ev_call (S := sDone κ) (done S1 t1, t2) (ea_cons (ev_var rfl (κ.obj.mo hk (E10.trans e11))) (ea_cons (ev_var rfl ((κ.T nilH _).mo d10' e11)) (ea_cons (ev_var (P := LR κ.Tn nilH t2) rfl (lr_low h11 (fun _ _ => rfl) fun _ _ r => r)) ea_nil))) ⟨o2, by rw [mm1, rm]; omega, ⟨ncols t, by omega, rr1⟩, fun z hz => hAl2 z (List.mem_append_right _ hz)⟩) fun v12 H12 e12 h12 => ?_
      have h12 : (κ.T H11 (done (done S1 t1) t2)).p v12 H12 := h12
      obtain ⟨b11, w11, rfl, hb11, hb11', hp11⟩ := (LR κ.Tn U10 t2).mo h11 e12
      have x1012 := e11.trans e12
      have tl10 := paired_len tp10
      rw [List.length_append, List.length_append] at tl10
      refine s_ext (x1012 _ _ t10) hb11' (ev_var rfl rfl) (ev_var rfl rfl) (by rw [List.length_append, ← lt2, ← paired_len hp8, ← paired_len hp11]; omega) fun H13 e13 => ?_
      have hlt13 : H13 lt = some (.lst (vt ++ w8)) := e13 _ _ (x1012 _ _ t10)
      generalize hV : upd H13 lt (.lst (vt ++ w8 ++ w11)) = U13
      have E13 : Same H U13 := by rw [← hV]; exact same_mut (E10.trans (x1012.trans e13)) hltH
      have l13 : U13 ll = some (.lst vl) := by rw [← hV, upd_ne nll.symm]; exact e13 _ _ (x1012 _ _ l10)
      have t13 : U13 lt = some (.lst (vt ++ w8 ++ w11)) := by rw [← hV]; exact upd_same
      have tp13 : Paired (fun x u => (κ.Tn x).p u U13) (S2 ++ t1 ++ t2) (vt ++ w8 ++ w11) := by
        rw [← hV]
        exact paired_app (psta (R := κ.Tn) (fun x => tn_sta κ x lt) hlt13 (pmo tp10 (x1012.trans e13))) (psta (R := κ.Tn) (fun x => tn_sta κ x lt) hlt13 (pmo hp11 e13))
      have d13 : (κ.T H11 (done (done S1 t1) t2)).p v12 U13 := by
        rw [← hV]
        exact κ.famT.st (by rw [e11 _ _ t10]; intro z; cases z) _ _ _ _ hlt13 ((κ.T H11 _).mo h12 e13)
      -- leads.append(column)
      refine s_app l13 (ev_var rfl rfl) (ev_vint rfl) (by rw [← ll2]; omega) fun v14 H14 e14 h14 => ?_
      cases (show v14 = .int (i : Nat) from h14)
      have l14 := e14 _ _ l13
      refine ⟨same_mut (E13.trans e14) hllH, _, _, _, _, _, v12, vt ++ w8 ++ w11, vl ++ [.int (i : Nat)], rfl, ?_, ?_, ?_, upd_same, ?_⟩
      · refine κ.famT.an (fun a e => Same.free (E10.trans e11) e) (κ.famT.st (G := H11) ?_ _ _ _ _ l14 ((κ.T H11 _).mo d13 e14))
        rw [e11 _ _ l10]; intro z; cases z
      · rw [upd_ne nll]; exact e14 _ _ t13
      · exact psta (R := κ.Tn) (fun x => tn_sta κ x ll) l14 (pmo tp13 e14)
      · exact psnoc (R := fun n : Nat => isI (n : Nat)) (Paired.mapP hpl4 fun _ _ r => r) rfl
  · rintro σ' H' ⟨e4, r, c, a, b, d, v, vt, vl, rfl, hv, hlt4, hpt4, hll4, hpl4⟩
    refine s_ret (ev_tup (Ps := [κ.T H (steps t).1, LR κ.Tn H (steps t).2.1, LN H (steps t).2.2]) (ea_cons (ev_var rfl hv) (ea_cons (ev_var rfl ⟨lt, vt, rfl, hltH, hlt4, hpt4⟩) (ea_cons (ev_var rfl ⟨ll, vl, rfl, hllH, hll4, hpl4⟩) ea_nil)))) fun v5 H5 e5 h5 => k v5 H5 (e4.trans e5) ?_
    obtain ⟨a, vs, e, _, h, q⟩ := h5
    exact ⟨a, vs, e, rfl, h, q⟩
/-! kernel_column(kind, reduced, leads, free) -/
def sKcol : Spc where
  ι := List (List F) × List Nat × Nat
  pre := fun ⟨R, leads, free⟩ => (∃ n, n ≤ 1000 ∧ Rect R n ∧ free < n ∧ (∀ l ∈ leads, l < n)) ∧ leads.length ≤ R.length ∧ R ≠ []
  args := fun ⟨R, leads, free⟩ => [κ.obj, κ.T nilH R, LN nilH leads, isI (free : Nat)]
  post := fun ⟨R, leads, free⟩ G => κ.L G (kernelCol R leads free)
  an := fun {i _ _ _ _} g h => by obtain ⟨R, leads, free⟩ := i; exact κ.famL.an g h
-- 0 kind, 1 reduced, 2 leads, 3 free, 4 column, 5 j, 6 at, 7 lead
theorem ok_kernel_column : Ok P w K mg base 41 ("kernel_column", none) ["kind", "reduced", "leads", "free"] (sKcol κ) := by
  refine T.d_kernel_column.ok sc_kernel_column (fun _ => rfl) fun cdv A outer s H vs Q E ⟨R, leads, free⟩ hr ⟨⟨n, hn, hrc, hf, hl⟩, hle, hne⟩ ha k => ?_
  obtain ⟨kd, _, rfl, hk, rv, _, rfl, hR, lv, _, rfl, hL, _, _, rfl, rfl, rfl⟩ := ha
  obtain ⟨dsN, vN_κ, bN_κ⟩ := κ.b_number
  have hr_κ : Room 40 _ := hr
  have hR : (κ.T nilH R).p rv H := hR
  have hL : (LN nilH leads).p lv H := hL
  have hnc : ncols R = n := hrc _ (rw_mem (List.length_pos_iff.mpr hne))
  refine ⟨_, (pss_cons (ps_setLc (i := 4) (own := [("j", 5)]) rfl sc_kernel_column.nd rfl rfl (sw_true rfl rfl rfl (by decide +kernel)) (pi_range1 (by rfl) T.free_range (pa_cons (pe_callB (lenK K) (by rfl) T.free_len PySem.boot_len (pa_cons (pe_ix (ixL K) (pv 1) pe_int (fun _ _ => rfl)) pa_nil)) pa_nil)) (blkOk_by (own := [("j", 5)]) (N := ["kind", "reduced", "leads", "free", "column", "j", "at", "lead"]) (sc := defScope s_kernel_column) (by decide +kernel)) (fun _ _ _ _ _ => (pg_name (i := 5) sc_kernel_column.nd rfl (Or.inl rfl))) (fun _ _ _ _ _ => pts_nil) (fun _ _ _ _ _ => (pe_meth (pv 0) κ.cls κ.m_number κ.number hr_κ bN_κ vN_κ pass0 (pa_cons pe_int pa_nil))))
      (pss_cons (ps_asg (pe_meth (pv 0) κ.cls κ.m_number κ.number hr_κ bN_κ vN_κ pass0 (pa_cons pe_int pa_nil)) (pg_sub (pv 4) (pv 3) set_list))
      (pss_cons (ps_for PassesOwn.never rfl (pi_enumK K rfl (pi_enum (by rfl) T.free_enumerate (pa_cons (pv 2) pa_nil))) (pg_tupK K (n := 2) rfl (pg_tup (n := 2) rfl (pgs_cons (pg_name (i := 6) sc_kernel_column.nd rfl (Or.inl rfl)) (pgs_cons (pg_name (i := 7) sc_kernel_column.nd rfl (Or.inl rfl)) pgs_nil)))) (pss_one (ps_asg (pe_meth (pv 0) κ.cls κ.m_minus κ.minus hr_κ κ.b_minus .nil pass0 (pa_cons (pe_meth (pv 0) κ.cls κ.m_number κ.number hr_κ bN_κ vN_κ pass0 (pa_cons pe_int pa_nil)) (pa_cons (pe_ix (ixL K) (pe_ix (ixL K) (pv 1) (pv 6) (fun _ _ => rfl)) (pv 3) (fun _ _ => rfl)) pa_nil))) (pg_sub (pv 4) (pv 7) set_list))))
      (pss_one (ps_ret (pv 4)))))), ?_⟩
  refine s_asg (ev_lcR κ.fam (fun _ => (0 : F)) (ea_cons (ev_len (ev_ix (i := 0) (ev_var rfl hR) ev_int (hd_some hne))) ea_nil) (by show ncols R ≤ 1000; omega) (fun _ => rfl) fun i H1 e1 hi => ev_num0 κ (ev_var rfl (κ.obj.mo hk e1))) fun v1 H1 e1 h1 => ?_
  obtain ⟨l, vs, rfl, hlH, hl1, hp1⟩ := h1
  have hlen1 : vs.length = n := by rw [← paired_len hp1, List.length_map, List.length_range]; exact hnc
  refine s_set (j := free) hl1 (ev_num1 κ (ev_var rfl (κ.obj.mo hk e1))) (ev_var rfl rfl) (ev_vint rfl) (by omega) fun v2 H2 e2 h2 => ?_
  have hl2 := e2 _ _ hl1
  generalize hU : upd H2 l (.lst (vs.set free v2)) = U
  have EU : Same H U := by rw [← hU]; exact same_mut (e1.trans e2) hlH
  have lU : U l = some (.lst (vs.set free v2)) := by rw [← hU]; exact upd_same
  have pU : Paired (fun x u => (κ.rep x).p u U) ((noughts (ncols R)).set free 1) (vs.set free v2) := by
    rw [← hU]
    exact pset (R := κ.rep) (κ.rep_sta _ _ _ _ _ _ hl2 h2) free (psta (R := κ.rep) (fun x => κ.rep_sta x l) hl2 (pmo (R := κ.rep) hp1 e2))
  obtain ⟨la, lvs, rfl, _, hla, hlp⟩ := id hL
  refine s_forE (R := fun n : Nat => isI (n : Nat)) (xs := leads) (a := la) (vs := lvs) (ea_cons (ev_var rfl rfl) ea_nil) (EU _ _ hla) (Paired.mapP hlp fun _ _ r => r)
    (fun H1 i σ H' => Same H H' ∧ ∃ (a b : Option V) (ws : List V) (c : List F), σ = [some kd, some rv, some (.ref la), some (.int (free : Nat)), some (.ref l), none, a, b] ∧ H' l = some (.lst ws) ∧ Paired (fun x u => (κ.rep x).p u H') c ws ∧ c.length = n ∧ kcGo R free i (leads.drop i) c = kernelCol R leads free)
    (fun H3 e3 => ⟨EU.trans e3, none, none, vs.set free v2, (noughts (ncols R)).set free 1, rfl, e3 _ _ lU, pmo pU e3, by rw [List.length_set]; unfold noughts; rw [List.length_map, List.length_range]; exact hnc, rfl⟩)
    (fun H1 i σ' H' s p => p.1 _ _ hla) ?_ ?_
  · rintro H3 i x u σ' H' H4 e3 hxi hu' ⟨e4, a, b, ws, c, rfl, hlw, hpw, hcl, hg⟩ e5
    cases (show u = .int (x : Nat) from hu')
    have hx : x < n := hl x (List.mem_of_getElem? hxi)
    have hi : i < R.length := by have := (List.getElem?_eq_some_iff.mp hxi).1; omega
    have hf2 : free < (rw_ R i).length := by rw [hrc _ (rw_mem hi)]; exact hf
    have d1 : leads.drop i = x :: leads.drop (i + 1) := by rw [List.drop_eq_getElem_cons (List.getElem?_eq_some_iff.mp hxi).1, (List.getElem?_eq_some_iff.mp hxi).2]
    rw [d1] at hg
    have hR4 := (κ.T nilH R).mo hR (e4.trans e5)
    have ix := ev_ix (K := K) (i := free) (ta := tOp (rIxL K) (tVar 1) (tVar 6)) (tb := tVar 3) (σ := [some kd, some rv, some (.ref la), some (.int (free : Nat)), some (.ref l), none, some (.int (i : Nat)), some (.int (x : Nat))]) (ev_ix (i := i) (ev_var rfl hR4) (ev_vint rfl) (rw_some hi)) (ev_vint rfl) (gt_some hf2)
    have hsm : κ.Sm (0 - gt (rw_ R i) free) := by
      obtain ⟨aa, ws, _, _, _, hp⟩ := id hR
      obtain ⟨u, hu, au, us, _, _, _, hq⟩ := paired_get hp (rw_some hi)
      obtain ⟨z, hz, rz⟩ := paired_get hq (gt_some hf2)
      exact κ.sm_neg (κ.rep_sm rz)
    refine s_set (j := x) (e5 _ _ hlw) (ev_minus κ (ev_var rfl (κ.obj.mo hk (e4.trans e5))) (ev_num0 κ (ev_var rfl (κ.obj.mo hk (e4.trans e5)))) ix hsm) (ev_var rfl rfl) (ev_vint rfl) (by rw [← paired_len hpw]; omega) fun v6 H6 e6 h6 => ?_
    have hl6 := e6 _ _ (e5 _ _ hlw)
    refine ⟨same_mut (e4.trans (e5.trans e6)) hlH, _, _, _, c.set x (0 - gt (rw_ R i) free), rfl, upd_same, ?_, by rw [List.length_set]; exact hcl, hg⟩
    exact pset (R := κ.rep) (κ.rep_sta _ _ _ _ _ _ hl6 h6) x (psta (R := κ.rep) (fun x => κ.rep_sta x l) hl6 (pmo (R := κ.rep) hpw (e5.trans e6)))
  · rintro H3 σ' H' e3 ⟨e4, a, b, ws, c, rfl, hlw, hpw, hcl, hg⟩
    have e : c = kernelCol R leads free := by rw [← hg, List.drop_length]; rfl
    refine s_ret (ev_var (P := κ.L H (kernelCol R leads free)) rfl ⟨l, ws, rfl, hlH, hlw, by rw [← e]; exact hpw⟩) fun v5 H5 e5 h5 => k v5 H5 (e4.trans e5) h5
end
end Tf
set_option maxRecDepth 100000
set_option maxHeartbeats 4000000
namespace Tf
open PySem PySem.Spec PyProof.Rows L2
section
variable {F : Type} [Lean.Grind.Field F] [DecidableEq F]
theorem leads_lt {t : List (List F)} {n : Nat} (h : Rect t n) : ∀ i, (∀ l ∈ (stepsTo t i).2.2, l < i) ∧ (stepsTo t i).2.2.length ≤ t.length
  | 0 => ⟨fun l hl => (by cases hl), Nat.zero_le _⟩
  | i + 1 => by
    obtain ⟨a, b⟩ := leads_lt h i
    have m := (stepsTo_ok h i).1.2
    show (∀ l ∈ (stepCol (stepsTo t i) i).2.2, l < i + 1) ∧ (stepCol (stepsTo t i) i).2.2.length ≤ t.length
    unfold stepCol
    split
    · exact ⟨fun l hl => Nat.lt_succ_of_lt (a l hl), b⟩
    · rename_i low hl
      obtain ⟨l1, l2, l3⟩ := firstLow_some hl
      refine ⟨fun l hm => ?_, by simp only [List.length_append, List.length_cons, List.length_nil]; omega⟩
      rcases List.mem_append.mp hm with h | h
      · exact Nat.lt_succ_of_lt (a l h)
      · simp at h; omega
theorem steps_ok {t : List (List F)} (h : Rect t (ncols t)) : (Rect (steps t).1 (ncols t) ∧ (steps t).1.length = t.length) ∧ (∀ u ∈ (steps t).2.1, u.ok t.length) ∧ (∀ l ∈ (steps t).2.2, l < ncols t) ∧ (steps t).2.2.length ≤ t.length :=
  ⟨(stepsTo_ok h _).1, (stepsTo_ok h _).2, (leads_lt h _).1, (leads_lt h _).2⟩
theorem unit_rect (n : Nat) : Rect (unit n : List (List F)) n ∧ (unit n : List (List F)).length = n := by
  refine ⟨fun r hr => ?_, by simp [unit]⟩
  unfold unit at hr
  obtain ⟨i, _, rfl⟩ := List.mem_map.mp hr
  simp [unitRow]
theorem right_rect {b : List F} {ts : List (Turn F)} (hok : ∀ u ∈ ts, u.ok b.length) : Rect (done (b.map fun x => [x]) ts) 1 ∧ (done (b.map fun x => [x]) ts).length = b.length := by
  have h1 : Rect (b.map fun x => [x]) 1 := fun r hr => by obtain ⟨x, _, rfl⟩ := List.mem_map.mp hr; rfl
  have := done_rect ts h1 (by rw [List.length_map]; exact hok)
  rw [List.length_map] at this
  exact this
end
section
variable {P : Program} {w : World} {K : PySem.W.Frag} {mg : Str → Option Value} {base : Heap} {F : Type} [Lean.Grind.Field F] [DecidableEq F] (κ : Kd F P w K mg base) (T : Txt K mg)
include T
/-! kernel(kind, table) -/
def sKer : Spc where
  ι := List (List F)
  pre := fun t => t ≠ [] ∧ t.length ≤ 20 ∧ ncols t ≤ 20 ∧ Rect t (ncols t) ∧ κ.Al (stepsT t)
  args := fun t => [κ.obj, κ.T nilH t]
  post := fun t G => κ.T G (kernel t)
  an := fun g h => κ.famT.an g h
-- 0 kind, 1 table, 2 reduced, 3 turns, 4 leads, 5 j
theorem ok_kernel : Ok P w K mg base 44 ("kernel", none) ["kind", "table"] (sKer κ) := by
  refine T.d_kernel.ok sc_kernel (fun _ => rfl) fun cdv A outer s H vs Q E (t : List (List F)) hr ⟨hne, hm, hn, hrc, hs⟩ ha k => ?_
  obtain ⟨kd, _, rfl, hk, tv, _, rfl, ht, rfl⟩ := ha
  have hr_steps : Room 43 _ := hr
  have hr_kernel_column : Room 41 _ := hr.mono (by decide)
  have G_steps := ok_steps κ T
  have G_kernel_column := ok_kernel_column κ T
  have ht : (κ.T nilH t).p tv H := ht
  obtain ⟨⟨s1, s2⟩, s3, s4, s5⟩ := steps_ok hrc
  have hne1 : (steps t).1 ≠ [] := fun e => hne (List.length_eq_zero_iff.mp (by rw [← s2, e]; rfl))
  refine ⟨_, (pss_cons (ps_asg (pe_call G_steps hr_steps rfl T.g_steps T.d_steps.fn.kp T.d_steps.bd .nil pass0 (pa_cons (pv 0) (pa_cons (pv 1) pa_nil))) (pg_tupK K (n := 3) rfl (pg_tup (n := 3) rfl (pgs_cons (pg_name (i := 2) sc_kernel.nd rfl (Or.inr rfl)) (pgs_cons (pg_name (i := 3) sc_kernel.nd rfl (Or.inl rfl)) (pgs_cons (pg_name (i := 4) sc_kernel.nd rfl (Or.inr rfl)) pgs_nil))))))
      (pss_one (ps_ret (pe_lc (own := [("j", 5)]) rfl sc_kernel.nd (pi_range1 (by rfl) T.free_range (pa_cons (pe_callB (lenK K) (by rfl) T.free_len PySem.boot_len (pa_cons (pe_ix (ixL K) (pv 1) pe_int (fun _ _ => rfl)) pa_nil)) pa_nil)) (blkOk_by (own := [("j", 5)]) (N := ["kind", "table", "reduced", "turns", "leads", "j"]) (sc := defScope s_kernel) (by decide +kernel)) (fun _ _ _ _ _ => (pg_name (i := 5) sc_kernel.nd rfl (Or.inl rfl))) (fun _ _ _ _ _ => (pts_one (pt_cmpR (notInK K) (pv 5) (pv 4) (by rfl)))) (fun _ _ _ _ _ => (pe_call G_kernel_column hr_kernel_column rfl T.g_kernel_column T.d_kernel_column.fn.kp T.d_kernel_column.bd .nil pass0 (pa_cons (pv 0) (pa_cons (pv 2) (pa_cons (pv 4) (pa_cons (pv 5) pa_nil)))))))))), ?_⟩
  refine s_unp3 (ev_call (S := sSteps κ) t (ea_cons (ev_var rfl hk) (ea_cons (ev_var rfl ht) ea_nil)) ⟨hne, hm, hn, hrc, hs⟩) fun v1 v2 v3 H1 e1 h1 h2 h3 => ?_
  refine s_ret (ev_lcRF κ.famL (kernelCol (steps t).1 (steps t).2.2) (fun j => decide (j ∉ (steps t).2.2)) (ea_cons (ev_len (ev_ix (i := 0) (ev_var rfl ((κ.T nilH t).mo ht e1)) ev_int (hd_some hne))) ea_nil) (by show ncols t ≤ 1000; omega) (fun _ => rfl)
    (fun j H2 e2 hj => et_test (ev_notIn (ev_vint rfl) (ev_var rfl ((LN H (steps t).2.2).mo h3 e2)))) fun j H2 e2 hj hb => ?_) fun v H2 e2 h2 => k v H2 (e1.trans e2) (κ.famT.an (fun a e => Same.free e1 e) h2)
  exact ev_call (S := sKcol κ) ((steps t).1, (steps t).2.2, j) (ea_cons (ev_var rfl (κ.obj.mo hk (e1.trans e2))) (ea_cons (ev_var rfl (κ.famT.an (fun _ _ => rfl) ((κ.T H _).mo h1 e2))) (ea_cons (ev_var (P := LN nilH (steps t).2.2) rfl (lr_low ((LN H _).mo h3 e2) (fun _ _ => rfl) fun _ _ r => r)) (ea_cons (ev_vint rfl) ea_nil))))
    ⟨⟨ncols t, by omega, s1, hj, s4⟩, by omega, hne1⟩
/-! inverse(kind, table) -/
def sInv : Spc where
  ι := List (List F)
  pre := fun t => t ≠ [] ∧ t.length ≤ 20 ∧ ncols t = t.length ∧ Rect t (ncols t) ∧ (steps t).2.2.length = t.length ∧ κ.Al (inverseT t)
  args := fun t => [κ.obj, κ.T nilH t]
  post := fun t G => κ.T G (inverse t)
  an := fun g h => κ.famT.an g h
-- 0 kind, 1 table, 2 reduced, 3 turns, 4 leads
theorem ok_inverse : Ok P w K mg base 44 ("inverse", none) ["kind", "table"] (sInv κ) := by
  refine T.d_inverse.ok sc_inverse (fun _ => rfl) fun cdv A outer s H vs Q E (t : List (List F)) hr ⟨hne, hm, hn, hrc, hl, hs⟩ ha k => ?_
  obtain ⟨kd, _, rfl, hk, tv, _, rfl, ht, rfl⟩ := ha
  have hr_steps : Room 43 _ := hr
  have hr_is_square : Room 1 _ := hr.mono (by decide)
  have hr_unit : Room 41 _ := hr.mono (by decide)
  have hr_done : Room 42 _ := hr.mono (by decide)
  have G_steps := ok_steps κ T
  have G_is_square := ok_is_square κ T
  have G_unit := ok_unit κ T
  have G_done := ok_done κ T
  have ht : (κ.T nilH t).p tv H := ht
  obtain ⟨⟨s1, s2⟩, s3, s4, s5⟩ := steps_ok hrc
  refine ⟨_, (pss_cons (ps_if (pt_not (pt_val (pe_call G_is_square hr_is_square rfl T.g_is_square T.d_is_square.fn.kp T.d_is_square.bd .nil pass0 (pa_cons (pv 1) pa_nil)))) pss_never pss_nil)
      (pss_cons (ps_asg (pe_call G_steps hr_steps rfl T.g_steps T.d_steps.fn.kp T.d_steps.bd .nil pass0 (pa_cons (pv 0) (pa_cons (pv 1) pa_nil))) (pg_tupK K (n := 3) rfl (pg_tup (n := 3) rfl (pgs_cons (pg_name (i := 2) sc_inverse.nd rfl (Or.inl rfl)) (pgs_cons (pg_name (i := 3) sc_inverse.nd rfl (Or.inl rfl)) (pgs_cons (pg_name (i := 4) sc_inverse.nd rfl (Or.inl rfl)) pgs_nil))))))
      (pss_cons (ps_if (pt_cmpR op_lt (pe_callB (lenK K) (by rfl) T.free_len PySem.boot_len (pa_cons (pv 4) pa_nil)) (pe_callB (lenK K) (by rfl) T.free_len PySem.boot_len (pa_cons (pv 1) pa_nil)) (nomark _)) pss_never pss_nil)
      (pss_one (ps_ret (pe_call G_done hr_done rfl T.g_done T.d_done.fn.kp T.d_done.bd .nil pass0 (pa_cons (pv 0) (pa_cons (pe_call G_unit hr_unit rfl T.g_unit T.d_unit.fn.kp T.d_unit.bd .nil pass0 (pa_cons (pv 0) (pa_cons (pe_callB (lenK K) (by rfl) T.free_len PySem.boot_len (pa_cons (pv 1) pa_nil)) pa_nil))) (pa_cons (pv 3) pa_nil))))))))), ?_⟩
  refine s_ifF (et_not (et_B (ev_call (S := sIsSquare κ) t (ea_cons (ev_var rfl ht) ea_nil) hne)) |>.to (by simp [hn])) fun H1 e1 => ?_
  refine s_unp3 (ev_call (S := sSteps κ) t (ea_cons (ev_var rfl (κ.obj.mo hk e1)) (ea_cons (ev_var rfl ((κ.T nilH t).mo ht e1)) ea_nil)) ⟨hne, hm, by omega, hrc, fun z hz => hs z (List.mem_append_left _ hz)⟩) fun v1 v2 v3 H2 e2 h1 h2 h3 => ?_
  refine s_ifF (et_test (ev_opB (g := fun i j => decide (i < j)) (ev_len (R := fun n : Nat => isI (n : Nat)) (ev_var rfl h3)) (ev_len (ev_var rfl ((κ.T nilH t).mo ht (e1.trans e2))))) |>.to (by rw [hl]; simp)) fun H3 e3 => ?_
  have E3 := e1.trans (e2.trans e3)
  refine s_ret (ev_call (S := sDone κ) (unit t.length, (steps t).2.1) (ea_cons (ev_var rfl (κ.obj.mo hk E3)) (ea_cons (Ev.imp (ev_call (S := sUnit κ) t.length (ea_cons (ev_var rfl (κ.obj.mo hk E3)) (ea_cons (ev_len (ev_var rfl ((κ.T nilH t).mo ht E3))) ea_nil)) (show t.length ≤ 1000 by omega)) fun v H5 _ p => κ.famT.an (fun _ _ => rfl) p)
    (ea_cons (ev_var (P := LR κ.Tn nilH (steps t).2.1) rfl (lr_low ((LR κ.Tn H1 _).mo h2 e3) (fun _ _ => rfl) fun _ _ r => r)) ea_nil)))
    ⟨by rw [(unit_rect t.length).2]; exact s3, by rw [(unit_rect t.length).2]; omega, ⟨t.length, by omega, (unit_rect _).1⟩, fun z hz => hs z (List.mem_append_right _ hz)⟩) fun v5 H5 e5 h5 => k v5 H5 (E3.trans e5) (κ.famT.an (fun a e => Same.free E3 e) h5)
/-! shown_never(kind, table, turns, right, at) -/
def sNever : Spc where
  ι := Nat × List (Turn F) × List (List F) × Nat
  pre := fun ⟨m, ts, right, at_⟩ => (∀ u ∈ ts, u.ok m) ∧ m ≤ 20 ∧ at_ < m ∧ Rect right 1 ∧ right.length = m ∧ gt (rw_ right at_) 0 ≠ 0 ∧ κ.Al (neverT m ts right at_)
  args := fun ⟨m, ts, right, at_⟩ => [κ.obj, ⟨fun v H => ∃ t : List (List F), t.length = m ∧ (κ.T nilH t).p v H, fun ⟨t, e, h⟩ s => ⟨t, e, (κ.T nilH t).mo h s⟩⟩, LR κ.Tn nilH ts, κ.T nilH right, isI (at_ : Nat)]
  post := fun ⟨m, ts, right, at_⟩ G => TR nilH [isS "never", κ.L G (neverRow m ts right at_)]
  an := fun {i _ _ _ _} g h => by
    obtain ⟨m, ts, right, at_⟩ := i
    obtain ⟨a, vs, e, _, h, v1, r1, e1, p1, v2, r2, e2, p2, e3⟩ := h
    exact ⟨a, vs, e, rfl, h, v1, r1, e1, p1, v2, r2, e2, κ.famL.an g p2, e3⟩
-- 0 kind, 1 table, 2 turns, 3 right, 4 at, 5 way, 6 by, 7 x
theorem ok_shown_never : Ok P w K mg base 43 ("shown_never", none) ["kind", "table", "turns", "right", "at"] (sNever κ) := by
  refine T.d_shown_never.ok sc_shown_never (fun _ => rfl) fun cdv A outer s H vs Q E ⟨m, ts, right, at_⟩ hr ⟨hok, hm, hat, hrr, hrl, hz, hs⟩ ha k => ?_
  obtain ⟨kd, _, rfl, hk, tv, _, rfl, ⟨t, htl, ht⟩, sv, _, rfl, hts, rv, _, rfl, hrv, _, _, rfl, rfl, rfl⟩ := ha
  have hr_unit : Room 41 _ := hr.mono (by decide)
  have hr_done : Room 42 _ := hr
  have hr_κ : Room 40 _ := hr.mono (by decide)
  have G_unit := ok_unit κ T
  have G_done := ok_done κ T
  have hts : (LR κ.Tn nilH ts).p sv H := hts
  have hrv : (κ.T nilH right).p rv H := hrv
  have hok' : ∀ u ∈ ts, u.ok (unit m : List (List F)).length := by rw [(unit_rect (F := F) m).2]; exact hok
  obtain ⟨d1, d2⟩ := done_rect ts (unit_rect (F := F) m).1 hok'
  rw [(unit_rect (F := F) m).2] at d2
  refine ⟨_, (pss_cons (ps_set (i := 5) sc_shown_never.nd rfl (Or.inl rfl) (pe_ix (ixL K) (pe_call G_done hr_done rfl T.g_done T.d_done.fn.kp T.d_done.bd .nil pass0 (pa_cons (pv 0) (pa_cons (pe_call G_unit hr_unit rfl T.g_unit T.d_unit.fn.kp T.d_unit.bd .nil pass0 (pa_cons (pv 0) (pa_cons (pe_callB (lenK K) (by rfl) T.free_len PySem.boot_len (pa_cons (pv 1) pa_nil)) pa_nil))) (pa_cons (pv 2) pa_nil)))) (pv 4) (fun _ _ => rfl)))
      (pss_cons (ps_set (i := 6) sc_shown_never.nd rfl (Or.inr rfl) (pe_meth (pv 0) κ.cls κ.m_back κ.back hr_κ κ.b_back .nil pass0 (pa_cons (pe_ix (ixL K) (pe_ix (ixL K) (pv 3) (pv 4) (fun _ _ => rfl)) pe_int (fun _ _ => rfl)) pa_nil)))
      (pss_one (ps_ret (pe_tup (pa_cons pe_str (pa_cons (pe_lc (own := [("x", 7)]) rfl sc_shown_never.nd (pi_listK K rfl (pv 5)) (blkOk_by (own := [("x", 7)]) (N := ["kind", "table", "turns", "right", "at", "way", "by", "x"]) (sc := defScope s_shown_never) (by decide +kernel)) (fun _ _ _ _ _ => (pg_name (i := 7) sc_shown_never.nd rfl (Or.inl rfl))) (fun _ _ _ _ _ => pts_nil) (fun _ _ _ _ _ => (pe_meth (pv 0) κ.cls κ.m_times κ.times hr_κ κ.b_times .nil pass0 (pa_cons (pv 6) (pa_cons (pv 7) pa_nil))))) pa_nil))))))), ?_⟩
  refine s_asg (ev_ix (i := at_) (ev_call (S := sDone κ) (unit m, ts) (ea_cons (ev_var rfl hk) (ea_cons (Ev.imp (ev_call (S := sUnit κ) m (ea_cons (ev_var rfl hk) (ea_cons ((ev_len (ev_var rfl ht)).to (by rw [htl])) ea_nil)) (show m ≤ 1000 by omega)) fun v H5 _ p => κ.famT.an (fun _ _ => rfl) p) (ea_cons (ev_var rfl hts) ea_nil)))
    ⟨hok', by rw [(unit_rect (F := F) m).2]; omega, ⟨m, by omega, (unit_rect _).1⟩, fun z hz => hs z (List.mem_append_left _ hz)⟩) (ev_vint rfl) (rw_some (by rw [d2]; exact hat))) fun v1 H1 e1 h1 => ?_
  have hr1 := (κ.T nilH right).mo hrv e1
  refine s_asg (ev_back κ (ev_var rfl (κ.obj.mo hk e1)) (ev_ix (i := 0) (ev_ix (i := at_) (ev_var rfl hr1) (ev_vint rfl) (rw_some (by omega))) ev_int (gt_some (by rw [hrr _ (rw_mem (by omega))]; decide))) hz) fun v2 H2 e2 h2 => ?_
  have h1' : (κ.L H (rw_ (done (unit m) ts) at_)).p v1 H2 := (κ.L H _).mo h1 e2
  refine s_ret (ev_tup (Ps := [isS "never", κ.L H2 (neverRow m ts right at_)]) (ea_cons ev_c (ea_cons (ev_lcN κ.fam (fun x => (gt (rw_ right at_) 0)⁻¹ * x) (ev_var rfl h1') (by rw [d1 _ (rw_mem (by omega))]; omega) (fun _ => rfl) fun i x u H3 e3 hx hu =>
    ev_times κ (ev_var rfl (κ.obj.mo hk (e1.trans (e2.trans e3)))) (ev_var rfl ((κ.rep _).mo h2 e3)) (ev_var rfl hu) (hs _ (List.mem_append_right _ (List.mem_map.mpr ⟨x, List.mem_of_getElem? hx, rfl⟩)))) ea_nil))) fun v5 H5 e5 h5 => k v5 H5 (e1.trans (e2.trans e5)) ?_
  obtain ⟨a, vs, e, _, h, w1, r1, q1, p1, w2, r2, q2, p2, q3⟩ := h5
  exact ⟨a, vs, e, rfl, h, w1, r1, q1, p1, w2, r2, q2, κ.famL.an (fun a e => Same.free (e1.trans e2) e) p2, q3⟩
/-! solved(kind, table, column) -/
def fWord (b : Bool) : Str := if b then "found" else "never"
def sSol : Spc where
  ι := List (List F) × List F
  pre := fun ⟨t, b⟩ => t ≠ [] ∧ t.length ≤ 20 ∧ ncols t ≤ 20 ∧ Rect t (ncols t) ∧ b.length = t.length ∧ κ.Al (solvedT t b)
  args := fun ⟨t, b⟩ => [κ.obj, κ.T nilH t, κ.L nilH b]
  post := fun ⟨t, b⟩ G => TR nilH [isS (fWord (solved t b).1), κ.L G (solved t b).2]
  an := fun {i _ _ _ _} g h => by
    obtain ⟨t, b⟩ := i
    obtain ⟨a, vs, e, _, h, v1, r1, e1, p1, v2, r2, e2, p2, e3⟩ := h
    exact ⟨a, vs, e, rfl, h, v1, r1, e1, p1, v2, r2, e2, κ.famL.an g p2, e3⟩
-- 0 kind, 1 table, 2 column, 3 reduced, 4 turns, 5 leads, 6 right, 7 x, 8 at, 9 found, 10 j, 11 lead
theorem ok_solved : Ok P w K mg base 44 ("solved", none) ["kind", "table", "column"] (sSol κ) := by
  refine T.d_solved.ok sc_solved (fun _ => rfl) fun cdv A outer s H vs Q E ⟨t, b⟩ hr ⟨hne, hm, hn, hrc, hb, hs⟩ ha k => ?_
  obtain ⟨kd, _, rfl, hk, tv, _, rfl, ht, bv, _, rfl, hbv, rfl⟩ := ha
  obtain ⟨dsN, vN_κ, bN_κ⟩ := κ.b_number
  have hr_steps : Room 43 _ := hr
  have hr_done : Room 42 _ := hr.mono (by decide)
  have hr_shown_never : Room 43 _ := hr
  have hr_κ : Room 40 _ := hr.mono (by decide)
  have G_steps := ok_steps κ T
  have G_done := ok_done κ T
  have G_shown_never := ok_shown_never κ T
  have ht : (κ.T nilH t).p tv H := ht
  have hbv : (κ.L nilH b).p bv H := hbv
  obtain ⟨⟨s1, s2⟩, s3, s4, s5⟩ := steps_ok hrc
  have s3b : ∀ u ∈ (steps t).2.1, u.ok b.length := by rw [hb]; exact s3
  obtain ⟨r1, r2⟩ := right_rect s3b
  refine ⟨_, (pss_cons (ps_if (pt_cmpR op_ne (pe_callB (lenK K) (by rfl) T.free_len PySem.boot_len (pa_cons (pv 2) pa_nil)) (pe_callB (lenK K) (by rfl) T.free_len PySem.boot_len (pa_cons (pv 1) pa_nil)) (nomark _)) pss_never pss_nil)
      (pss_cons (ps_asg (pe_call G_steps hr_steps rfl T.g_steps T.d_steps.fn.kp T.d_steps.bd .nil pass0 (pa_cons (pv 0) (pa_cons (pv 1) pa_nil))) (pg_tupK K (n := 3) rfl (pg_tup (n := 3) rfl (pgs_cons (pg_name (i := 3) sc_solved.nd rfl (Or.inl rfl)) (pgs_cons (pg_name (i := 4) sc_solved.nd rfl (Or.inl rfl)) (pgs_cons (pg_name (i := 5) sc_solved.nd rfl (Or.inl rfl)) pgs_nil))))))
      (pss_cons (ps_set (i := 6) sc_solved.nd rfl (Or.inl rfl) (pe_call G_done hr_done rfl T.g_done T.d_done.fn.kp T.d_done.bd .nil pass0 (pa_cons (pv 0) (pa_cons (pe_lc (own := [("x", 7)]) rfl sc_solved.nd (pi_listK K rfl (pv 2)) (blkOk_by (own := [("x", 7)]) (N := ["kind", "table", "column", "reduced", "turns", "leads", "right", "x", "at", "found", "j", "lead"]) (sc := defScope s_solved) (by decide +kernel)) (fun _ _ _ _ _ => (pg_name (i := 7) sc_solved.nd rfl (Or.inl rfl))) (fun _ _ _ _ _ => pts_nil) (fun _ _ _ _ _ => (pe_lst (pa_cons (pv 7) pa_nil)))) (pa_cons (pv 4) pa_nil)))))
      (pss_cons (ps_for PassesOwn.never rfl (pi_range2 (by rfl) T.free_range (pa_cons (pe_callB (lenK K) (by rfl) T.free_len PySem.boot_len (pa_cons (pv 5) pa_nil)) (pa_cons (pe_callB (lenK K) (by rfl) T.free_len PySem.boot_len (pa_cons (pv 1) pa_nil)) pa_nil))) (pg_name (i := 8) sc_solved.nd rfl (Or.inl rfl)) (pss_one (ps_if (pt_not (pt_val (pe_meth (pv 0) κ.cls κ.m_nought κ.nought hr_κ κ.b_nought .nil pass0 (pa_cons (pe_ix (ixL K) (pe_ix (ixL K) (pv 6) (pv 8) (fun _ _ => rfl)) pe_int (fun _ _ => rfl)) pa_nil)))) (pss_one (ps_ret (pe_call G_shown_never hr_shown_never rfl T.g_shown_never T.d_shown_never.fn.kp T.d_shown_never.bd .nil pass0 (pa_cons (pv 0) (pa_cons (pv 1) (pa_cons (pv 4) (pa_cons (pv 6) (pa_cons (pv 8) pa_nil)))))))) pss_nil)))
      (pss_cons (ps_setLc (i := 9) (own := [("j", 10)]) rfl sc_solved.nd rfl rfl (sw_true rfl rfl rfl (by decide +kernel)) (pi_range1 (by rfl) T.free_range (pa_cons (pe_callB (lenK K) (by rfl) T.free_len PySem.boot_len (pa_cons (pe_ix (ixL K) (pv 1) pe_int (fun _ _ => rfl)) pa_nil)) pa_nil)) (blkOk_by (own := [("j", 10)]) (N := ["kind", "table", "column", "reduced", "turns", "leads", "right", "x", "at", "found", "j", "lead"]) (sc := defScope s_solved) (by decide +kernel)) (fun _ _ _ _ _ => (pg_name (i := 10) sc_solved.nd rfl (Or.inl rfl))) (fun _ _ _ _ _ => pts_nil) (fun _ _ _ _ _ => (pe_meth (pv 0) κ.cls κ.m_number κ.number hr_κ bN_κ vN_κ pass0 (pa_cons pe_int pa_nil))))
      (pss_cons (ps_for PassesOwn.never rfl (pi_enumK K rfl (pi_enum (by rfl) T.free_enumerate (pa_cons (pv 5) pa_nil))) (pg_tupK K (n := 2) rfl (pg_tup (n := 2) rfl (pgs_cons (pg_name (i := 8) sc_solved.nd rfl (Or.inl rfl)) (pgs_cons (pg_name (i := 11) sc_solved.nd rfl (Or.inl rfl)) pgs_nil)))) (pss_one (ps_asg (pe_ix (ixL K) (pe_ix (ixL K) (pv 6) (pv 8) (fun _ _ => rfl)) pe_int (fun _ _ => rfl)) (pg_sub (pv 9) (pv 11) set_list))))
      (pss_one (ps_ret (pe_tup (pa_cons pe_str (pa_cons (pv 9) pa_nil))))))))))), ?_⟩
  refine s_ifF (et_test (ev_neI (ev_len (ev_var rfl hbv)) (ev_len (ev_var rfl ht))) |>.to (by rw [hb]; simp)) fun H1 e1 => ?_
  refine s_unp3 (ev_call (S := sSteps κ) t (ea_cons (ev_var rfl (κ.obj.mo hk e1)) (ea_cons (ev_var rfl ((κ.T nilH t).mo ht e1)) ea_nil)) ⟨hne, hm, hn, hrc, fun z hz => hs z (List.mem_append_left _ (List.mem_append_left _ hz))⟩) fun v1 v2 v3 H2 e2 h1 h2 h3 => ?_
  have E2 := e1.trans e2
  have h2' : (LR κ.Tn nilH (steps t).2.1).p v2 H2 := lr_low h2 (fun _ _ => rfl) fun _ _ r => r
  have h3' : (LN nilH (steps t).2.2).p v3 H2 := lr_low h3 (fun _ _ => rfl) fun _ _ r => r
  refine s_asg (ev_call (S := sDone κ) (b.map (fun x => [x]), (steps t).2.1) (ea_cons (ev_var rfl (κ.obj.mo hk E2)) (ea_cons (Ev.imp (ev_lcN κ.famL (fun x => [x]) (ev_var rfl ((κ.L nilH b).mo hbv E2)) (by omega) (fun _ => rfl) fun i x u H5 e5 hx hu => ev_lst (R := κ.rep) (xs := [x]) (ea_cons (ev_var rfl hu) ea_nil)) fun v H5 _ p => κ.famT.an (fun _ _ => rfl) p) (ea_cons (ev_var rfl h2') ea_nil)))
    ⟨by rw [List.length_map]; exact s3b, by rw [List.length_map]; omega, ⟨1, by decide, fun r hr => by obtain ⟨x, _, rfl⟩ := List.mem_map.mp hr; rfl⟩, fun z hz => hs z (List.mem_append_left _ (List.mem_append_right _ hz))⟩) fun v4 H4 e4 h4 => ?_
  have h4 : (κ.T H2 (rightOf t b)).p v4 H4 := h4
  have r1 : Rect (rightOf t b) 1 := r1
  have r2 : (rightOf t b).length = b.length := r2
  have E4 := E2.trans e4
  have h4' : (κ.T nilH (rightOf t b)).p v4 H4 := κ.famT.an (fun _ _ => rfl) h4
  have h34 := (LN nilH (steps t).2.2).mo h3' e4
  have hnv : ∀ z ∈ (match firstLow (rightOf t b) (steps t).2.2.length 0 with | some at_ => neverT t.length (steps t).2.1 (rightOf t b) at_ | none => []), κ.Sm z := fun z hz => hs z (List.mem_append_right _ hz)
  refine s_forR2 (a := (steps t).2.2.length) (n := t.length) (ea_cons (ev_len (R := fun n : Nat => isI (n : Nat)) (ev_var rfl h34)) (ea_cons (ev_len (ev_var rfl ((κ.T nilH t).mo ht E4))) ea_nil)) ⟨by omega, by omega⟩
    (fun i σ H' => Same H4 H' ∧ ∃ a, σ = [some kd, some tv, some bv, some v1, some v2, some v3, some v4, none, a, none, none, none] ∧ lowGo (rightOf t b) 0 (t.length - (steps t).2.2.length - i) ((steps t).2.2.length + i) = firstLow (rightOf t b) (steps t).2.2.length 0)
    (fun H5 e5 => ⟨e5, none, rfl, by unfold firstLow; rw [r2, hb, Nat.sub_zero, Nat.add_zero]⟩) ?_ ?_
  · rintro i σ' H' hi ⟨e5, a, rfl, hg⟩
    have E5 := E4.trans e5
    have hi2 : (steps t).2.2.length + i < (rightOf t b).length := by omega
    have hc2 : 0 < (rw_ (rightOf t b) ((steps t).2.2.length + i)).length := by rw [r1 _ (rw_mem hi2)]; decide
    have d : t.length - (steps t).2.2.length - i = (t.length - (steps t).2.2.length - (i + 1)) + 1 := by omega
    rw [d] at hg
    have h45 := (κ.T nilH _).mo h4' e5
    refine s_if (et_not (et_B (ev_nou κ (ev_var rfl (κ.obj.mo hk E5)) (ev_ix (i := 0) (ev_ix (i := (steps t).2.2.length + i) (ev_var rfl h45) (ev_vint rfl) (rw_some hi2)) ev_int (gt_some hc2))))) (fun hbb H6 e6 => ?_) (fun hbb H6 e6 => ?_)
    · have hz : gt (rw_ (rightOf t b) ((steps t).2.2.length + i)) 0 ≠ 0 := by simpa using hbb
      have ef : firstLow (rightOf t b) (steps t).2.2.length 0 = some ((steps t).2.2.length + i) := by rw [← hg]; unfold lowGo; rw [if_neg hz]
      have es : solved t b = (false, neverRow t.length (steps t).2.1 (rightOf t b) ((steps t).2.2.length + i)) := by unfold solved; rw [ef]
      rw [ef] at hnv
      have E6 := E5.trans e6
      refine s_ret (ev_call (S := sNever κ) (t.length, (steps t).2.1, rightOf t b, (steps t).2.2.length + i) (ea_cons (ev_var rfl (κ.obj.mo hk E6)) (ea_cons (ev_var rfl ⟨t, rfl, (κ.T nilH t).mo ht E6⟩) (ea_cons (ev_var rfl ((LR κ.Tn nilH _).mo h2' (e4.trans (e5.trans e6)))) (ea_cons (ev_var rfl ((κ.T nilH _).mo h45 e6)) (ea_cons (ev_vint rfl) ea_nil)))))
        ⟨s3, hm, by omega, r1, by omega, hz, hnv⟩) fun v7 H7 e7 h7 => k v7 H7 (E6.trans e7) ?_
      show (TR nilH [isS (fWord (solved t b).1), κ.L H (solved t b).2]).p v7 H7
      rw [es]
      obtain ⟨a, vs, e, _, h, w1, r1, q1, p1, w2, r2, q2, p2, q3⟩ := h7
      exact ⟨a, vs, e, rfl, h, w1, r1, q1, p1, w2, r2, q2, κ.famL.an (fun a e => Same.free E6 e) p2, q3⟩
    · have hz : gt (rw_ (rightOf t b) ((steps t).2.2.length + i)) 0 = 0 := by simpa using hbb
      refine ⟨e5.trans e6, _, rfl, ?_⟩
      rw [← hg]
      conv => rhs; unfold lowGo
      rw [if_pos hz]
      rfl
  · rintro σ' H' ⟨e5, a, rfl, hg⟩
    have ef : firstLow (rightOf t b) (steps t).2.2.length 0 = none := by
      rw [← hg, show t.length - (steps t).2.2.length - (t.length - (steps t).2.2.length) = 0 by omega]; rfl
    have es : solved t b = (true, scGo (rightOf t b) 0 (steps t).2.2 (noughts (ncols t))) := by unfold solved; rw [ef]
    have E5 := E4.trans e5
    refine s_asg (ev_lcR κ.fam (fun _ => (0 : F)) (ea_cons (ev_len (ev_ix (i := 0) (ev_var rfl ((κ.T nilH t).mo ht E5)) ev_int (hd_some hne))) ea_nil) (by show ncols t ≤ 1000; omega) (fun _ => rfl) fun i H1 e1 hi => ev_num0 κ (ev_var rfl (κ.obj.mo hk (E5.trans e1)))) fun v6 H6 e6 h6 => ?_
    obtain ⟨l, vs, rfl, hlH, hl1, hp1⟩ := h6
    have E6 := E5.trans e6
    obtain ⟨la, lvs, rfl, _, hla5, hlp5⟩ := (LN nilH (steps t).2.2).mo h34 e5
    have hla := e6 _ _ hla5
    have hlp : Paired (fun (x : Nat) u => (isI (x : Nat)).p u H6) (steps t).2.2 lvs := Paired.mapP hlp5 fun _ _ r => r
    have hlH0 : H l = none := Same.free E5 hlH
    have h46 := (κ.T nilH _).mo h4' (e5.trans e6)
    refine s_forE (R := fun n : Nat => isI (n : Nat)) (xs := (steps t).2.2) (a := la) (vs := lvs) (ea_cons (ev_var rfl rfl) ea_nil) hla hlp
      (fun H1 i σ H9 => Same H' H9 ∧ ∃ (a b2 : Option V) (ws : List V) (c : List F), σ = [some kd, some tv, some bv, some v1, some v2, some (.ref la), some v4, none, a, some (.ref l), none, b2] ∧ H9 l = some (.lst ws) ∧ Paired (fun x u => (κ.rep x).p u H9) c ws ∧ c.length = ncols t ∧ scGo (rightOf t b) i ((steps t).2.2.drop i) c = (solved t b).2)
      (fun H3 e3 => ⟨e6.trans e3, a, none, vs, noughts (ncols t), rfl, e3 _ _ hl1, pmo (R := κ.rep) hp1 e3, by simp [noughts], by rw [es]; rfl⟩) (fun H1 i σ9 H9 s p => p.1 _ _ hla5) ?_ ?_
    · rintro H3 i x u σ9 H8 H9 e3 hxi hu' ⟨e8, a8, b8, ws, c, rfl, hlw, hpw, hcl, hg8⟩ e9
      cases (show u = .int (x : Nat) from hu')
      have hx : x < ncols t := s4 x (List.mem_of_getElem? hxi)
      have hi : i < (rightOf t b).length := by have := (List.getElem?_eq_some_iff.mp hxi).1; omega
      have hf2 : 0 < (rw_ (rightOf t b) i).length := by rw [r1 _ (rw_mem hi)]; decide
      have d1 : (steps t).2.2.drop i = x :: (steps t).2.2.drop (i + 1) := by rw [List.drop_eq_getElem_cons (List.getElem?_eq_some_iff.mp hxi).1, (List.getElem?_eq_some_iff.mp hxi).2]
      rw [d1] at hg8
      refine s_set (j := x) (e9 _ _ hlw) (ev_ix (i := 0) (ev_ix (i := i) (ev_var rfl ((κ.T nilH _).mo h4' (e5.trans (e8.trans e9)))) (ev_vint rfl) (rw_some hi)) ev_int (gt_some hf2)) (ev_var rfl rfl) (ev_vint rfl) (by rw [← paired_len hpw]; omega) fun v10 H10 e10 h10 => ?_
      have hl10 := e10 _ _ (e9 _ _ hlw)
      refine ⟨same_mut (e8.trans (e9.trans e10)) hlH, _, _, _, c.set x (gt (rw_ (rightOf t b) i) 0), rfl, upd_same, ?_, by rw [List.length_set]; exact hcl, hg8⟩
      exact pset (R := κ.rep) (κ.rep_sta _ _ _ _ _ _ hl10 h10) x (psta (R := κ.rep) (fun x => κ.rep_sta x l) hl10 (pmo (R := κ.rep) hpw (e9.trans e10)))
    · rintro H3 σ9 H8 e3 ⟨e8, a8, b8, ws, c, rfl, hlw, hpw, hcl, hg8⟩
      have e : c = (solved t b).2 := by rw [← hg8, List.drop_length]; rfl
      have ew : fWord (solved t b).1 = "found" := by rw [es]; rfl
      refine s_ret (ev_tup (Ps := [isS (fWord (solved t b).1), κ.L H (solved t b).2]) (ea_cons (ev_c.to (by rw [ew]; rfl)) (ea_cons (ev_var rfl ⟨l, ws, rfl, hlH0, hlw, by rw [← e]; exact hpw⟩) ea_nil))) fun v5 H10 e10 h5 => k v5 H10 (E5.trans (e8.trans e10)) ?_
      obtain ⟨a, vs, e, _, h, q⟩ := h5
      exact ⟨a, vs, e, rfl, h, q⟩
end
end Tf
set_option maxRecDepth 100000
set_option maxHeartbeats 4000000
namespace Tf
open PySem PySem.Spec PyProof.Rows L2
section
variable {F : Type} [Lean.Grind.Field F] [DecidableEq F]
theorem trim_snoc0 : ∀ l : List F, trim (l ++ [0]) = trim l
  | [] => by simp [trim]
  | x :: l => by
    have ih := trim_snoc0 l
    show (match trim (l ++ [0]) with | [] => if x = 0 then [] else [x] | y :: ys => x :: y :: ys) = _
    rw [ih]
    rfl
theorem trim_snoc {z : F} (hz : z ≠ 0) : ∀ l : List F, trim (l ++ [z]) = l ++ [z]
  | [] => by simp [trim, hz]
  | x :: l => by
    have ih := trim_snoc hz l
    show (match trim (l ++ [z]) with | [] => if x = 0 then [] else [x] | y :: ys => x :: y :: ys) = _
    rw [ih]
    cases l <;> rfl
theorem trim_len : ∀ l : List F, (trim l).length ≤ l.length
  | [] => Nat.le_refl _
  | x :: l => by
    have ih := trim_len l
    show (match trim l with | [] => if x = 0 then [] else [x] | y :: ys => x :: y :: ys).length ≤ _
    cases h : trim l with
    | nil => dsimp only; split <;> simp
    | cons y ys => rw [h] at ih; simp only [List.length_cons] at ih ⊢; omega
theorem trim_take {xs : List F} {n : Nat} (h : n < xs.length) (h0 : gt xs n = 0) : trim (xs.take (n + 1)) = trim (xs.take n) := by
  rw [List.take_succ, gt_some h, h0]
  exact trim_snoc0 _
theorem trim_take' {xs : List F} {n : Nat} (h : n < xs.length) (h0 : gt xs n ≠ 0) : trim (xs.take (n + 1)) = xs.take (n + 1) := by
  rw [List.take_succ, gt_some h]
  exact trim_snoc h0 _
theorem addL_len : ∀ f g : List F, (addL f g).length = max f.length g.length
  | [], [] => rfl
  | [], _ :: _ => by simp [addL]
  | _ :: _, [] => by simp [addL]
  | x :: f, y :: g => by simp only [addL, List.length_cons, addL_len f g]; omega
/-- the k-th number of the sum put in its place -/
theorem addL_step : ∀ (f g : List F) (k : Nat), k < g.length → k < f.length → (addL f (g.take k)).set k (gt f k + gt g k) = addL f (g.take (k + 1))
  | [], _, k, _, h => by simp at h
  | _ :: _, [], k, h, _ => by simp at h
  | x :: f, y :: g, 0, _, _ => by simp [addL, gt]
  | x :: f, y :: g, k + 1, h1, h2 => by
    have ih := addL_step f g k (by simpa using h1) (by simpa using h2)
    simp only [List.take_succ_cons, addL, List.set_cons_succ]
    have e1 : gt (x :: f) (k + 1) = gt f k := rfl
    have e2 : gt (y :: g) (k + 1) = gt g k := rfl
    rw [e1, e2, ih]
theorem addL_nil (f : List F) : addL f [] = f := by cases f <;> rfl
theorem addL_mem : ∀ (f g : List F) (k : Nat), k < g.length → k < f.length → gt f k + gt g k ∈ addL f g
  | [], _, k, _, h => by simp at h
  | _ :: _, [], k, h, _ => by simp at h
  | x :: f, y :: g, 0, _, _ => by simp [addL, gt]
  | x :: f, y :: g, k + 1, h1, h2 => List.mem_cons_of_mem _ (addL_mem f g k (by simpa using h1) (by simpa using h2))
theorem pplus_eq (f g : List F) (h : g.length ≤ f.length) : pplus f g = trim (addL f g) := by
  unfold pplus; rw [if_neg (by omega)]
theorem pplus_len (f g : List F) : (pplus f g).length ≤ max f.length g.length := by
  unfold pplus
  split
  · exact Nat.le_trans (trim_len _) (by rw [addL_len]; omega)
  · exact Nat.le_trans (trim_len _) (by rw [addL_len]; omega)
theorem tpJ_len (c : F) : ∀ (ys : List F) p t, (tpJ c ys p t).length = t.length
  | [], _, _ => rfl
  | y :: ys, p, t => by rw [tpJ, tpJ_len c ys]; simp
theorem tpI_len (g : List F) : ∀ (xs : List F) i t, (tpI g xs i t).length = t.length
  | [], _, _ => rfl
  | x :: xs, i, t => by rw [tpI, tpI_len g xs, tpJ_len]
theorem ptimes_len (f g : List F) : (ptimes f g).length ≤ f.length + g.length - 1 := by
  unfold ptimes
  split
  · exact Nat.zero_le _
  · refine Nat.le_trans (trim_len _) ?_
    rw [tpI_len]; simp [noughts]
theorem dvK_len (c : F) : ∀ (ys : List F) p t, (dvK c ys p t).length = t.length
  | [], _, _ => rfl
  | y :: ys, p, t => by rw [dvK, dvK_len c ys]; simp
end
section
variable {P : Program} {w : World} {K : PySem.W.Frag} {mg : Str → Option Value} {base : Heap} {F : Type} [Lean.Grind.Field F] [DecidableEq F] (κ : Kd F P w K mg base) (T : Txt K mg)
include T
/-! trimmed(kind, numbers) -/
def sTrim : Spc where
  ι := List F
  pre := fun xs => xs.length ≤ 1000
  args := fun xs => [κ.obj, κ.L nilH xs]
  post := fun xs G => κ.L G (trim xs)
  an := fun g h => κ.famL.an g h
-- 0 kind, 1 numbers, 2 size
theorem ok_trimmed : Ok P w K mg base 41 ("trimmed", none) ["kind", "numbers"] (sTrim κ) := by
  refine T.d_trimmed.ok sc_trimmed (fun _ => rfl) fun cdv A outer s H vs Q E (xs : List F) hr hn ha k => ?_
  obtain ⟨kd, _, rfl, hk, nv, _, rfl, hx, rfl⟩ := ha
  have hr_κ : Room 40 _ := hr
  have hx : (κ.L nilH xs).p nv H := hx
  refine ⟨_, (pss_cons (ps_set (i := 2) sc_trimmed.nd rfl (Or.inl rfl) (pe_callB (lenK K) (by rfl) T.free_len PySem.boot_len (pa_cons (pv 1) pa_nil)))
      (pss_cons (ps_while PassesOwn.never (PW.pt (pw_and (pt_cmpR op_gt (pv 2) pe_int (nomark _)) (pw_and1 (pt_val (pe_meth (pv 0) κ.cls κ.m_nought κ.nought hr_κ κ.b_nought .nil pass0 (pa_cons (pe_ix (ixL K) (pv 1) (pe_op op_sub (pv 2) pe_int) (fun _ _ => rfl)) pa_nil)))))) (pss_one (ps_aug (i := 2) sc_trimmed.nd rfl (Or.inl rfl) pe_int L2.ip_sub)))
      (pss_one (ps_ret (pe_slice (slL K) (pv 1) po_none (po_some (pv 2))))))), ?_⟩
  refine s_asg (ev_len (ev_var rfl hx)) fun v1 H1 e1 h1 => ?_
  cases (show v1 = .int (xs.length : Nat) from h1)
  refine s_while (fun m σ H' => Same H H' ∧ m ≤ xs.length ∧ σ = [some kd, some nv, some (.int (m : Nat))] ∧ trim (xs.take m) = trim xs) xs.length ⟨e1, Nat.le_refl _, rfl, by rw [List.take_length]⟩ ?_
  rintro m σ' H' ⟨e2, hm, rfl, ht⟩
  have hx2 := (κ.L nilH xs).mo hx e2
  refine ⟨decide (m > 0) && decide (gt xs (m - 1) = 0), et_and ((et_test (ev_opB (g := fun i j => decide (j < i)) (ev_vint rfl) ev_int)).to (by simp)) (fun hb => et_B (ev_nou κ (ev_var rfl (κ.obj.mo hk e2)) (ev_ix (i := m - 1) (ev_var rfl hx2) ((ev_opI (g := fun i j => i - j) (ev_vint rfl) ev_int).to ?_) (gt_some ?_)))), fun hb H3 e3 => ?_, fun hb H3 e3 => ?_⟩
  · have : 0 < m := of_decide_eq_true hb
    have em : (m : Int) - 1 = ((m - 1 : Nat) : Int) := by omega
    exact congrArg isI em
  · have : 0 < m := of_decide_eq_true hb
    exact Nat.lt_of_lt_of_le (by omega : m - 1 < m) hm
  · simp only [Bool.and_eq_true, decide_eq_true_eq] at hb
    obtain ⟨h1, h2⟩ := hb
    refine ⟨fun σ2 H4 => Same H H4 ∧ σ2 = [some kd, some nv, some (.int ((m - 1 : Nat) : Int))], fun σ2 H4 ⟨a, b⟩ => ⟨m - 1, by omega, a, by omega, b, ?_⟩, s_aug rfl ev_int fun H4 e4 => ⟨e2.trans (e3.trans e4), ?_⟩⟩
    · obtain ⟨q, rfl⟩ : ∃ q, m = q + 1 := ⟨m - 1, by omega⟩
      have h2' : gt xs q = 0 := h2
      rw [show q + 1 - 1 = q from rfl, ← ht, trim_take (by omega) h2']
    · have em : ((m - 1 : Nat) : Int) = (m : Int) - 1 := by omega
      rw [em]
      rfl
  · refine s_ret (ev_to (n := m) (ev_var rfl ((κ.L nilH xs).mo hx2 e3)) (ev_vint rfl) hm) fun v5 H5 e5 h5 => k v5 H5 (e2.trans (e3.trans e5)) ?_
    have e : xs.take m = trim xs := by
      rw [← ht]
      simp only [Bool.and_eq_false_iff, decide_eq_false_iff_not] at hb
      rcases Nat.eq_zero_or_pos m with rfl | h0
      · simp [trim]
      · obtain ⟨q, rfl⟩ : ∃ q, m = q + 1 := ⟨m - 1, by omega⟩
        rcases hb with h | h
        · omega
        · exact (trim_take' (by omega) h).symm
    rw [e] at h5
    exact κ.famL.an (fun a q => Same.free (e2.trans e3) q) h5
/-! plus_poly(kind, f, g) -/
def sPP : Spc where
  ι := List F × List F
  pre := fun ⟨f, g⟩ => f.length ≤ 1000 ∧ g.length ≤ 1000 ∧ κ.Al (pplusT f g)
  args := fun ⟨f, g⟩ => [κ.obj, κ.L nilH f, κ.L nilH g]
  post := fun ⟨f, g⟩ G => κ.L G (pplus f g)
  an := fun {i _ _ _ _} e h => by obtain ⟨f, g⟩ := i; exact κ.famL.an e h
-- 0 kind, 1 f, 2 g, 3 told, 4 k
theorem ok_plus_poly : Ok P w K mg base 42 ("plus_poly", none) ["kind", "f", "g"] (sPP κ) := by
  refine T.d_plus_poly.ok sc_plus_poly (fun _ => rfl) fun cdv A outer s H vs Q E ⟨f0, g0⟩ hr ⟨hf, hg, hs⟩ ha k => ?_
  obtain ⟨kd, _, rfl, hk, fv, _, rfl, hfv, gv, _, rfl, hgv, rfl⟩ := ha
  have hr_κ : Room 40 _ := hr.mono (by decide)
  have hr_trimmed : Room 41 _ := hr
  have G_trimmed := ok_trimmed κ T
  have hfv : (κ.L nilH f0).p fv H := hfv
  have hgv : (κ.L nilH g0).p gv H := hgv
  refine ⟨_, (Evl.pss_cut (ps_if (pt_cmpR op_lt (pe_callB (lenK K) (by rfl) T.free_len PySem.boot_len (pa_cons (pv 1) pa_nil)) (pe_callB (lenK K) (by rfl) T.free_len PySem.boot_len (pa_cons (pv 2) pa_nil)) (nomark _)) (pss_one (ps_par (i := 1) (j := 2) (by rfl) sc_plus_poly.nd rfl rfl (by decide) rfl rfl (pa_cons (pv 2) (pa_cons (pv 1) pa_nil)) (by rfl))) pss_nil)
      (pss_cons (ps_set (i := 3) sc_plus_poly.nd rfl (Or.inl rfl) (pe_callTy (listK K) (by rfl) T.free_list (by decide +kernel) (pa_cons (pv 1) pa_nil)))
      (pss_cons (ps_for PassesOwn.never rfl (pi_range1 (by rfl) T.free_range (pa_cons (pe_callB (lenK K) (by rfl) T.free_len PySem.boot_len (pa_cons (pv 2) pa_nil)) pa_nil)) (pg_name (i := 4) sc_plus_poly.nd rfl (Or.inl rfl)) (pss_one (ps_asg (pe_meth (pv 0) κ.cls κ.m_plus κ.plus hr_κ κ.b_plus .nil pass0 (pa_cons (pe_ix (ixL K) (pv 1) (pv 4) (fun _ _ => rfl)) (pa_cons (pe_ix (ixL K) (pv 2) (pv 4) (fun _ _ => rfl)) pa_nil))) (pg_sub (pv 3) (pv 4) set_list))))
      (pss_one (ps_ret (pe_call G_trimmed hr_trimmed rfl T.g_trimmed T.d_trimmed.fn.kp T.d_trimmed.bd .nil pass0 (pa_cons (pv 0) (pa_cons (pv 3) pa_nil)))))))), ?_⟩
  refine ⟨fun σ H1 => ∃ fv gv f g, σ = [some kd, some fv, some gv, none, none] ∧ Same H H1 ∧ (κ.L nilH f).p fv H1 ∧ (κ.L nilH g).p gv H1 ∧ g.length ≤ f.length ∧ f.length ≤ 1000 ∧ trim (addL f g) = pplus f0 g0 ∧ κ.Al (addL f g), ?_, ?_⟩
  · refine s_if (et_test (ev_opB (g := fun i j => decide (i < j)) (ev_len (ev_var rfl hfv)) (ev_len (ev_var rfl hgv)))) (fun hb H1 e1 => ?_) (fun hb H1 e1 => ?_)
    · have hb : f0.length < g0.length := by have := of_decide_eq_true hb; omega
      refine s_par (ea_cons (ev_var rfl ((κ.L nilH g0).mo hgv e1)) (ea_cons (ev_var rfl ((κ.L nilH f0).mo hfv e1)) ea_nil)) fun v w H2 e2 h1 h2 => ?_
      exact ⟨v, w, g0, f0, rfl, e1.trans e2, h1, h2, by omega, hg, by unfold pplus; rw [if_pos hb], by have z := hs; unfold pplusT at z; rw [if_pos hb] at z; exact z⟩
    · have hb : ¬ f0.length < g0.length := by have := of_decide_eq_false hb; omega
      exact ⟨fv, gv, f0, g0, rfl, e1, (κ.L nilH f0).mo hfv e1, (κ.L nilH g0).mo hgv e1, by omega, hf, by unfold pplus; rw [if_neg hb], by have z := hs; unfold pplusT at z; rw [if_neg hb] at z; exact z⟩
  · rintro σ' H1 ⟨fv, gv, f, g, rfl, e1, hfv, hgv, hle, hf, htr, hAl⟩
    refine s_asg (ev_list (ev_var rfl hfv)) fun v2 H2 e2 h2 => ?_
    obtain ⟨l, vs, rfl, hlH, hl2, hp2⟩ := h2
    refine s_forR (n := g.length) (ea_cons (ev_len (ev_var rfl ((κ.L nilH g).mo hgv e2))) ea_nil) (by omega)
      (fun i σ H' => Same H1 H' ∧ ∃ a ws, σ = [some kd, some fv, some gv, some (.ref l), a] ∧ H' l = some (.lst ws) ∧ Paired (fun x u => (κ.rep x).p u H') (addL f (g.take i)) ws)
      (fun H3 e3 => ⟨e2.trans e3, none, vs, rfl, e3 _ _ hl2, by rw [List.take_zero, addL_nil]; exact pmo (R := κ.rep) hp2 e3⟩) ?_ ?_
    · rintro i σ' H' hi ⟨e3, a, ws, rfl, hl3, hp3⟩
      have hk3 := κ.obj.mo hk (e1.trans e3)
      have hlen := paired_len hp3
      rw [addL_len, List.length_take] at hlen
      refine s_set (j := i) hl3 (ev_plus κ (ev_var rfl hk3) (ev_ix (i := i) (ev_var rfl ((κ.L nilH f).mo hfv e3)) (ev_vint rfl) (gt_some (by omega))) (ev_ix (i := i) (ev_var rfl ((κ.L nilH g).mo hgv e3)) (ev_vint rfl) (gt_some hi)) (hAl _ (addL_mem f g i hi (by omega)))) (ev_var rfl rfl) (ev_vint rfl) (by omega) fun v4 H4 e4 h4 => ?_
      have hl4 := e4 _ _ hl3
      refine ⟨same_mut (e3.trans e4) hlH, _, _, rfl, upd_same, ?_⟩
      have := pset (R := κ.rep) (κ.rep_sta _ _ _ _ _ _ hl4 h4) i (psta (R := κ.rep) (o' := ws.set i v4) (fun x => κ.rep_sta x l) hl4 (pmo (R := κ.rep) hp3 e4))
      rw [addL_step f g i hi (by omega)] at this
      exact this
    · rintro σ' H' ⟨e3, a, ws, rfl, hl3, hp3⟩
      rw [List.take_length] at hp3
      refine s_ret (ev_call (S := sTrim κ) (addL f g) (ea_cons (ev_var rfl (κ.obj.mo hk (e1.trans e3))) (ea_cons (ev_var rfl ⟨l, ws, rfl, rfl, hl3, hp3⟩) ea_nil)) (by show (addL f g).length ≤ 1000; rw [addL_len]; omega)) fun v5 H5 e5 h5 => k v5 H5 (e1.trans (e3.trans e5)) ?_
      show (κ.L H (pplus f0 g0)).p v5 H5
      rw [← htr]
      exact κ.famL.an (fun a q => Same.free (e1.trans e3) q) h5
/-! times_poly(kind, f, g) -/
def sTP : Spc where
  ι := List F × List F
  pre := fun ⟨f, g⟩ => f.length + g.length ≤ 1000 ∧ κ.Al (ptimesT f g)
  args := fun ⟨f, g⟩ => [κ.obj, κ.L nilH f, κ.L nilH g]
  post := fun ⟨f, g⟩ G => κ.L G (ptimes f g)
  an := fun {i _ _ _ _} e h => by obtain ⟨f, g⟩ := i; exact κ.famL.an e h
-- 0 kind, 1 f, 2 g, 3 told, 4 k, 5 i, 6 j
theorem ok_times_poly : Ok P w K mg base 42 ("times_poly", none) ["kind", "f", "g"] (sTP κ) := by
  refine T.d_times_poly.ok sc_times_poly (fun _ => rfl) fun cdv A outer s H vs Q E ⟨f, g⟩ hr ⟨hn, hs⟩ ha k => ?_
  obtain ⟨kd, _, rfl, hk, fv, _, rfl, hfv, gv, _, rfl, hgv, rfl⟩ := ha
  obtain ⟨dsN, vN_κ, bN_κ⟩ := κ.b_number
  have hr_κ : Room 40 _ := hr.mono (by decide)
  have hr_trimmed : Room 41 _ := hr
  have hu := hr.units
  have G_trimmed := ok_trimmed κ T
  have hfv : (κ.L nilH f).p fv H := hfv
  have hgv : (κ.L nilH g).p gv H := hgv
  have hn : f.length + g.length ≤ 1000 := hn
  refine ⟨_, (pss_cons (ps_if (PW.pt (pw_or (pt_cmpR (eqDK K hu) (pv 1) (pe_lst pa_nil) (nomark _)) (pw_or1 (pt_cmpR (eqDK K hu) (pv 2) (pe_lst pa_nil) (nomark _))))) (pss_one (ps_ret (pe_lst pa_nil))) pss_nil)
      (pss_cons (ps_setLc (i := 3) (own := [("k", 4)]) rfl sc_times_poly.nd rfl rfl (sw_true rfl rfl rfl (by decide +kernel)) (pi_range1 (by rfl) T.free_range (pa_cons (pe_op op_sub (pe_op op_add (pe_callB (lenK K) (by rfl) T.free_len PySem.boot_len (pa_cons (pv 1) pa_nil)) (pe_callB (lenK K) (by rfl) T.free_len PySem.boot_len (pa_cons (pv 2) pa_nil))) pe_int) pa_nil)) (blkOk_by (own := [("k", 4)]) (N := ["kind", "f", "g", "told", "k", "i", "j"]) (sc := defScope s_times_poly) (by decide +kernel)) (fun _ _ _ _ _ => (pg_name (i := 4) sc_times_poly.nd rfl (Or.inl rfl))) (fun _ _ _ _ _ => pts_nil) (fun _ _ _ _ _ => (pe_meth (pv 0) κ.cls κ.m_number κ.number hr_κ bN_κ vN_κ pass0 (pa_cons pe_int pa_nil))))
      (pss_cons (ps_for PassesOwn.never rfl (pi_range1 (by rfl) T.free_range (pa_cons (pe_callB (lenK K) (by rfl) T.free_len PySem.boot_len (pa_cons (pv 1) pa_nil)) pa_nil)) (pg_name (i := 5) sc_times_poly.nd rfl (Or.inl rfl)) (pss_one (ps_for PassesOwn.never rfl (pi_range1 (by rfl) T.free_range (pa_cons (pe_callB (lenK K) (by rfl) T.free_len PySem.boot_len (pa_cons (pv 2) pa_nil)) pa_nil)) (pg_name (i := 6) sc_times_poly.nd rfl (Or.inl rfl)) (pss_one (ps_asg (pe_meth (pv 0) κ.cls κ.m_plus κ.plus hr_κ κ.b_plus .nil pass0 (pa_cons (pe_ix (ixL K) (pv 3) (pe_op op_add (pv 5) (pv 6)) (fun _ _ => rfl)) (pa_cons (pe_meth (pv 0) κ.cls κ.m_times κ.times hr_κ κ.b_times .nil pass0 (pa_cons (pe_ix (ixL K) (pv 1) (pv 5) (fun _ _ => rfl)) (pa_cons (pe_ix (ixL K) (pv 2) (pv 6) (fun _ _ => rfl)) pa_nil))) pa_nil))) (pg_sub (pv 3) (pe_op op_add (pv 5) (pv 6)) set_list))))))
      (pss_one (ps_ret (pe_call G_trimmed hr_trimmed rfl T.g_trimmed T.d_trimmed.fn.kp T.d_trimmed.bd .nil pass0 (pa_cons (pv 0) (pa_cons (pv 3) pa_nil)))))))), ?_⟩
  refine s_if (et_or (et_test (ev_eqL κ (ev_var rfl hfv) (ev_nilL (R := κ.rep)))) fun _ => et_test (ev_eqL κ (ev_var rfl hgv) (ev_nilL (R := κ.rep)))) (fun hb H1 e1 => ?_) (fun hb H1 e1 => ?_)
  · have e : ptimes f g = [] := by unfold ptimes; rw [if_pos (by simpa using hb)]
    refine s_ret (σ := [some kd, some fv, some gv, none, none, none, none]) (ev_nilL (R := κ.rep)) fun v H2 e2 h2 => k v H2 (e1.trans e2) ?_
    show (κ.L H (ptimes f g)).p v H2
    rw [e]
    exact κ.famL.an (fun a q => Same.free e1 q) h2
  · have hne : ¬ (f = [] ∨ g = []) := by simpa using hb
    have hf0 : 0 < f.length := List.length_pos_iff.mpr fun e => hne (.inl e)
    have hg0 : 0 < g.length := List.length_pos_iff.mpr fun e => hne (.inr e)
    have hAl : κ.Al (tpIT g f 0 (noughts (f.length + g.length - 1))) := by have z := hs; unfold ptimesT at z; rw [if_neg hne] at z; exact z
    have hpt : ptimes f g = trim (tpI g f 0 (noughts (f.length + g.length - 1))) := by unfold ptimes; rw [if_neg hne]
    have hfv1 := (κ.L nilH f).mo hfv e1
    have hgv1 := (κ.L nilH g).mo hgv e1
    have ei : ((f.length : Nat) : Int) + (g.length : Nat) - 1 = ((f.length + g.length - 1 : Nat) : Int) := by omega
    refine s_asg (ev_lcR κ.fam (fun _ => (0 : F)) (n := f.length + g.length - 1) (ea_cons ((ev_opI (g := fun i j => i - j) (ev_opI (g := fun i j => i + j) (ev_len (ev_var rfl hfv1)) (ev_len (ev_var rfl hgv1))) ev_int).to (congrArg isI ei)) ea_nil) (by omega) (fun _ => rfl) fun i H2 e2 hi => ev_num0 κ (ev_var rfl (κ.obj.mo hk (e1.trans e2)))) fun v2 H2 e2 h2 => ?_
    obtain ⟨l, vs, rfl, hlH, hl2, hp2⟩ := h2
    refine s_forR (n := f.length) (ea_cons (ev_len (ev_var rfl ((κ.L nilH f).mo hfv1 e2))) ea_nil) (by omega)
      (fun i σ H' => Same H1 H' ∧ ∃ a b ws t, σ = [some kd, some fv, some gv, some (.ref l), none, a, b] ∧ H' l = some (.lst ws) ∧ Paired (fun x u => (κ.rep x).p u H') t ws ∧ t.length = f.length + g.length - 1 ∧ tpI g (f.drop i) i t = tpI g f 0 (noughts (f.length + g.length - 1)) ∧ κ.Al (tpIT g (f.drop i) i t))
      (fun H3 e3 => ⟨e2.trans e3, none, none, vs, _, rfl, e3 _ _ hl2, pmo (R := κ.rep) hp2 e3, by simp, rfl, hAl⟩) ?_ ?_
    · rintro i σ' H' hi ⟨e3, a, b, ws, t, rfl, hl3, hp3, htl, hte, hA3⟩
      have d1 : f.drop i = gt f i :: f.drop (i + 1) := by
        have z := gt_some hi
        rw [List.drop_eq_getElem_cons hi, (List.getElem?_eq_some_iff.mp z).2]
      rw [d1] at hte hA3
      refine s_forR (n := g.length) (ea_cons (ev_len (ev_var rfl ((κ.L nilH g).mo hgv1 e3))) ea_nil) (by omega)
        (fun j σ H' => Same H1 H' ∧ ∃ b ws t', σ = [some kd, some fv, some gv, some (.ref l), none, some (.int (i : Nat)), b] ∧ H' l = some (.lst ws) ∧ Paired (fun x u => (κ.rep x).p u H') t' ws ∧ t'.length = f.length + g.length - 1 ∧ tpJ (gt f i) (g.drop j) (i + j) t' = tpJ (gt f i) g i t ∧ κ.Al (tpJT (gt f i) (g.drop j) (i + j) t'))
        (fun H4 e4 => ⟨e3.trans e4, b, ws, t, rfl, e4 _ _ hl3, pmo (R := κ.rep) hp3 e4, htl, rfl, fun z hz => hA3 z (List.mem_append_left _ hz)⟩) ?_ ?_
      · rintro j σ2 H4 hj ⟨e4, b, ws, t', rfl, hl4, hp4, htl', htj, hA4⟩
        have d2 : g.drop j = gt g j :: g.drop (j + 1) := by
          have z := gt_some hj
          rw [List.drop_eq_getElem_cons hj, (List.getElem?_eq_some_iff.mp z).2]
        rw [d2] at htj hA4
        have hk4 := κ.obj.mo hk (e1.trans e4)
        have ep : ((i : Nat) : Int) + (j : Nat) = ((i + j : Nat) : Int) := by omega
        have hpl := paired_len hp4
        have ix := ev_ix (K := K) (xs := t') (R := κ.rep) (G := nilH) (H := H4) (i := i + j) (ta := tVar 3) (tb := tOp (rI0 fun i j => .int (i + j)) (tVar 5) (tVar 6)) (σ := [some kd, some fv, some gv, some (.ref l), none, some (.int (i : Nat)), some (.int (j : Nat))]) (ev_var rfl ⟨l, ws, rfl, rfl, hl4, hp4⟩) ((ev_opI (g := fun i j => i + j) (ev_vint rfl) (ev_vint rfl)).to (congrArg isI ep)) (gt_some (by omega))
        refine s_set (j := i + j) hl4 (ev_plus κ (ev_var rfl hk4) ix (ev_times κ (ev_var rfl hk4) (ev_ix (i := i) (ev_var rfl ((κ.L nilH f).mo hfv1 e4)) (ev_vint rfl) (gt_some hi)) (ev_ix (i := j) (ev_var rfl ((κ.L nilH g).mo hgv1 e4)) (ev_vint rfl) (gt_some hj)) (hA4 _ (List.mem_cons_self ..))) (hA4 _ (List.mem_cons_of_mem _ (List.mem_cons_self ..)))) (ev_var rfl rfl) ((ev_opI (g := fun i j => i + j) (ev_vint rfl) (ev_vint rfl)).to (congrArg isI ep)) (by omega) fun v5 H5 e5 h5 => ?_
        have hl5 := e5 _ _ hl4
        exact ⟨same_mut (e4.trans e5) hlH, _, _, _, rfl, upd_same, pset (R := κ.rep) (κ.rep_sta _ _ _ _ _ _ hl5 h5) (i + j) (psta (R := κ.rep) (fun x => κ.rep_sta x l) hl5 (pmo (R := κ.rep) hp4 e5)), by rw [List.length_set]; exact htl', htj, fun z hz => hA4 z (List.mem_cons_of_mem _ (List.mem_cons_of_mem _ hz))⟩
      · rintro σ2 H4 ⟨e4, b, ws, t', rfl, hl4, hp4, htl', htj, hA4⟩
        rw [List.drop_length] at htj
        have htj : t' = tpJ (gt f i) g i t := htj
        subst htj
        exact ⟨e4, _, _, ws, _, rfl, hl4, hp4, htl', hte, fun z hz => hA3 z (List.mem_append_right _ hz)⟩
    · rintro σ' H' ⟨e3, a, b, ws, t, rfl, hl3, hp3, htl, hte, hA3⟩
      rw [List.drop_length] at hte
      have hte : t = tpI g f 0 (noughts (f.length + g.length - 1)) := hte
      refine s_ret (ev_call (S := sTrim κ) t (ea_cons (ev_var rfl (κ.obj.mo hk (e1.trans e3))) (ea_cons (ev_var rfl ⟨l, ws, rfl, rfl, hl3, hp3⟩) ea_nil)) (by show t.length ≤ 1000; omega)) fun v5 H5 e5 h5 => k v5 H5 (e1.trans (e3.trans e5)) ?_
      show (κ.L H (ptimes f g)).p v5 H5
      rw [hpt, ← hte]
      exact κ.famL.an (fun a q => Same.free (e1.trans e3) q) h5
end
end Tf
set_option maxRecDepth 100000
set_option maxHeartbeats 4000000
namespace Tf
open PySem PySem.Spec PyProof.Rows L2
section
variable {F : Type} [Lean.Grind.Field F] [DecidableEq F]
theorem dvGo_stop {by_ : F} {g q r : List F} (h : r.length < g.length) : ∀ n, dvGo by_ g n q r = (q, r)
  | 0 => rfl
  | n + 1 => by unfold dvGo; rw [if_neg (by omega)]
theorem drop_at {xs : List F} {i : Nat} (h : i < xs.length) : xs.drop i = gt xs i :: xs.drop (i + 1) := by
  have z := gt_some h
  rw [List.drop_eq_getElem_cons h, (List.getElem?_eq_some_iff.mp z).2]
end
section
variable {P : Program} {w : World} {K : PySem.W.Frag} {mg : Str → Option Value} {base : Heap} {F : Type} [Lean.Grind.Field F] [DecidableEq F] (κ : Kd F P w K mg base) (T : Txt K mg)
include T
/-! divided(kind, f, g) -/
def sDiv : Spc where
  ι := List F × List F
  pre := fun ⟨f, g⟩ => g ≠ [] ∧ lst g ≠ 0 ∧ f.length ≤ 200 ∧ g.length ≤ 200 ∧ κ.Al (dividedT f g)
  args := fun ⟨f, g⟩ => [κ.obj, κ.L nilH f, κ.L nilH g]
  post := fun ⟨f, g⟩ G => TR nilH [κ.L G (divided f g).1, κ.L G (divided f g).2]
  an := fun {i _ _ _ _} g h => by
    obtain ⟨t, b⟩ := i
    obtain ⟨a, vs, e, _, h, v1, r1, e1, p1, v2, r2, e2, p2, e3⟩ := h
    exact ⟨a, vs, e, rfl, h, v1, r1, e1, κ.famL.an g p1, v2, r2, e2, κ.famL.an g p2, e3⟩
-- 0 kind, 1 f, 2 g, 3 by, 4 rest, 5 quotient, 6 number, 7 at, 8 k
theorem ok_divided : Ok P w K mg base 42 ("divided", none) ["kind", "f", "g"] (sDiv κ) := by
  refine T.d_divided.ok sc_divided (fun _ => rfl) fun cdv A outer s H vs Q E ⟨f, g⟩ hr ⟨hgn, hgz, hf, hg, hs⟩ ha k => ?_
  obtain ⟨kd, _, rfl, hk, fv, _, rfl, hfv, gv, _, rfl, hgv, rfl⟩ := ha
  have hr_κ : Room 40 _ := hr.mono (by decide)
  have hr_trimmed : Room 41 _ := hr
  have hu := hr.units
  have G_trimmed := ok_trimmed κ T
  have hfv : (κ.L nilH f).p fv H := hfv
  have hgv : (κ.L nilH g).p gv H := hgv
  have hf : f.length ≤ 200 := hf
  have hg : g.length ≤ 200 := hg
  have hs : κ.Al (dvGoT (lst g)⁻¹ g (f.length + 1) f) := hs
  have hg0 : 0 < g.length := List.length_pos_iff.mpr hgn
  have eg : ((g.length : Nat) : Int) - 1 = ((g.length - 1 : Nat) : Int) := by omega
  refine ⟨_, (pss_cons (ps_if (pt_cmpR (eqDK K hu) (pv 2) (pe_lst pa_nil) (nomark _)) pss_never pss_nil)
      (pss_cons (ps_set (i := 3) sc_divided.nd rfl (Or.inl rfl) (pe_meth (pv 0) κ.cls κ.m_back κ.back hr_κ κ.b_back .nil pass0 (pa_cons (pe_ix (ixL K) (pv 2) (pe_op op_sub (pe_callB (lenK K) (by rfl) T.free_len PySem.boot_len (pa_cons (pv 2) pa_nil)) pe_int) (fun _ _ => rfl)) pa_nil)))
      (pss_cons (ps_set (i := 4) sc_divided.nd rfl (Or.inl rfl) (pe_callTy (listK K) (by rfl) T.free_list (by decide +kernel) (pa_cons (pv 1) pa_nil)))
      (pss_cons (ps_set (i := 5) sc_divided.nd rfl (Or.inl rfl) (pe_lst pa_nil))
      (pss_cons (ps_while PassesOwn.never (pt_cmpR op_ge (pe_callB (lenK K) (by rfl) T.free_len PySem.boot_len (pa_cons (pv 4) pa_nil)) (pe_callB (lenK K) (by rfl) T.free_len PySem.boot_len (pa_cons (pv 2) pa_nil)) (nomark _)) (pss_cons (ps_set (i := 6) sc_divided.nd rfl (Or.inl rfl) (pe_meth (pv 0) κ.cls κ.m_times κ.times hr_κ κ.b_times .nil pass0 (pa_cons (pe_ix (ixL K) (pv 4) (pe_op op_sub (pe_callB (lenK K) (by rfl) T.free_len PySem.boot_len (pa_cons (pv 4) pa_nil)) pe_int) (fun _ _ => rfl)) (pa_cons (pv 3) pa_nil))))
      (pss_cons (ps_expr (pe_bm PySem.F.plainAttrs_list PySem.F.slot_list_append PySem.F.type_list_append mt_append (pv 5) (pa_cons (pv 6) pa_nil)))
      (pss_cons (ps_set (i := 7) sc_divided.nd rfl (Or.inl rfl) (pe_op op_sub (pe_callB (lenK K) (by rfl) T.free_len PySem.boot_len (pa_cons (pv 4) pa_nil)) (pe_callB (lenK K) (by rfl) T.free_len PySem.boot_len (pa_cons (pv 2) pa_nil))))
      (pss_cons (ps_for PassesOwn.never rfl (pi_range1 (by rfl) T.free_range (pa_cons (pe_callB (lenK K) (by rfl) T.free_len PySem.boot_len (pa_cons (pv 2) pa_nil)) pa_nil)) (pg_name (i := 8) sc_divided.nd rfl (Or.inl rfl)) (pss_one (ps_asg (pe_meth (pv 0) κ.cls κ.m_minus κ.minus hr_κ κ.b_minus .nil pass0 (pa_cons (pe_ix (ixL K) (pv 4) (pe_op op_add (pv 7) (pv 8)) (fun _ _ => rfl)) (pa_cons (pe_meth (pv 0) κ.cls κ.m_times κ.times hr_κ κ.b_times .nil pass0 (pa_cons (pv 6) (pa_cons (pe_ix (ixL K) (pv 2) (pv 8) (fun _ _ => rfl)) pa_nil))) pa_nil))) (pg_sub (pv 4) (pe_op op_add (pv 7) (pv 8)) set_list))))
      (pss_one (ps_expr (pe_bm0 PySem.F.plainAttrs_list PySem.F.slot_list_pop PySem.F.type_list_pop mt_pop (pv 4)))))))))
      (pss_one (ps_ret (pe_tup (pa_cons (pe_lstRev K rfl rfl (by rfl) T.free_list (by rfl) T.free_reversed (pv 5)) (pa_cons (pe_call G_trimmed hr_trimmed rfl T.g_trimmed T.d_trimmed.fn.kp T.d_trimmed.bd .nil pass0 (pa_cons (pv 0) (pa_cons (pv 4) pa_nil))) pa_nil)))))))))), ?_⟩
  refine s_ifF (et_test (ev_eqL κ (ev_var rfl hgv) (ev_nilL (R := κ.rep))) |>.to (by simp [hgn])) fun H1 e1 => ?_
  have hg1 := (κ.L nilH g).mo hgv e1
  refine s_asg (ev_back κ (ev_var rfl (κ.obj.mo hk e1)) (ev_ix (i := g.length - 1) (ev_var rfl hg1) ((ev_opI (g := fun i j => i - j) (ev_len (ev_var rfl hg1)) ev_int).to (congrArg isI eg)) (gt_some (by omega))) hgz) fun byv H2 e2 hby => ?_
  refine s_asg (ev_list (ev_var rfl ((κ.L nilH f).mo hfv (e1.trans e2)))) fun v3 H3 e3 h3 => ?_
  obtain ⟨l, vs, rfl, hlH, hl3, hp3⟩ := h3
  refine s_asg (ev_nilL (R := κ.rep)) fun v4 H4 e4 h4 => ?_
  obtain ⟨m, ms, rfl, hmH, hm4, hp4⟩ := h4
  have hlH0 : H l = none := Same.free (e1.trans e2) hlH
  have hmH0 : H m = none := Same.free (e1.trans (e2.trans e3)) hmH
  have hlm : l ≠ m := fun z => by rw [z] at hl3; rw [hl3] at hmH; cases hmH
  have E4 : Same H H4 := e1.trans (e2.trans (e3.trans e4))
  refine s_while (fun n σ H' => Same H H' ∧ ∃ a b c r q ws us, σ = [some kd, some fv, some gv, some byv, some (.ref l), some (.ref m), a, b, c] ∧ (κ.rep (lst g)⁻¹).p byv H' ∧ H' l = some (.lst ws) ∧ Paired (fun x u => (κ.rep x).p u H') r ws ∧ H' m = some (.lst us) ∧ Paired (fun x u => (κ.rep x).p u H') q us ∧ r.length < n ∧ q.length + r.length ≤ 200 ∧ dvGo (lst g)⁻¹ g n q r = dvGo (lst g)⁻¹ g (f.length + 1) [] f ∧ κ.Al (dvGoT (lst g)⁻¹ g n r)) (f.length + 1)
    ⟨E4, none, none, none, f, [], vs, ms, rfl, (κ.rep _).mo hby (e3.trans e4), e4 _ _ hl3, pmo (R := κ.rep) hp3 e4, hm4, hp4, Nat.lt_succ_self _, by simpa using hf, rfl, hs⟩ ?_
  rintro n σ' H' ⟨e5, a, b, c, r, q, ws, us, rfl, hby5, hl5, hp5, hm5, hq5, hrn, hqr, hgo, hA⟩
  have hLr : (κ.L nilH r).p (.ref l) H' := ⟨l, ws, rfl, rfl, hl5, hp5⟩
  refine ⟨decide (g.length ≤ r.length), et_test (ev_opB (g := fun i j => decide (j ≤ i)) (ev_len (ev_var rfl hLr)) (ev_len (ev_var rfl ((κ.L nilH g).mo hgv e5)))) |>.to (by simp), fun hb H6 e6 => ?_, fun hb H6 e6 => ?_⟩
  · have hb : g.length ≤ r.length := by simpa using hb
    obtain ⟨n, rfl⟩ : ∃ p, n = p + 1 := ⟨n - 1, by omega⟩
    have hr0 : 0 < r.length := by omega
    have er : ((r.length : Nat) : Int) - 1 = ((r.length - 1 : Nat) : Int) := by omega
    unfold dvGo at hgo
    rw [if_pos hb] at hgo
    unfold dvGoT at hA
    rw [if_pos hb] at hA
    have hL6 := (κ.L nilH r).mo hLr e6
    refine ⟨fun σ H' => Same H H' ∧ ∃ a b c r q ws us, σ = [some kd, some fv, some gv, some byv, some (.ref l), some (.ref m), a, b, c] ∧ (κ.rep (lst g)⁻¹).p byv H' ∧ H' l = some (.lst ws) ∧ Paired (fun x u => (κ.rep x).p u H') r ws ∧ H' m = some (.lst us) ∧ Paired (fun x u => (κ.rep x).p u H') q us ∧ r.length < n ∧ q.length + r.length ≤ 200 ∧ dvGo (lst g)⁻¹ g n q r = dvGo (lst g)⁻¹ g (f.length + 1) [] f ∧ κ.Al (dvGoT (lst g)⁻¹ g n r), fun σ2 H2 h => ⟨n, Nat.lt_succ_self _, h⟩, ?_⟩
    refine s_asg (ev_times κ (ev_var rfl (κ.obj.mo hk (e5.trans e6))) (ev_ix (i := r.length - 1) (ev_var rfl hL6) ((ev_opI (g := fun i j => i - j) (ev_len (ev_var rfl hL6)) ev_int).to (congrArg isI er)) (gt_some (by omega))) (ev_var rfl ((κ.rep _).mo hby5 e6)) (hA _ (List.mem_cons_self ..))) fun nv H7 e7 h7 => ?_
    have hnum : (κ.rep (lst r * (lst g)⁻¹)).p nv H7 := h7
    have e67 := e6.trans e7
    refine s_app (e67 _ _ hm5) (ev_var rfl rfl) (ev_var rfl hnum) (by rw [← paired_len hq5]; omega) fun v8 H8 e8 h8 => ?_
    have hm8 := (e67.trans e8) _ _ hm5
    have hl8 := (e67.trans e8) _ _ hl5
    have hby8 := κ.rep_sta _ m _ _ _ (us ++ [v8]) hm8 ((κ.rep _).mo hby5 (e67.trans e8))
    have hn8 := κ.rep_sta _ m _ _ _ (us ++ [v8]) hm8 ((κ.rep _).mo hnum e8)
    have hp8 := psta (R := κ.rep) (o' := us ++ [v8]) (fun x => κ.rep_sta x m) hm8 (pmo (R := κ.rep) hp5 (e67.trans e8))
    have hq8 := psnoc (R := κ.rep) (psta (R := κ.rep) (o' := us ++ [v8]) (fun x => κ.rep_sta x m) hm8 (pmo (R := κ.rep) hq5 (e67.trans e8))) (κ.rep_sta _ m _ _ _ (us ++ [v8]) hm8 h8)
    have E8 : Same H (upd H8 m (.lst (us ++ [v8]))) := same_mut (e5.trans (e67.trans e8)) hmH0
    generalize hH9 : upd H8 m (.lst (us ++ [v8])) = H9 at *
    have hm9 : H9 m = some (.lst (us ++ [v8])) := by rw [← hH9]; exact upd_same
    have hl9 : H9 l = some (.lst ws) := by rw [← hH9, upd_ne hlm]; exact hl8
    have hLr9 : (κ.L nilH r).p (.ref l) H9 := ⟨l, ws, rfl, rfl, hl9, hp8⟩
    have ea : ((r.length : Nat) : Int) - ((g.length : Nat) : Int) = ((r.length - g.length : Nat) : Int) := by omega
    refine s_asg ((ev_opI (g := fun i j => i - j) (ev_len (ev_var rfl hLr9)) (ev_len (ev_var rfl ((κ.L nilH g).mo hgv E8)))).to (congrArg isI ea)) fun av H10 e10 h10 => ?_
    cases (show av = .int ((r.length - g.length : Nat) : Int) from h10)
    have E10 := E8.trans e10
    refine s_forR (n := g.length) (ea_cons (ev_len (ev_var rfl ((κ.L nilH g).mo hgv E10))) ea_nil) (by omega)
      (fun i σ H' => Same H H' ∧ ∃ d t ws, σ = [some kd, some fv, some gv, some byv, some (.ref l), some (.ref m), some nv, some (.int ((r.length - g.length : Nat) : Int)), d] ∧ (κ.rep (lst g)⁻¹).p byv H' ∧ (κ.rep (lst r * (lst g)⁻¹)).p nv H' ∧ H' l = some (.lst ws) ∧ Paired (fun x u => (κ.rep x).p u H') t ws ∧ H' m = some (.lst (us ++ [v8])) ∧ Paired (fun x u => (κ.rep x).p u H') (q ++ [lst r * (lst g)⁻¹]) (us ++ [v8]) ∧ t.length = r.length ∧
        dvK (lst r * (lst g)⁻¹) (g.drop i) (r.length - g.length + i) t = dvK (lst r * (lst g)⁻¹) g (r.length - g.length) r ∧ κ.Al (dvKT (lst r * (lst g)⁻¹) (g.drop i) (r.length - g.length + i) t))
      (fun H11 e11 => by
        have e := e10.trans e11
        exact ⟨E8.trans e, c, r, ws, rfl, (κ.rep _).mo hby8 e, (κ.rep _).mo hn8 e, e _ _ hl9, pmo (R := κ.rep) hp8 e, e _ _ hm9, pmo (R := κ.rep) hq8 e, rfl, rfl, fun z hz => hA z (List.mem_cons_of_mem _ (List.mem_append_left _ hz))⟩) ?_ ?_
    · rintro i σ' H' hi ⟨e11, d, t, ws, rfl, hb11, hn11, hl11, hp11, hm11, hq11, htl, hdv, hA11⟩
      rw [drop_at hi] at hdv hA11
      have hpl := paired_len hp11
      have hk11 := κ.obj.mo hk e11
      have ep : ((r.length - g.length : Nat) : Int) + (i : Nat) = ((r.length - g.length + i : Nat) : Int) := by omega
      have ix := ev_ix (K := K) (xs := t) (R := κ.rep) (G := nilH) (H := H') (i := r.length - g.length + i) (ta := tVar 4) (tb := tOp (rI0 fun i j => .int (i + j)) (tVar 7) (tVar 8)) (σ := [some kd, some fv, some gv, some byv, some (.ref l), some (.ref m), some nv, some (.int ((r.length - g.length : Nat) : Int)), some (.int (i : Nat))]) (ev_var rfl ⟨l, ws, rfl, rfl, hl11, hp11⟩) ((ev_opI (g := fun i j => i + j) (ev_vint rfl) (ev_vint rfl)).to (congrArg isI ep)) (gt_some (by omega))
      refine s_set (j := r.length - g.length + i) hl11 (ev_minus κ (ev_var rfl hk11) ix (ev_times κ (ev_var rfl hk11) (ev_var rfl hn11) (ev_ix (i := i) (ev_var rfl ((κ.L nilH g).mo hgv e11)) (ev_vint rfl) (gt_some hi)) (hA11 _ (List.mem_cons_self ..))) (hA11 _ (List.mem_cons_of_mem _ (List.mem_cons_self ..)))) (ev_var rfl rfl) ((ev_opI (g := fun i j => i + j) (ev_vint rfl) (ev_vint rfl)).to (congrArg isI ep)) (by omega) fun v12 H12 e12 h12 => ?_
      have hl12 := e12 _ _ hl11
      exact ⟨same_mut (e11.trans e12) hlH0, _, _, _, rfl, κ.rep_sta _ l _ _ _ _ hl12 ((κ.rep _).mo hb11 e12), κ.rep_sta _ l _ _ _ _ hl12 ((κ.rep _).mo hn11 e12), upd_same, pset (R := κ.rep) (κ.rep_sta _ _ _ _ _ _ hl12 h12) (r.length - g.length + i) (psta (R := κ.rep) (fun x => κ.rep_sta x l) hl12 (pmo (R := κ.rep) hp11 e12)), by rw [upd_ne (Ne.symm hlm)]; exact e12 _ _ hm11, psta (R := κ.rep) (fun x => κ.rep_sta x l) hl12 (pmo (R := κ.rep) hq11 e12), by rw [List.length_set]; exact htl, hdv, fun z hz => hA11 z (List.mem_cons_of_mem _ (List.mem_cons_of_mem _ hz))⟩
    · rintro σ' H' ⟨e11, d, t, ws, rfl, hb11, hn11, hl11, hp11, hm11, hq11, htl, hdv, hA11⟩
      rw [List.drop_length] at hdv
      have hdv : t = dvK (lst r * (lst g)⁻¹) g (r.length - g.length) r := hdv
      have hpl := paired_len hp11
      refine s_pop hl11 (ev_var rfl rfl) (fun z => by rw [z, List.length_nil] at hpl; omega) fun H12 e12 => ?_
      have hl12 := e12 _ _ hl11
      rw [← hdv] at hgo hA
      have hpd := psta (R := κ.rep) (o' := ws.dropLast) (fun x => κ.rep_sta x l) hl12 (pmo (R := κ.rep) hp11 e12)
      have hdl : t.dropLast.length = r.length - 1 := by rw [List.length_dropLast, htl]
      refine ⟨same_mut (e11.trans e12) hlH0, _, _, _, t.dropLast, _, ws.dropLast, us ++ [v8], rfl, κ.rep_sta _ l _ _ _ _ hl12 ((κ.rep _).mo hb11 e12), upd_same, ?_, by rw [upd_ne (Ne.symm hlm)]; exact e12 _ _ hm11, psta (R := κ.rep) (fun x => κ.rep_sta x l) hl12 (pmo (R := κ.rep) hq11 e12), by rw [hdl]; omega, by rw [hdl, List.length_append]; simp only [List.length_cons, List.length_nil]; omega, hgo, fun z hz => hA z (List.mem_cons_of_mem _ (List.mem_append_right _ hz))⟩
      rw [List.dropLast_eq_take, List.dropLast_eq_take, hpl] at *
      exact paired_take _ hpd
  · have hb : r.length < g.length := by have := of_decide_eq_false hb; omega
    rw [dvGo_stop hb] at hgo
    have e56 := e5.trans e6
    refine s_ret (ev_tup (Ps := [κ.L H (divided f g).1, κ.L H (divided f g).2]) (ea_cons (Ev.imp (ev_lstRev (ev_var (P := κ.L nilH q) rfl ⟨m, us, rfl, rfl, e6 _ _ hm5, pmo (R := κ.rep) hq5 e6⟩)) fun v H7 e7 h7 => ?_) (ea_cons (Ev.imp (ev_call (S := sTrim κ) r (ea_cons (ev_var rfl (κ.obj.mo hk e56)) (ea_cons (ev_var rfl ((κ.L nilH r).mo hLr e6)) ea_nil)) (by show r.length ≤ 1000; omega)) fun v H7 e7 h7 => ?_) ea_nil))) fun v5 H5 e5 h5 => k v5 H5 (e56.trans e5) ?_
    · have e : q.reverse = (divided f g).1 := by unfold divided; rw [← hgo]
      exact κ.famL.an (fun a z => Same.free e56 z) (show (κ.L H6 (divided f g).1).p v H7 from by rw [← e]; exact h7)
    · have e : trim r = (divided f g).2 := by unfold divided; rw [← hgo]
      exact κ.famL.an (fun a z => Same.free e56 z) (show (κ.L H6 (divided f g).2).p v H7 from by rw [← e]; exact h7)
    · obtain ⟨a, vs, e, _, h⟩ := h5
      exact ⟨a, vs, e, rfl, h⟩
end
end Tf
set_option maxRecDepth 100000
set_option maxHeartbeats 4000000
namespace Tf
open PySem PySem.Spec PyProof.Rows L2
section
variable {P : Program} {w : World} {K : PySem.W.Frag} {mg : Str → Option Value} {base : Heap} {α : Type}
/-- number(n) of a kind, its numbers said by R -/
def gN (O : Pr) (R : Hp → α → Pr) (hR : ∀ {x G G' v H}, (∀ a, G a = none → G' a = none) → (R G x).p v H → (R G' x).p v H) (num : Int → α) : Spc where
  ι := Int
  pre := fun n => n = 0 ∨ n = 1 ∨ n = -1
  args := fun n => [O, isI n, isI 1]
  post := fun n G => R G (num n)
  an := fun e h => hR e h
def gB (O : Pr) (R : Hp → α → Pr) (hR : ∀ {x G G' v H}, (∀ a, G a = none → G' a = none) → (R G x).p v H → (R G' x).p v H) (pre : α → α → Prop) (op : α → α → α) : Spc where
  ι := α × α
  pre := fun x => pre x.1 x.2
  args := fun x => [O, R nilH x.1, R nilH x.2]
  post := fun x G => R G (op x.1 x.2)
  an := fun e h => hR e h
/-- a class with three methods -/
structure Ms (P : Program) (w : World) (K : PySem.W.Frag) (mg : Str → Option Value) (base : Heap) (k : Nat) (C : Addr) (O : Pr) (R : Hp → α → Pr) (hR : ∀ {x G G' v H}, (∀ a, G a = none → G' a = none) → (R G x).p v H → (R G' x).p v H) (num : Int → α) (pp pt : α → α → Prop) (add mul : α → α → α) : Prop where
  cls : Cls K C
  at_ : ∀ {m : Str}, m ∈ (["number", "plus", "times", "minus", "back", "is_nought"] : List Str) → ObjOf K C m O
  m_number : Meth K C "number" (He.ma K C "number")
  m_plus : Meth K C "plus" (He.ma K C "plus")
  m_times : Meth K C "times" (He.ma K C "times")
  bd_number : ∃ ds, Vals [.int 1] ds ∧ Binds K (fdAt K (He.ma K C "number")) ["self", "top", "bottom"] ds
  b_plus : Binds K (fdAt K (He.ma K C "plus")) ["self", "one", "other"] []
  b_times : Binds K (fdAt K (He.ma K C "times")) ["self", "one", "other"] []
  number : FnOk P w K mg base CX0 k (He.ma K C "number") (fdAt K (He.ma K C "number")) ["self", "top", "bottom"] (gN O R hR num).sp
  plus : FnOk P w K mg base CX0 k (He.ma K C "plus") (fdAt K (He.ma K C "plus")) ["self", "one", "other"] (gB O R hR pp add).sp
  times : FnOk P w K mg base CX0 k (He.ma K C "times") (fdAt K (He.ma K C "times")) ["self", "one", "other"] (gB O R hR pt mul).sp
section
variable {k : Nat} {C : Addr} {O : Pr} {R : Hp → α → Pr} {hR : ∀ {x G G' v H}, (∀ a, G a = none → G' a = none) → (R G x).p v H → (R G' x).p v H} {num : Int → α} {pp pt : α → α → Prop} {add mul : α → α → α}
-- 0 self, 1 one, 2 other
theorem ok_Kind_minus {cn : Str} (D : Df K (cn, some "minus") "minus" "Kind.minus" s_Kind_minus ["self", "one", "other"]) (π : Ms P w K mg base k C O R hR num pp pt add mul) :
    Ok P w K mg base (k + 1) (cn, some "minus") ["self", "one", "other"] (gB O R hR (fun x y => pt (num (-1)) y ∧ pp x (mul (num (-1)) y)) fun x y => add x (mul (num (-1)) y)) := by
  refine D.ok sc_Kind_minus (fun _ => rfl) fun cdv A outer s H vs Q E ⟨x, y⟩ hr ⟨h1, h2⟩ ha k => ?_
  obtain ⟨ov, _, rfl, ho, xv, _, rfl, hx, yv, _, rfl, hy, rfl⟩ := ha
  obtain ⟨dsN, vN_π, bN_π⟩ := π.bd_number
  have hr_π : Room _ _ := hr
  refine ⟨_, (pss_one (ps_ret (pe_meth (pv 0) π.cls π.m_plus π.plus hr_π π.b_plus .nil pass0 (pa_cons (pv 1) (pa_cons (pe_meth (pv 0) π.cls π.m_times π.times hr_π π.b_times .nil pass0 (pa_cons (pe_meth (pv 0) π.cls π.m_number π.number hr_π bN_π vN_π pass0 (pa_cons (pe_un un_neg pe_int) pa_nil)) (pa_cons (pv 2) pa_nil))) pa_nil))))), ?_⟩
  refine s_ret (ev_meth (S := gB O R hR pp add) (x, mul (num (-1)) y) (π.at_ (by decide +kernel)) (ev_var rfl ho) (ea_cons (ev_var rfl hx) (ea_cons (Ev.imp (ev_meth (S := gB O R hR pt mul) (num (-1), y) (π.at_ (by decide +kernel)) (ev_var rfl ho) (ea_cons (Ev.imp (ev_meth1 (S := gN O R hR num) (-1 : Int) (π.at_ (by decide +kernel)) (ev_var rfl ho) (ea_cons (ev_neg ev_int) ea_nil) (.inr (.inr rfl))) fun v H1 _ p => hR (fun _ _ => rfl) p) (ea_cons (ev_var rfl hy) ea_nil)) h1) fun v H1 _ p => hR (fun _ _ => rfl) p) ea_nil)) h2) fun v H1 e1 h => k v H1 e1 h
end
end
section
variable {F : Type} [Lean.Grind.Field F] [DecidableEq F]
theorem dvK_len' (c : F) (ys : List F) (p : Nat) (t : List F) : (dvK c ys p t).length = t.length := dvK_len c ys p t
theorem dvGo_len {by_ : F} {g : List F} (hg : 0 < g.length) : ∀ (n : Nat) (q r : List F), r.length < n → (dvGo by_ g n q r).2.length < g.length ∧ (dvGo by_ g n q r).2.length ≤ r.length ∧ (dvGo by_ g n q r).1.length = q.length + (r.length + 1 - g.length)
  | 0, q, r, h => by omega
  | n + 1, q, r, h => by
    unfold dvGo
    split
    · rename_i hl
      have hd : (dvK (lst r * by_) g (r.length - g.length) r).dropLast.length = r.length - 1 := by rw [List.length_dropLast, dvK_len]
      obtain ⟨a, b, c⟩ := dvGo_len hg n (q ++ [lst r * by_]) (dvK (lst r * by_) g (r.length - g.length) r).dropLast (by rw [hd]; omega)
      rw [hd] at b c
      refine ⟨a, by omega, ?_⟩
      rw [c, List.length_append, List.length_singleton]
      omega
    · rename_i hl
      exact ⟨by show r.length < _; omega, Nat.le_refl _, by show q.length = _; omega⟩
theorem divided_len {f g : List F} (hg : g ≠ []) : (divided f g).2.length < g.length ∧ (divided f g).2.length ≤ f.length ∧ (divided f g).1.length = f.length + 1 - g.length := by
  have h0 : 0 < g.length := List.length_pos_iff.mpr hg
  obtain ⟨a, b, c⟩ := dvGo_len (by_ := (lst g)⁻¹) h0 (f.length + 1) [] f (Nat.lt_succ_self _)
  unfold divided
  have t := trim_len (dvGo (lst g)⁻¹ g (f.length + 1) [] f).2
  refine ⟨by show (trim _).length < _; omega, by show (trim _).length ≤ _; omega, by show (List.reverse _).length = _; rw [List.length_reverse, c]; simp⟩
theorem trim_last : ∀ l : List F, trim l = [] ∨ lst (trim l) ≠ 0
  | [] => .inl rfl
  | x :: l => by
    have ih := trim_last l
    show (match trim l with | [] => if x = 0 then [] else [x] | y :: ys => x :: y :: ys) = [] ∨ lst (match trim l with | [] => if x = 0 then [] else [x] | y :: ys => x :: y :: ys) ≠ 0
    cases h : trim l with
    | nil =>
      dsimp only
      by_cases hx : x = 0
      · exact .inl (if_pos hx)
      · rw [if_neg hx]; exact .inr hx
    | cons y ys =>
      rw [h] at ih
      refine .inr ?_
      rcases ih with ih | ih
      · cases ih
      · exact ih
theorem pminus_len (f g : List F) : (pminus f g).length ≤ max f.length g.length := by
  unfold pminus
  have h1 := pplus_len f (ptimes (pnum (0 - 1)) g)
  have h2 := ptimes_len (pnum (0 - 1)) g
  have h3 : (pnum (0 - 1 : F)).length ≤ 1 := trim_len [_]
  omega
theorem pnum_len (c : F) : (pnum c).length ≤ 1 := trim_len [_]
/-- the lengths on the way of `common` -/
structure EuOk (m M : Nat) (e : Eu F) : Prop where
  d : e.d.length ≤ m
  r : e.rest.length ≤ m
  ur : e.u.length + e.rest.length ≤ M
  ld : e.low.length + e.d.length ≤ M
  vr : e.v.length + e.rest.length ≤ M
  hd : e.high.length + e.d.length ≤ M
  dz : e.d = [] ∨ lst e.d ≠ 0
  rz : e.rest = [] ∨ lst e.rest ≠ 0
theorem EuOk.step {m M : Nat} {e : Eu F} (h : EuOk m M e) (hr : e.rest ≠ []) : EuOk m M (euStep e) := by
  obtain ⟨a, b, c⟩ := divided_len (f := e.d) hr
  obtain ⟨h1, h2, h3, h4, h5, h6, h7, h8⟩ := h
  have r0 : 0 < e.rest.length := List.length_pos_iff.mpr hr
  have q1 := pminus_len e.u (ptimes (divided e.d e.rest).1 e.low)
  have q2 := ptimes_len (divided e.d e.rest).1 e.low
  have q3 := pminus_len e.v (ptimes (divided e.d e.rest).1 e.high)
  have q4 := ptimes_len (divided e.d e.rest).1 e.high
  refine ⟨h2, by show (divided e.d e.rest).2.length ≤ m; omega, by show e.low.length + (divided e.d e.rest).2.length ≤ M; omega, ?_, by show e.high.length + (divided e.d e.rest).2.length ≤ M; omega, ?_, h8, trim_last _⟩
  · show (pminus e.u (ptimes (divided e.d e.rest).1 e.low)).length + e.rest.length ≤ M
    by_cases hl : e.d.length < e.rest.length
    · have : (divided e.d e.rest).1 = [] := List.length_eq_zero_iff.mp (by omega)
      rw [this] at q1 ⊢
      have : ptimes ([] : List F) e.low = [] := by unfold ptimes; rw [if_pos (.inl rfl)]
      rw [this] at q1 ⊢
      simp at q1
      omega
    · omega
  · show (pminus e.v (ptimes (divided e.d e.rest).1 e.high)).length + e.rest.length ≤ M
    by_cases hl : e.d.length < e.rest.length
    · have : (divided e.d e.rest).1 = [] := List.length_eq_zero_iff.mp (by omega)
      rw [this] at q3 ⊢
      have : ptimes ([] : List F) e.high = [] := by unfold ptimes; rw [if_pos (.inl rfl)]
      rw [this] at q3 ⊢
      simp at q3
      omega
    · omega
theorem EuOk.start {f g : List F} (hf : f = [] ∨ lst f ≠ 0) (hg : g = [] ∨ lst g ≠ 0) : EuOk (max f.length g.length) (f.length + g.length + 1) (eu0 f g) := by
  have := pnum_len (1 : F)
  refine ⟨Nat.le_max_left _ _, Nat.le_max_right _ _, ?_, ?_, ?_, ?_, hf, hg⟩
  · show (pnum (1 : F)).length + g.length ≤ _; omega
  · show 0 + f.length ≤ _; omega
  · show 0 + g.length ≤ _; omega
  · show (pnum (1 : F)).length + f.length ≤ _; omega
end
section
variable {P : Program} {w : World} {K : PySem.W.Frag} {mg : Str → Option Value} {base : Heap} {F : Type} [Lean.Grind.Field F] [DecidableEq F] (κ : Kd F P w K mg base) (T : Txt K mg)
/-- a Polys over κ -/
def PO : Pr where
  p := fun v H => ∃ a dx kd, v = .ref a ∧ H a = some (.ins (He.ga K "Polys") dx [("under", kd)]) ∧ κ.obj.p kd H
  mo := fun ⟨a, dx, kd, e, h, p⟩ s => ⟨a, dx, kd, e, s _ _ h, κ.obj.mo p s⟩
theorem po_at {m : Str} (h : m ∈ (["number", "plus", "times", "minus", "back", "is_nought"] : List Str)) : ObjOf K (He.ga K "Polys") m (PO κ) := ⟨fun ⟨a, dx, kd, e, h1, _⟩ => ⟨a, dx, _, e, h1, by
  have : m ≠ "under" := fun e => by rw [e] at h; exact absurd h (by decide +kernel)
  simp only [List.lookup]
  rw [beq_false_of_ne this]⟩⟩
theorem ev_under {σ : L2.St} {H : Hp} {te : TE} (T : Txt K mg) (h : Ev te σ H (PO κ)) : Ev (tFld K te "under") σ H κ.obj := fun H1 s Q q =>
  h H1 s _ fun v H2 s2 ⟨a, dx, kd, e, h1, p⟩ => ⟨a, _, dx, _, kd, e, h1, T.cls_Polys, T.noat_under, rfl, q kd H2 s2 p⟩
def ppP (f g : List F) : Prop := f.length ≤ 1000 ∧ g.length ≤ 1000 ∧ κ.Al (pplusT f g)
def ptP (f g : List F) : Prop := f.length + g.length ≤ 1000 ∧ κ.Al (ptimesT f g)
def pNum : Spc := gN (PO κ) κ.L (fun e h => κ.famL.an e h) fun n => pnum (ofI n)
def pPlus : Spc := gB (PO κ) κ.L (fun e h => κ.famL.an e h) (ppP κ) pplus
def pTimes : Spc := gB (PO κ) κ.L (fun e h => κ.famL.an e h) (ptP κ) ptimes
def pMinus : Spc := gB (PO κ) κ.L (fun e h => κ.famL.an e h) (fun x y => ptP κ (pnum (0 - 1)) y ∧ ppP κ x (ptimes (pnum (0 - 1)) y)) pminus
include T
-- 0 self, 1 top, 2 bottom
theorem ok_Polys_number : Ok P w K mg base 43 ("Polys", some "number") ["self", "top", "bottom"] (pNum κ) := by
  refine FnOk.mono (j := 42) (ok_of T.d_Polys_number.fn sc_Polys_number (fun _ => rfl) fun cdv A outer s H vs Q E (n : Int) hr hn ha k => ?_) (by decide)
  obtain ⟨ov, _, rfl, ho, _, _, rfl, rfl, _, _, rfl, rfl, rfl⟩ := ha
  have hr_trimmed : Room 41 _ := hr
  have hr_κ : Room 40 _ := hr.mono (by decide)
  have G_trimmed := ok_trimmed κ T
  refine ⟨_, (pss_one (ps_ret (pe_call G_trimmed hr_trimmed rfl T.g_trimmed T.d_trimmed.fn.kp T.d_trimmed.bd .nil pass0 (pa_cons (pe_fld (pv 0) rfl) (pa_cons (pe_lst (pa_cons (pe_meth (pe_fld (pv 0) rfl) κ.cls κ.m_number κ.number hr_κ κ.b_number0 .nil pass0 (pa_cons (pv 1) (pa_cons (pv 2) pa_nil))) pa_nil)) pa_nil))))), ?_⟩
  refine s_ret (ev_call (S := sTrim κ) [ofI n] (ea_cons (ev_under κ T (ev_var rfl ho)) (ea_cons (Ev.imp (ev_lst (R := κ.rep) (xs := [ofI n]) (ea_cons (ev_meth (S := sNum κ.Sm κ.rep κ.obj) n (κ.at_ (by decide +kernel)) (ev_under κ T (ev_var rfl ho)) (ea_cons (ev_vint rfl) (ea_cons (ev_vint rfl) ea_nil)) hn) ea_nil)) fun v H5 _ p => κ.famL.an (fun _ _ => rfl) p) ea_nil)) (by show 1 ≤ 1000; decide)) fun v5 H5 e5 h5 => k v5 H5 e5 h5
theorem ok_Polys_plus : Ok P w K mg base 43 ("Polys", some "plus") ["self", "one", "other"] (pPlus κ) := by
  refine T.d_Polys_plus.ok sc_Polys_plus (fun _ => rfl) fun cdv A outer s H vs Q E ⟨f, g⟩ hr hp ha k => ?_
  obtain ⟨ov, _, rfl, ho, fv, _, rfl, hf, gv, _, rfl, hg, rfl⟩ := ha
  have hr_plus_poly : Room 42 _ := hr
  have G_plus_poly := ok_plus_poly κ T
  refine ⟨_, (pss_one (ps_ret (pe_call G_plus_poly hr_plus_poly rfl T.g_plus_poly T.d_plus_poly.fn.kp T.d_plus_poly.bd .nil pass0 (pa_cons (pe_fld (pv 0) rfl) (pa_cons (pv 1) (pa_cons (pv 2) pa_nil)))))), ?_⟩
  exact s_ret (ev_call (S := sPP κ) (f, g) (ea_cons (ev_under κ T (ev_var rfl ho)) (ea_cons (ev_var rfl hf) (ea_cons (ev_var rfl hg) ea_nil))) hp) fun v5 H5 e5 h5 => k v5 H5 e5 h5
theorem ok_Polys_times : Ok P w K mg base 43 ("Polys", some "times") ["self", "one", "other"] (pTimes κ) := by
  refine T.d_Polys_times.ok sc_Polys_times (fun _ => rfl) fun cdv A outer s H vs Q E ⟨f, g⟩ hr hp ha k => ?_
  obtain ⟨ov, _, rfl, ho, fv, _, rfl, hf, gv, _, rfl, hg, rfl⟩ := ha
  have hr_times_poly : Room 42 _ := hr
  have G_times_poly := ok_times_poly κ T
  refine ⟨_, (pss_one (ps_ret (pe_call G_times_poly hr_times_poly rfl T.g_times_poly T.d_times_poly.fn.kp T.d_times_poly.bd .nil pass0 (pa_cons (pe_fld (pv 0) rfl) (pa_cons (pv 1) (pa_cons (pv 2) pa_nil)))))), ?_⟩
  exact s_ret (ev_call (S := sTP κ) (f, g) (ea_cons (ev_under κ T (ev_var rfl ho)) (ea_cons (ev_var rfl hf) (ea_cons (ev_var rfl hg) ea_nil))) hp) fun v5 H5 e5 h5 => k v5 H5 e5 h5
def spPinit : Sp := fun vs H Q _ => ∃ x dx kd, vs = [.ref x, kd] ∧ H x = some (.ins (He.ga K "Polys") dx []) ∧ ∀ H', Same (upd H x (.ins (He.ga K "Polys") dx [("under", kd)])) H' → Q .non H'
theorem ok_Polys_init : FnOk P w K mg base CX0 1 (He.fAd K ("Polys", some "__init__")) (fdAt K (He.fAd K ("Polys", some "__init__"))) ["self", "under"] (spPinit (K := K)) := by
  refine T.d_Polys_init.fn.ok sc_Polys_init (fun vs H Q E ⟨x, dx, kd, e, _⟩ => by rw [e]; rfl) fun cdv A outer s H vs Q E hr ⟨x, dx, kd, e, h1, q⟩ => ?_
  subst e
  refine ⟨_, PSs.nox ((pss_one (ps_fld (pv 0) (pv 1) rfl))), ?_⟩
  exact ⟨kd, rfl, .ref x, rfl, x, _, dx, [], rfl, h1, T.cls_Polys, T.noat_under, by decide, q _ (Same.refl _)⟩
theorem ms_Polys : Ms P w K mg base 43 (He.ga K "Polys") (PO κ) κ.L (fun e h => κ.famL.an e h) (fun n => pnum (ofI n)) (ppP κ) (ptP κ) pplus ptimes :=
  ⟨T.cls_Polys, fun h => po_at κ h, T.m_Polys_number, T.m_Polys_plus, T.m_Polys_times, T.d_Polys_number.bd1, T.d_Polys_plus.bd, T.d_Polys_times.bd, ok_Polys_number κ T, ok_Polys_plus κ T, ok_Polys_times κ T⟩
theorem ok_Polys_minus : Ok P w K mg base 44 ("Polys", some "minus") ["self", "one", "other"] (pMinus κ) := ok_Kind_minus T.d_Polys_minus (ms_Polys κ T)
end
section
variable {P : Program} {w : World} {K : PySem.W.Frag} {mg : Str → Option Value} {base : Heap} {F : Type} [Lean.Grind.Field F] [DecidableEq F] (κ : Kd F P w K mg base)
theorem ev_Polys {σ : L2.St} {H : Hp} {t : TA} {E : XK} (h : EvA t σ H [κ.obj]) : Ev (tMake (He.ga K "Polys") (spPinit (K := K)) [] E t) σ H (PO κ) := fun H1 s Q q =>
  h H1 s _ fun vs H2 s2 ⟨kd, r, e, pk, e2⟩ x dx hx hdx hne => by
    refine ⟨x, dx, kd, by rw [e, show r = [] from e2]; rfl, upd_same, fun H' s' => ⟨rfl, ?_⟩⟩
    have sA : Same H2 (upd H2 dx (.own x)) := same_new hdx
    have sB : Same H2 (upd (upd H2 dx (.own x)) x (.ins (He.ga K "Polys") dx [])) := same_mut sA hx
    have sC : Same H2 H' := (same_mut sB hx).trans s'
    exact q _ H' (s2.trans sC) ⟨x, dx, kd, rfl, s' _ _ upd_same, κ.obj.mo pk sC⟩
/-- the Polys and its methods -/
structure Mq (P : Program) (w : World) (K : PySem.W.Frag) (mg : Str → Option Value) (base : Heap) (κ : Kd F P w K mg base) : Prop extends Ms P w K mg base 44 (He.ga K "Polys") (PO κ) κ.L (fun e h => κ.famL.an e h) (fun n => pnum (ofI n)) (ppP κ) (ptP κ) pplus ptimes where
  m_minus : Meth K (He.ga K "Polys") "minus" (He.ma K (He.ga K "Polys") "minus")
  b_minus : Binds K (fdAt K (He.ma K (He.ga K "Polys") "minus")) ["self", "one", "other"] []
  minus : FnOk P w K mg base CX0 44 (He.ma K (He.ga K "Polys") "minus") (fdAt K (He.ma K (He.ga K "Polys") "minus")) ["self", "one", "other"] (pMinus κ).sp
theorem mq (T : Txt K mg) : Mq P w K mg base κ := ⟨(let π := ms_Polys κ T; { π with number := π.number.mono (by decide), plus := π.plus.mono (by decide), times := π.times.mono (by decide) }), T.m_Polys_minus, T.d_Polys_minus.bd, ok_Polys_minus κ T⟩
variable {σ : L2.St} {H G1 G2 : Hp} {ta tb to : TE} {E : XK} {f g : List F}
theorem ev_pnum1 (ho : Ev to σ H (PO κ)) : Ev (tMeth (He.ga K "Polys") "number" (pNum κ).sp [.int 1] E to (tCons (tC (.int 1)) tNil)) σ H (κ.L H (pnum 1)) :=
  ev_meth1 (S := pNum κ) (1 : Int) (po_at κ (by decide +kernel)) ho (ea_cons ev_int ea_nil) (.inr (.inl rfl))
theorem ev_ptimes (ho : Ev to σ H (PO κ)) (ha : Ev ta σ H (κ.L G1 f)) (hb : Ev tb σ H (κ.L G2 g)) (hs : ptP κ f g) : Ev (tMeth (He.ga K "Polys") "times" (pTimes κ).sp [] E to (tCons ta (tCons tb tNil))) σ H (κ.L H (ptimes f g)) :=
  ev_meth (S := pTimes κ) (f, g) (po_at κ (by decide +kernel)) ho (ea_cons (Ev.imp ha fun v H1 _ p => κ.famL.an (fun _ _ => rfl) p) (ea_cons (Ev.imp hb fun v H1 _ p => κ.famL.an (fun _ _ => rfl) p) ea_nil)) hs
theorem ev_pminus (ho : Ev to σ H (PO κ)) (ha : Ev ta σ H (κ.L G1 f)) (hb : Ev tb σ H (κ.L G2 g)) (h1 : f.length ≤ 900) (h2 : g.length ≤ 900) (hs : κ.Al (pminusT f g)) : Ev (tMeth (He.ga K "Polys") "minus" (pMinus κ).sp [] E to (tCons ta (tCons tb tNil))) σ H (κ.L H (pminus f g)) :=
  ev_meth (S := pMinus κ) (f, g) (po_at κ (by decide +kernel)) ho (ea_cons (Ev.imp ha fun v H1 _ p => κ.famL.an (fun _ _ => rfl) p) (ea_cons (Ev.imp hb fun v H1 _ p => κ.famL.an (fun _ _ => rfl) p) ea_nil)) (by
    have l1 := pnum_len (0 - 1 : F)
    have l2 := ptimes_len (pnum (0 - 1 : F)) g
    exact ⟨⟨by show (pnum (0 - 1 : F)).length + g.length ≤ 1000; omega, fun z hz => hs z (List.mem_append_left _ hz)⟩, ⟨by show f.length ≤ 1000; omega, by show (ptimes (pnum (0 - 1 : F)) g).length ≤ 1000; omega, fun z hz => hs z (List.mem_append_right _ hz)⟩⟩)
end
end Tf
set_option maxRecDepth 100000
set_option maxHeartbeats 4000000
namespace Tf
open PySem PySem.Spec PyProof.Rows L2
section
variable {F : Type} [Lean.Grind.Field F] [DecidableEq F]
theorem euGo_len : ∀ (n : Nat) {m M : Nat} {e : Eu F}, EuOk m M e → e.rest.length < n → EuOk m M (euGo n e) ∧ (euGo n e).rest = []
  | 0, _, _, _, _, h => by omega
  | n + 1, m, M, e, h, hn => by
    unfold euGo
    split
    · rename_i hr; exact ⟨h, hr⟩
    · rename_i hr
      have := (divided_len (f := e.d) hr).1
      exact euGo_len n (h.step hr) (by show (divided e.d e.rest).2.length < n; omega)
theorem lst_mem {f : List F} (h : f ≠ []) : gt f (f.length - 1) = lst f := rfl
end
section
variable {P : Program} {w : World} {K : PySem.W.Frag} {mg : Str → Option Value} {base : Heap} {F : Type} [Lean.Grind.Field F] [DecidableEq F] (κ : Kd F P w K mg base) (T : Txt K mg)
include T
/-! common(kind, f, g) -/
def sCom : Spc where
  ι := List F × List F
  pre := fun ⟨f, g⟩ => (f = [] ∨ lst f ≠ 0) ∧ (g = [] ∨ lst g ≠ 0) ∧ f.length ≤ 50 ∧ g.length ≤ 50 ∧ κ.Al (commonT f g)
  args := fun ⟨f, g⟩ => [κ.obj, κ.L nilH f, κ.L nilH g]
  post := fun ⟨f, g⟩ G => TR nilH [κ.L G (common f g), anyP, anyP]
  an := fun {i _ _ _ _} g h => by
    obtain ⟨t, b⟩ := i
    obtain ⟨a, vs, e, _, h, v1, r1, e1, p1, r⟩ := h
    exact ⟨a, vs, e, rfl, h, v1, r1, e1, κ.famL.an g p1, r⟩
-- 0 kind, 1 f, 2 g, 3 polys, 4 d, 5 u, 6 v, 7 rest, 8 low, 9 high, 10 quotient, 11 left, 12 by
theorem ok_common : Ok P w K mg base 45 ("common", none) ["kind", "f", "g"] (sCom κ) := by
  refine T.d_common.ok sc_common (fun _ => rfl) fun cdv A outer s H vs Q E ⟨f, g⟩ hr ⟨hfz, hgz, hf, hg, hs⟩ ha k => ?_
  obtain ⟨kd, _, rfl, hk, fv, _, rfl, hfv, gv, _, rfl, hgv, rfl⟩ := ha
  have hr_κ : Room 40 _ := hr.mono (by decide)
  have hr_divided : Room 42 _ := hr.mono (by decide)
  have hr_π : Room 44 _ := hr
  have hr_Polys_init : Room 2 _ := hr.mono (by decide)
  have hu := hr.units
  have G_divided := ok_divided κ T
  have G_Polys_init := ok_Polys_init (P := P) (w := w) (base := base) T
  have π := mq κ T
  obtain ⟨dsN, vN_π, bN_π⟩ := π.bd_number
  have hfv : (κ.L nilH f).p fv H := hfv
  have hgv : (κ.L nilH g).p gv H := hgv
  have hf : f.length ≤ 50 := hf
  have hg : g.length ≤ 50 := hg
  have hs : κ.Al (commonT f g) := hs
  have hs1 : κ.Al (euGoT (g.length + 1) (eu0 f g)) := fun z hz => hs z (List.mem_append_left _ hz)
  refine ⟨_, (pss_cons (ps_set (i := 3) sc_common.nd rfl (Or.inl rfl) (pe_make T.mkr_Polys G_Polys_init hr_Polys_init rfl T.g_Polys T.d_Polys_init.bd .nil pass0 (pa_cons (pv 0) pa_nil)))
      (pss_cons (ps_par3 (i := 4) (j := 5) (l := 6) (by rfl) sc_common.nd rfl rfl rfl (by decide) (by decide) (by decide) rfl rfl rfl (pa_cons (pe_callTy (listK K) (by rfl) T.free_list (by decide +kernel) (pa_cons (pv 1) pa_nil)) (pa_cons (pe_meth (pv 3) π.cls π.m_number π.number hr_π bN_π vN_π pass0 (pa_cons pe_int pa_nil)) (pa_cons (pe_lst pa_nil) pa_nil))) (by rfl))
      (pss_cons (ps_par3 (i := 7) (j := 8) (l := 9) (by rfl) sc_common.nd rfl rfl rfl (by decide) (by decide) (by decide) rfl rfl rfl (pa_cons (pe_callTy (listK K) (by rfl) T.free_list (by decide +kernel) (pa_cons (pv 2) pa_nil)) (pa_cons (pe_lst pa_nil) (pa_cons (pe_meth (pv 3) π.cls π.m_number π.number hr_π bN_π vN_π pass0 (pa_cons pe_int pa_nil)) pa_nil))) (by rfl))
      (pss_cons (ps_while PassesOwn.never (pt_cmpR (neDK K hu) (pv 7) (pe_lst pa_nil) (nomark _)) (pss_cons (ps_asg (pe_call G_divided hr_divided rfl T.g_divided T.d_divided.fn.kp T.d_divided.bd .nil pass0 (pa_cons (pv 0) (pa_cons (pv 4) (pa_cons (pv 7) pa_nil)))) (pg_tupK K (n := 2) rfl (pg_tup (n := 2) rfl (pgs_cons (pg_name (i := 10) sc_common.nd rfl (Or.inl rfl)) (pgs_cons (pg_name (i := 11) sc_common.nd rfl (Or.inl rfl)) pgs_nil)))))
      (pss_cons (ps_par (i := 4) (j := 7) (by rfl) sc_common.nd rfl rfl (by decide) rfl rfl (pa_cons (pv 7) (pa_cons (pv 11) pa_nil)) (by rfl))
      (pss_cons (ps_par (i := 5) (j := 8) (by rfl) sc_common.nd rfl rfl (by decide) rfl rfl (pa_cons (pv 8) (pa_cons (pe_meth (pv 3) π.cls π.m_minus π.minus hr_π π.b_minus .nil pass0 (pa_cons (pv 5) (pa_cons (pe_meth (pv 3) π.cls π.m_times π.times hr_π π.b_times .nil pass0 (pa_cons (pv 10) (pa_cons (pv 8) pa_nil))) pa_nil))) pa_nil)) (by rfl))
      (pss_one (ps_par (i := 6) (j := 9) (by rfl) sc_common.nd rfl rfl (by decide) rfl rfl (pa_cons (pv 9) (pa_cons (pe_meth (pv 3) π.cls π.m_minus π.minus hr_π π.b_minus .nil pass0 (pa_cons (pv 6) (pa_cons (pe_meth (pv 3) π.cls π.m_times π.times hr_π π.b_times .nil pass0 (pa_cons (pv 10) (pa_cons (pv 9) pa_nil))) pa_nil))) pa_nil)) (by rfl)))))))
      (pss_cons (ps_if (pt_cmpR (eqDK K hu) (pv 4) (pe_lst pa_nil) (nomark _)) (pss_one (ps_ret (pe_tup (pa_cons (pv 4) (pa_cons (pv 5) (pa_cons (pv 6) pa_nil)))))) pss_nil)
      (pss_cons (ps_set (i := 12) sc_common.nd rfl (Or.inl rfl) (pe_lst (pa_cons (pe_meth (pv 0) κ.cls κ.m_back κ.back hr_κ κ.b_back .nil pass0 (pa_cons (pe_ix (ixL K) (pv 4) (pe_op op_sub (pe_callB (lenK K) (by rfl) T.free_len PySem.boot_len (pa_cons (pv 4) pa_nil)) pe_int) (fun _ _ => rfl)) pa_nil)) pa_nil)))
      (pss_one (ps_ret (pe_tup (pa_cons (pe_meth (pv 3) π.cls π.m_times π.times hr_π π.b_times .nil pass0 (pa_cons (pv 12) (pa_cons (pv 4) pa_nil))) (pa_cons (pe_meth (pv 3) π.cls π.m_times π.times hr_π π.b_times .nil pass0 (pa_cons (pv 12) (pa_cons (pv 5) pa_nil))) (pa_cons (pe_meth (pv 3) π.cls π.m_times π.times hr_π π.b_times .nil pass0 (pa_cons (pv 12) (pa_cons (pv 6) pa_nil))) pa_nil)))))))))))), ?_⟩
  refine s_asg (ev_Polys κ (ea_cons (ev_var rfl hk) ea_nil)) fun pv H1 e1 hp => ?_
  refine s_par3 (ea_cons (ev_list (ev_var rfl ((κ.L nilH f).mo hfv e1))) (ea_cons (ev_pnum1 κ (ev_var rfl hp)) (ea_cons (ev_nilL (R := κ.rep)) ea_nil))) fun dv uv vv H2 e2 hd hu' hv => ?_
  refine s_par3 (ea_cons (ev_list (ev_var rfl ((κ.L nilH g).mo hgv (e1.trans e2)))) (ea_cons (ev_nilL (R := κ.rep)) (ea_cons (ev_pnum1 κ (ev_var rfl ((PO κ).mo hp e2))) ea_nil))) fun rv lv hv2 H3 e3 hr1 hl1 hh1 => ?_
  have fr1 : ∀ a, H1 a = none → H a = none := fun a q => Same.free e1 q
  have fr2 : ∀ a, H2 a = none → H a = none := fun a q => Same.free (e1.trans e2) q
  have E3 : Same H H3 := e1.trans (e2.trans e3)
  refine s_while (fun n σ H' => Same H H' ∧ ∃ (e : Eu F) (dv uv vv rv lv hv2 : V) (a b : Option V), σ = [some kd, some fv, some gv, some pv, some dv, some uv, some vv, some rv, some lv, some hv2, a, b, none] ∧ (PO κ).p pv H' ∧ (κ.L H e.d).p dv H' ∧ (κ.L H e.u).p uv H' ∧ (κ.L H e.v).p vv H' ∧ (κ.L H e.rest).p rv H' ∧ (κ.L H e.low).p lv H' ∧ (κ.L H e.high).p hv2 H' ∧ e.rest.length < n ∧ EuOk 50 101 e ∧ euGo n e = euEnd f g ∧ κ.Al (euGoT n e)) (g.length + 1)
    ⟨E3, eu0 f g, dv, uv, vv, rv, lv, hv2, none, none, rfl, (PO κ).mo hp (e2.trans e3), κ.famL.an fr1 ((κ.L _ _).mo hd e3), κ.famL.an fr1 ((κ.L _ _).mo hu' e3), κ.famL.an fr1 ((κ.L H1 ([] : List F)).mo hv e3), κ.famL.an fr2 hr1, κ.famL.an (x := ([] : List F)) fr2 hl1, κ.famL.an fr2 hh1, Nat.lt_succ_self _, ?_, rfl, hs1⟩ ?_
  · obtain ⟨a1, a2, a3, a4, a5, a6, a7, a8⟩ := EuOk.start hfz hgz
    exact ⟨by omega, by omega, by omega, by omega, by omega, by omega, a7, a8⟩
  rintro n σ' H' ⟨e4, e, dv, uv, vv, rv, lv, hv2, a, b, rfl, hp, hd, hu', hv, hr1, hl1, hh1, hn, hok, hgo, hA⟩
  refine ⟨!decide (e.rest = []), et_test (ev_neL κ (ev_var rfl hr1) (ev_nilL (R := κ.rep))), fun hb H5 e5 => ?_, fun hb H5 e5 => ?_⟩
  · have hb : e.rest ≠ [] := by simpa using hb
    obtain ⟨n, rfl⟩ : ∃ p, n = p + 1 := ⟨n - 1, by omega⟩
    unfold euGo at hgo
    rw [if_neg hb] at hgo
    unfold euGoT at hA
    rw [if_neg hb] at hA
    have E5 := e4.trans e5
    have hz : lst e.rest ≠ 0 := by rcases hok.rz with h | h; exact absurd h hb; exact h
    obtain ⟨ld, hdl, lu, ll, lv', lh, _, _⟩ := hok
    obtain ⟨c1, c2, c3⟩ := divided_len (f := e.d) hb
    have hd5 := (κ.L H e.d).mo hd e5
    have hr5 := (κ.L H e.rest).mo hr1 e5
    have hp5 := (PO κ).mo hp e5
    have hA1 : κ.Al (dividedT e.d e.rest) := fun z hz => hA z (by simp only [euStepT, List.mem_append]; exact .inl (.inl (.inl hz)))
    have hA2 : κ.Al (ptimesT (divided e.d e.rest).1 e.low) := fun z hz => hA z (by simp only [euStepT, List.mem_append]; exact .inl (.inl (.inr (.inl hz))))
    have hA3 : κ.Al (pminusT e.u (ptimes (divided e.d e.rest).1 e.low)) := fun z hz => hA z (by simp only [euStepT, List.mem_append]; exact .inl (.inl (.inr (.inr hz))))
    have hA4 : κ.Al (ptimesT (divided e.d e.rest).1 e.high) := fun z hz => hA z (by simp only [euStepT, List.mem_append]; exact .inl (.inr (.inl hz)))
    have hA5 : κ.Al (pminusT e.v (ptimes (divided e.d e.rest).1 e.high)) := fun z hz => hA z (by simp only [euStepT, List.mem_append]; exact .inl (.inr (.inr hz)))
    have hA6 : κ.Al (euGoT n (euStep e)) := fun z hz => hA z (List.mem_append_right _ hz)
    have q1 := ptimes_len (divided e.d e.rest).1 e.low
    have q2 := ptimes_len (divided e.d e.rest).1 e.high
    have an : ∀ {G : Hp} {x : List F} {v : V} {H1 : Hp}, (κ.L G x).p v H1 → (κ.L nilH x).p v H1 := fun h => κ.famL.an (fun _ _ => rfl) h
    refine ⟨fun σ H' => Same H H' ∧ ∃ (e : Eu F) (dv uv vv rv lv hv2 : V) (a b : Option V), σ = [some kd, some fv, some gv, some pv, some dv, some uv, some vv, some rv, some lv, some hv2, a, b, none] ∧ (PO κ).p pv H' ∧ (κ.L H e.d).p dv H' ∧ (κ.L H e.u).p uv H' ∧ (κ.L H e.v).p vv H' ∧ (κ.L H e.rest).p rv H' ∧ (κ.L H e.low).p lv H' ∧ (κ.L H e.high).p hv2 H' ∧ e.rest.length < n ∧ EuOk 50 101 e ∧ euGo n e = euEnd f g ∧ κ.Al (euGoT n e), fun σ2 H2 h => ⟨n, Nat.lt_succ_self _, h⟩, ?_⟩
    refine s_unp2 (ev_call (S := sDiv κ) (e.d, e.rest) (ea_cons (ev_var rfl (κ.obj.mo hk E5)) (ea_cons (ev_var rfl (an hd5)) (ea_cons (ev_var rfl (an hr5)) ea_nil))) ⟨hb, hz, by show e.d.length ≤ 200; omega, by show e.rest.length ≤ 200; omega, hA1⟩) fun qv nv H6 e6 hq hn6 => ?_
    have E6 := E5.trans e6
    have fr5 : ∀ a, H5 a = none → H a = none := fun a q => Same.free E5 q
    have fr6 : ∀ a, H6 a = none → H a = none := fun a q => Same.free E6 q
    refine s_par (ea_cons (ev_var rfl ((κ.L H e.rest).mo hr5 e6)) (ea_cons (ev_var rfl hn6) ea_nil)) fun dv7 rv7 H7 e7 hd7 hr7 => ?_
    have e57 := e6.trans e7
    refine s_par (ea_cons (ev_var rfl ((κ.L H e.low).mo hl1 (e5.trans e57))) (ea_cons (ev_pminus κ (ev_var rfl ((PO κ).mo hp5 e57)) (ev_var rfl ((κ.L H e.u).mo hu' (e5.trans e57))) (ev_ptimes κ (ev_var rfl ((PO κ).mo hp5 e57)) (ev_var rfl ((κ.L _ _).mo hq e7)) (ev_var rfl ((κ.L H e.low).mo hl1 (e5.trans e57))) ⟨by show (divided e.d e.rest).1.length + e.low.length ≤ 1000; omega, hA2⟩) (by omega) (by omega) hA3) ea_nil)) fun uv8 lv8 H8 e8 hu8 hl8 => ?_
    have e58 := e57.trans e8
    have E7 := E5.trans e57
    have fr7 : ∀ a, H7 a = none → H a = none := fun a q => Same.free E7 q
    refine s_par (ea_cons (ev_var rfl ((κ.L H e.high).mo hh1 (e5.trans e58))) (ea_cons (ev_pminus κ (ev_var rfl ((PO κ).mo hp5 e58)) (ev_var rfl ((κ.L H e.v).mo hv (e5.trans e58))) (ev_ptimes κ (ev_var rfl ((PO κ).mo hp5 e58)) (ev_var rfl ((κ.L _ _).mo hq (e7.trans e8))) (ev_var rfl ((κ.L H e.high).mo hh1 (e5.trans e58))) ⟨by show (divided e.d e.rest).1.length + e.high.length ≤ 1000; omega, hA4⟩) (by omega) (by omega) hA5) ea_nil)) fun vv9 hv9 H9 e9 hv9' hh9 => ?_
    have E8 := E5.trans e58
    have fr8 : ∀ a, H8 a = none → H a = none := fun a q => Same.free E8 q
    exact ⟨E8.trans e9, euStep e, dv7, uv8, vv9, rv7, lv8, hv9, _, _, rfl, (PO κ).mo hp5 (e58.trans e9), (κ.L H e.rest).mo hd7 (e8.trans e9), (κ.L H e.low).mo hu8 e9, hv9', κ.famL.an fr5 ((κ.L _ _).mo hr7 (e8.trans e9)), κ.famL.an fr7 ((κ.L _ _).mo hl8 e9), κ.famL.an fr8 hh9, by show (divided e.d e.rest).2.length < n; omega, EuOk.step ⟨ld, hdl, lu, ll, lv', lh, by assumption, by assumption⟩ hb, hgo, hA6⟩
  · have hb : e.rest = [] := by simpa using hb
    have he : euEnd f g = e := by
      rw [← hgo]
      cases n with
      | zero => rfl
      | succ n => unfold euGo; rw [if_pos hb]
    obtain ⟨ld, hdl, lu, ll, lv', lh, hdz, _⟩ := hok
    have E5 := e4.trans e5
    have hd5 := (κ.L H e.d).mo hd e5
    refine s_if (et_test (ev_eqL κ (ev_var rfl hd5) (ev_nilL (R := κ.rep)))) (fun hb H6 e6 => ?_) (fun hb H6 e6 => ?_)
    · have hb : e.d = [] := by simpa using hb
      have hc : common f g = e.d := by unfold common; rw [he]; simp [hb]
      refine s_ret (ev_tup (Ps := [κ.L H e.d, anyP, anyP]) (ea_cons (ev_var rfl ((κ.L H e.d).mo hd5 e6)) (ea_cons (ev_var rfl trivial) (ea_cons (ev_var rfl trivial) ea_nil)))) fun v7 H7 e7 h7 => k v7 H7 (E5.trans (e6.trans e7)) ?_
      obtain ⟨a, vs, e', _, h⟩ := h7
      show (TR nilH [κ.L H (common f g), anyP, anyP]).p v7 H7
      rw [hc]
      exact ⟨a, vs, e', rfl, h⟩
    · have hb : e.d ≠ [] := by simpa using hb
      have hz : lst e.d ≠ 0 := by rcases hdz with h | h; exact absurd h hb; exact h
      have h0 : 0 < e.d.length := List.length_pos_iff.mpr hb
      have ee : ((e.d.length : Nat) : Int) - 1 = ((e.d.length - 1 : Nat) : Int) := by omega
      have hc : common f g = ptimes [(lst e.d)⁻¹] e.d := by unfold common; rw [he]; simp [hb]
      have hA : κ.Al (ptimesT [(lst e.d)⁻¹] e.d ++ ptimesT [(lst e.d)⁻¹] e.u ++ ptimesT [(lst e.d)⁻¹] e.v) := fun z hz => hs z (by
        unfold commonT; rw [he]; simp only [if_neg hb]; exact List.mem_append_right _ hz)
      have hA1 : κ.Al (ptimesT [(lst e.d)⁻¹] e.d) := fun z hz => hA z (List.mem_append_left _ (List.mem_append_left _ hz))
      have hA2 : κ.Al (ptimesT [(lst e.d)⁻¹] e.u) := fun z hz => hA z (List.mem_append_left _ (List.mem_append_right _ hz))
      have hA3 : κ.Al (ptimesT [(lst e.d)⁻¹] e.v) := fun z hz => hA z (List.mem_append_right _ hz)
      have hd6 := (κ.L H e.d).mo hd5 e6
      have E6 := E5.trans e6
      refine s_asg (ev_lst (R := κ.rep) (xs := [(lst e.d)⁻¹]) (ea_cons (ev_back κ (ev_var rfl (κ.obj.mo hk E6)) (ev_ix (i := e.d.length - 1) (ev_var rfl hd6) ((ev_opI (g := fun i j => i - j) (ev_len (ev_var rfl hd6)) ev_int).to (congrArg isI ee)) (gt_some (by omega))) hz) ea_nil)) fun bv H7 e7 hbv => ?_
      have hbv : (κ.L H6 [(lst e.d)⁻¹]).p bv H7 := hbv
      have e67 := e5.trans (e6.trans e7)
      have hp7 := (PO κ).mo hp e67
      refine s_ret (ev_tup (Ps := [κ.L H (common f g), anyP, anyP]) (ea_cons (Ev.imp (ev_ptimes κ (ev_var rfl hp7) (ev_var rfl hbv) (ev_var rfl ((κ.L H e.d).mo hd e67)) ⟨by show 1 + e.d.length ≤ 1000; omega, hA1⟩) fun v8 H8 e8 h8 => ?_) (ea_cons (Ev.imp (ev_ptimes κ (ev_var rfl hp7) (ev_var rfl hbv) (ev_var rfl ((κ.L H e.u).mo hu' e67)) ⟨by show 1 + e.u.length ≤ 1000; omega, hA2⟩) fun v8 H8 e8 h8 => trivial) (ea_cons (Ev.imp (ev_ptimes κ (ev_var rfl hp7) (ev_var rfl hbv) (ev_var rfl ((κ.L H e.v).mo hv e67)) ⟨by show 1 + e.v.length ≤ 1000; omega, hA3⟩) fun v8 H8 e8 h8 => trivial) ea_nil)))) fun v7 H9 e9 h7 => k v7 H9 (E6.trans (e7.trans e9)) ?_
      · rw [hc]
        exact κ.famL.an (fun a q => Same.free (E6.trans e7) q) h8
      · obtain ⟨a, vs, e', _, h⟩ := h7
        exact ⟨a, vs, e', rfl, h⟩
end
end Tf
set_option maxRecDepth 100000
set_option maxHeartbeats 4000000
namespace Tf
open PySem PySem.Spec PyProof.Rows L2
section
variable {K : PySem.W.Frag} {σ : L2.St} {H : Hp} {ta : TE} {α : Type}
theorem lr_pre {R : α → Pr} {G H H1 : Hp} {l : Addr} {o : HO} {xs : List α} {v : V} (h : (LR R G xs).p v H1) (hG : ∀ a, G a = none → H a = none) (hl : H1 l = none) : (LR R (upd H l o) xs).p v H1 := by
  obtain ⟨a, vs, e, g, h, q⟩ := h
  exact ⟨a, vs, e, by rw [upd_ne (fun z => by rw [z] at h; rw [h] at hl; cases hl)]; exact hG _ g, h, q⟩
theorem fr_upd {G H : Hp} {l : Addr} {o : HO} (s : Same H G) {o' : HO} (h : G l = some o') : ∀ a, G a = none → (upd H l o) a = none := fun a q => by
  rw [upd_ne (fun z => by rw [z, h] at q; cases q)]; exact Same.free s q
theorem fr_of_upd {H : Hp} {l : Addr} {o : HO} (h : H l = none) : ∀ a, (upd H l o) a = none → H a = none := fun a q => by
  by_cases e : a = l
  · rw [e]; exact h
  · rw [upd_ne e] at q; exact q
theorem kn_upd {H : Hp} {l : Addr} {o : HO} : (upd H l o) l ≠ none := by rw [upd_same]; intro z; cases z
/-- a list, not known to G, of what Rn says of xs, itself left out -/
def LU {α : Type} (Rn : Hp → α → Pr) (G : Hp) (xs : List α) : Pr where
  p := fun v H => ∃ a vs, v = .ref a ∧ G a = none ∧ H a = some (.lst vs) ∧ Paired (fun x u => (Rn (upd G a (.lst [])) x).p u H) xs vs
  mo := fun ⟨a, vs, e, g, h, q⟩ s => ⟨a, vs, e, g, s _ _ h, Paired.mapP q fun _ _ r => (Rn _ _).mo r s⟩
theorem ev_lst1 {R : α → Pr} {xs : List α} (h : Ev ta σ H (LR R H xs)) : Ev (tLst (tCons ta tNil)) σ H (LU (LR R) H [xs]) := fun H1 s Q q =>
  h H1 s _ fun v H2 s2 p => ⟨small_len (n := 1) (by decide), fun a ha => q _ _ (s2.trans (same_new ha)) ⟨a, [v], rfl, Same.free (s.trans s2) ha, upd_same, .cons (Pr.mo _ (lr_pre p (fun _ q => q) ha) (same_new ha)) .nil⟩⟩
theorem ev_all {G : Hp} {bs : List Bool} (h : Ev ta σ H (LR (fun b : Bool => isB b) G bs)) : Ev (tCB (rAll K) (tCons ta tNil)) σ H (isB (bs.all id)) := fun H1 s Q q =>
  h H1 s _ fun v H2 s2 ⟨a, vs, e, _, ha, hp⟩ => ⟨a, bs, by rw [e], by
    have : vs = bs.map V.bl := by
      have key : ∀ {bs : List Bool} {vs : List V}, Paired (fun (b : Bool) u => (isB b).p u H2) bs vs → vs = bs.map V.bl := by
        intro bs vs h
        induction h with
        | nil => rfl
        | cons a t ih => rw [List.map_cons, ← ih, ← (show _ = V.bl _ from a)]
      exact key hp
    rw [← this]
    exact SqL.of ha, q _ H2 s2 rfl⟩
end
section
variable {F : Type} [Lean.Grind.Field F] [DecidableEq F]
theorem turned_len (cs : List (List F)) : (turned cs).length = ncols cs := by simp [turned]
theorem turned_row {cs : List (List F)} : ∀ r ∈ turned cs, r.length = cs.length := fun r hr => by
  unfold turned at hr
  obtain ⟨j, _, rfl⟩ := List.mem_map.mp hr
  simp
theorem ncols_eq {cs : List (List F)} {n : Nat} (h : Rect cs n) (hne : cs ≠ []) : ncols cs = n := by
  cases cs with
  | nil => exact absurd rfl hne
  | cons r cs => exact h r (List.mem_cons_self ..)
theorem turned_rect {cs : List (List F)} {n : Nat} (h : Rect cs n) (hne : cs ≠ []) (hn : 0 < n) : turned cs ≠ [] ∧ (turned cs).length = n ∧ ncols (turned cs) = cs.length ∧ Rect (turned cs) (ncols (turned cs)) := by
  have l : (turned cs).length = n := by rw [turned_len, ncols_eq h hne]
  have ne : turned cs ≠ [] := fun e => by rw [e] at l; simp at l; omega
  have nc : ncols (turned cs) = cs.length := ncols_eq turned_row ne
  exact ⟨ne, l, nc, by rw [nc]; exact turned_row⟩
theorem image_len (A : List (List F)) (v : List F) : (image A v).length = A.length := by simp [image]
/-- the columns come to one that hangs on those before it -/
def loFound (A : List (List F)) : Nat → List (List F) → List F → Prop
  | 0, _, _ => False
  | n + 1, cs, last => (solved (turned cs) last).1 = true ∨ loFound A n (cs ++ [last]) (image A last)
theorem scGo_len (right : List (List F)) : ∀ (ls : List Nat) (k : Nat) (c : List F), (scGo right k ls c).length = c.length
  | [], _, _ => rfl
  | l :: ls, k, c => by rw [scGo, scGo_len right ls]; simp
theorem solved_len {t : List (List F)} {b : List F} (h : (solved t b).1 = true) : (solved t b).2.length = ncols t := by
  unfold solved at h ⊢
  split at h
  · cases h
  · simp [scGo_len, noughts]
theorem atCol_len (A : List (List F)) (v : List F) : ∀ q : List F, (atCol A v q).length = v.length
  | [] => by simp [atCol, noughts]
  | c :: q => by simp [atCol, plusCol]
theorem atColT_drop {A : List (List F)} {v : List F} : ∀ (q : List F) (j : Nat), ∀ z ∈ atColT A v (q.drop j), z ∈ atColT A v q
  | [], j, z, hz => by rw [List.drop_nil] at hz; exact hz
  | c :: q, 0, z, hz => hz
  | c :: q, j + 1, z, hz => List.mem_append_left _ (atColT_drop q j z hz)
end
section
variable {P : Program} {w : World} {K : PySem.W.Frag} {mg : Str → Option Value} {base : Heap} {F : Type} [Lean.Grind.Field F] [DecidableEq F] (κ : Kd F P w K mg base) (T : Txt K mg)
include T
/-! least_of(kind, table, column) -/
def sLo : Spc where
  ι := List (List F) × List F
  pre := fun ⟨A, v⟩ => A ≠ [] ∧ A.length ≤ 15 ∧ Rect A A.length ∧ v.length = A.length ∧ (allNought v = false → loFound A (v.length + 1) [v] (image A v)) ∧ κ.Al (leastOfT A v)
  args := fun ⟨A, v⟩ => [κ.obj, κ.T nilH A, κ.L nilH v]
  post := fun ⟨A, v⟩ G => κ.L G (leastOf A v)
  an := fun {i _ _ _ _} g h => by obtain ⟨t, b⟩ := i; exact κ.famL.an g h
-- 0 kind, 1 table, 2 column, 3 nought, 4 number, 5 columns, 6 last, 7 word, 8 found
theorem ok_least_of : Ok P w K mg base 45 ("least_of", none) ["kind", "table", "column"] (sLo κ) := by
  refine T.d_least_of.ok sc_least_of (fun _ => rfl) fun cdv A0 outer s H vs Q E ⟨A, v⟩ hr ⟨hne, hm, hrc, hv, hfo, hs⟩ ha k => ?_
  obtain ⟨kd, _, rfl, hk, tv, _, rfl, ht, cv, _, rfl, hcv, rfl⟩ := ha
  obtain ⟨dsN, vN_κ, bN_κ⟩ := κ.b_number
  have hr_κ : Room 40 _ := hr.mono (by decide)
  have hr_is_square : Room 1 _ := hr.mono (by decide)
  have hr_turned : Room 1 _ := hr.mono (by decide)
  have hr_image : Room 42 _ := hr.mono (by decide)
  have hr_solved : Room 44 _ := hr
  have G_is_square := ok_is_square κ T
  have G_turned := ok_turned κ T
  have G_image := ok_image κ T
  have G_solved := ok_solved κ T
  have ht : (κ.T nilH A).p tv H := ht
  have hcv : (κ.L nilH v).p cv H := hcv
  have hm : A.length ≤ 15 := hm
  have hv : v.length = A.length := hv
  have hn0 : 0 < A.length := List.length_pos_iff.mpr hne
  have hnc : ncols A = A.length := ncols_eq hrc hne
  refine ⟨_, (pss_cons (ps_if (PW.pt (pw_or (pt_not (pt_val (pe_call G_is_square hr_is_square rfl T.g_is_square T.d_is_square.fn.kp T.d_is_square.bd .nil pass0 (pa_cons (pv 1) pa_nil)))) (pw_or1 (pt_cmpR op_ne (pe_callB (lenK K) (by rfl) T.free_len PySem.boot_len (pa_cons (pv 2) pa_nil)) (pe_callB (lenK K) (by rfl) T.free_len PySem.boot_len (pa_cons (pv 1) pa_nil)) (nomark _))))) pss_never pss_nil)
      (pss_cons (ps_set (i := 3) sc_least_of.nd rfl (Or.inr rfl) (pe_meth (pv 0) κ.cls κ.m_number κ.number hr_κ bN_κ vN_κ pass0 (pa_cons pe_int pa_nil)))
      (pss_cons (ps_if (pt_val (pe_callB (allK K rfl) (by rfl) T.free_all (by decide +kernel) (pa_cons (pe_lc (own := [("number", 4)]) rfl sc_least_of.nd (pi_listK K rfl (pv 2)) (blkOk_by (own := [("number", 4)]) (N := ["kind", "table", "column", "nought", "number", "columns", "last", "word", "found"]) (sc := defScope s_least_of) (by decide +kernel)) (fun _ _ _ _ _ => (pg_name (i := 4) sc_least_of.nd rfl (Or.inl rfl))) (fun _ _ _ _ _ => pts_nil) (fun _ _ _ _ _ => (pe_meth (pv 0) κ.cls κ.m_nought κ.nought hr_κ κ.b_nought .nil pass0 (pa_cons (pv 4) pa_nil)))) pa_nil))) (pss_one (ps_ret (pe_lst (pa_cons (pe_meth (pv 0) κ.cls κ.m_number κ.number hr_κ bN_κ vN_κ pass0 (pa_cons pe_int pa_nil)) pa_nil)))) pss_nil)
      (pss_cons (ps_set (i := 5) sc_least_of.nd rfl (Or.inl rfl) (pe_lst (pa_cons (pe_callTy (listK K) (by rfl) T.free_list (by decide +kernel) (pa_cons (pv 2) pa_nil)) pa_nil)))
      (pss_cons (ps_set (i := 6) sc_least_of.nd rfl (Or.inl rfl) (pe_call G_image hr_image rfl T.g_image T.d_image.fn.kp T.d_image.bd .nil pass0 (pa_cons (pv 0) (pa_cons (pv 1) (pa_cons (pv 2) pa_nil)))))
      (pss_cons (ps_asg (pe_call G_solved hr_solved rfl T.g_solved T.d_solved.fn.kp T.d_solved.bd .nil pass0 (pa_cons (pv 0) (pa_cons (pe_call G_turned hr_turned rfl T.g_turned T.d_turned.fn.kp T.d_turned.bd .nil pass0 (pa_cons (pv 5) pa_nil)) (pa_cons (pv 6) pa_nil)))) (pg_tupK K (n := 2) rfl (pg_tup (n := 2) rfl (pgs_cons (pg_name (i := 7) sc_least_of.nd rfl (Or.inl rfl)) (pgs_cons (pg_name (i := 8) sc_least_of.nd rfl (Or.inl rfl)) pgs_nil)))))
      (pss_cons (ps_while PassesOwn.never (pt_cmpR op_eq (pv 7) pe_str (nomark _)) (pss_cons (ps_expr (pe_bm PySem.F.plainAttrs_list PySem.F.slot_list_append PySem.F.type_list_append mt_append (pv 5) (pa_cons (pv 6) pa_nil)))
      (pss_cons (ps_set (i := 6) sc_least_of.nd rfl (Or.inl rfl) (pe_call G_image hr_image rfl T.g_image T.d_image.fn.kp T.d_image.bd .nil pass0 (pa_cons (pv 0) (pa_cons (pv 1) (pa_cons (pv 6) pa_nil)))))
      (pss_one (ps_asg (pe_call G_solved hr_solved rfl T.g_solved T.d_solved.fn.kp T.d_solved.bd .nil pass0 (pa_cons (pv 0) (pa_cons (pe_call G_turned hr_turned rfl T.g_turned T.d_turned.fn.kp T.d_turned.bd .nil pass0 (pa_cons (pv 5) pa_nil)) (pa_cons (pv 6) pa_nil)))) (pg_tupK K (n := 2) rfl (pg_tup (n := 2) rfl (pgs_cons (pg_name (i := 7) sc_least_of.nd rfl (Or.inl rfl)) (pgs_cons (pg_name (i := 8) sc_least_of.nd rfl (Or.inl rfl)) pgs_nil)))))))))
      (pss_one (ps_ret (pe_op op_cat (pe_lc (own := [("number", 4)]) rfl sc_least_of.nd (pi_listK K rfl (pv 8)) (blkOk_by (own := [("number", 4)]) (N := ["kind", "table", "column", "nought", "number", "columns", "last", "word", "found"]) (sc := defScope s_least_of) (by decide +kernel)) (fun _ _ _ _ _ => (pg_name (i := 4) sc_least_of.nd rfl (Or.inl rfl))) (fun _ _ _ _ _ => pts_nil) (fun _ _ _ _ _ => (pe_meth (pv 0) κ.cls κ.m_minus κ.minus hr_κ κ.b_minus .nil pass0 (pa_cons (pv 3) (pa_cons (pv 4) pa_nil))))) (pe_lst (pa_cons (pe_meth (pv 0) κ.cls κ.m_number κ.number hr_κ bN_κ vN_κ pass0 (pa_cons pe_int pa_nil)) pa_nil)))))))))))), ?_⟩
  refine s_ifF ((et_or (et_not (et_B (ev_call (S := sIsSquare κ) A (ea_cons (ev_var rfl ht) ea_nil) hne))) fun _ => et_test (ev_neI (ev_len (ev_var rfl hcv)) (ev_len (ev_var rfl ht)))).to (by rw [hnc, hv]; simp)) fun H1 e1 => ?_
  refine s_asg (ev_num0 κ (ev_var rfl (κ.obj.mo hk e1))) fun nv H2 e2 hnv => ?_
  have E2 := e1.trans e2
  have hcv2 := (κ.L nilH v).mo hcv E2
  refine s_if (et_B ((ev_all (ev_lcN fam_bool (fun x : F => decide (x = 0)) (ev_var rfl hcv2) (by omega) (fun _ => rfl) fun i x u H3 e3 hx hu => ev_nou κ (ev_var rfl (κ.obj.mo hk (E2.trans e3))) (ev_var rfl hu))).to (P' := isB (allNought v)) (by unfold allNought; rw [List.all_map]; rfl))) (fun hb H3 e3 => ?_) (fun hb H3 e3 => ?_)
  · have he : leastOf A v = [1] := by unfold leastOf; rw [hb]; rfl
    refine s_ret (ev_lst (R := κ.rep) (xs := [(1 : F)]) (ea_cons (ev_num1 κ (ev_var rfl (κ.obj.mo hk (E2.trans e3)))) ea_nil)) fun v4 H4 e4 h4 => k v4 H4 (E2.trans (e3.trans e4)) ?_
    show (κ.L H (leastOf A v)).p v4 H4
    rw [he]
    exact κ.famL.an (fun a q => Same.free (E2.trans e3) q) h4
  · have hs : κ.Al (imageT A v ++ loGoT A (v.length + 1) [v] (image A v)) := by have z := hs; unfold leastOfT at z; rw [hb] at z; exact z
    have hfo := hfo hb
    have he : leastOf A v = (loGo A (v.length + 1) [v] (image A v)).map (fun c => 0 - c) ++ [1] := by unfold leastOf; rw [hb]; rfl
    have E3 := E2.trans e3
    have hcv3 := (κ.L nilH v).mo hcv E3
    refine s_asg (ev_lst1 (ev_list (ev_var rfl hcv3))) fun v4 H4 e4 h4 => ?_
    obtain ⟨l, ls, rfl, hl3, hl4, hp4⟩ := h4
    have hlH : H l = none := Same.free E3 hl3
    have E4 := E3.trans e4
    have anL : ∀ {G : Hp} {x : List F} {u : V} {H' : Hp}, Same H4 G → (κ.L G x).p u H' → (κ.L (upd H l (.lst [])) x).p u H' := fun sG h => κ.famL.an (fr_upd (E4.trans sG) (sG _ _ hl4)) h
    have an0 : ∀ {G : Hp} {x : List F} {u : V} {H' : Hp}, (κ.L G x).p u H' → (κ.L nilH x).p u H' := fun h => κ.famL.an (fun _ _ => rfl) h
    have hp4 : Paired (fun x u => (κ.L (upd H l (.lst [])) x).p u H4) [v] ls := Paired.mapP hp4 fun x u r => κ.famL.an (fun a q => by
      by_cases ea : a = l
      · rw [ea, upd_same] at q; cases q
      · rw [upd_ne ea] at q ⊢; exact Same.free E3 q) r
    refine s_asg (ev_call (S := sImage κ) (A, v) (ea_cons (ev_var rfl (κ.obj.mo hk E4)) (ea_cons (ev_var rfl ((κ.T nilH A).mo ht E4)) (ea_cons (ev_var rfl ((κ.L nilH v).mo hcv E4)) ea_nil))) ⟨hne, fun r hr => by rw [hv]; exact hrc r hr, by show A.length ≤ 1000; omega, fun z hz => hs z (List.mem_append_left _ hz)⟩) fun lv H5 e5 h5 => ?_
    have hlast5 := anL (Same.refl _) h5
    have E5 := E4.trans e5
    have hA0 : κ.Al (loGoT A (v.length + 1) [v] (image A v)) := fun z hz => hs z (List.mem_append_right _ hz)
    -- one asking of `solved`
    have ask : ∀ {E1 E2 : XK} {σ' : L2.St} {H' : Hp} {cs : List (List F)} {last : List F} {lv : V}, σ'[0]? = some (some kd) → σ'[5]? = some (some (.ref l)) → σ'[6]? = some (some lv) → Same H H' → (∃ ws, H' l = some (.lst ws) ∧ Paired (fun x u => (κ.L (upd H l (.lst [])) x).p u H') cs ws) → (κ.L (upd H l (.lst [])) last).p lv H' → cs ≠ [] → Rect cs A.length → last.length = A.length → cs.length ≤ 20 → κ.Al (solvedT (turned cs) last) →
        Ev (tCall (sSol κ).sp [] E1 (tCons (tVar 0) (tCons (tCall (sTurned κ).sp [] E2 (tCons (tVar 5) tNil)) (tCons (tVar 6) tNil)))) σ' H' (TR nilH [isS (fWord (solved (turned cs) last).1), κ.L H' (solved (turned cs) last).2]) := by
      intro E1 E2 σ' H' cs last lv h0 h5 h6 e ⟨ws, hw1, hw2⟩ hl hne2 hr2 hl2 hc2 hA2
      obtain ⟨t1, t2, t3, t4⟩ := turned_rect hr2 hne2 hn0
      refine ev_call (S := sSol κ) (turned cs, last) (ea_cons (ev_var h0 (κ.obj.mo hk e)) (ea_cons (Ev.imp (ev_call (S := sTurned κ) cs (ea_cons (ev_var h5 ⟨l, ws, rfl, rfl, hw1, Paired.mapP hw2 fun _ _ r => an0 r⟩) ea_nil) ⟨hne2, ?_, ?_, ?_⟩) fun v H1 _ p => κ.famT.an (fun _ _ => rfl) p) (ea_cons (ev_var h6 (an0 hl)) ea_nil))) ⟨t1, by omega, by omega, t4, by omega, hA2⟩
      · rw [ncols_eq hr2 hne2]; exact hr2
      · show cs.length ≤ 1000; omega
      · rw [ncols_eq hr2 hne2]; omega
    have hl5 := e5 _ _ hl4
    have hil : (image A v).length = A.length := image_len A v
    have hA1 : κ.Al (solvedT (turned [v]) (image A v)) := fun z hz => hA0 z (by unfold loGoT; exact List.mem_append_left _ hz)
    refine s_unp2 (ask rfl rfl rfl E5 ⟨ls, hl5, Paired.mapP hp4 fun x u r => (κ.L _ _).mo r e5⟩ hlast5 (by simp) (fun r hr => by rw [List.mem_singleton] at hr; rw [hr]; exact hv) hil (by rw [List.length_singleton]; decide) hA1) fun wv fv H6 e6 hw hf => ?_
    cases (show wv = .str _ from hw)
    have hf6 := anL e5 hf
    refine s_while (fun n σ H' => Same H H' ∧ ∃ (cs : List (List F)) (last : List F) (lv fv : V) (ws : List V), σ = [some kd, some tv, some cv, some nv, none, some (.ref l), some lv, some (.str (fWord (solved (turned cs) last).1)), some fv] ∧ (κ.rep 0).p nv H' ∧ H' l = some (.lst ws) ∧ Paired (fun x u => (κ.L (upd H l (.lst [])) x).p u H') cs ws ∧ (κ.L (upd H l (.lst [])) last).p lv H' ∧ (κ.L (upd H l (.lst [])) (solved (turned cs) last).2).p fv H' ∧ cs ≠ [] ∧ Rect cs A.length ∧ last.length = A.length ∧ cs.length + n ≤ A.length + 2 ∧ loFound A n cs last ∧ loGo A n cs last = loGo A (v.length + 1) [v] (image A v) ∧ κ.Al (loGoT A n cs last)) (v.length + 1)
      ⟨E5.trans e6, [v], image A v, lv, fv, ls, rfl, (κ.rep _).mo hnv (e3.trans (e4.trans (e5.trans e6))), e6 _ _ hl5, Paired.mapP hp4 fun x u r => (κ.L _ _).mo r (e5.trans e6), (κ.L _ _).mo hlast5 e6, hf6, by simp, (fun r hr => by rw [List.mem_singleton] at hr; rw [hr]; exact hv), hil, by rw [List.length_singleton]; omega, hfo, rfl, hA0⟩ ?_
    rintro n σ' H' ⟨e7, cs, last, lv, fv, ws, rfl, hnv7, hl7, hp7, hlast7, hf7, hne7, hr7, hll7, hcn7, hfd7, hgo7, hA7⟩
    obtain ⟨n, rfl⟩ : ∃ p, n = p + 1 := by
      cases n with
      | zero => exact False.elim hfd7
      | succ p => exact ⟨p, rfl⟩
    refine ⟨decide (fWord (solved (turned cs) last).1 = "never"), et_test (ev_eqS (ev_var rfl rfl) ev_c), fun hb H8 e8 => ?_, fun hb H8 e8 => ?_⟩
    · have hb : (solved (turned cs) last).1 = false := by
        cases h : (solved (turned cs) last).1 with
        | false => rfl
        | true => rw [h] at hb; exact absurd hb (by decide +kernel)
      unfold loGo at hgo7
      rw [hb] at hgo7
      unfold loGoT at hA7
      rw [hb] at hA7
      have hgo7 : loGo A n (cs ++ [last]) (image A last) = loGo A (v.length + 1) [v] (image A v) := hgo7
      have hA7 : κ.Al (solvedT (turned cs) last ++ (imageT A last ++ loGoT A n (cs ++ [last]) (image A last))) := hA7
      have hfd7 : loFound A n (cs ++ [last]) (image A last) := by
        rcases hfd7 with h | h
        · rw [hb] at h; cases h
        · exact h
      have hA8 : κ.Al (loGoT A n (cs ++ [last]) (image A last)) := fun z hz => hA7 z (List.mem_append_right _ (List.mem_append_right _ hz))
      have E8 := e7.trans e8
      have hl8 := e8 _ _ hl7
      have kn : (upd H l (.lst [])) l ≠ none := kn_upd
      refine ⟨fun σ H' => Same H H' ∧ ∃ (cs : List (List F)) (last : List F) (lv fv : V) (ws : List V), σ = [some kd, some tv, some cv, some nv, none, some (.ref l), some lv, some (.str (fWord (solved (turned cs) last).1)), some fv] ∧ (κ.rep 0).p nv H' ∧ H' l = some (.lst ws) ∧ Paired (fun x u => (κ.L (upd H l (.lst [])) x).p u H') cs ws ∧ (κ.L (upd H l (.lst [])) last).p lv H' ∧ (κ.L (upd H l (.lst [])) (solved (turned cs) last).2).p fv H' ∧ cs ≠ [] ∧ Rect cs A.length ∧ last.length = A.length ∧ cs.length + n ≤ A.length + 2 ∧ loFound A n cs last ∧ loGo A n cs last = loGo A (v.length + 1) [v] (image A v) ∧ κ.Al (loGoT A n cs last), fun σ2 H2 h => ⟨n, Nat.lt_succ_self _, h⟩, ?_⟩
      refine s_app hl8 (ev_var rfl rfl) (ev_var rfl ((κ.L _ _).mo hlast7 e8)) (by rw [← paired_len hp7]; omega) fun v9 H9 e9 h9 => ?_
      have hl9 := e9 _ _ hl8
      have E9 : Same H (upd H9 l (.lst (ws ++ [v9]))) := same_mut (E8.trans e9) hlH
      have hp9 := psnoc (R := κ.L (upd H l (.lst []))) (psta (R := κ.L (upd H l (.lst []))) (o' := ws ++ [v9]) (fun x => κ.famL.st kn) hl9 (pmo (R := κ.L _) hp7 (e8.trans e9))) (κ.famL.st kn _ _ _ (ws ++ [v9]) hl9 h9)
      have hlast9 := κ.famL.st kn _ _ _ (ws ++ [v9]) hl9 ((κ.L _ _).mo hlast7 (e8.trans e9))
      have hnv9 := κ.rep_sta _ l _ _ _ (ws ++ [v9]) hl9 ((κ.rep _).mo hnv7 (e8.trans e9))
      have hl10 : upd H9 l (.lst (ws ++ [v9])) l = some (.lst (ws ++ [v9])) := upd_same
      generalize upd H9 l (.lst (ws ++ [v9])) = H10 at *
      refine s_asg (ev_call (S := sImage κ) (A, last) (ea_cons (ev_var rfl (κ.obj.mo hk E9)) (ea_cons (ev_var rfl ((κ.T nilH A).mo ht E9)) (ea_cons (ev_var rfl (an0 hlast9)) ea_nil))) ⟨hne, fun r hr => by rw [hll7]; exact hrc r hr, by show A.length ≤ 1000; omega, fun z hz => hA7 z (List.mem_append_right _ (List.mem_append_left _ hz))⟩) fun lv2 H11 e11 h11 => ?_
      have h11' : (κ.L (upd H l (.lst [])) (image A last)).p lv2 H11 := κ.famL.an (fr_upd E9 hl10) h11
      have E11 := E9.trans e11
      have hcs : cs ++ [last] ≠ [] := by simp
      have hrs : Rect (cs ++ [last]) A.length := fun r hr => by
        rcases List.mem_append.mp hr with h | h
        · exact hr7 r h
        · rw [List.mem_singleton] at h; rw [h]; exact hll7
      obtain ⟨m, rfl⟩ : ∃ p, n = p + 1 := by
        cases n with
        | zero => exact False.elim hfd7
        | succ p => exact ⟨p, rfl⟩
      refine s_unp2 (ask rfl rfl rfl E11 ⟨_, e11 _ _ hl10, Paired.mapP hp9 fun x u r => (κ.L _ _).mo r e11⟩ h11' hcs hrs (image_len A last) (by rw [List.length_append, List.length_singleton]; omega) (fun z hz => hA8 z (by unfold loGoT; exact List.mem_append_left _ hz))) fun wv2 fv2 H12 e12 hw2 hf2 => ?_
      cases (show wv2 = .str _ from hw2)
      exact ⟨E11.trans e12, cs ++ [last], image A last, lv2, fv2, _, rfl, (κ.rep _).mo hnv9 (e11.trans e12), (e11.trans e12) _ _ hl10, Paired.mapP hp9 fun x u r => (κ.L _ _).mo r (e11.trans e12), (κ.L _ _).mo h11' e12, κ.famL.an (fr_upd E11 (e11 _ _ hl10)) hf2, hcs, hrs, image_len A last, by rw [List.length_append, List.length_singleton]; omega, hfd7, hgo7, hA8⟩
    · have hb : (solved (turned cs) last).1 = true := by
        cases h : (solved (turned cs) last).1 with
        | true => rfl
        | false => rw [h] at hb; exact absurd hb (by decide +kernel)
      unfold loGo at hgo7
      rw [hb] at hgo7
      have hgo7 : (solved (turned cs) last).2 = loGo A (v.length + 1) [v] (image A v) := hgo7
      rw [← hgo7] at he
      have E8 := e7.trans e8
      have hk8 := κ.obj.mo hk E8
      obtain ⟨t1, t2, t3, t4⟩ := turned_rect hr7 hne7 hn0
      have hsl : (solved (turned cs) last).2.length = cs.length := by rw [solved_len hb, t3]
      refine s_ret (ev_cat (ev_lcN κ.fam (fun c => 0 - c) (ev_var rfl ((κ.L _ _).mo hf7 e8)) (by omega) (fun _ => rfl) fun i x u H9 e9 hx hu => ev_minus κ (ev_var rfl (κ.obj.mo hk8 e9)) (ev_var rfl ((κ.rep _).mo hnv7 (e8.trans e9))) (ev_var rfl hu) (κ.sm_neg (κ.rep_sm hu))) (ev_lst (R := κ.rep) (xs := [(1 : F)]) (ea_cons (ev_num1 κ (ev_var rfl hk8)) ea_nil)) (by rw [List.length_map, List.length_singleton]; omega)) fun v9 H9 e9 h9 => k v9 H9 (E8.trans e9) ?_
      show (κ.L H (leastOf A v)).p v9 H9
      rw [he]
      exact κ.famL.an (fun a q => Same.free E8 q) h9
/-! at_column(kind, f, table, column) -/
def sAt : Spc where
  ι := List F × List (List F) × List F
  pre := fun ⟨f, A, v⟩ => A ≠ [] ∧ A.length ≤ 50 ∧ Rect A A.length ∧ v.length = A.length ∧ f.length ≤ 500 ∧ κ.Al (atColT A v f)
  args := fun ⟨f, A, v⟩ => [κ.obj, κ.L nilH f, κ.T nilH A, κ.L nilH v]
  post := fun ⟨f, A, v⟩ G => κ.L G (atCol A v f)
  an := fun {i _ _ _ _} g h => by obtain ⟨t, b, c⟩ := i; exact κ.famL.an g h
-- 0 kind, 1 f, 2 table, 3 column, 4 told, 5 number, 6 k
theorem ok_at_column : Ok P w K mg base 43 ("at_column", none) ["kind", "f", "table", "column"] (sAt κ) := by
  refine T.d_at_column.ok sc_at_column (fun _ => rfl) fun cdv A0 outer s H vs Q E ⟨f, A, v⟩ hr ⟨hne, hm, hrc, hv, hf, hs⟩ ha k => ?_
  obtain ⟨kd, _, rfl, hk, fv, _, rfl, hfv, tv, _, rfl, ht, cv, _, rfl, hcv, rfl⟩ := ha
  obtain ⟨dsN, vN_κ, bN_κ⟩ := κ.b_number
  have hr_κ : Room 40 _ := hr.mono (by decide)
  have hr_image : Room 42 _ := hr
  have G_image := ok_image κ T
  have ht : (κ.T nilH A).p tv H := ht
  have hcv : (κ.L nilH v).p cv H := hcv
  have hfv : (κ.L nilH f).p fv H := hfv
  have hm : A.length ≤ 50 := hm
  have hv : v.length = A.length := hv
  refine ⟨_, (pss_cons (ps_set (i := 4) sc_at_column.nd rfl (Or.inr rfl) (pe_lc (own := [("number", 5)]) rfl sc_at_column.nd (pi_listK K rfl (pv 3)) (blkOk_by (own := [("number", 5)]) (N := ["kind", "f", "table", "column", "told", "number", "k"]) (sc := defScope s_at_column) (by decide +kernel)) (fun _ _ _ _ _ => (pg_name (i := 5) sc_at_column.nd rfl (Or.inl rfl))) (fun _ _ _ _ _ => pts_nil) (fun _ _ _ _ _ => (pe_meth (pv 0) κ.cls κ.m_number κ.number hr_κ bN_κ vN_κ pass0 (pa_cons pe_int pa_nil)))))
      (pss_cons (ps_for PassesOwn.never rfl (pi_revK K rfl (pi_reversed (by rfl) T.free_reversed (pa_cons (pv 1) pa_nil))) (pg_name (i := 5) sc_at_column.nd rfl (Or.inr rfl)) (pss_cons (ps_set (i := 4) sc_at_column.nd rfl (Or.inr rfl) (pe_call G_image hr_image rfl T.g_image T.d_image.fn.kp T.d_image.bd .nil pass0 (pa_cons (pv 0) (pa_cons (pv 2) (pa_cons (pv 4) pa_nil)))))
      (pss_one (ps_set (i := 4) sc_at_column.nd rfl (Or.inr rfl) (pe_lc (own := [("k", 6)]) rfl sc_at_column.nd (pi_range1 (by rfl) T.free_range (pa_cons (pe_callB (lenK K) (by rfl) T.free_len PySem.boot_len (pa_cons (pv 3) pa_nil)) pa_nil)) (blkOk_by (own := [("k", 6)]) (N := ["kind", "f", "table", "column", "told", "number", "k"]) (sc := defScope s_at_column) (by decide +kernel)) (fun _ _ _ _ _ => (pg_name (i := 6) sc_at_column.nd rfl (Or.inl rfl))) (fun _ _ _ _ _ => pts_nil) (fun _ _ _ _ _ => (pe_meth (pv 0) κ.cls κ.m_plus κ.plus hr_κ κ.b_plus .nil pass0 (pa_cons (pe_ix (ixL K) (pv 4) (pv 6) (fun _ _ => rfl)) (pa_cons (pe_meth (pv 0) κ.cls κ.m_times κ.times hr_κ κ.b_times .nil pass0 (pa_cons (pv 5) (pa_cons (pe_ix (ixL K) (pv 3) (pv 6) (fun _ _ => rfl)) pa_nil))) pa_nil)))))))))
      (pss_one (ps_ret (pv 4))))), ?_⟩
  refine s_asg (ev_lcN κ.fam (fun _ : F => (0 : F)) (ev_var rfl hcv) (by omega) (fun _ => rfl) fun i x u H1 e1 hx hu => ev_num0 κ (ev_var rfl (κ.obj.mo hk e1))) fun tv0 H1 e1 h1 => ?_
  have hn : v.map (fun _ => (0 : F)) = noughts v.length := by
    unfold noughts
    apply List.ext_getElem <;> simp
  rw [hn] at h1
  refine s_forV (ea_cons (ev_var rfl ((κ.L nilH f).mo hfv e1)) ea_nil) (fun H2 i σ H' => Same H2 H' ∧ ∃ uv b, σ = [some kd, some fv, some tv, some cv, some uv, b, none] ∧ (κ.L H (atCol A v (f.drop (f.length - i)))).p uv H') (fun H2 e2 => ⟨Same.refl _, tv0, none, rfl, by rw [Nat.sub_zero, List.drop_length]; exact (κ.L _ _).mo h1 e2⟩) (fun H2 i σ' H' e2 p => p.1) ?_ ?_
  · rintro H2 i x u σ' H' e2 hi hx ⟨e3, uv, b, rfl, huv⟩ hu
    have d1 : f.drop (f.length - (i + 1)) = x :: f.drop (f.length - i) := by
      have e : f.length - (i + 1) = f.length - 1 - i := by omega
      have hx2 := (List.getElem?_eq_some_iff.mp hx)
      rw [e, List.drop_eq_getElem_cons hx2.1, hx2.2]
      congr 2; omega
    have hA : κ.Al (atColT A v (x :: f.drop (f.length - i))) := fun z hz => hs z (atColT_drop f (f.length - (i + 1)) z (by rw [d1]; exact hz))
    have E3 := e1.trans (e2.trans e3)
    have hcl := atCol_len A v (f.drop (f.length - i))
    refine s_asg (ev_call (S := sImage κ) (A, atCol A v (f.drop (f.length - i))) (ea_cons (ev_var rfl (κ.obj.mo hk E3)) (ea_cons (ev_var rfl ((κ.T nilH A).mo ht E3)) (ea_cons (ev_var rfl (κ.famL.an (fun _ _ => rfl) huv)) ea_nil))) ⟨hne, fun r hr => by rw [hcl, hv]; exact hrc r hr, by show A.length ≤ 1000; omega, fun z hz => hA z (List.mem_append_right _ (List.mem_append_left _ hz))⟩) fun iv H4 e4 h4 => ?_
    have E4 := E3.trans e4
    have h4 : (κ.L H' (image A (atCol A v (f.drop (f.length - i))))).p iv H4 := h4
    have hil := image_len A (atCol A v (f.drop (f.length - i)))
    refine s_asg (ev_lcR κ.fam (fun q => gt (image A (atCol A v (f.drop (f.length - i)))) q + x * gt v q) (n := v.length) (ea_cons (ev_len (ev_var rfl ((κ.L nilH v).mo hcv E4))) ea_nil) (by omega) (fun _ => rfl) fun q H5 e5 hq => ?_) fun wv H5 e5 h5 => ⟨e3.trans (e4.trans e5), wv, _, rfl, ?_⟩
    · have hz : ∀ z, z = x * gt v q ∨ z = gt (image A (atCol A v (f.drop (f.length - i)))) q + x * gt v q → κ.Sm z := fun z hz => hA z (List.mem_append_right _ (List.mem_append_right _ (by
        unfold plusColT
        refine List.mem_flatMap.mpr ⟨q, List.mem_range.mpr hq, ?_⟩
        rcases hz with h | h <;> simp [h])))
      have E5 := E4.trans e5
      exact ev_plus κ (ev_var rfl (κ.obj.mo hk E5)) (ev_ix (i := q) (ev_var rfl ((κ.L _ _).mo h4 e5)) (ev_vint rfl) (gt_some (by omega))) (ev_times κ (ev_var rfl (κ.obj.mo hk E5)) (ev_var rfl ((κ.rep _).mo hu (e4.trans e5))) (ev_ix (i := q) (ev_var rfl ((κ.L nilH v).mo hcv E5)) (ev_vint rfl) (gt_some hq)) (hz _ (.inl rfl))) (hz _ (.inr rfl))
    · rw [d1]
      exact κ.famL.an (x := plusCol (image A (atCol A v (f.drop (f.length - i)))) x v) (fun a q => Same.free E4 q) h5
  · rintro H2 σ' H' e2 ⟨e3, uv, b, rfl, huv⟩
    rw [Nat.sub_self, List.drop_zero] at huv
    exact s_ret (ev_var rfl huv) fun v9 H9 e9 h9 => k v9 H9 (e1.trans (e2.trans (e3.trans e9))) h9
end
end Tf
set_option maxRecDepth 100000
set_option maxHeartbeats 4000000
namespace Tf
open PySem PySem.Spec PyProof.Rows L2
section
variable {F : Type} [Lean.Grind.Field F] [DecidableEq F]
theorem pw_len {A : List (List F)} {v : List F} (hv : v.length = A.length) : ∀ k, (pw A v k).length = A.length
  | 0 => hv
  | k + 1 => image_len A _
theorem pwT_mono {A : List (List F)} {v : List F} : ∀ {m n : Nat}, m ≤ n → ∀ z ∈ pwT A v m, z ∈ pwT A v n := by
  intro m n h
  induction h with
  | refl => exact fun z hz => hz
  | step _ ih => exact fun z hz => List.mem_append_left _ (ih z hz)
theorem chained_len (A : List (List F)) (v : List F) (d : Nat) : (chained A v d).length = d := by simp [chained]
theorem chained_get {A : List (List F)} {v : List F} {d i : Nat} (h : i < d) : (chained A v d)[i]? = some (pw A v i) := by
  unfold chained
  rw [List.getElem?_map, List.getElem?_range h]
  rfl
theorem chained_succ (A : List (List F)) (v : List F) (d : Nat) : chained A v (d + 1) = chained A v d ++ [pw A v d] := by
  unfold chained
  rw [List.range_succ, List.map_append]
  rfl
end
section
variable {P : Program} {w : World} {K : PySem.W.Frag} {mg : Str → Option Value} {base : Heap} {F : Type} [Lean.Grind.Field F] [DecidableEq F] (κ : Kd F P w K mg base) (T : Txt K mg)
include T
/-! chained(kind, table, column, size) -/
def sCh : Spc where
  ι := List (List F) × List F × Nat
  pre := fun ⟨A, v, d⟩ => A ≠ [] ∧ A.length ≤ 50 ∧ Rect A A.length ∧ v.length = A.length ∧ 1 ≤ d ∧ d ≤ 100 ∧ κ.Al (chainedT A v d)
  args := fun ⟨A, v, d⟩ => [κ.obj, κ.T nilH A, κ.L nilH v, isI (d : Nat)]
  post := fun ⟨A, v, d⟩ G => κ.T G (chained A v d)
  an := fun {i _ _ _ _} g h => by obtain ⟨t, b, c⟩ := i; exact κ.famT.an g h
-- 0 kind, 1 table, 2 column, 3 size, 4 columns
theorem ok_chained : Ok P w K mg base 43 ("chained", none) ["kind", "table", "column", "size"] (sCh κ) := by
  refine T.d_chained.ok sc_chained (fun _ => rfl) fun cdv A0 outer s H vs Q E ⟨A, v, d⟩ hr ⟨hne, hm, hrc, hv, hd0, hd, hs⟩ ha k => ?_
  obtain ⟨kd, _, rfl, hk, tv, _, rfl, ht, cv, _, rfl, hcv, _, _, rfl, rfl, rfl⟩ := ha
  have hr_image : Room 42 _ := hr
  have G_image := ok_image κ T
  have ht : (κ.T nilH A).p tv H := ht
  have hcv : (κ.L nilH v).p cv H := hcv
  have hm : A.length ≤ 50 := hm
  have hv : v.length = A.length := hv
  have hd0 : 1 ≤ d := hd0
  have hd : d ≤ 100 := hd
  have hs : κ.Al (pwT A v (d - 1)) := hs
  refine ⟨_, (pss_cons (ps_set (i := 4) sc_chained.nd rfl (Or.inl rfl) (pe_lst (pa_cons (pe_callTy (listK K) (by rfl) T.free_list (by decide +kernel) (pa_cons (pv 2) pa_nil)) pa_nil)))
      (pss_cons (ps_while PassesOwn.never (pt_cmpR op_lt (pe_callB (lenK K) (by rfl) T.free_len PySem.boot_len (pa_cons (pv 4) pa_nil)) (pv 3) (nomark _)) (pss_one (ps_expr (pe_bm PySem.F.plainAttrs_list PySem.F.slot_list_append PySem.F.type_list_append mt_append (pv 4) (pa_cons (pe_call G_image hr_image rfl T.g_image T.d_image.fn.kp T.d_image.bd .nil pass0 (pa_cons (pv 0) (pa_cons (pv 1) (pa_cons (pe_ix (ixL K) (pv 4) (pe_op op_sub (pe_callB (lenK K) (by rfl) T.free_len PySem.boot_len (pa_cons (pv 4) pa_nil)) pe_int) (fun _ _ => rfl)) pa_nil)))) pa_nil)))))
      (pss_one (ps_ret (pv 4))))), ?_⟩
  refine s_asg (ev_lst1 (ev_list (ev_var rfl hcv))) fun v4 H4 e4 h4 => ?_
  obtain ⟨l, ls, rfl, hlH, hl4, hp4⟩ := h4
  have anL : ∀ {G : Hp} {x : List F} {u : V} {H' : Hp}, Same H4 G → (κ.L G x).p u H' → (κ.L (upd H l (.lst [])) x).p u H' := fun sG h => κ.famL.an (fr_upd (e4.trans sG) (sG _ _ hl4)) h
  have an0 : ∀ {G : Hp} {x : List F} {u : V} {H' : Hp}, (κ.L G x).p u H' → (κ.L nilH x).p u H' := fun h => κ.famL.an (fun _ _ => rfl) h
  have kn : (upd H l (.lst [])) l ≠ none := kn_upd
  refine s_while (fun n σ H' => Same H H' ∧ ∃ (j : Nat) (ws : List V), n + j = d ∧ 1 ≤ j ∧ σ = [some kd, some tv, some cv, some (.int (d : Nat)), some (.ref l)] ∧ H' l = some (.lst ws) ∧ Paired (fun x u => (κ.L (upd H l (.lst [])) x).p u H') (chained A v j) ws) (d - 1) ⟨e4, 1, ls, by omega, Nat.le_refl _, rfl, hl4, hp4⟩ ?_
  rintro n σ' H' ⟨e5, j, ws, hnj, hj, rfl, hl5, hp5⟩
  have hcl := chained_len A v j
  have hL : (κ.T nilH (chained A v j)).p (.ref l) H' := ⟨l, ws, rfl, rfl, hl5, Paired.mapP hp5 fun _ _ r => an0 r⟩
  refine ⟨decide (j < d), et_test (ev_opB (g := fun i j => decide (i < j)) (ev_len (ev_var rfl hL)) (ev_vint rfl)) |>.to (by rw [hcl]; simp), fun hb H6 e6 => ?_, fun hb H6 e6 => ?_⟩
  · have hb : j < d := of_decide_eq_true hb
    have hL6 := (κ.T nilH _).mo hL e6
    have E6 := e5.trans e6
    obtain ⟨i, rfl⟩ : ∃ i, j = i + 1 := ⟨j - 1, by omega⟩
    have ei : ((i + 1 : Nat) : Int) - 1 = ((i : Nat) : Int) := by omega
    refine ⟨fun σ H' => Same H H' ∧ ∃ (ws : List V), σ = [some kd, some tv, some cv, some (.int (d : Nat)), some (.ref l)] ∧ H' l = some (.lst ws) ∧ Paired (fun x u => (κ.L (upd H l (.lst [])) x).p u H') (chained A v (i + 1 + 1)) ws, fun σ2 H2 ⟨a, ws, b, c, p⟩ => ⟨n - 1, by omega, a, i + 1 + 1, ws, by omega, by omega, b, c, p⟩, ?_⟩
    refine s_app (e6 _ _ hl5) (ev_var rfl rfl) (ev_call (S := sImage κ) (A, pw A v i) (ea_cons (ev_var rfl (κ.obj.mo hk E6)) (ea_cons (ev_var rfl ((κ.T nilH A).mo ht E6)) (ea_cons (ev_ix (i := i) (ev_var rfl hL6) ((ev_opI (g := fun i j => i - j) ((ev_len (ev_var rfl hL6)).to (by rw [hcl])) ev_int).to (congrArg isI ei)) (chained_get (Nat.lt_succ_self _))) ea_nil))) ⟨hne, fun r hr => by rw [pw_len hv]; exact hrc r hr, by show A.length ≤ 1000; omega, fun z hz => hs z (pwT_mono (m := i + 1) (by omega) z (List.mem_append_right _ hz))⟩) (by rw [← paired_len hp5, hcl]; omega) fun v7 H7 e7 h7 => ?_
    have hl7 := (e6.trans e7) _ _ hl5
    have h7' : (κ.L (upd H l (.lst [])) (pw A v (i + 1))).p v7 H7 := κ.famL.an (fr_upd E6 (e6 _ _ hl5)) h7
    refine ⟨same_mut (E6.trans e7) hlH, _, rfl, upd_same, ?_⟩
    rw [chained_succ A v (i + 1)]
    exact psnoc (R := κ.L (upd H l (.lst []))) (psta (R := κ.L (upd H l (.lst []))) (fun x => κ.famL.st kn) hl7 (pmo (R := κ.L _) hp5 (e6.trans e7))) (κ.famL.st kn _ _ _ _ hl7 h7')
  · have hb : ¬ j < d := of_decide_eq_false hb
    obtain rfl : j = d := by omega
    exact s_ret (P := κ.T H (chained A v j)) (ev_var rfl ⟨l, ws, rfl, hlH, e6 _ _ hl5, Paired.mapP hp5 fun x u r => κ.famL.an (fr_of_upd hlH) ((κ.L _ _).mo r e6)⟩) fun v9 H9 e9 h9 => k v9 H9 (e5.trans (e6.trans e9)) h9
end
end Tf
set_option maxRecDepth 100000
set_option maxHeartbeats 4000000
namespace Tf
open PySem PySem.Spec PyProof.Rows L2
section
variable {F : Type} [Lean.Grind.Field F] [DecidableEq F]
/-- empty, or the last number not nought -/
def Lz (f : List F) : Prop := f = [] ∨ lst f ≠ 0
theorem ptimes_lz (f g : List F) : Lz (ptimes f g) := by
  unfold ptimes
  split
  · exact .inl rfl
  · exact trim_last _
theorem common_lz (f g : List F) : Lz (common f g) := by
  unfold common
  dsimp only
  split
  · exact .inl rfl
  · exact ptimes_lz _ _
theorem common_len {f g : List F} (hf : Lz f) (hg : Lz g) : (common f g).length ≤ max f.length g.length := by
  have h := (euGo_len (g.length + 1) (EuOk.start hf hg) (Nat.lt_succ_self _)).1.d
  unfold common
  dsimp only
  split
  · exact Nat.zero_le _
  · have := ptimes_len [(lst (euEnd f g).d)⁻¹] (euEnd f g).d
    rw [List.length_singleton] at this
    have h : (euEnd f g).d.length ≤ max f.length g.length := h
    omega
def ptOk (rest : List F) : Nat → List F → Prop
  | 0, _ => False
  | n + 1, one => Lz one ∧ one.length ≤ 50 ∧ ((common one rest).length ≤ 1 ∨ ptOk rest n (divided one (common one rest)).1)
structure PartedOk (f g : List F) : Prop where
  lf : f.length ≤ 40
  lg : g.length ≤ 40
  zf : Lz f
  zg : Lz g
  c : common f g ≠ []
  zr : Lz (ptRest f g)
  go : ptOk (ptRest f g) (f.length + 1) f
  e : (parted f g).1 ≠ []
  ze : Lz (parted f g).1
  le : (parted f g).1.length ≤ 50
structure JoinedOk (A : List (List F)) (a b : List F × List F) : Prop where
  pt : PartedOk a.1 b.1
  e2 : (parted a.1 b.1).2 ≠ []
  z2 : Lz (parted a.1 b.1).2
  l2 : (parted a.1 b.1).2.length ≤ 150
  va : a.2.length = A.length
  vb : b.2.length = A.length
structure LoOk (A : List (List F)) (v : List F) : Prop where
  vl : v.length = A.length
  fo : allNought v = false → loFound A (v.length + 1) [v] (image A v)
def LeastOk (A : List (List F)) : List (List F) → List F × List F → Prop
  | [], _ => True
  | c :: cs, t => LoOk A c ∧ JoinedOk A t (leastOf A c, c) ∧ (A.length < (joined A t (leastOf A c, c)).1.length ∨ LeastOk A cs (joined A t (leastOf A c, c)))
end
section
variable {P : Program} {w : World} {K : PySem.W.Frag} {mg : Str → Option Value} {base : Heap} {F : Type} [Lean.Grind.Field F] [DecidableEq F] (κ : Kd F P w K mg base) (T : Txt K mg)
include T
/-! parted(kind, f, g) -/
def sPt : Spc where
  ι := List F × List F
  pre := fun ⟨f, g⟩ => PartedOk f g ∧ κ.Al (partedT f g)
  args := fun ⟨f, g⟩ => [κ.obj, κ.L nilH f, κ.L nilH g]
  post := fun ⟨f, g⟩ G => TR nilH [κ.L G (parted f g).1, κ.L G (parted f g).2]
  an := fun {i _ _ _ _} g h => by
    obtain ⟨t, b⟩ := i
    obtain ⟨a, vs, e, _, h, v1, r1, e1, p1, v2, r2, e2, p2, e3⟩ := h
    exact ⟨a, vs, e, rfl, h, v1, r1, e1, κ.famL.an g p1, v2, r2, e2, κ.famL.an g p2, e3⟩
-- 0 kind, 1 f, 2 g, 3 rest, 4 whole, 5 one, 6 part
theorem ok_parted : Ok P w K mg base 46 ("parted", none) ["kind", "f", "g"] (sPt κ) := by
  refine T.d_parted.ok sc_parted (fun _ => rfl) fun cdv A0 outer s H vs Q E ⟨f, g⟩ hr ⟨hok, hs⟩ ha k => ?_
  obtain ⟨kd, _, rfl, hk, fv, _, rfl, hfv, gv, _, rfl, hgv, rfl⟩ := ha
  obtain ⟨lf, lg, zf, zg, cne, zr, go, e_ne, ze, le⟩ := hok
  have hr_common : Room 45 _ := hr
  have hr_divided : Room 42 _ := hr.mono (by decide)
  have hr_π : Room 44 _ := hr.mono (by decide)
  have hr_Polys_init : Room 2 _ := hr.mono (by decide)
  have G_divided := ok_divided κ T
  have G_common := ok_common κ T
  have G_Polys_init := ok_Polys_init (P := P) (w := w) (base := base) T
  have π := mq κ T
  have hfv : (κ.L nilH f).p fv H := hfv
  have hgv : (κ.L nilH g).p gv H := hgv
  have hs : κ.Al (commonT f g ++ dividedT g (common f g) ++ ptimesT f (ptRest f g) ++ ptGoT (ptRest f g) (f.length + 1) f ++ dividedT (ptimes f (ptRest f g)) (ptGo (ptRest f g) (f.length + 1) f)) := hs
  have hA1 : κ.Al (commonT f g) := fun z hz => hs z (by simp only [List.mem_append]; exact .inl (.inl (.inl (.inl hz))))
  have hA2 : κ.Al (dividedT g (common f g)) := fun z hz => hs z (by simp only [List.mem_append]; exact .inl (.inl (.inl (.inr hz))))
  have hA3 : κ.Al (ptimesT f (ptRest f g)) := fun z hz => hs z (by simp only [List.mem_append]; exact .inl (.inl (.inr hz)))
  have hA4 : κ.Al (ptGoT (ptRest f g) (f.length + 1) f) := fun z hz => hs z (by simp only [List.mem_append]; exact .inl (.inr hz))
  have hA5 : κ.Al (dividedT (ptimes f (ptRest f g)) (ptGo (ptRest f g) (f.length + 1) f)) := fun z hz => hs z (by simp only [List.mem_append]; exact .inr hz)
  have an0 : ∀ {G : Hp} {x : List F} {u : V} {H' : Hp}, (κ.L G x).p u H' → (κ.L nilH x).p u H' := fun h => κ.famL.an (fun _ _ => rfl) h
  have c0 : 0 < (common f g).length := List.length_pos_iff.mpr cne
  have cz : lst (common f g) ≠ 0 := (common_lz f g).resolve_left cne
  have cl : (common f g).length ≤ 50 := by have := common_len zf zg; omega
  have lr : (ptRest f g).length ≤ 40 := by
    have := (divided_len (f := g) cne).2.2
    show (divided g (common f g)).1.length ≤ 40; omega
  refine ⟨_, (pss_cons (ps_set (i := 3) sc_parted.nd rfl (Or.inl rfl) (pe_ix (ixT K) (pe_call G_divided hr_divided rfl T.g_divided T.d_divided.fn.kp T.d_divided.bd .nil pass0 (pa_cons (pv 0) (pa_cons (pv 2) (pa_cons (pe_ix (ixT K) (pe_call G_common hr_common rfl T.g_common T.d_common.fn.kp T.d_common.bd .nil pass0 (pa_cons (pv 0) (pa_cons (pv 1) (pa_cons (pv 2) pa_nil)))) pe_int (fun _ _ => rfl)) pa_nil)))) pe_int (fun _ _ => rfl)))
      (pss_cons (ps_set (i := 4) sc_parted.nd rfl (Or.inl rfl) (pe_meth (pe_make T.mkr_Polys G_Polys_init hr_Polys_init rfl T.g_Polys T.d_Polys_init.bd .nil pass0 (pa_cons (pv 0) pa_nil)) π.cls π.m_times π.times hr_π π.b_times .nil pass0 (pa_cons (pv 1) (pa_cons (pv 3) pa_nil))))
      (pss_cons (ps_set (i := 5) sc_parted.nd rfl (Or.inl rfl) (pe_callTy (listK K) (by rfl) T.free_list (by decide +kernel) (pa_cons (pv 1) pa_nil)))
      (pss_cons (ps_set (i := 6) sc_parted.nd rfl (Or.inl rfl) (pe_ix (ixT K) (pe_call G_common hr_common rfl T.g_common T.d_common.fn.kp T.d_common.bd .nil pass0 (pa_cons (pv 0) (pa_cons (pv 5) (pa_cons (pv 3) pa_nil)))) pe_int (fun _ _ => rfl)))
      (pss_cons (ps_while PassesOwn.never (pt_cmpR op_gt (pe_callB (lenK K) (by rfl) T.free_len PySem.boot_len (pa_cons (pv 6) pa_nil)) pe_int (nomark _)) (pss_cons (ps_set (i := 5) sc_parted.nd rfl (Or.inl rfl) (pe_ix (ixT K) (pe_call G_divided hr_divided rfl T.g_divided T.d_divided.fn.kp T.d_divided.bd .nil pass0 (pa_cons (pv 0) (pa_cons (pv 5) (pa_cons (pv 6) pa_nil)))) pe_int (fun _ _ => rfl)))
      (pss_one (ps_set (i := 6) sc_parted.nd rfl (Or.inl rfl) (pe_ix (ixT K) (pe_call G_common hr_common rfl T.g_common T.d_common.fn.kp T.d_common.bd .nil pass0 (pa_cons (pv 0) (pa_cons (pv 5) (pa_cons (pv 3) pa_nil)))) pe_int (fun _ _ => rfl))))))
      (pss_one (ps_ret (pe_tup (pa_cons (pv 5) (pa_cons (pe_ix (ixT K) (pe_call G_divided hr_divided rfl T.g_divided T.d_divided.fn.kp T.d_divided.bd .nil pass0 (pa_cons (pv 0) (pa_cons (pv 4) (pa_cons (pv 5) pa_nil)))) pe_int (fun _ _ => rfl)) pa_nil)))))))))), ?_⟩
  refine s_asg (ev_tix (i := 0) (Ev.imp (ev_call (S := sDiv κ) (g, common f g) (ea_cons (ev_var rfl hk) (ea_cons (ev_var rfl hgv) (ea_cons (Ev.imp (ev_tix (i := 0) (ev_call (S := sCom κ) (f, g) (ea_cons (ev_var rfl hk) (ea_cons (ev_var rfl hfv) (ea_cons (ev_var rfl hgv) ea_nil))) ⟨zf, zg, by show f.length ≤ 50; omega, by show g.length ≤ 50; omega, hA1⟩) ev_int rfl) fun v H1 e1 p => an0 p) ea_nil))) ⟨cne, cz, by show g.length ≤ 200; omega, by show (common f g).length ≤ 200; omega, hA2⟩) fun v H1 e1 p => p) ev_int rfl) fun rv H1 e1 hrv => ?_
  have hrv : (κ.L H (ptRest f g)).p rv H1 := hrv
  have hf1 := (κ.L nilH f).mo hfv e1
  refine s_asg (ev_ptimes κ (ev_Polys κ (ea_cons (ev_var rfl (κ.obj.mo hk e1)) ea_nil)) (ev_var rfl hf1) (ev_var rfl hrv) ⟨by show f.length + (ptRest f g).length ≤ 1000; omega, hA3⟩) fun wv H2 e2 hwv => ?_
  have hf2 := (κ.L nilH f).mo hf1 e2
  refine s_asg (ev_list (ev_var rfl hf2)) fun ov H3 e3 hov => ?_
  have E3 := e1.trans (e2.trans e3)
  obtain ⟨m, hm⟩ : ∃ m, f.length + 1 = m + 1 := ⟨_, rfl⟩
  have hA40 := hA4
  rw [hm] at hA40
  unfold ptGoT at hA40
  refine s_asg (ev_tix (i := 0) (ev_call (S := sCom κ) (f, ptRest f g) (ea_cons (ev_var rfl (κ.obj.mo hk E3)) (ea_cons (ev_var rfl (an0 hov)) (ea_cons (ev_var rfl (an0 ((κ.L _ _).mo hrv (e2.trans e3)))) ea_nil))) ⟨zf, zr, by show f.length ≤ 50; omega, by show (ptRest f g).length ≤ 50; omega, fun z hz => hA40 z (List.mem_append_left _ hz)⟩) ev_int rfl) fun pv H4 e4 hpv => ?_
  have E4 := E3.trans e4
  refine s_while (fun n σ H' => Same H4 H' ∧ ∃ (one : List F) (ov pv : V), σ = [some kd, some fv, some gv, some rv, some wv, some ov, some pv] ∧ (κ.L H one).p ov H' ∧ (κ.L H (common one (ptRest f g))).p pv H' ∧ ptOk (ptRest f g) n one ∧ κ.Al (ptGoT (ptRest f g) n one) ∧ ptGo (ptRest f g) n one = ptGo (ptRest f g) (f.length + 1) f) (f.length + 1)
    ⟨Same.refl _, f, ov, pv, rfl, κ.famL.an (fun a q => Same.free (e1.trans e2) q) ((κ.L _ _).mo hov e4), κ.famL.an (fun a q => Same.free E3 q) hpv, go, hA4, rfl⟩ ?_
  rintro n σ' H' ⟨e5, one, ov, pv, rfl, hov, hpv, hgo, hA, heq⟩
  obtain ⟨n, rfl⟩ : ∃ p, n = p + 1 := by
    cases n with
    | zero => exact False.elim hgo
    | succ p => exact ⟨p, rfl⟩
  obtain ⟨oz, ol, hgo⟩ := hgo
  unfold ptGoT at hA
  unfold ptGo at heq
  refine ⟨decide (1 < (common one (ptRest f g)).length), et_test (ev_opB (g := fun i j => decide (j < i)) (ev_len (ev_var rfl hpv)) ev_int) |>.to (by rw [decide_eq_decide]; omega), fun hb H6 e6 => ?_, fun hb H6 e6 => ?_⟩
  · have hb : 1 < (common one (ptRest f g)).length := of_decide_eq_true hb
    rw [if_neg (by omega)] at hA heq
    have hgo := hgo.resolve_left (by omega)
    have pne : common one (ptRest f g) ≠ [] := fun e => by rw [e, List.length_nil] at hb; omega
    have pz : lst (common one (ptRest f g)) ≠ 0 := (common_lz _ _).resolve_left pne
    have pl : (common one (ptRest f g)).length ≤ 50 := by have := common_len oz zr; omega
    have E6 := E4.trans (e5.trans e6)
    have hA7 : κ.Al (ptGoT (ptRest f g) n (divided one (common one (ptRest f g))).1) := fun z hz => hA z (List.mem_append_right _ (List.mem_append_right _ hz))
    refine ⟨fun σ H' => Same H4 H' ∧ ∃ (one : List F) (ov pv : V), σ = [some kd, some fv, some gv, some rv, some wv, some ov, some pv] ∧ (κ.L H one).p ov H' ∧ (κ.L H (common one (ptRest f g))).p pv H' ∧ ptOk (ptRest f g) n one ∧ κ.Al (ptGoT (ptRest f g) n one) ∧ ptGo (ptRest f g) n one = ptGo (ptRest f g) (f.length + 1) f, fun σ2 H2 h => ⟨n, Nat.lt_succ_self _, h⟩, ?_⟩
    refine s_asg (ev_tix (i := 0) (ev_call (S := sDiv κ) (one, common one (ptRest f g)) (ea_cons (ev_var rfl (κ.obj.mo hk E6)) (ea_cons (ev_var rfl (an0 ((κ.L _ _).mo hov e6))) (ea_cons (ev_var rfl (an0 ((κ.L _ _).mo hpv e6))) ea_nil))) ⟨pne, pz, by show one.length ≤ 200; omega, by show (common one (ptRest f g)).length ≤ 200; omega, fun z hz => hA z (List.mem_append_right _ (List.mem_append_left _ hz))⟩) ev_int rfl) fun ov2 H7 e7 h7 => ?_
    have h7 : (κ.L H6 (divided one (common one (ptRest f g))).1).p ov2 H7 := h7
    obtain ⟨m, rfl⟩ : ∃ p, n = p + 1 := by
      cases n with
      | zero => exact False.elim hgo
      | succ p => exact ⟨p, rfl⟩
    obtain ⟨oz2, ol2, _⟩ := id hgo
    have E7 := E6.trans e7
    have hA8 := hA7
    unfold ptGoT at hA8
    refine s_asg (ev_tix (i := 0) (ev_call (S := sCom κ) ((divided one (common one (ptRest f g))).1, ptRest f g) (ea_cons (ev_var rfl (κ.obj.mo hk E7)) (ea_cons (ev_var rfl (an0 h7)) (ea_cons (ev_var rfl (an0 ((κ.L _ _).mo hrv (e2.trans (e3.trans (e4.trans (e5.trans (e6.trans e7)))))))) ea_nil))) ⟨oz2, zr, ol2, by show (ptRest f g).length ≤ 50; omega, fun z hz => hA8 z (List.mem_append_left _ hz)⟩) ev_int rfl) fun pv2 H8 e8 h8 => ?_
    exact ⟨e5.trans (e6.trans (e7.trans e8)), _, ov2, pv2, rfl, κ.famL.an (fun a q => Same.free E6 q) ((κ.L _ _).mo h7 e8), κ.famL.an (fun a q => Same.free E7 q) h8, hgo, hA7, heq⟩
  · have hb : ¬ 1 < (common one (ptRest f g)).length := of_decide_eq_false hb
    rw [if_pos (by omega)] at heq
    have E6 := E4.trans (e5.trans e6)
    have ep : (parted f g).1 = one := heq.symm
    have ep2 : (parted f g).2 = (divided (ptimes f (ptRest f g)) one).1 := by rw [heq]; rfl
    rw [ep] at e_ne ze le
    have oz2 : lst one ≠ 0 := ze.resolve_left e_ne
    have wl := ptimes_len f (ptRest f g)
    refine s_ret (ev_tup (Ps := [κ.L H one, κ.L H (divided (ptimes f (ptRest f g)) one).1]) (ea_cons (ev_var rfl ((κ.L _ _).mo hov e6)) (ea_cons (Ev.imp (ev_tix (i := 0) (ev_call (S := sDiv κ) (ptimes f (ptRest f g), one) (ea_cons (ev_var rfl (κ.obj.mo hk E6)) (ea_cons (ev_var rfl (an0 ((κ.L _ _).mo hwv (e3.trans (e4.trans (e5.trans e6)))))) (ea_cons (ev_var rfl (an0 ((κ.L _ _).mo hov e6))) ea_nil))) ⟨e_ne, oz2, by show (ptimes f (ptRest f g)).length ≤ 200; omega, by show one.length ≤ 200; omega, by rw [heq]; exact hA5⟩) ev_int rfl) fun v7 H7 e7 h7 => κ.famL.an (fun a q => Same.free E6 q) h7) ea_nil))) fun v9 H9 e9 h9 => k v9 H9 (E6.trans e9) ?_
    show (TR nilH [κ.L H (parted f g).1, κ.L H (parted f g).2]).p v9 H9
    rw [ep, ep2]
    obtain ⟨a, vs, e, _, h⟩ := h9
    exact ⟨a, vs, e, rfl, h⟩
/-! joined(kind, table, first, second) -/
def Pair2 (G : Hp) (a : List F × List F) : Pr := TR nilH [κ.L G a.1, κ.L G a.2]
omit T in
theorem famP : Fam (Pair2 κ) := ⟨fun g h => by
    obtain ⟨a, vs, e, _, h, v1, r1, e1, p1, v2, r2, e2, p2, e3⟩ := h
    exact ⟨a, vs, e, rfl, h, v1, r1, e1, κ.famL.an g p1, v2, r2, e2, κ.famL.an g p2, e3⟩, fun h => sta_T fun P hP => by
    simp only [List.mem_cons, List.not_mem_nil, or_false] at hP
    rcases hP with rfl | rfl
    · exact κ.famL.st h
    · exact κ.famL.st h⟩
def sJn : Spc where
  ι := List (List F) × (List F × List F) × (List F × List F)
  pre := fun ⟨A, a, b⟩ => A ≠ [] ∧ A.length ≤ 15 ∧ Rect A A.length ∧ JoinedOk A a b ∧ κ.Al (joinedT A a b)
  args := fun ⟨A, a, b⟩ => [κ.obj, κ.T nilH A, Pair2 κ nilH a, Pair2 κ nilH b]
  post := fun ⟨A, a, b⟩ G => Pair2 κ G (joined A a b)
  an := fun {i _ _ _ _} g h => by obtain ⟨t, b, c⟩ := i; exact (famP κ).an g h
-- 0 kind, 1 table, 2 first, 3 second, 4 f, 5 g, 6 left, 7 right, 8 k
theorem ok_joined : Ok P w K mg base 47 ("joined", none) ["kind", "table", "first", "second"] (sJn κ) := by
  refine T.d_joined.ok sc_joined (fun _ => rfl) fun cdv A0 outer s H vs Q E ⟨A, a, b⟩ hr ⟨hne, hm, hrc, hok, hs⟩ ha k => ?_
  obtain ⟨kd, _, rfl, hk, tv, _, rfl, ht, av, _, rfl, hav, bv, _, rfl, hbv, rfl⟩ := ha
  obtain ⟨hpt, e2, z2, l2, hva, hvb⟩ := hok
  have ⟨lf, lg, _, _, _, _, _, e1, z1, l1⟩ := hpt
  have hr_parted : Room 46 _ := hr
  have hr_divided : Room 42 _ := hr.mono (by decide)
  have hr_at_column : Room 43 _ := hr.mono (by decide)
  have hr_π : Room 44 _ := hr.mono (by decide)
  have hr_Polys_init : Room 2 _ := hr.mono (by decide)
  have hr_κ : Room 40 _ := hr.mono (by decide)
  have G_divided := ok_divided κ T
  have G_parted := ok_parted κ T
  have G_at_column := ok_at_column κ T
  have G_Polys_init := ok_Polys_init (P := P) (w := w) (base := base) T
  have π := mq κ T
  have ht : (κ.T nilH A).p tv H := ht
  have hav : (Pair2 κ nilH a).p av H := hav
  have hbv : (Pair2 κ nilH b).p bv H := hbv
  have hm : A.length ≤ 15 := hm
  have hs : κ.Al (joinedT A a b) := hs
  have an0 : ∀ {G : Hp} {x : List F} {u : V} {H' : Hp}, (κ.L G x).p u H' → (κ.L nilH x).p u H' := fun h => κ.famL.an (fun _ _ => rfl) h
  have hA1 : κ.Al (partedT a.1 b.1) := fun z hz => hs z (by simp only [joinedT, List.mem_append]; exact .inl (.inl (.inl (.inl (.inl (.inl hz))))))
  have hA2 : κ.Al (dividedT a.1 (parted a.1 b.1).1) := fun z hz => hs z (by simp only [joinedT, List.mem_append]; exact .inl (.inl (.inl (.inl (.inl (.inr hz))))))
  have hA3 : κ.Al (atColT A a.2 (divided a.1 (parted a.1 b.1).1).1) := fun z hz => hs z (by simp only [joinedT, List.mem_append]; exact .inl (.inl (.inl (.inl (.inr hz)))))
  have hA4 : κ.Al (dividedT b.1 (parted a.1 b.1).2) := fun z hz => hs z (by simp only [joinedT, List.mem_append]; exact .inl (.inl (.inl (.inr hz))))
  have hA5 : κ.Al (atColT A b.2 (divided b.1 (parted a.1 b.1).2).1) := fun z hz => hs z (by simp only [joinedT, List.mem_append]; exact .inl (.inl (.inr hz)))
  have hA6 : κ.Al (ptimesT (parted a.1 b.1).1 (parted a.1 b.1).2) := fun z hz => hs z (by simp only [joinedT, List.mem_append]; exact .inl (.inr hz))
  have hA7 : κ.Al (plusVec (atCol A a.2 (divided a.1 (parted a.1 b.1).1).1) (atCol A b.2 (divided b.1 (parted a.1 b.1).2).1)) := fun z hz => hs z (by simp only [joinedT, List.mem_append]; exact .inr hz)
  have q1 := (divided_len (f := a.1) e1).2.2
  have q2 := (divided_len (f := b.1) e2).2.2
  refine ⟨_, (pss_cons (ps_asg (pe_call G_parted hr_parted rfl T.g_parted T.d_parted.fn.kp T.d_parted.bd .nil pass0 (pa_cons (pv 0) (pa_cons (pe_ix (ixT K) (pv 2) pe_int (fun _ _ => rfl)) (pa_cons (pe_ix (ixT K) (pv 3) pe_int (fun _ _ => rfl)) pa_nil)))) (pg_tupK K (n := 2) rfl (pg_tup (n := 2) rfl (pgs_cons (pg_name (i := 4) sc_joined.nd rfl (Or.inl rfl)) (pgs_cons (pg_name (i := 5) sc_joined.nd rfl (Or.inl rfl)) pgs_nil)))))
      (pss_cons (ps_set (i := 6) sc_joined.nd rfl (Or.inr rfl) (pe_call G_at_column hr_at_column rfl T.g_at_column T.d_at_column.fn.kp T.d_at_column.bd .nil pass0 (pa_cons (pv 0) (pa_cons (pe_ix (ixT K) (pe_call G_divided hr_divided rfl T.g_divided T.d_divided.fn.kp T.d_divided.bd .nil pass0 (pa_cons (pv 0) (pa_cons (pe_ix (ixT K) (pv 2) pe_int (fun _ _ => rfl)) (pa_cons (pv 4) pa_nil)))) pe_int (fun _ _ => rfl)) (pa_cons (pv 1) (pa_cons (pe_ix (ixT K) (pv 2) pe_int (fun _ _ => rfl)) pa_nil))))))
      (pss_cons (ps_set (i := 7) sc_joined.nd rfl (Or.inr rfl) (pe_call G_at_column hr_at_column rfl T.g_at_column T.d_at_column.fn.kp T.d_at_column.bd .nil pass0 (pa_cons (pv 0) (pa_cons (pe_ix (ixT K) (pe_call G_divided hr_divided rfl T.g_divided T.d_divided.fn.kp T.d_divided.bd .nil pass0 (pa_cons (pv 0) (pa_cons (pe_ix (ixT K) (pv 3) pe_int (fun _ _ => rfl)) (pa_cons (pv 5) pa_nil)))) pe_int (fun _ _ => rfl)) (pa_cons (pv 1) (pa_cons (pe_ix (ixT K) (pv 3) pe_int (fun _ _ => rfl)) pa_nil))))))
      (pss_one (ps_ret (pe_tup (pa_cons (pe_meth (pe_make T.mkr_Polys G_Polys_init hr_Polys_init rfl T.g_Polys T.d_Polys_init.bd .nil pass0 (pa_cons (pv 0) pa_nil)) π.cls π.m_times π.times hr_π π.b_times .nil pass0 (pa_cons (pv 4) (pa_cons (pv 5) pa_nil))) (pa_cons (pe_lc (own := [("k", 8)]) rfl sc_joined.nd (pi_range1 (by rfl) T.free_range (pa_cons (pe_callB (lenK K) (by rfl) T.free_len PySem.boot_len (pa_cons (pv 6) pa_nil)) pa_nil)) (blkOk_by (own := [("k", 8)]) (N := ["kind", "table", "first", "second", "f", "g", "left", "right", "k"]) (sc := defScope s_joined) (by decide +kernel)) (fun _ _ _ _ _ => (pg_name (i := 8) sc_joined.nd rfl (Or.inl rfl))) (fun _ _ _ _ _ => pts_nil) (fun _ _ _ _ _ => (pe_meth (pv 0) κ.cls κ.m_plus κ.plus hr_κ κ.b_plus .nil pass0 (pa_cons (pe_ix (ixL K) (pv 6) (pv 8) (fun _ _ => rfl)) (pa_cons (pe_ix (ixL K) (pv 7) (pv 8) (fun _ _ => rfl)) pa_nil))))) pa_nil)))))))), ?_⟩
  refine s_unp2 (ev_call (S := sPt κ) (a.1, b.1) (ea_cons (ev_var rfl hk) (ea_cons (ev_tix (i := 0) (ev_var rfl hav) ev_int rfl) (ea_cons (ev_tix (i := 0) (ev_var rfl hbv) ev_int rfl) ea_nil))) ⟨hpt, hA1⟩) fun fv gv H1 e1' hfv hgv => ?_
  have hk1 := κ.obj.mo hk e1'
  have ht1 := (κ.T nilH A).mo ht e1'
  have hav1 := (Pair2 κ nilH a).mo hav e1'
  have hbv1 := (Pair2 κ nilH b).mo hbv e1'
  refine s_asg (ev_call (S := sAt κ) ((divided a.1 (parted a.1 b.1).1).1, A, a.2) (ea_cons (ev_var rfl hk1) (ea_cons (Ev.imp (ev_tix (i := 0) (ev_call (S := sDiv κ) (a.1, (parted a.1 b.1).1) (ea_cons (ev_var rfl hk1) (ea_cons (ev_tix (i := 0) (ev_var rfl hav1) ev_int rfl) (ea_cons (ev_var rfl (an0 hfv)) ea_nil))) ⟨e1, z1.resolve_left e1, by show a.1.length ≤ 200; omega, by show (parted a.1 b.1).1.length ≤ 200; omega, hA2⟩) ev_int rfl) fun v H2 _ p => an0 p) (ea_cons (ev_var rfl ht1) (ea_cons (ev_tix (i := 1) (ev_var rfl hav1) ev_int rfl) ea_nil)))) ⟨hne, by omega, hrc, hva, by omega, hA3⟩) fun lv H2 e2' hlv => ?_
  have hk2 := κ.obj.mo hk1 e2'
  have ht2 := (κ.T nilH A).mo ht1 e2'
  have hav2 := (Pair2 κ nilH a).mo hav1 e2'
  have hbv2 := (Pair2 κ nilH b).mo hbv1 e2'
  refine s_asg (ev_call (S := sAt κ) ((divided b.1 (parted a.1 b.1).2).1, A, b.2) (ea_cons (ev_var rfl hk2) (ea_cons (Ev.imp (ev_tix (i := 0) (ev_call (S := sDiv κ) (b.1, (parted a.1 b.1).2) (ea_cons (ev_var rfl hk2) (ea_cons (ev_tix (i := 0) (ev_var rfl hbv2) ev_int rfl) (ea_cons (ev_var rfl (an0 ((κ.L _ _).mo hgv e2'))) ea_nil))) ⟨e2, z2.resolve_left e2, by show b.1.length ≤ 200; omega, by show (parted a.1 b.1).2.length ≤ 200; omega, hA4⟩) ev_int rfl) fun v H2 _ p => an0 p) (ea_cons (ev_var rfl ht2) (ea_cons (ev_tix (i := 1) (ev_var rfl hbv2) ev_int rfl) ea_nil)))) ⟨hne, by omega, hrc, hvb, by omega, hA5⟩) fun rv H3 e3 hrv => ?_
  have hlv : (κ.L H1 (atCol A a.2 (divided a.1 (parted a.1 b.1).1).1)).p lv H2 := hlv
  have hrv : (κ.L H2 (atCol A b.2 (divided b.1 (parted a.1 b.1).2).1)).p rv H3 := hrv
  have c1 := atCol_len A a.2 (divided a.1 (parted a.1 b.1).1).1
  have c2 := atCol_len A b.2 (divided b.1 (parted a.1 b.1).2).1
  have E2 := e1'.trans e2'
  have E3 := E2.trans e3
  have e13 := e2'.trans e3
  refine s_ret (ev_tup (Ps := [κ.L H3 (joined A a b).1, κ.L H3 (joined A a b).2]) (ea_cons (ev_ptimes κ (ev_Polys κ (ea_cons (ev_var rfl (κ.obj.mo hk E3)) ea_nil)) (ev_var rfl ((κ.L _ _).mo hfv e13)) (ev_var rfl ((κ.L _ _).mo hgv e13)) ⟨by show (parted a.1 b.1).1.length + (parted a.1 b.1).2.length ≤ 1000; omega, hA6⟩) (ea_cons (ev_lcR κ.fam (fun q => gt (atCol A a.2 (divided a.1 (parted a.1 b.1).1).1) q + gt (atCol A b.2 (divided b.1 (parted a.1 b.1).2).1) q) (ea_cons (ev_len (ev_var rfl ((κ.L _ _).mo hlv e3))) ea_nil) (by omega) (fun _ => rfl) fun q H5 e5 hq => ?_) ea_nil))) fun v9 H9 e9 h9 => k v9 H9 (E3.trans e9) ?_
  · exact ev_plus κ (ev_var rfl (κ.obj.mo hk (E3.trans e5))) (ev_ix (i := q) (ev_var rfl ((κ.L _ _).mo hlv (e3.trans e5))) (ev_vint rfl) (gt_some hq)) (ev_ix (i := q) (ev_var rfl ((κ.L _ _).mo hrv e5)) (ev_vint rfl) (gt_some (by omega))) (hA7 _ (List.mem_map.mpr ⟨q, List.mem_range.mpr hq, rfl⟩))
  · refine (famP κ).an (fun a q => Same.free E3 q) (G := H3) ?_
    obtain ⟨a, vs, e, _, h⟩ := h9
    exact ⟨a, vs, e, rfl, h⟩
/-! least(kind, table) -/
def sLs : Spc where
  ι := List (List F)
  pre := fun A => A ≠ [] ∧ A.length ≤ 15 ∧ Rect A A.length ∧ LeastOk A (unit A.length) ([1], noughts A.length) ∧ κ.Al (leastT A)
  args := fun A => [κ.obj, κ.T nilH A]
  post := fun A G => Pair2 κ G (least A)
  an := fun g h => (famP κ).an g h
-- 0 kind, 1 table, 2 size, 3 told, 4 k, 5 column
theorem ok_least : Ok P w K mg base 48 ("least", none) ["kind", "table"] (sLs κ) := by
  refine T.d_least.ok sc_least (fun _ => rfl) fun cdv A0 outer s H vs Q E (A : List (List F)) hr ⟨hne, hm, hrc, hok, hs⟩ ha k => ?_
  obtain ⟨kd, _, rfl, hk, tv, _, rfl, ht, rfl⟩ := ha
  obtain ⟨dsN, vN_κ, bN_κ⟩ := κ.b_number
  have hr_is_square : Room 1 _ := hr.mono (by decide)
  have hr_unit : Room 41 _ := hr.mono (by decide)
  have hr_joined : Room 47 _ := hr
  have hr_least_of : Room 45 _ := hr.mono (by decide)
  have hr_κ : Room 40 _ := hr.mono (by decide)
  have G_is_square := ok_is_square κ T
  have G_unit := ok_unit κ T
  have G_joined := ok_joined κ T
  have G_least_of := ok_least_of κ T
  have ht : (κ.T nilH A).p tv H := ht
  have hm : A.length ≤ 15 := hm
  have hnc : ncols A = A.length := ncols_eq hrc hne
  have ul : (unit A.length : List (List F)).length = A.length := (unit_rect A.length).2
  refine ⟨_, (pss_cons (ps_if (pt_not (pt_val (pe_call G_is_square hr_is_square rfl T.g_is_square T.d_is_square.fn.kp T.d_is_square.bd .nil pass0 (pa_cons (pv 1) pa_nil)))) pss_never pss_nil)
      (pss_cons (ps_set (i := 2) sc_least.nd rfl (Or.inl rfl) (pe_callB (lenK K) (by rfl) T.free_len PySem.boot_len (pa_cons (pv 1) pa_nil)))
      (pss_cons (ps_set (i := 3) sc_least.nd rfl (Or.inl rfl) (pe_tup (pa_cons (pe_lst (pa_cons (pe_meth (pv 0) κ.cls κ.m_number κ.number hr_κ bN_κ vN_κ pass0 (pa_cons pe_int pa_nil)) pa_nil)) (pa_cons (pe_lc (own := [("k", 4)]) rfl sc_least.nd (pi_range1 (by rfl) T.free_range (pa_cons (pv 2) pa_nil)) (blkOk_by (own := [("k", 4)]) (N := ["kind", "table", "size", "told", "k", "column"]) (sc := defScope s_least) (by decide +kernel)) (fun _ _ _ _ _ => (pg_name (i := 4) sc_least.nd rfl (Or.inl rfl))) (fun _ _ _ _ _ => pts_nil) (fun _ _ _ _ _ => (pe_meth (pv 0) κ.cls κ.m_number κ.number hr_κ bN_κ vN_κ pass0 (pa_cons pe_int pa_nil)))) pa_nil))))
      (pss_cons (ps_for PassesOwn.never rfl (pi_listK K rfl (pe_call G_unit hr_unit rfl T.g_unit T.d_unit.fn.kp T.d_unit.bd .nil pass0 (pa_cons (pv 0) (pa_cons (pv 2) pa_nil)))) (pg_name (i := 5) sc_least.nd rfl (Or.inl rfl)) (pss_cons (ps_set (i := 3) sc_least.nd rfl (Or.inl rfl) (pe_call G_joined hr_joined rfl T.g_joined T.d_joined.fn.kp T.d_joined.bd .nil pass0 (pa_cons (pv 0) (pa_cons (pv 1) (pa_cons (pv 3) (pa_cons (pe_tup (pa_cons (pe_call G_least_of hr_least_of rfl T.g_least_of T.d_least_of.fn.kp T.d_least_of.bd .nil pass0 (pa_cons (pv 0) (pa_cons (pv 1) (pa_cons (pv 5) pa_nil)))) (pa_cons (pv 5) pa_nil))) pa_nil))))))
      (pss_one (ps_if (pt_cmpR op_gt (pe_callB (lenK K) (by rfl) T.free_len PySem.boot_len (pa_cons (pe_ix (ixT K) (pv 3) pe_int (fun _ _ => rfl)) pa_nil)) (pv 2) (nomark _)) (pss_one ps_break) pss_nil))))
      (pss_one (ps_ret (pv 3))))))), ?_⟩
  refine s_ifF ((et_not (et_B (ev_call (S := sIsSquare κ) A (ea_cons (ev_var rfl ht) ea_nil) hne))).to (by rw [hnc]; simp)) fun H1 e1 => ?_
  refine s_asg (ev_len (ev_var rfl ((κ.T nilH A).mo ht e1))) fun v2 H2 e2 h2 => ?_
  cases (show v2 = .int (A.length : Nat) from h2)
  have E2 := e1.trans e2
  have hk2 := κ.obj.mo hk E2
  refine s_asg (ev_tup (Ps := [κ.L H2 [1], κ.L H2 (noughts A.length)]) (ea_cons (ev_lst (R := κ.rep) (xs := [(1 : F)]) (ea_cons (ev_num1 κ (ev_var rfl hk2)) ea_nil)) (ea_cons (ev_lcR κ.fam (fun _ => (0 : F)) (ea_cons (ev_vint rfl) ea_nil) (by omega) (fun _ => rfl) fun i H3 e3 hi => ev_num0 κ (ev_var rfl (κ.obj.mo hk2 e3))) ea_nil))) fun v3 H3 e3 h3 => ?_
  have h3' : (Pair2 κ H ([1], noughts A.length)).p v3 H3 := by
    refine (famP κ).an (fun a q => Same.free E2 q) (G := H2) ?_
    obtain ⟨a, vs, e, _, h⟩ := h3
    exact ⟨a, vs, e, rfl, h⟩
  have E3 := E2.trans e3
  refine s_forL (ev_call (S := sUnit κ) A.length (ea_cons (ev_var rfl (κ.obj.mo hk E3)) (ea_cons (ev_vint rfl) ea_nil)) (by show A.length ≤ 1000; omega))
    (fun H4 i σ H' => Same H4 H' ∧ ∃ (t : List F × List F) (pv : V) (b : Option V), σ = [some kd, some tv, some (.int (A.length : Nat)), some pv, none, b] ∧ (Pair2 κ H t).p pv H' ∧ LeastOk A ((unit A.length).drop i) t ∧ κ.Al (leastGoT A ((unit A.length).drop i) t) ∧ leastGo A ((unit A.length).drop i) t = least A)
    (fun H4 e4 => ⟨Same.refl _, _, v3, none, rfl, (Pair2 κ H _).mo h3' e4, hok, hs, rfl⟩) (fun _ _ _ _ _ p => p.1) ?_ ?_
  · rintro H4 i x u σ' H' e4 hx ⟨e5, t, pv, b, rfl, hpv, hok5, hs5, he5⟩ hu
    have d1 : (unit A.length : List (List F)).drop i = x :: (unit A.length).drop (i + 1) := by
      have hx2 := (List.getElem?_eq_some_iff.mp hx)
      rw [List.drop_eq_getElem_cons hx2.1, hx2.2]
    rw [d1] at hok5 hs5 he5
    obtain ⟨hlo, hjn, hrest⟩ := hok5
    have E5 := E3.trans (e4.trans e5)
    have hu0 : (κ.L nilH x).p u H' := κ.famL.an (fun _ _ => rfl) hu
    have hs5 : κ.Al (leastOfT A x ++ joinedT A t (leastOf A x, x) ++ (if A.length < (joined A t (leastOf A x, x)).1.length then [] else leastGoT A ((unit A.length).drop (i + 1)) (joined A t (leastOf A x, x)))) := hs5
    refine s_asg (ev_call (S := sJn κ) (A, t, (leastOf A x, x)) (ea_cons (ev_var rfl (κ.obj.mo hk E5)) (ea_cons (ev_var rfl ((κ.T nilH A).mo ht E5)) (ea_cons (ev_var rfl ((famP κ).an (fun _ _ => rfl) hpv)) (ea_cons (Ev.imp (ev_tup (Ps := [κ.L nilH (leastOf A x), κ.L nilH x]) (ea_cons (Ev.imp (ev_call (S := sLo κ) (A, x) (ea_cons (ev_var rfl (κ.obj.mo hk E5)) (ea_cons (ev_var rfl ((κ.T nilH A).mo ht E5)) (ea_cons (ev_var rfl hu0) ea_nil))) ⟨hne, hm, hrc, hlo.vl, hlo.fo, fun z hz => hs5 z (List.mem_append_left _ (List.mem_append_left _ hz))⟩) fun v _ _ p => κ.famL.an (fun _ _ => rfl) p) (ea_cons (ev_var rfl hu0) ea_nil))) fun v _ _ p => by
        obtain ⟨a, vs, e, _, h⟩ := p
        exact ⟨a, vs, e, rfl, h⟩) ea_nil)))) ⟨hne, hm, hrc, hjn, fun z hz => hs5 z (List.mem_append_left _ (List.mem_append_right _ hz))⟩) fun jv H6 e6 h6 => ?_
    have h6 : (Pair2 κ H (joined A t (leastOf A x, x))).p jv H6 := (famP κ).an (fun a q => Same.free E5 q) h6
    refine s_if (et_test (ev_opB (g := fun i j => decide (j < i)) (ev_len (ev_tix (i := 0) (ev_var rfl h6) ev_int rfl)) (ev_vint rfl)) |>.to (b' := decide (A.length < (joined A t (leastOf A x, x)).1.length)) (by rw [decide_eq_decide]; omega)) (fun hb H7 e7 => ?_) (fun hb H7 e7 => ?_)
    · have hb := of_decide_eq_true hb
      have he : least A = joined A t (leastOf A x, x) := by rw [← he5]; unfold leastGo; rw [if_pos hb]
      refine s_ret (D := _) (ev_var rfl ((Pair2 κ H _).mo h6 e7)) fun v9 H9 e9 h9 => k v9 H9 (E5.trans (e6.trans (e7.trans e9))) ?_
      show (Pair2 κ H (least A)).p v9 H9
      rw [he]; exact h9
    · have hb := of_decide_eq_false hb
      unfold leastGo at he5
      rw [if_neg hb] at he5
      rw [if_neg hb] at hs5
      exact ⟨e5.trans (e6.trans e7), _, jv, _, rfl, (Pair2 κ H _).mo h6 e7, hrest.resolve_left hb, fun z hz => hs5 z (List.mem_append_right _ hz), he5⟩
  · rintro H4 σ' H' e4 ⟨e5, t, pv, b, rfl, hpv, hok5, hs5, he5⟩
    rw [List.drop_length] at he5
    have he5 : t = least A := he5
    refine s_ret (ev_var rfl hpv) fun v9 H9 e9 h9 => k v9 H9 (E3.trans (e4.trans (e5.trans e9))) ?_
    show (Pair2 κ H (least A)).p v9 H9
    rw [← he5]; exact h9
end
end Tf
set_option maxRecDepth 100000
set_option maxHeartbeats 4000000
namespace Tf
open PySem PySem.Spec PyProof.Rows L2
section
variable {F : Type} [Lean.Grind.Field F] [DecidableEq F]
/-- the way of `parts` -/
def PartsOk : Nat → List (List F) → Prop
  | 0, _ => False
  | n + 1, A => A ≠ [] ∧ A.length ≤ 15 ∧ Rect A A.length ∧ LeastOk A (unit A.length) ([1], noughts A.length) ∧ 2 ≤ (least A).1.length ∧ (least A).1.length ≤ A.length + 1 ∧ (least A).2.length = A.length ∧
    ((least A).1.length = A.length + 1 ∨
      let cs := chained A (least A).2 ((least A).1.length - 1)
      let more := beside A cs
      (solved cs (wanted cs.length)).1 = true ∧ more ≠ [] ∧ more.length ≤ 15 ∧ Rect more A.length ∧ (∀ c ∈ more, (solved (turned more) (image A c)).1 = true) ∧ PartsOk n (within A more) ∧
      (∀ o ∈ (parts n (within A more)).2, o.length = more.length) ∧ (parts n (within A more)).1.length ≤ 50 ∧ (parts n (within A more)).2.length ≤ 50)
structure FrameOk (A : List (List F)) : Prop where
  p : PartsOk A.length A
  n : A.length ≤ 7
  l : (parts A.length A).2.length = A.length
  r : Rect (parts A.length A).2 A.length
  s : (steps (frameTurn A)).2.2.length = A.length
theorem image_rect {A : List (List F)} {cs : List (List F)} : Rect (cs.map (image A)) A.length := fun r hr => by
  obtain ⟨c, _, rfl⟩ := List.mem_map.mp hr
  exact image_len A c
theorem chained_rect {A : List (List F)} {v : List F} (hv : v.length = A.length) (d : Nat) : Rect (chained A v d) A.length := fun r hr => by
  unfold chained at hr
  obtain ⟨k, _, rfl⟩ := List.mem_map.mp hr
  exact pw_len hv k
end
section
variable {P : Program} {w : World} {K : PySem.W.Frag} {mg : Str → Option Value} {base : Heap} {F : Type} [Lean.Grind.Field F] [DecidableEq F] (κ : Kd F P w K mg base) (T : Txt K mg)
include T
/-! beside(kind, table, columns) -/
def sBe : Spc where
  ι := List (List F) × List (List F)
  pre := fun ⟨A, cs⟩ => A ≠ [] ∧ A.length ≤ 15 ∧ Rect A A.length ∧ cs ≠ [] ∧ cs.length ≤ 15 ∧ Rect cs A.length ∧ (solved cs (wanted cs.length)).1 = true ∧ κ.Al (besideT A cs)
  args := fun ⟨A, cs⟩ => [κ.obj, κ.T nilH A, κ.T nilH cs]
  post := fun ⟨A, cs⟩ G => κ.T G (beside A cs)
  an := fun {i _ _ _ _} g h => by obtain ⟨t, b⟩ := i; exact κ.famT.an g h
-- 0 kind, 1 table, 2 columns, 3 wanted, 4 k, 5 row
theorem ok_beside : Ok P w K mg base 45 ("beside", none) ["kind", "table", "columns"] (sBe κ) := by
  refine T.d_beside.ok sc_beside (fun _ => rfl) fun cdv A0 outer s H vs Q E ⟨A, cs⟩ hr ⟨hne, hm, hrc, cne, hcl, hcr, hfo, hs⟩ ha k => ?_
  obtain ⟨kd, _, rfl, hk, tv, _, rfl, ht, cv, _, rfl, hcv, rfl⟩ := ha
  obtain ⟨dsN, vN_κ, bN_κ⟩ := κ.b_number
  have hr_κ : Room 40 _ := hr.mono (by decide)
  have hr_solved : Room 44 _ := hr
  have hr_turned : Room 1 _ := hr.mono (by decide)
  have hr_chained : Room 43 _ := hr.mono (by decide)
  have hr_kernel : Room 44 _ := hr
  have G_solved := ok_solved κ T
  have G_turned := ok_turned κ T
  have G_chained := ok_chained κ T
  have G_kernel := ok_kernel κ T
  have ht : (κ.T nilH A).p tv H := ht
  have hcv : (κ.T nilH cs).p cv H := hcv
  have hm : A.length ≤ 15 := hm
  have hcl : cs.length ≤ 15 := hcl
  have hn0 : 0 < A.length := List.length_pos_iff.mpr hne
  have hc0 : 0 < cs.length := List.length_pos_iff.mpr cne
  have hcn : ncols cs = A.length := ncols_eq hcr cne
  have hwl : (wanted cs.length : List F).length = cs.length := by simp [wanted, noughts]; omega
  have hs : κ.Al (solvedT cs (wanted cs.length) ++ chainedT (turned A) (solved cs (wanted cs.length)).2 cs.length ++ stepsT (chained (turned A) (solved cs (wanted cs.length)).2 cs.length)) := hs
  have hyl : (solved cs (wanted cs.length)).2.length = A.length := by rw [solved_len hfo, hcn]
  obtain ⟨t1, t2, t3, t4⟩ := turned_rect hrc hne hn0
  have hyl2 : (solved cs (wanted cs.length)).2.length = (turned A).length := by rw [hyl, t2]
  have ch_r := chained_rect (A := turned A) hyl2 cs.length
  have ch_l := chained_len (turned A) (solved cs (wanted cs.length)).2 cs.length
  have ch_ne : chained (turned A) (solved cs (wanted cs.length)).2 cs.length ≠ [] := fun e => by rw [e, List.length_nil] at ch_l; omega
  have ch_n := ncols_eq ch_r ch_ne
  have ei : ((cs.length : Nat) : Int) - 1 = ((cs.length - 1 : Nat) : Int) := by omega
  refine ⟨_, (pss_cons (ps_set (i := 3) sc_beside.nd rfl (Or.inl rfl) (pe_op op_cat (pe_lc (own := [("k", 4)]) rfl sc_beside.nd (pi_range1 (by rfl) T.free_range (pa_cons (pe_op op_sub (pe_callB (lenK K) (by rfl) T.free_len PySem.boot_len (pa_cons (pv 2) pa_nil)) pe_int) pa_nil)) (blkOk_by (own := [("k", 4)]) (N := ["kind", "table", "columns", "wanted", "k", "row"]) (sc := defScope s_beside) (by decide +kernel)) (fun _ _ _ _ _ => (pg_name (i := 4) sc_beside.nd rfl (Or.inl rfl))) (fun _ _ _ _ _ => pts_nil) (fun _ _ _ _ _ => (pe_meth (pv 0) κ.cls κ.m_number κ.number hr_κ bN_κ vN_κ pass0 (pa_cons pe_int pa_nil)))) (pe_lst (pa_cons (pe_meth (pv 0) κ.cls κ.m_number κ.number hr_κ bN_κ vN_κ pass0 (pa_cons pe_int pa_nil)) pa_nil))))
      (pss_cons (ps_set (i := 5) sc_beside.nd rfl (Or.inl rfl) (pe_ix (ixT K) (pe_call G_solved hr_solved rfl T.g_solved T.d_solved.fn.kp T.d_solved.bd .nil pass0 (pa_cons (pv 0) (pa_cons (pv 2) (pa_cons (pv 3) pa_nil)))) pe_int (fun _ _ => rfl)))
      (pss_one (ps_ret (pe_call G_kernel hr_kernel rfl T.g_kernel T.d_kernel.fn.kp T.d_kernel.bd .nil pass0 (pa_cons (pv 0) (pa_cons (pe_call G_chained hr_chained rfl T.g_chained T.d_chained.fn.kp T.d_chained.bd .nil pass0 (pa_cons (pv 0) (pa_cons (pe_call G_turned hr_turned rfl T.g_turned T.d_turned.fn.kp T.d_turned.bd .nil pass0 (pa_cons (pv 1) pa_nil)) (pa_cons (pv 5) (pa_cons (pe_callB (lenK K) (by rfl) T.free_len PySem.boot_len (pa_cons (pv 2) pa_nil)) pa_nil))))) pa_nil))))))), ?_⟩
  refine s_asg (ev_cat (ev_lcR κ.fam (fun _ => (0 : F)) (n := cs.length - 1) (ea_cons ((ev_opI (g := fun i j => i - j) (ev_len (ev_var rfl hcv)) ev_int).to (congrArg isI ei)) ea_nil) (by omega) (fun _ => rfl) fun i H1 e1 hi => ev_num0 κ (ev_var rfl (κ.obj.mo hk e1))) (ev_lst (R := κ.rep) (xs := [(1 : F)]) (ea_cons (ev_num1 κ (ev_var rfl hk)) ea_nil)) (by simp; omega)) fun wv H1 e1 h1 => ?_
  have h1 : (κ.L H (wanted cs.length)).p wv H1 := h1
  refine s_asg (ev_tix (i := 1) (ev_call (S := sSol κ) (cs, wanted cs.length) (ea_cons (ev_var rfl (κ.obj.mo hk e1)) (ea_cons (ev_var rfl ((κ.T nilH cs).mo hcv e1)) (ea_cons (ev_var rfl (κ.famL.an (fun _ _ => rfl) h1)) ea_nil))) ⟨cne, by omega, by omega, by rw [hcn]; exact hcr, hwl, fun z hz => hs z (List.mem_append_left _ (List.mem_append_left _ hz))⟩) ev_int rfl) fun yv H2 e2 h2 => ?_
  have h2 : (κ.L H1 (solved cs (wanted cs.length)).2).p yv H2 := h2
  have E2 := e1.trans e2
  refine s_ret (ev_call (S := sKer κ) (chained (turned A) (solved cs (wanted cs.length)).2 cs.length) (ea_cons (ev_var rfl (κ.obj.mo hk E2)) (ea_cons (Ev.imp (ev_call (S := sCh κ) (turned A, (solved cs (wanted cs.length)).2, cs.length) (ea_cons (ev_var rfl (κ.obj.mo hk E2)) (ea_cons (Ev.imp (ev_call (S := sTurned κ) A (ea_cons (ev_var rfl ((κ.T nilH A).mo ht E2)) ea_nil) ⟨hne, by rw [ncols_eq hrc hne]; exact hrc, by omega, by rw [ncols_eq hrc hne]; omega⟩) fun v _ _ p => κ.famT.an (fun _ _ => rfl) p) (ea_cons (ev_var rfl (κ.famL.an (fun _ _ => rfl) h2)) (ea_cons (ev_len (ev_var rfl ((κ.T nilH cs).mo hcv E2))) ea_nil)))) ⟨t1, by omega, by rw [t3] at t4; rw [t2]; exact t4, hyl2, hc0, by omega, fun z hz => hs z (List.mem_append_left _ (List.mem_append_right _ hz))⟩) fun v _ _ p => κ.famT.an (fun _ _ => rfl) p) ea_nil)) ⟨ch_ne, by omega, by omega, by rw [ch_n]; exact ch_r, fun z hz => hs z (List.mem_append_right _ hz)⟩) fun v9 H9 e9 h9 => k v9 H9 (E2.trans e9) ?_
  exact κ.famT.an (x := beside A cs) (fun a q => Same.free E2 q) h9
/-! within(kind, table, columns) -/
def sWi : Spc where
  ι := List (List F) × List (List F)
  pre := fun ⟨A, cs⟩ => A ≠ [] ∧ A.length ≤ 15 ∧ Rect A A.length ∧ cs ≠ [] ∧ cs.length ≤ 15 ∧ Rect cs A.length ∧ (∀ c ∈ cs, (solved (turned cs) (image A c)).1 = true) ∧ κ.Al (withinT A cs)
  args := fun ⟨A, cs⟩ => [κ.obj, κ.T nilH A, κ.T nilH cs]
  post := fun ⟨A, cs⟩ G => κ.T G (within A cs)
  an := fun {i _ _ _ _} g h => by obtain ⟨t, b⟩ := i; exact κ.famT.an g h
-- 0 kind, 1 table, 2 columns, 3 across, 4 column
theorem ok_within : Ok P w K mg base 45 ("within", none) ["kind", "table", "columns"] (sWi κ) := by
  refine T.d_within.ok sc_within (fun _ => rfl) fun cdv A0 outer s H vs Q E ⟨A, cs⟩ hr ⟨hne, hm, hrc, cne, hcl, hcr, hfo, hs⟩ ha k => ?_
  obtain ⟨kd, _, rfl, hk, tv, _, rfl, ht, cv, _, rfl, hcv, rfl⟩ := ha
  have hr_solved : Room 44 _ := hr
  have hr_turned : Room 1 _ := hr.mono (by decide)
  have hr_image : Room 42 _ := hr.mono (by decide)
  have G_solved := ok_solved κ T
  have G_turned := ok_turned κ T
  have G_image := ok_image κ T
  have ht : (κ.T nilH A).p tv H := ht
  have hcv : (κ.T nilH cs).p cv H := hcv
  have hm : A.length ≤ 15 := hm
  have hcl : cs.length ≤ 15 := hcl
  have hn0 : 0 < A.length := List.length_pos_iff.mpr hne
  have hcn : ncols cs = A.length := ncols_eq hcr cne
  obtain ⟨t1, t2, t3, t4⟩ := turned_rect hcr cne hn0
  have hs : κ.Al (cs.flatMap fun c => imageT A c ++ solvedT (turned cs) (image A c)) := hs
  refine ⟨_, (pss_cons (ps_set (i := 3) sc_within.nd rfl (Or.inr rfl) (pe_call G_turned hr_turned rfl T.g_turned T.d_turned.fn.kp T.d_turned.bd .nil pass0 (pa_cons (pv 2) pa_nil)))
      (pss_one (ps_ret (pe_call G_turned hr_turned rfl T.g_turned T.d_turned.fn.kp T.d_turned.bd .nil pass0 (pa_cons (pe_lc (own := [("column", 4)]) rfl sc_within.nd (pi_listK K rfl (pv 2)) (blkOk_by (own := [("column", 4)]) (N := ["kind", "table", "columns", "across", "column"]) (sc := defScope s_within) (by decide +kernel)) (fun _ _ _ _ _ => (pg_name (i := 4) sc_within.nd rfl (Or.inl rfl))) (fun _ _ _ _ _ => pts_nil) (fun _ _ _ _ _ => (pe_ix (ixT K) (pe_call G_solved hr_solved rfl T.g_solved T.d_solved.fn.kp T.d_solved.bd .nil pass0 (pa_cons (pv 0) (pa_cons (pv 3) (pa_cons (pe_call G_image hr_image rfl T.g_image T.d_image.fn.kp T.d_image.bd .nil pass0 (pa_cons (pv 0) (pa_cons (pv 1) (pa_cons (pv 4) pa_nil)))) pa_nil)))) pe_int (fun _ _ => rfl)))) pa_nil))))), ?_⟩
  refine s_asg (ev_call (S := sTurned κ) cs (ea_cons (ev_var rfl hcv) ea_nil) ⟨cne, by rw [hcn]; exact hcr, by omega, by rw [hcn]; omega⟩) fun av H1 e1 h1 => ?_
  have h1 : (κ.T H (turned cs)).p av H1 := h1
  have r2 : Rect (cs.map fun c => (solved (turned cs) (image A c)).2) cs.length := fun r hr => by
    obtain ⟨c, hc, rfl⟩ := List.mem_map.mp hr
    show (solved (turned cs) (image A c)).2.length = _
    rw [solved_len (hfo c hc), t3]
  have n2 : (cs.map fun c => (solved (turned cs) (image A c)).2) ≠ [] := by simpa using cne
  refine s_ret (ev_call (S := sTurned κ) (cs.map fun c => (solved (turned cs) (image A c)).2) (ea_cons (Ev.imp (ev_lcN κ.famL (fun c => (solved (turned cs) (image A c)).2) (ev_var rfl ((κ.T nilH cs).mo hcv e1)) (by omega) (fun _ => rfl) fun i x u H2 e2 hx hu => ?_) fun v _ _ p => κ.famT.an (fun _ _ => rfl) p) ea_nil) ⟨n2, by rw [ncols_eq r2 n2]; exact r2, by rw [List.length_map]; omega, by rw [ncols_eq r2 n2]; omega⟩) fun v9 H9 e9 h9 => k v9 H9 (e1.trans e9) ?_
  · have hxm := List.mem_of_getElem? hx
    have E2 := e1.trans e2
    have hA : ∀ z ∈ imageT A x ++ solvedT (turned cs) (image A x), κ.Sm z := fun z hz => hs z (List.mem_flatMap.mpr ⟨x, hxm, hz⟩)
    have hxl := hcr x hxm
    exact ev_tix (i := 1) (ev_call (S := sSol κ) (turned cs, image A x) (ea_cons (ev_var rfl (κ.obj.mo hk E2)) (ea_cons (ev_var rfl (κ.famT.an (fun _ _ => rfl) ((κ.T H _).mo h1 e2))) (ea_cons (Ev.imp (ev_call (S := sImage κ) (A, x) (ea_cons (ev_var rfl (κ.obj.mo hk E2)) (ea_cons (ev_var rfl ((κ.T nilH A).mo ht E2)) (ea_cons (ev_var rfl hu) ea_nil))) ⟨hne, fun r hr => by rw [hxl]; exact hrc r hr, by show A.length ≤ 1000; omega, fun z hz => hA z (List.mem_append_left _ hz)⟩) fun v _ _ p => κ.famL.an (fun _ _ => rfl) p) ea_nil))) ⟨t1, by omega, by omega, t4, by rw [image_len, t2], fun z hz => hA z (List.mem_append_right _ hz)⟩) ev_int rfl
  · exact κ.famT.an (x := within A cs) (fun a q => Same.free e1 q) h9
/-! parts(kind, table) -/
omit T in
/-- a chain of polynomials, not known to G; the first one is none of the others -/
def CH (G : Hp) (ps : List (List F)) : Pr where
  p := fun v H => ∃ a a0 f fs vs, ps = f :: fs ∧ v = .ref a ∧ G a = none ∧ H a = some (.lst (.ref a0 :: vs)) ∧ a ≠ a0 ∧ (κ.L G f).p (.ref a0) H ∧ Paired (fun x u => (κ.L (upd G a0 (.lst [])) x).p u H) fs vs
  mo := fun ⟨a, a0, f, fs, vs, e0, e, g, h, na, p, q⟩ s => ⟨a, a0, f, fs, vs, e0, e, g, s _ _ h, na, (κ.L _ _).mo p s, Paired.mapP q fun _ _ r => (κ.L _ _).mo r s⟩
omit T in
theorem ch_an {G G' : Hp} {ps : List (List F)} {v : V} {H : Hp} (s : ∀ a, G a = none → G' a = none) (h : (CH κ G ps).p v H) : (CH κ G' ps).p v H := by
  obtain ⟨a, a0, f, fs, vs, e0, e, g, h, na, p, q⟩ := h
  refine ⟨a, a0, f, fs, vs, e0, e, s _ g, h, na, κ.famL.an s p, Paired.mapP q fun _ _ r => κ.famL.an (fun b z => ?_) r⟩
  by_cases eb : b = a0
  · rw [eb, upd_same] at z; cases z
  · rw [upd_ne eb] at z ⊢; exact s _ z
omit T in
theorem ch_lr {G : Hp} {ps : List (List F)} {v : V} {H : Hp} (h : (CH κ G ps).p v H) : (κ.T G ps).p v H := by
  obtain ⟨a, a0, f, fs, vs, rfl, e, g, h, na, p, q⟩ := h
  refine ⟨a, _, e, g, h, .cons p (Paired.mapP q fun _ _ r => κ.famL.an (fr_of_upd ?_) r)⟩
  obtain ⟨b, us, e1, e2, _⟩ := p
  cases e1
  exact e2
def PP (G : Hp) (p : List (List F) × List (List F)) : Pr := TR nilH [CH κ G p.1, κ.T G p.2]
omit T in
theorem pp_an {G G' : Hp} {x : List (List F) × List (List F)} {v : V} {H : Hp} (s : ∀ a, G a = none → G' a = none) (h : (PP κ G x).p v H) : (PP κ G' x).p v H := by
  obtain ⟨a, vs, e, _, h, v1, r1, e1, p1, v2, r2, e2, p2, e3⟩ := h
  exact ⟨a, vs, e, rfl, h, v1, r1, e1, ch_an κ s p1, v2, r2, e2, κ.famT.an s p2, e3⟩
def sParts (n : Nat) : Spc where
  ι := List (List F)
  pre := fun A => PartsOk n A ∧ κ.Al (partsT n A)
  args := fun A => [κ.obj, κ.T nilH A]
  post := fun A G => PP κ G (parts n A)
  an := fun g h => pp_an κ g h
omit T in
theorem ev_ch1 {σ : L2.St} {G H : Hp} {te : TE} {f : List F} (s0 : Same G H) (h : Ev te σ H (κ.L G f)) : Ev (tLst (tCons te tNil)) σ H (CH κ G [f]) := fun H1 s Q q =>
  h H1 s _ fun v H2 s2 p => ⟨small_len (n := 1) (by decide), fun a ha => by
    have ⟨a0, us, e, _, hz, _⟩ := p
    subst e
    exact q _ _ (s2.trans (same_new ha)) ⟨a, a0, f, [], [], rfl, rfl, Same.free (s0.trans (s.trans s2)) ha, upd_same, (fun z => by rw [z, hz] at ha; cases ha), (κ.L _ f).mo p (same_new ha), .nil⟩⟩
omit T in
/-- [f] + chain -/
theorem ev_chC {σ : L2.St} {H G0 G : Hp} {ta tb : TE} {f : List F} {ps : List (List F)} {a0 : Addr} {o : HO} (h : Ev ta σ H (LR (fun x => isV x) H [V.ref a0])) (hf : (κ.L G0 f).p (.ref a0) H) (h' : Ev tb σ H (κ.T G ps)) (s0 : Same G0 G) (hG : G a0 = some o) (sH : Same G0 H) (hl : ps.length ≤ 900) : Ev (tOp rCat ta tb) σ H (CH κ G0 (f :: ps)) :=
  ev_op h h' fun v y H1 s1 ⟨a, vs, e, _, ha, hp⟩ ⟨b, ws, e', _, hb, hq⟩ Q q => by
    cases hp with
    | cons p t =>
      cases t
      cases (show _ = V.ref a0 from p)
      exact ⟨a, b, _, ws, e, e', ha, hb, by rw [← paired_len hq, List.length_singleton]; exact small_len (by omega), fun p hp' =>
        q _ _ (same_new hp') ⟨p, a0, f, ps, ws, rfl, rfl, Same.free (sH.trans s1) hp', upd_same, (fun z => by
          obtain ⟨_, _, ez, _, hz, _⟩ := hf
          cases ez
          rw [z, s1 _ _ hz] at hp'; cases hp'), (κ.L _ _).mo hf (s1.trans (same_new hp')), Paired.mapP hq fun _ _ r => κ.famL.an (fr_upd s0 hG) ((κ.L _ _).mo r (same_new hp'))⟩⟩
-- 0 kind, 1 table, 2 f, 3 column, 4 columns, 5 more, 6 chain, 7 others, 8 across, 9 other
theorem ok_parts : ∀ n, Ok P w K mg base (49 + n) ("parts", none) ["kind", "table"] (sParts κ n)
  | 0 => by
    refine T.d_parts.ok sc_parts (fun _ => rfl) fun cdv A0 outer s H vs Q E (A : List (List F)) hr ⟨h, _⟩ ha k => ?_
    exact False.elim h
  | n + 1 => by
    have G_parts := ok_parts n
    refine T.d_parts.ok (k := 49 + n) sc_parts (fun _ => rfl) fun cdv A0 outer s H vs Q E (A : List (List F)) hr ⟨⟨hne, hm, hrc, hlok, hd2, hdn, hvl, hrest⟩, hs⟩ ha k => ?_
    obtain ⟨kd, _, rfl, hk, tv, _, rfl, ht, rfl⟩ := ha
    have hr_parts : Room (49 + n) _ := hr
    have hr_least : Room 48 _ := hr.mono (by omega)
    have hr_chained : Room 43 _ := hr.mono (by omega)
    have hr_beside : Room 45 _ := hr.mono (by omega)
    have hr_within : Room 45 _ := hr.mono (by omega)
    have hr_turned : Room 1 _ := hr.mono (by omega)
    have hr_image : Room 42 _ := hr.mono (by omega)
    have G_least := ok_least κ T
    have G_chained := ok_chained κ T
    have G_beside := ok_beside κ T
    have G_within := ok_within κ T
    have G_turned := ok_turned κ T
    have G_image := ok_image κ T
    have ht : (κ.T nilH A).p tv H := ht
    have hn0 : 0 < A.length := List.length_pos_iff.mpr hne
    have an0 : ∀ {G : Hp} {x : List F} {u : V} {H' : Hp}, (κ.L G x).p u H' → (κ.L nilH x).p u H' := fun h => κ.famL.an (fun _ _ => rfl) h
    have anT : ∀ {G : Hp} {x : List (List F)} {u : V} {H' : Hp}, (κ.T G x).p u H' → (κ.T nilH x).p u H' := fun h => κ.famT.an (fun _ _ => rfl) h
    have ed : (((least A).1.length : Nat) : Int) - 1 = (((least A).1.length - 1 : Nat) : Int) := by omega
    have hA1 : κ.Al (leastT A) := fun z hz => hs z (List.mem_append_left _ (List.mem_append_left _ hz))
    have hA2 : κ.Al (chainedT A (least A).2 ((least A).1.length - 1)) := fun z hz => hs z (List.mem_append_left _ (List.mem_append_right _ hz))
    have hcl := chained_len A (least A).2 ((least A).1.length - 1)
    have hcr := chained_rect hvl ((least A).1.length - 1)
    refine ⟨_, (pss_cons (ps_asg (pe_call G_least hr_least rfl T.g_least T.d_least.fn.kp T.d_least.bd .nil pass0 (pa_cons (pv 0) (pa_cons (pv 1) pa_nil))) (pg_tupK K (n := 2) rfl (pg_tup (n := 2) rfl (pgs_cons (pg_name (i := 2) sc_parts.nd rfl (Or.inl rfl)) (pgs_cons (pg_name (i := 3) sc_parts.nd rfl (Or.inl rfl)) pgs_nil)))))
      (pss_cons (ps_set (i := 4) sc_parts.nd rfl (Or.inl rfl) (pe_call G_chained hr_chained rfl T.g_chained T.d_chained.fn.kp T.d_chained.bd .nil pass0 (pa_cons (pv 0) (pa_cons (pv 1) (pa_cons (pv 3) (pa_cons (pe_op op_sub (pe_callB (lenK K) (by rfl) T.free_len PySem.boot_len (pa_cons (pv 2) pa_nil)) pe_int) pa_nil))))))
      (pss_cons (ps_if (pt_cmpR op_eq (pe_callB (lenK K) (by rfl) T.free_len PySem.boot_len (pa_cons (pv 4) pa_nil)) (pe_callB (lenK K) (by rfl) T.free_len PySem.boot_len (pa_cons (pv 1) pa_nil)) (nomark _)) (pss_one (ps_ret (pe_tup (pa_cons (pe_lst (pa_cons (pv 2) pa_nil)) (pa_cons (pv 4) pa_nil))))) pss_nil)
      (pss_cons (ps_set (i := 5) sc_parts.nd rfl (Or.inl rfl) (pe_call G_beside hr_beside rfl T.g_beside T.d_beside.fn.kp T.d_beside.bd .nil pass0 (pa_cons (pv 0) (pa_cons (pv 1) (pa_cons (pv 4) pa_nil)))))
      (pss_cons (ps_asg (pe_call G_parts hr_parts rfl T.g_parts T.d_parts.fn.kp T.d_parts.bd .nil pass0 (pa_cons (pv 0) (pa_cons (pe_call G_within hr_within rfl T.g_within T.d_within.fn.kp T.d_within.bd .nil pass0 (pa_cons (pv 0) (pa_cons (pv 1) (pa_cons (pv 5) pa_nil)))) pa_nil))) (pg_tupK K (n := 2) rfl (pg_tup (n := 2) rfl (pgs_cons (pg_name (i := 6) sc_parts.nd rfl (Or.inl rfl)) (pgs_cons (pg_name (i := 7) sc_parts.nd rfl (Or.inl rfl)) pgs_nil)))))
      (pss_cons (ps_set (i := 8) sc_parts.nd rfl (Or.inr rfl) (pe_call G_turned hr_turned rfl T.g_turned T.d_turned.fn.kp T.d_turned.bd .nil pass0 (pa_cons (pv 5) pa_nil)))
      (pss_one (ps_ret (pe_tup (pa_cons (pe_op op_cat (pe_lst (pa_cons (pv 2) pa_nil)) (pv 6)) (pa_cons (pe_op op_cat (pv 4) (pe_lc (own := [("other", 9)]) rfl sc_parts.nd (pi_listK K rfl (pv 7)) (blkOk_by (own := [("other", 9)]) (N := ["kind", "table", "f", "column", "columns", "more", "chain", "others", "across", "other"]) (sc := defScope s_parts) (by decide +kernel)) (fun _ _ _ _ _ => (pg_name (i := 9) sc_parts.nd rfl (Or.inl rfl))) (fun _ _ _ _ _ => pts_nil) (fun _ _ _ _ _ => (pe_call G_image hr_image rfl T.g_image T.d_image.fn.kp T.d_image.bd .nil pass0 (pa_cons (pv 0) (pa_cons (pv 8) (pa_cons (pv 9) pa_nil))))))) pa_nil))))))))))), ?_⟩
    refine s_unp2 (ev_call (S := sLs κ) A (ea_cons (ev_var rfl hk) (ea_cons (ev_var rfl ht) ea_nil)) ⟨hne, hm, hrc, hlok, hA1⟩) fun fv vv H1 e1 hfv hvv => ?_
    have hk1 := κ.obj.mo hk e1
    have ht1 := (κ.T nilH A).mo ht e1
    refine s_asg (ev_call (S := sCh κ) (A, (least A).2, (least A).1.length - 1) (ea_cons (ev_var rfl hk1) (ea_cons (ev_var rfl ht1) (ea_cons (ev_var rfl (an0 hvv)) (ea_cons ((ev_opI (g := fun i j => i - j) (ev_len (ev_var rfl hfv)) ev_int).to (congrArg isI ed)) ea_nil)))) ⟨hne, by omega, hrc, hvl, by omega, by omega, hA2⟩) fun cv H2 e2 hcv => ?_
    have E2 := e1.trans e2
    have hk2 := κ.obj.mo hk E2
    have ht2 := (κ.T nilH A).mo ht E2
    have hcv : (κ.T H1 (chained A (least A).2 ((least A).1.length - 1))).p cv H2 := hcv
    refine s_if (et_test (ev_eqI (ev_len (ev_var rfl hcv)) (ev_len (ev_var rfl ht2))) |>.to (b' := decide ((chained A (least A).2 ((least A).1.length - 1)).length = A.length)) (by rw [decide_eq_decide]; omega)) (fun hb H3 e3 => ?_) (fun hb H3 e3 => ?_)
    · have hb := of_decide_eq_true hb
      have he : parts (n + 1) A = ([(least A).1], chained A (least A).2 ((least A).1.length - 1)) := by
        show (if _ then _ else _) = _
        exact if_pos hb
      have E3 := E2.trans e3
      refine s_ret (ev_tup (Ps := [CH κ H [(least A).1], κ.T H (chained A (least A).2 ((least A).1.length - 1))]) (ea_cons (ev_ch1 κ E3 (ev_var rfl ((κ.L H _).mo hfv (e2.trans e3)))) (ea_cons (ev_var rfl (κ.famT.an (fun a q => Same.free e1 q) ((κ.T H1 _).mo hcv e3))) ea_nil))) fun v9 H9 e9 h9 => k v9 H9 (E3.trans e9) ?_
      show (PP κ H (parts (n + 1) A)).p v9 H9
      rw [he]
      obtain ⟨a, vs, e, _, h⟩ := h9
      exact ⟨a, vs, e, rfl, h⟩
    · have hb := of_decide_eq_false hb
      rw [hcl] at hb
      obtain ⟨hbe, mne, hml, hmr, hwi, hpo, hol, hl1, hl2⟩ := hrest.resolve_left (by omega)
      have hcs0 : chained A (least A).2 ((least A).1.length - 1) ≠ [] := fun e => by rw [e, List.length_nil] at hcl; omega
      have hA3 : κ.Al (besideT A (chained A (least A).2 ((least A).1.length - 1)) ++ withinT A (beside A (chained A (least A).2 ((least A).1.length - 1))) ++ partsT n (within A (beside A (chained A (least A).2 ((least A).1.length - 1)))) ++ (parts n (within A (beside A (chained A (least A).2 ((least A).1.length - 1))))).2.flatMap fun o => imageT (turned (beside A (chained A (least A).2 ((least A).1.length - 1)))) o) := fun z hz => hs z (by
        show z ∈ _ ++ (if _ then _ else _)
        rw [if_neg (by rw [hcl]; exact hb)]
        exact List.mem_append_right _ hz)
      have he : parts (n + 1) A = ((least A).1 :: (parts n (within A (beside A (chained A (least A).2 ((least A).1.length - 1))))).1, chained A (least A).2 ((least A).1.length - 1) ++ (parts n (within A (beside A (chained A (least A).2 ((least A).1.length - 1))))).2.map fun o => image (turned (beside A (chained A (least A).2 ((least A).1.length - 1)))) o) := by
        show (if _ then _ else _) = _
        exact if_neg (by rw [hcl]; exact hb)
      generalize hcs : chained A (least A).2 ((least A).1.length - 1) = cs at *
      generalize hmo : beside A cs = more at *
      have E3 := E2.trans e3
      refine s_asg (ev_call (S := sBe κ) (A, cs) (ea_cons (ev_var rfl (κ.obj.mo hk E3)) (ea_cons (ev_var rfl ((κ.T nilH A).mo ht E3)) (ea_cons (ev_var rfl (anT ((κ.T _ _).mo hcv e3))) ea_nil))) ⟨hne, hm, hrc, hcs0, by omega, hcr, hbe, fun z hz => hA3 z (List.mem_append_left _ (List.mem_append_left _ (List.mem_append_left _ hz)))⟩) fun mv H4 e4 hmv => ?_
      have hmv : (κ.T H3 more).p mv H4 := by rw [← hmo]; exact hmv
      have E4 := E3.trans e4
      refine s_unp2 (ev_call (S := sParts κ n) (within A more) (ea_cons (ev_var rfl (κ.obj.mo hk E4)) (ea_cons (Ev.imp (ev_call (S := sWi κ) (A, more) (ea_cons (ev_var rfl (κ.obj.mo hk E4)) (ea_cons (ev_var rfl ((κ.T nilH A).mo ht E4)) (ea_cons (ev_var rfl (anT hmv)) ea_nil))) ⟨hne, hm, hrc, mne, hml, hmr, hwi, fun z hz => hA3 z (List.mem_append_left _ (List.mem_append_left _ (List.mem_append_right _ hz)))⟩) fun v _ _ p => anT p) ea_nil)) ⟨hpo, fun z hz => hA3 z (List.mem_append_left _ (List.mem_append_right _ hz))⟩) fun chv otv H5 e5 hch hot => ?_
      have E5 := E4.trans e5
      have hmc : ncols more = A.length := ncols_eq hmr mne
      refine s_asg (ev_call (S := sTurned κ) more (ea_cons (ev_var rfl (anT ((κ.T _ _).mo hmv e5))) ea_nil) ⟨mne, by rw [hmc]; exact hmr, by omega, by rw [hmc]; omega⟩) fun acv H6 e6 hac => ?_
      have hac : (κ.T H5 (turned more)).p acv H6 := hac
      have E6 := E5.trans e6
      obtain ⟨t1, t2, t3, t4⟩ := turned_rect hmr mne hn0
      have ⟨a0, us0, e0, _, h00, _⟩ := hfv
      subst e0
      have h04 := (e2.trans (e3.trans e4)) _ _ h00
      refine s_ret (ev_tup (Ps := [CH κ H ((least A).1 :: (parts n (within A more)).1), LR (κ.L H) H6 (cs ++ (parts n (within A more)).2.map fun o => image (turned more) o)])
        (ea_cons (ev_chC κ (ev_lst (R := fun x => isV x) (xs := [V.ref a0]) (ea_cons (ev_var rfl rfl) ea_nil)) ((κ.L H _).mo hfv (e2.trans (e3.trans (e4.trans (e5.trans e6))))) (ev_var rfl (ch_lr κ ((CH κ _ _).mo hch e6))) E4 h04 E6 (by omega))
        (ea_cons (ev_cat (R := κ.L H) (G' := H6) (ev_var (P := LR (κ.L H) nilH cs) rfl (lr_low ((κ.T H1 cs).mo hcv (e3.trans (e4.trans (e5.trans e6)))) (fun _ _ => rfl) fun x u r => κ.famL.an (fun a q => Same.free e1 q) r)) (Ev.imp (ev_lcN κ.famL (fun o => image (turned more) o) (ev_var rfl ((κ.T _ _).mo hot e6)) (by omega) (fun _ => rfl) fun i x u H7 e7 hx hu => ?_) fun v H7 e7 p => lr_low p (fun _ q => q) fun x u r => κ.famL.an (fun a q => Same.free E6 q) r) (by rw [List.length_map]; omega)) ea_nil))) fun v9 H9 e9 h9 => k v9 H9 (E6.trans e9) ?_
      · have hxm := List.mem_of_getElem? hx
        have hxl := hol x hxm
        refine ev_call (S := sImage κ) (turned more, x) (ea_cons (ev_var rfl (κ.obj.mo hk (E6.trans e7))) (ea_cons (ev_var rfl (anT ((κ.T _ _).mo hac e7))) (ea_cons (ev_var rfl (an0 hu)) ea_nil))) ⟨t1, fun r hr => by rw [hxl]; exact turned_row r hr, by show (turned more).length ≤ 1000; omega, fun z hz => hA3 z (List.mem_append_right _ (List.mem_flatMap.mpr ⟨x, hxm, hz⟩))⟩
      · show (PP κ H (parts (n + 1) A)).p v9 H9
        rw [he]
        obtain ⟨a, vs, e, _, h, v1, r1, q1, p1, v2, r2, q2, p2, q3⟩ := h9
        exact ⟨a, vs, e, rfl, h, v1, r1, q1, p1, v2, r2, q2, lr_low p2 (fun a q => Same.free E6 q) fun _ _ r => r, q3⟩
/-! frame(kind, table) -/
omit T in
/-- a list at an address of S, of what R says of xs -/
def LS {α : Type} (R : α → Pr) (S : Addr → Prop) (xs : List α) : Pr where
  p := fun v H => ∃ a vs, v = .ref a ∧ S a ∧ H a = some (.lst vs) ∧ Paired (fun x u => (R x).p u H) xs vs
  mo := fun ⟨a, vs, e, g, h, q⟩ s => ⟨a, vs, e, g, s _ _ h, Paired.mapP q fun _ _ r => (R _).mo r s⟩
omit T in
theorem ls_imp {α : Type} {R R' : α → Pr} {S S' : Addr → Prop} {xs : List α} {v : V} {H : Hp} (h : (LS R S xs).p v H) (hs : ∀ a, S a → S' a) (hr : ∀ x u, (R x).p u H → (R' x).p u H) : (LS R' S' xs).p v H := by
  obtain ⟨a, vs, e, g, h, q⟩ := h
  exact ⟨a, vs, e, hs a g, h, Paired.mapP q fun x u r => hr x u r⟩
omit T in
theorem ls_of {α : Type} {R : α → Pr} {G : Hp} {xs : List α} {v : V} {H : Hp} (h : (LR R G xs).p v H) : (LS R (fun a => G a = none ∧ H a ≠ none) xs).p v H := by
  obtain ⟨a, vs, e, g, h, q⟩ := h
  exact ⟨a, vs, e, ⟨g, by rw [h]; intro z; cases z⟩, h, q⟩
omit T in
theorem sta_LS {α : Type} {R : α → Pr} {S : Addr → Prop} {xs : List α} {d : Addr} (hd : ¬ S d) (hr : ∀ x, Sta (R x) d) : Sta (LS R S xs) d := fun v H o o' e ⟨a, vs, ea, g, h, q⟩ =>
  ⟨a, vs, ea, g, by rw [upd_ne (fun z => hd (by rw [← z]; exact g))]; exact h, Paired.mapP q fun x u r => hr x u H o o' e r⟩
/-- a frame: its chain in S1, its turn in S2, the inverse in S3 -/
def FRS (S1 S2 S3 : Addr → Prop) (C U I : List (List F)) : Pr where
  p := fun v H => ∃ (a c t : Addr) (sv : V), v = .ref a ∧ H a = some (.tup [.ref c, .ref t, sv]) ∧ S1 c ∧
    (∃ (a0 : Addr) (f : List F) (fs : List (List F)) (vs : List V), C = f :: fs ∧ H c = some (.lst (.ref a0 :: vs)) ∧ c ≠ a0 ∧ S1 a0 ∧ (κ.L nilH f).p (.ref a0) H ∧ Paired (fun x u => (LS κ.rep (fun b => S1 b ∧ b ≠ a0) x).p u H) fs vs) ∧
    (LS (LS κ.rep S2) S2 U).p (.ref t) H ∧ (LS (LS κ.rep S3) S3 I).p sv H
  mo := fun ⟨a, c, t, sv, e, h, hc, ⟨a0, f, fs, vs, e1, e2, na, e3, e4, e5⟩, p2, p3⟩ s => ⟨a, c, t, sv, e, s _ _ h, hc, ⟨a0, f, fs, vs, e1, s _ _ e2, na, e3, (κ.L _ _).mo e4 s, Paired.mapP e5 fun _ _ r => (LS _ _ _).mo r s⟩, (LS _ _ _).mo p2 s, (LS _ _ _).mo p3 s⟩
omit T in
theorem frs_imp {S1 S2 S3 S1' S2' S3' : Addr → Prop} {C U I : List (List F)} {v : V} {H : Hp} (h : (FRS κ S1 S2 S3 C U I).p v H) (h1 : ∀ a, S1 a → S1' a) (h2 : ∀ a, S2 a → S2' a) (h3 : ∀ a, S3 a → S3' a) : (FRS κ S1' S2' S3' C U I).p v H := by
  obtain ⟨a, c, t, sv, e, h, hc, ⟨a0, f, fs, vs, e1, e2, na, e3, e4, e5⟩, p2, p3⟩ := h
  exact ⟨a, c, t, sv, e, h, h1 c hc, ⟨a0, f, fs, vs, e1, e2, na, h1 _ e3, e4, Paired.mapP e5 fun _ _ r => ls_imp r (fun b ⟨z1, z2⟩ => ⟨h1 b z1, z2⟩) fun _ _ r => r⟩, ls_imp p2 h2 fun _ _ r => ls_imp r h2 fun _ _ r => r, ls_imp p3 h3 fun _ _ r => ls_imp r h3 fun _ _ r => r⟩
/-- what a frame is: the turn is not known where the chain is made, nor the inverse where the turn is -/
def FR (G : Hp) (A : List (List F)) : Pr where
  p := fun v H => ∃ (G1 G2 G3 : Hp), (∀ a, G1 a = none → G a = none) ∧ (∀ a, G2 a = none → G1 a = none) ∧ (∀ a, G3 a = none → G2 a = none) ∧ (∀ a, H a = none → G3 a = none) ∧
    (FRS κ (fun a => G a = none ∧ G1 a ≠ none) (fun a => G1 a = none ∧ G2 a ≠ none) (fun a => G2 a = none ∧ G3 a ≠ none) (parts A.length A).1 (frameTurn A) (inverse (frameTurn A))).p v H
  mo := fun ⟨G1, G2, G3, m1, m2, m3, m4, p⟩ s => ⟨G1, G2, G3, m1, m2, m3, fun a q => m4 a (Same.free s q), (FRS κ _ _ _ _ _ _).mo p s⟩
def sFrame : Spc where
  ι := List (List F)
  pre := fun A => FrameOk A ∧ κ.Al (frameT A)
  args := fun A => [κ.obj, κ.T nilH A]
  post := fun A G => FR κ G A
  an := fun g ⟨G1, G2, G3, m1, m2, m3, m4, p⟩ => ⟨G1, G2, G3, fun a q => g a (m1 a q), m2, m3, m4, frs_imp κ p (fun a ⟨z1, z2⟩ => ⟨g a z1, z2⟩) (fun _ z => z) fun _ z => z⟩
-- 0 kind, 1 table, 2 chain, 3 columns, 4 turn
theorem ok_frame : Ok P w K mg base 57 ("frame", none) ["kind", "table"] (sFrame κ) := by
  refine T.d_frame.ok sc_frame (fun _ => rfl) fun cdv A0 outer s H vs Q E (A : List (List F)) hr ⟨⟨hp, hn, hl, hrr, hst⟩, hs⟩ ha k => ?_
  obtain ⟨kd, _, rfl, hk, tv, _, rfl, ht, rfl⟩ := ha
  have hr_is_square : Room 1 _ := hr.mono (by decide)
  have hr_turned : Room 1 _ := hr.mono (by decide)
  have hr_inverse : Room 44 _ := hr.mono (by decide)
  have hr_parts : Room (49 + A.length) _ := hr.mono (by omega)
  have G_is_square := ok_is_square κ T
  have G_turned := ok_turned κ T
  have G_inverse := ok_inverse κ T
  have G_parts := ok_parts κ T A.length
  have ht : (κ.T nilH A).p tv H := ht
  have hA0 : A ≠ [] ∧ Rect A A.length := by
    cases h : A.length with
    | zero => rw [h] at hp; exact False.elim hp
    | succ n => rw [h] at hp; exact ⟨hp.1, by rw [← h]; exact hp.2.2.1⟩
  have hn0 : 0 < A.length := List.length_pos_iff.mpr hA0.1
  have hnc : ncols A = A.length := ncols_eq hA0.2 hA0.1
  have cne : (parts A.length A).2 ≠ [] := fun e => by rw [e, List.length_nil] at hl; omega
  obtain ⟨t1, t2, t3, t4⟩ := turned_rect hrr cne hn0
  refine ⟨_, (pss_cons (ps_if (pt_not (pt_val (pe_call G_is_square hr_is_square rfl T.g_is_square T.d_is_square.fn.kp T.d_is_square.bd .nil pass0 (pa_cons (pv 1) pa_nil)))) pss_never pss_nil)
      (pss_cons (ps_asg (pe_call G_parts hr_parts rfl T.g_parts T.d_parts.fn.kp T.d_parts.bd .nil pass0 (pa_cons (pv 0) (pa_cons (pv 1) pa_nil))) (pg_tupK K (n := 2) rfl (pg_tup (n := 2) rfl (pgs_cons (pg_name (i := 2) sc_frame.nd rfl (Or.inl rfl)) (pgs_cons (pg_name (i := 3) sc_frame.nd rfl (Or.inl rfl)) pgs_nil)))))
      (pss_cons (ps_set (i := 4) sc_frame.nd rfl (Or.inl rfl) (pe_call G_turned hr_turned rfl T.g_turned T.d_turned.fn.kp T.d_turned.bd .nil pass0 (pa_cons (pv 3) pa_nil)))
      (pss_one (ps_ret (pe_tup (pa_cons (pv 2) (pa_cons (pv 4) (pa_cons (pe_call G_inverse hr_inverse rfl T.g_inverse T.d_inverse.fn.kp T.d_inverse.bd .nil pass0 (pa_cons (pv 0) (pa_cons (pv 4) pa_nil))) pa_nil))))))))), ?_⟩
  refine s_ifF ((et_not (et_B (ev_call (S := sIsSquare κ) A (ea_cons (ev_var rfl ht) ea_nil) hA0.1))).to (by rw [hnc]; simp)) fun H1 e1 => ?_
  refine s_unp2 (ev_call (S := sParts κ A.length) A (ea_cons (ev_var rfl (κ.obj.mo hk e1)) (ea_cons (ev_var rfl ((κ.T nilH A).mo ht e1)) ea_nil)) ⟨hp, fun z hz => hs z (List.mem_append_left _ hz)⟩) fun cv ov H2 e2 hcv hov => ?_
  have hcv : (CH κ H1 (parts A.length A).1).p cv H2 := hcv
  have hov : (κ.T H1 (parts A.length A).2).p ov H2 := hov
  have hcn : ncols (parts A.length A).2 = A.length := ncols_eq hrr cne
  refine s_asg (ev_call (S := sTurned κ) (parts A.length A).2 (ea_cons (ev_var rfl (κ.famT.an (fun _ _ => rfl) hov)) ea_nil) ⟨cne, by rw [hcn]; exact hrr, by omega, by rw [hcn]; omega⟩) fun uv H3 e3 huv => ?_
  have huv : (κ.T H2 (frameTurn A)).p uv H3 := huv
  have E2 := e1.trans e2
  have E3 := E2.trans e3
  have l1 : (frameTurn A).length = A.length := t2
  have l2 : ncols (frameTurn A) = A.length := by rw [show frameTurn A = turned (parts A.length A).2 from rfl, t3, hl]
  refine s_ret (ev_tup (Ps := [isV cv, isV uv, κ.T H3 (inverse (frameTurn A))]) (ea_cons (ev_var rfl rfl) (ea_cons (ev_var rfl rfl) (ea_cons (ev_call (S := sInv κ) (frameTurn A) (ea_cons (ev_var rfl (κ.obj.mo hk E3)) (ea_cons (ev_var rfl (κ.famT.an (fun _ _ => rfl) huv)) ea_nil)) ⟨t1, by omega, by omega, t4, by omega, fun z hz => hs z (List.mem_append_right _ hz)⟩) ea_nil)))) fun v9 H9 e9 h9 => k v9 H9 (E3.trans e9) ?_
  obtain ⟨a, vs, e, _, h, v1, r1, q1, p1, v2, r2, q2, p2, v3, r3, q3, p3, q4⟩ := h9
  cases (show v1 = cv from p1)
  cases (show v2 = uv from p2)
  have ev : vs = [cv, uv, v3] := by rw [q1, q2, q3, show r3 = [] from q4]
  subst ev
  obtain ⟨c, a0, f, fs, ws, c0, rfl, c2, c3, cna, c4, c5⟩ := ch_an κ (fun a q => Same.free e1 q) hcv
  have ⟨t, us, et, _⟩ := huv
  subst et
  have kn : ∀ {b : Addr} {o : HO} {G : Hp}, G b = some o → G b ≠ none := fun z => by rw [z]; intro z; cases z
  refine ⟨H2, H3, H9, fun a q => Same.free E2 q, fun a q => Same.free e3 q, fun a q => Same.free e9 q, fun a q => q, a, c, t, v3, e, h, ⟨c2, kn c3⟩, ⟨a0, f, fs, ws, c0, (e3.trans e9) _ _ c3, cna, ?_, κ.famL.an (fun _ _ => rfl) ((κ.L _ _).mo c4 (e3.trans e9)), ?_⟩, ?_, ?_⟩
  · obtain ⟨b, _, eb, gb, hb, _⟩ := c4
    cases eb
    exact ⟨gb, kn hb⟩
  · refine Paired.mapP c5 fun x u r => (LS _ _ _).mo (ls_imp (ls_of r) (fun b ⟨z1, z2⟩ => ?_) fun _ _ r => r) (e3.trans e9)
    by_cases eb : b = a0
    · rw [eb, upd_same] at z1; cases z1
    · rw [upd_ne eb] at z1; exact ⟨⟨z1, z2⟩, eb⟩
  · exact (LS _ _ _).mo (ls_imp (ls_of huv) (fun _ z => z) fun x u r => ls_of r) e9
  · exact ls_imp (ls_of p3) (fun _ z => z) fun x u r => ls_of r
end
end Tf
set_option maxRecDepth 100000
set_option maxHeartbeats 4000000
namespace Tf
section
variable {F : Type} [Lean.Grind.Field F] [DecidableEq F]
/-! ### sums -/
def sm : Nat → (Nat → F) → F
  | 0, _ => 0
  | n + 1, f => sm n f + f n
theorem f_add_zero (a : F) : a + 0 = a := by grind
theorem f_zero_add (a : F) : 0 + a = a := by grind
theorem f_mul_zero (a : F) : a * 0 = 0 := by grind
theorem f_zero_mul (a : F) : 0 * a = 0 := by grind
theorem f_mul_one (a : F) : a * 1 = a := by grind
theorem f_one_mul (a : F) : 1 * a = a := by grind
theorem f_mul_comm (a b : F) : a * b = b * a := by grind
theorem f_one_ne : (1 : F) ≠ 0 := by
  intro h
  exact Lean.Grind.Field.zero_ne_one h.symm
theorem f_inv {a : F} (h : a ≠ 0) : a * a⁻¹ = 1 := Lean.Grind.Field.mul_inv_cancel h
theorem f_mul_ne {a b : F} (ha : a ≠ 0) (hb : b ≠ 0) : a * b ≠ 0 := fun h => by
  have h1 := f_inv ha
  have h2 : b = 0 := by
    have : b = a⁻¹ * (a * b) := by grind
    rw [this, h]; grind
  exact hb h2
theorem sm_congr {f g : Nat → F} : ∀ {n : Nat}, (∀ i, i < n → f i = g i) → sm n f = sm n g
  | 0, _ => rfl
  | n + 1, h => by rw [sm, sm, sm_congr (n := n) fun i hi => h i (Nat.lt_succ_of_lt hi), h n (Nat.lt_succ_self n)]
theorem sm_add (f g : Nat → F) : ∀ n, sm n (fun i => f i + g i) = sm n f + sm n g
  | 0 => by simp only [sm]; grind
  | n + 1 => by simp only [sm]; rw [sm_add f g n]; grind
theorem sm_mul (c : F) (f : Nat → F) : ∀ n, sm n (fun i => c * f i) = c * sm n f
  | 0 => by simp only [sm]; grind
  | n + 1 => by simp only [sm]; rw [sm_mul c f n]; grind
theorem sm_zero : ∀ n, sm n (fun _ => (0 : F)) = 0
  | 0 => rfl
  | n + 1 => by simp only [sm]; rw [sm_zero n]; grind
theorem sm_zero' {f : Nat → F} {n : Nat} (h : ∀ i, i < n → f i = 0) : sm n f = 0 := (sm_congr h).trans (sm_zero n)
theorem sm_comm (f : Nat → Nat → F) (m : Nat) : ∀ n, sm m (fun i => sm n (fun j => f i j)) = sm n (fun j => sm m (fun i => f i j))
  | 0 => by simp only [sm]; exact sm_zero m
  | n + 1 => by simp only [sm]; rw [sm_add, sm_comm f m n]
theorem sm_one {f : Nat → F} {k : Nat} : ∀ {n : Nat}, k < n → (∀ i, i < n → i ≠ k → f i = 0) → sm n f = f k
  | 0, h, _ => by omega
  | n + 1, h, z => by
    rw [sm]
    by_cases e : k = n
    · subst e
      rw [sm_zero' fun i hi => z i (Nat.lt_succ_of_lt hi) (by omega)]
      exact f_zero_add _
    · rw [sm_one (n := n) (by omega) fun i hi hne => z i (Nat.lt_succ_of_lt hi) hne, z n (Nat.lt_succ_self n) (Ne.symm e)]
      exact f_add_zero _
theorem sm_front (f : Nat → F) : ∀ n, sm (n + 1) f = f 0 + sm n (fun i => f (i + 1))
  | 0 => by simp only [sm]; grind
  | n + 1 => by rw [sm, sm_front f n, sm]; grind
theorem sm_more {f : Nat → F} {m : Nat} : ∀ {n : Nat}, m ≤ n → (∀ i, m ≤ i → i < n → f i = 0) → sm n f = sm m f := by
  intro n h
  induction h with
  | refl => exact fun _ => rfl
  | step h ih => exact fun z => by rw [sm, ih fun i a b => z i a (Nat.lt_succ_of_lt b), z _ h (Nat.lt_succ_self _), f_add_zero]
theorem sm_plus (f : Nat → F) (m : Nat) : ∀ n, sm (m + n) f = sm m f + sm n (fun i => f (m + i))
  | 0 => by simp only [sm, Nat.add_zero]; grind
  | n + 1 => by rw [← Nat.add_assoc, sm, sm_plus f m n, sm]; grind
/-! ### lists as functions -/
theorem gt_nil (i : Nat) : gt ([] : List F) i = 0 := rfl
theorem gt_cons0 (x : F) (xs : List F) : gt (x :: xs) 0 = x := rfl
theorem gt_consS (x : F) (xs : List F) (i : Nat) : gt (x :: xs) (i + 1) = gt xs i := rfl
theorem gt_ge {xs : List F} {i : Nat} (h : xs.length ≤ i) : gt xs i = 0 := by
  unfold gt
  rw [List.getD_eq_getElem?_getD, List.getElem?_eq_none h]
  rfl
theorem gt_get {xs : List F} {i : Nat} (h : i < xs.length) : gt xs i = xs[i] := by
  unfold gt
  rw [List.getD_eq_getElem?_getD, List.getElem?_eq_getElem h]
  rfl
theorem gt_map {α : Type} (f : α → F) (xs : List α) (i : Nat) : gt (xs.map f) i = match xs[i]? with | some x => f x | none => 0 := by
  unfold gt
  rw [List.getD_eq_getElem?_getD, List.getElem?_map]
  cases xs[i]? <;> rfl
theorem gt_range (f : Nat → F) (n i : Nat) : gt ((List.range n).map f) i = if i < n then f i else 0 := by
  rw [gt_map]
  by_cases h : i < n
  · rw [List.getElem?_range h, if_pos h]
  · rw [List.getElem?_eq_none (by simp; omega), if_neg h]
theorem gt_append (xs ys : List F) (i : Nat) : gt (xs ++ ys) i = if i < xs.length then gt xs i else gt ys (i - xs.length) := by
  unfold gt
  rw [List.getD_eq_getElem?_getD, List.getElem?_append]
  split <;> rw [List.getD_eq_getElem?_getD]
theorem gt_set (xs : List F) (i : Nat) (x : F) (h : i < xs.length) (j : Nat) : gt (xs.set i x) j = if j = i then x else gt xs j := by
  unfold gt
  rw [List.getD_eq_getElem?_getD, List.getElem?_set]
  by_cases e : j = i
  · rw [if_pos e, if_pos e.symm, if_pos h]; rfl
  · rw [if_neg e, if_neg (Ne.symm e), List.getD_eq_getElem?_getD]
theorem ext_gt {xs ys : List F} (hl : xs.length = ys.length) (h : ∀ i, i < xs.length → gt xs i = gt ys i) : xs = ys := by
  apply List.ext_getElem hl
  intro i h1 h2
  have := h i h1
  rwa [gt_get h1, gt_get h2] at this
theorem gt_noughts (n i : Nat) : gt (noughts n : List F) i = 0 := by
  unfold noughts
  rw [gt_range]
  split <;> rfl
theorem rw_ge {t : List (List F)} {i : Nat} (h : t.length ≤ i) : rw_ t i = [] := by
  unfold rw_
  rw [List.getD_eq_getElem?_getD, List.getElem?_eq_none h]
  rfl
theorem rw_get {t : List (List F)} {i : Nat} (h : i < t.length) : rw_ t i = t[i] := by
  unfold rw_
  rw [List.getD_eq_getElem?_getD, List.getElem?_eq_getElem h]
  rfl
theorem rw_in {t : List (List F)} {i : Nat} (h : i < t.length) : rw_ t i ∈ t := by rw [rw_get h]; exact List.getElem_mem h
theorem rw_map {α : Type} (f : α → List F) (xs : List α) (i : Nat) : rw_ (xs.map f) i = match xs[i]? with | some x => f x | none => [] := by
  unfold rw_
  rw [List.getD_eq_getElem?_getD, List.getElem?_map]
  cases xs[i]? <;> rfl
/-- the number of a row and a column -/
def en (t : List (List F)) (i j : Nat) : F := gt (rw_ t i) j
theorem en_row {t : List (List F)} {i : Nat} (h : t.length ≤ i) (j : Nat) : en t i j = 0 := by unfold en; rw [rw_ge h]; rfl
theorem en_col {t : List (List F)} {n : Nat} (hr : Rect t n) {j : Nat} (h : n ≤ j) (i : Nat) : en t i j = 0 := by
  by_cases hi : i < t.length
  · unfold en; exact gt_ge (by rw [hr _ (rw_in hi)]; exact h)
  · exact en_row (by omega) j
theorem ext_en {s t : List (List F)} {n : Nat} (hl : s.length = t.length) (hs : Rect s n) (ht : Rect t n) (h : ∀ i j, i < s.length → j < n → en s i j = en t i j) : s = t := by
  apply List.ext_getElem hl
  intro i h1 h2
  have e1 := hs _ (List.getElem_mem h1)
  have e2 := ht _ (List.getElem_mem h2)
  refine ext_gt (by rw [e1, e2]) fun j hj => ?_
  have := h i j h1 (by omega)
  unfold en at this
  rwa [rw_get h1, rw_get h2] at this
/-! ### functions as vectors -/
abbrev Vc (F : Type) := Nat → F
def Sup (n : Nat) (v : Vc F) : Prop := ∀ i, n ≤ i → v i = 0
theorem sup_gt (xs : List F) : Sup xs.length (gt xs) := fun i h => gt_ge h
def mul (t : List (List F)) (n : Nat) (c : Vc F) : Vc F := fun i => sm n fun j => en t i j * c j
theorem dotL_eq : ∀ (xs ys : List F) (acc : F), xs.length = ys.length → dotL acc xs ys = acc + sm xs.length fun i => gt xs i * gt ys i
  | [], _, acc, _ => by simp only [dotL, List.length_nil, sm]; grind
  | x :: xs, [], acc, h => by simp at h
  | x :: xs, y :: ys, acc, h => by
    rw [dotL, dotL_eq xs ys _ (by simpa using h), List.length_cons, sm_front]
    simp only [gt_cons0, gt_consS]
    grind
theorem dot_eq {xs ys : List F} (h : xs.length = ys.length) : dot xs ys = sm xs.length fun i => gt xs i * gt ys i := by
  unfold dot; rw [dotL_eq _ _ _ h, f_zero_add]
theorem gt_image {A : List (List F)} {n : Nat} (hA : Rect A n) {v : List F} (hv : v.length = n) : gt (image A v) = mul A n (gt v) := by
  funext i
  unfold image
  rw [gt_map]
  by_cases h : i < A.length
  · rw [List.getElem?_eq_getElem h]
    have hl := hA _ (List.getElem_mem h)
    show dot A[i] v = _
    rw [dot_eq (by rw [hl, hv]), hl]
    unfold mul en
    rw [rw_get h]
  · rw [List.getElem?_eq_none (by omega)]
    unfold mul
    exact (sm_zero' fun j _ => by rw [en_row (by omega)]; exact f_zero_mul _).symm
theorem mul_add (t : List (List F)) (n : Nat) (v w : Vc F) : mul t n (fun i => v i + w i) = fun i => mul t n v i + mul t n w i := by
  funext i; unfold mul; rw [← sm_add]; exact sm_congr fun j _ => by grind
theorem mul_smul (t : List (List F)) (n : Nat) (c : F) (v : Vc F) : mul t n (fun i => c * v i) = fun i => c * mul t n v i := by
  funext i; unfold mul; rw [← sm_mul]; exact sm_congr fun j _ => by grind
theorem mul_zero (t : List (List F)) (n : Nat) : mul t n (fun _ => 0) = fun _ => 0 := by
  funext i; unfold mul; exact sm_zero' fun j _ => f_mul_zero _
theorem mul_sup {t : List (List F)} {m n : Nat} (h : t.length ≤ m) (v : Vc F) : Sup m (mul t n v) := fun i hi => sm_zero' fun j _ => by rw [en_row (by omega)]; exact f_zero_mul _
theorem mul_congr {t : List (List F)} {n : Nat} {v w : Vc F} (h : ∀ i, i < n → v i = w i) : mul t n v = mul t n w := by
  funext i; unfold mul; exact sm_congr fun j hj => by rw [h j hj]
theorem mul_sum (t : List (List F)) (n : Nat) (f : Nat → Vc F) (c : Nat → F) : ∀ k, mul t n (fun i => sm k fun l => c l * f l i) = fun i => sm k fun l => c l * mul t n (f l) i := by
  intro k; funext i
  unfold mul
  calc sm n (fun j => en t i j * sm k fun l => c l * f l j) = sm n (fun j => sm k fun l => en t i j * (c l * f l j)) := sm_congr fun j _ => (sm_mul _ _ _).symm
    _ = sm k (fun l => sm n fun j => en t i j * (c l * f l j)) := sm_comm _ _ _
    _ = _ := sm_congr fun l _ => by rw [← sm_mul]; exact sm_congr fun j _ => by grind
theorem en_turned {cs : List (List F)} (h : Rect cs (ncols cs)) (i j : Nat) : en (turned cs) i j = en cs j i := by
  by_cases hi : i < ncols cs
  · have e : rw_ (turned cs) i = cs.map fun r => gt r i := by
      unfold turned
      rw [rw_map, List.getElem?_range hi]
    unfold en
    rw [e, gt_map]
    by_cases hj : j < cs.length
    · rw [List.getElem?_eq_getElem hj, rw_get hj]
    · rw [List.getElem?_eq_none (by omega), rw_ge (by omega)]; rfl
  · rw [en_col h (by omega), en_row (by rw [turned_len]; omega)]
theorem en_unit (n i j : Nat) : en (unit n : List (List F)) i j = if i = j ∧ i < n then 1 else 0 := by
  unfold en unit
  rw [rw_map]
  by_cases hi : i < n
  · rw [List.getElem?_range hi]
    show gt (unitRow n i) j = _
    unfold unitRow
    rw [gt_range]
    by_cases e : i = j
    · subst e; simp [hi]
    · simp [e]
  · rw [List.getElem?_eq_none (by simp; omega), if_neg (fun h => hi h.2)]; rfl
/-- the vector of a place -/
def ev (k : Nat) : Vc F := fun i => if i = k then 1 else 0
theorem vec_sum {n : Nat} {v : Vc F} (h : Sup n v) : v = fun i => sm n fun k => v k * ev k i := by
  funext i
  by_cases hi : i < n
  · rw [sm_one (k := i) hi (fun k _ hne => by unfold ev; rw [if_neg (Ne.symm hne)]; exact f_mul_zero _)]
    unfold ev; rw [if_pos rfl, f_mul_one]
  · rw [h i (by omega), sm_zero' fun k hk => by unfold ev; rw [if_neg (by omega)]; exact f_mul_zero _]
end
end Tf
set_option maxRecDepth 100000
set_option maxHeartbeats 4000000
namespace Tf
section
variable {F : Type} [Lean.Grind.Field F] [DecidableEq F]
/-! ### turns act on columns -/
def tact : Turn F → Vc F → Vc F
  | .swap a b, v => fun i => if i = b then v a else if i = a then v b else v i
  | .scale a c, v => fun i => if i = a then c * v a else v i
  | .add a b c, v => fun i => if i = a then v a + c * v b else v i
def tinv : Turn F → Turn F
  | .swap a b => .swap a b
  | .scale a c => .scale a c⁻¹
  | .add a b c => .add a b (0 - c)
def tacts : List (Turn F) → Vc F → Vc F
  | [], v => v
  | u :: us, v => tacts us (tact u v)
theorem tacts_append (us ws : List (Turn F)) (v : Vc F) : tacts (us ++ ws) v = tacts ws (tacts us v) := by
  induction us generalizing v with
  | nil => rfl
  | cons u us ih => exact ih _
theorem rw_set {t : List (List F)} {a : Nat} (h : a < t.length) (r : List F) (i : Nat) : rw_ (t.set a r) i = if i = a then r else rw_ t i := by
  unfold rw_
  rw [List.getD_eq_getElem?_getD, List.getElem?_set]
  by_cases e : i = a
  · rw [if_pos e, if_pos e.symm, if_pos h]; rfl
  · rw [if_neg e, if_neg (Ne.symm e), List.getD_eq_getElem?_getD]
theorem gt_smul (c : F) (xs : List F) (i : Nat) : gt (xs.map fun x => c * x) i = c * gt xs i := by
  rw [gt_map]
  by_cases h : i < xs.length
  · rw [List.getElem?_eq_getElem h, gt_get h]
  · rw [List.getElem?_eq_none (by omega), gt_ge (by omega), f_mul_zero]
theorem gt_addRow (c : F) : ∀ (xs ys : List F), xs.length = ys.length → ∀ i, gt (addRow c xs ys) i = gt xs i + c * gt ys i
  | [], [], _, i => by simp only [addRow, gt_nil]; grind
  | [], _ :: _, h, _ => by simp at h
  | _ :: _, [], h, _ => by simp at h
  | x :: xs, y :: ys, h, 0 => rfl
  | x :: xs, y :: ys, h, i + 1 => by simp only [addRow, gt_consS]; exact gt_addRow c xs ys (by simpa using h) i
theorem en_behind {t : List (List F)} {n : Nat} (hr : Rect t n) {u : Turn F} (hu : u.ok t.length) (i j : Nat) : en (rowsBehind t u) i j = tact u (fun i => en t i j) i := by
  cases u with
  | swap a b =>
    obtain ⟨h1, h2, _⟩ := hu
    show gt (rw_ ((t.set a (rw_ t b)).set b (rw_ t a)) i) j = if i = b then gt (rw_ t a) j else if i = a then gt (rw_ t b) j else gt (rw_ t i) j
    rw [rw_set (by simpa using h2), rw_set h1]
    split
    · rfl
    · split <;> rfl
  | scale a c =>
    show gt (rw_ (t.set a ((rw_ t a).map fun x => c * x)) i) j = if i = a then c * gt (rw_ t a) j else gt (rw_ t i) j
    rw [rw_set hu.1]
    split
    · exact gt_smul c _ j
    · rfl
  | add a b c =>
    obtain ⟨h1, h2, _⟩ := hu
    show gt (rw_ (t.set a (addRow c (rw_ t a) (rw_ t b))) i) j = if i = a then gt (rw_ t a) j + c * gt (rw_ t b) j else gt (rw_ t i) j
    rw [rw_set h1]
    split
    · exact gt_addRow c _ _ (by rw [hr _ (rw_in h1), hr _ (rw_in h2)]) j
    · rfl
theorem behind_len (t : List (List F)) (u : Turn F) : (rowsBehind t u).length = t.length := by cases u <;> simp [rowsBehind]
theorem en_done {n : Nat} : ∀ (us : List (Turn F)) {t : List (List F)}, Rect t n → (∀ u ∈ us, u.ok t.length) → ∀ i j, en (done t us) i j = tacts us (fun i => en t i j) i
  | [], _, _, _, _, _ => rfl
  | u :: us, t, hr, hu, i, j => by
    have h1 := hu u (List.mem_cons_self ..)
    have hr2 : Rect (rowsBehind t u) n := (done_rect [u] hr (fun w hw => by rw [List.mem_singleton] at hw; rw [hw]; exact h1)).1
    show en (done (rowsBehind t u) us) i j = tacts us (tact u fun i => en t i j) i
    rw [en_done us hr2 (fun w hw => by rw [behind_len]; exact hu w (List.mem_cons_of_mem _ hw)) i j]
    congr 1
    funext i'
    exact en_behind hr h1 i' j
theorem tact_sum (u : Turn F) (f : Nat → Vc F) (c : Nat → F) (k : Nat) : tact u (fun i => sm k fun l => c l * f l i) = fun i => sm k fun l => c l * tact u (f l) i := by
  funext i
  cases u with
  | swap a b => unfold tact; dsimp only; split <;> (try split) <;> rfl
  | scale a d =>
    unfold tact; dsimp only
    split
    · rw [← sm_mul]; exact sm_congr fun l _ => by grind
    · rfl
  | add a b d =>
    unfold tact; dsimp only
    split
    · rw [← sm_mul, ← sm_add]; exact sm_congr fun l _ => by grind
    · rfl
theorem tacts_sum (us : List (Turn F)) (c : Nat → F) (k : Nat) : ∀ (f : Nat → Vc F), tacts us (fun i => sm k fun l => c l * f l i) = fun i => sm k fun l => c l * tacts us (f l) i := by
  induction us with
  | nil => exact fun _ => rfl
  | cons u us ih => exact fun f => by unfold tacts; rw [tact_sum, ih]
theorem tinv_l {u : Turn F} {m : Nat} (hu : u.ok m) (v : Vc F) : tact (tinv u) (tact u v) = v := by
  funext i
  cases u with
  | swap a b => unfold tinv tact; dsimp only; obtain ⟨_, _, h⟩ := hu; split <;> (try split) <;> (try split) <;> simp_all
  | scale a c =>
    unfold tinv tact; dsimp only
    split
    · rename_i e; rw [if_pos rfl, e]; have := f_inv hu.2; grind
    · rfl
  | add a b c =>
    obtain ⟨_, _, h⟩ := hu
    unfold tinv tact; dsimp only
    split
    · rename_i e; rw [if_pos rfl, if_neg (Ne.symm h), e]; grind
    · rfl
theorem tinv_r {u : Turn F} {m : Nat} (hu : u.ok m) (v : Vc F) : tact u (tact (tinv u) v) = v := by
  funext i
  cases u with
  | swap a b => unfold tinv tact; dsimp only; obtain ⟨_, _, h⟩ := hu; split <;> (try split) <;> (try split) <;> simp_all
  | scale a c =>
    unfold tinv tact; dsimp only
    split
    · rename_i e; rw [if_pos rfl, e]; have := f_inv hu.2; grind
    · rfl
  | add a b c =>
    obtain ⟨_, _, h⟩ := hu
    unfold tinv tact; dsimp only
    split
    · rename_i e; rw [if_pos rfl, if_neg (Ne.symm h), e]; grind
    · rfl
theorem tact_sup {u : Turn F} {m : Nat} (hu : u.ok m) {v : Vc F} (hv : Sup m v) : Sup m (tact u v) := fun i hi => by
  cases u with
  | swap a b => obtain ⟨h1, h2, _⟩ := hu; unfold tact; dsimp only; rw [if_neg (by omega), if_neg (by omega)]; exact hv i hi
  | scale a c => have := hu.1; unfold tact; dsimp only; rw [if_neg (by omega)]; exact hv i hi
  | add a b c => obtain ⟨h1, h2, _⟩ := hu; unfold tact; dsimp only; rw [if_neg (by omega)]; exact hv i hi
theorem tinv_ok {u : Turn F} {m : Nat} (hu : u.ok m) : (tinv u).ok m := by
  cases u with
  | swap a b => exact hu
  | scale a c => exact ⟨hu.1, inv_ne hu.2⟩
  | add a b c => exact hu
theorem tacts_inj {m : Nat} : ∀ {us : List (Turn F)}, (∀ u ∈ us, u.ok m) → ∀ {v w : Vc F}, tacts us v = tacts us w → v = w
  | [], _, _, _, h => h
  | u :: us, hu, v, w, h => by
    have h1 := tacts_inj (fun x hx => hu x (List.mem_cons_of_mem _ hx)) h
    have h2 := congrArg (tact (tinv u)) h1
    rwa [tinv_l (hu u (List.mem_cons_self ..)), tinv_l (hu u (List.mem_cons_self ..))] at h2
theorem tacts_sup {m : Nat} : ∀ {us : List (Turn F)}, (∀ u ∈ us, u.ok m) → ∀ {v : Vc F}, Sup m v → Sup m (tacts us v)
  | [], _, _, h => h
  | u :: us, hu, v, h => tacts_sup (fun x hx => hu x (List.mem_cons_of_mem _ hx)) (tact_sup (hu u (List.mem_cons_self ..)) h)
theorem tacts_surj {m : Nat} : ∀ {us : List (Turn F)}, (∀ u ∈ us, u.ok m) → ∀ {w : Vc F}, Sup m w → ∃ v, Sup m v ∧ tacts us v = w
  | [], _, w, h => ⟨w, h, rfl⟩
  | u :: us, hu, w, h => by
    obtain ⟨v, h1, h2⟩ := tacts_surj (fun x hx => hu x (List.mem_cons_of_mem _ hx)) h
    have hu0 := hu u (List.mem_cons_self ..)
    exact ⟨tact (tinv u) v, tact_sup (tinv_ok hu0) h1, by unfold tacts; rw [tinv_r hu0]; exact h2⟩
/-! ### steps -/
theorem lowGo_none {rows : List (List F)} {c : Nat} : ∀ {n i : Nat}, lowGo rows c n i = none → ∀ q, q < n → en rows (i + q) c = 0
  | 0, _, _, _, h => by omega
  | n + 1, i, e, q, h => by
    unfold lowGo at e
    split at e
    · rename_i h0
      cases q with
      | zero => exact h0
      | succ q => have := lowGo_none e q (by omega); rwa [show i + 1 + q = i + (q + 1) by omega] at this
    · cases e
theorem firstLow_none {rows : List (List F)} {s c : Nat} (h : firstLow rows s c = none) : ∀ i, s ≤ i → en rows i c = 0 := fun i hi => by
  by_cases hl : i < rows.length
  · have := lowGo_none h (i - s) (by omega)
    rwa [show s + (i - s) = i by omega] at this
  · exact en_row (by omega) c
theorem tacts_lead (rows : List (List F)) (r low c : Nat) (v : Vc F) (i : Nat) : tacts (leadTurns rows r low c) v i = if i = r then (en rows low c)⁻¹ * v low else if i = low then v r else v i := by
  unfold leadTurns
  split
  · rename_i e
    subst e
    show tact (.scale low (gt (rw_ rows low) c)⁻¹) v i = _
    unfold tact; dsimp only
    split
    · rfl
    · rfl
  · rename_i e
    show tact (.scale r (gt (rw_ rows low) c)⁻¹) (tact (.swap r low) v) i = _
    unfold tact; dsimp only
    split
    · rw [if_neg (Ne.symm e), if_pos rfl]; rfl
    · rfl
theorem tacts_clear (rows : List (List F)) (r c : Nat) (v : Vc F) : ∀ (n i : Nat), tacts (clearTo rows r c n) v i = if i < n ∧ i ≠ r then v i - en rows i c * v r else v i
  | 0, i => by rw [if_neg (by omega)]; rfl
  | n + 1, i => by
    have ih := tacts_clear rows r c v n
    have hr : tacts (clearTo rows r c n) v r = v r := by rw [ih, if_neg (fun h => h.2 rfl)]
    show tacts (clearTo rows r c n ++ clearAt rows r c n) v i = _
    rw [tacts_append]
    unfold clearAt
    split
    · rename_i e
      show tacts (clearTo rows r c n) v i = _
      rw [ih]
      by_cases h : i < n ∧ i ≠ r
      · rw [if_pos h, if_pos ⟨by omega, h.2⟩]
      · rw [if_neg h, if_neg (by omega)]
    · rename_i e
      split
      · rename_i h0
        show tacts (clearTo rows r c n) v i = _
        rw [ih]
        by_cases h : i < n ∧ i ≠ r
        · rw [if_pos h, if_pos ⟨by omega, h.2⟩]
        · rw [if_neg h]
          by_cases hn : i = n
          · subst hn
            rw [if_pos ⟨by omega, e⟩]
            have : en rows i c = 0 := h0
            rw [this]; grind
          · rw [if_neg (by omega)]
      · show tact (.add n r (0 - gt (rw_ rows n) c)) (tacts (clearTo rows r c n) v) i = _
        unfold tact; dsimp only
        by_cases hn : i = n
        · subst hn
          rw [if_pos rfl, hr, ih, if_neg (by omega), if_pos ⟨by omega, e⟩]
          unfold en
          grind
        · rw [if_neg hn, ih]
          by_cases h : i < n ∧ i ≠ r
          · rw [if_pos h, if_pos ⟨by omega, h.2⟩]
          · rw [if_neg h, if_neg (by omega)]
structure StOk (t : List (List F)) (n k : Nat) (s : Stp F) : Prop where
  rect : Rect s.1 n
  len : s.1.length = t.length
  ok : ∀ u ∈ s.2.1, u.ok t.length
  col : ∀ i j, en s.1 i j = tacts s.2.1 (fun i => en t i j) i
  le : s.2.2.length ≤ t.length
  lt : ∀ l ∈ s.2.2, l < k
  nd : s.2.2.Nodup
  un : ∀ a l : Nat, s.2.2[a]? = some l → ∀ i, i < t.length → en s.1 i l = if i = a then 1 else 0
  zr : ∀ i j, s.2.2.length ≤ i → j < k → en s.1 i j = 0
  cnt : ((List.range k).filter fun j => decide (j ∉ s.2.2)).length + s.2.2.length = k
theorem stepsTo_inv {t : List (List F)} {n : Nat} (hr : Rect t n) : ∀ k, k ≤ n → StOk t n k (stepsTo t k)
  | 0, _ => ⟨hr, rfl, fun u h => (by cases h), fun _ _ => rfl, Nat.zero_le _, fun l h => (by cases h), List.nodup_nil, fun a l h => (by cases h), fun _ _ _ h => (by omega), rfl⟩
  | k + 1, hk => by
    have ih := stepsTo_inv hr k (by omega)
    have h0 := (stepsTo_ok hr (k + 1))
    have h1 := (leads_lt hr (k + 1))
    show StOk t n (k + 1) (stepCol (stepsTo t k) k)
    replace h0 : (Rect (stepCol (stepsTo t k) k).1 n ∧ (stepCol (stepsTo t k) k).1.length = t.length) ∧ (∀ u ∈ (stepCol (stepsTo t k) k).2.1, u.ok t.length) := h0
    replace h1 : (∀ l ∈ (stepCol (stepsTo t k) k).2.2, l < k + 1) ∧ (stepCol (stepsTo t k) k).2.2.length ≤ t.length := h1
    generalize hs : stepsTo t k = s at *
    obtain ⟨rows, us, leads⟩ := s
    obtain ⟨c1, c2, c3, c4, c5, c6, c7, c8, c9, c10⟩ := ih
    have flt : ∀ L : List Nat, (∀ j, j < k → (j ∈ L ↔ j ∈ leads)) → ((List.range k).filter fun j => decide (j ∉ L)) = (List.range k).filter fun j => decide (j ∉ leads) := fun L hL => List.filter_congr fun j hj => by
      have := hL j (List.mem_range.mp hj)
      simp only [this]
    cases hf : firstLow rows leads.length k with
    | none =>
      have e : stepCol (rows, us, leads) k = (rows, us, leads) := by unfold stepCol; dsimp only; rw [hf]
      rw [e] at h0 h1 ⊢
      refine ⟨c1, c2, c3, c4, c5, h1.1, c7, c8, fun i j h2 h3 => ?_, ?_⟩
      · rcases Nat.lt_or_ge j k with h | h
        · exact c9 i j h2 h
        · obtain rfl : j = k := by omega
          exact firstLow_none hf i h2
      · have hk' : k ∉ leads := fun h => Nat.lt_irrefl _ (c6 k h)
        rw [List.range_succ, List.filter_append, List.length_append]
        simp only [List.filter_cons, List.filter_nil, hk', not_false_iff, decide_true, if_true, List.length_singleton]
        have := c10
        dsimp only at this ⊢
        omega
    | some low =>
      obtain ⟨l1, l2, l3⟩ := firstLow_some hf
      have e : stepCol (rows, us, leads) k = (done (done rows (leadTurns rows leads.length low k)) (clearTurns (done rows (leadTurns rows leads.length low k)) leads.length k), us ++ leadTurns rows leads.length low k ++ clearTurns (done rows (leadTurns rows leads.length low k)) leads.length k, leads ++ [k]) := by unfold stepCol; dsimp only; rw [hf]
      rw [e] at h0 h1 ⊢
      dsimp only at c1 c2 c3 c4 c5 c6 c7 c8 c9 c10 l2
      have rlt : leads.length < t.length := by omega
      have ok1 : ∀ u ∈ leadTurns rows leads.length low k, u.ok rows.length := leadTurns_ok l1 l2 l3
      obtain ⟨d1, d2⟩ := done_rect _ c1 ok1
      have ok2 : ∀ u ∈ clearTurns (done rows (leadTurns rows leads.length low k)) leads.length k, u.ok (done rows (leadTurns rows leads.length low k)).length := clearTo_ok (by rw [d2]; omega) _ (Nat.le_refl _)
      have en1 := en_done _ c1 ok1
      have en2 := en_done _ d1 ok2
      have full : ∀ i j, i < t.length → en (done (done rows (leadTurns rows leads.length low k)) (clearTurns (done rows (leadTurns rows leads.length low k)) leads.length k)) i j = if i ≠ leads.length then tacts (leadTurns rows leads.length low k) (fun i => en rows i j) i - tacts (leadTurns rows leads.length low k) (fun i => en rows i k) i * ((en rows low k)⁻¹ * en rows low j) else (en rows low k)⁻¹ * en rows low j := fun i j hi => by
        rw [en2]
        unfold clearTurns
        rw [tacts_clear, en1, en1, en1, tacts_lead rows _ _ _ _ leads.length, if_pos rfl, d2, c2]
        by_cases h : i = leads.length
        · rw [if_neg (fun z => z.2 h), if_neg (fun z => z h), h, tacts_lead, if_pos rfl]
        · rw [if_pos ⟨hi, h⟩, if_pos h]
      refine ⟨h0.1.1, h0.1.2, h0.2, fun i j => ?_, h1.2, h1.1, ?_, fun a l hal i hi => ?_, fun i j hi hj => ?_, ?_⟩
      · rw [en2]
        dsimp only
        rw [List.append_assoc, tacts_append, tacts_append]
        congr 2
        funext i'
        rw [en1]
        congr 1
        funext i2
        exact c4 i2 j
      · dsimp only
        rw [List.nodup_append]
        refine ⟨c7, by simp, fun a ha b hb => ?_⟩
        rw [List.mem_singleton] at hb
        have := c6 a ha
        omega
      · dsimp only at hal ⊢
        rw [full i l hi]
        rw [List.getElem?_append] at hal
        split at hal
        · rename_i ha
          have u := c8 a l hal
          have u2 : en rows low l = 0 := by rw [u low (by omega), if_neg (by omega)]
          rw [u2]
          by_cases h : i = leads.length
          · rw [if_neg (fun z => z h), if_neg (by omega)]; exact f_mul_zero _
          · rw [if_pos h, tacts_lead, if_neg h]
            by_cases h2 : i = low
            · rw [if_pos h2, u _ rlt, if_neg (by omega), if_neg (by omega)]; grind
            · rw [if_neg h2, u i hi]; grind
        · rename_i ha
          have e1 : a = leads.length ∧ l = k := by
            have hal2 : (some l : Option Nat) = ([k] : List Nat)[a - leads.length]? := hal.symm
            cases hz : a - leads.length with
            | zero => rw [hz] at hal2; simp at hal2; omega
            | succ q => rw [hz] at hal2; simp at hal2
          obtain ⟨rfl, rfl⟩ := e1
          have hx := f_inv l3
          have hx : en rows low l * (en rows low l)⁻¹ = 1 := hx
          by_cases h : i = leads.length
          · rw [if_neg (fun z => z h), if_pos h]; grind
          · rw [if_pos h, if_neg h]; grind
      · dsimp only at hi ⊢
        rw [List.length_append, List.length_singleton] at hi
        by_cases hl : i < t.length
        · rw [full i j hl, if_pos (by omega)]
          rcases Nat.lt_or_ge j k with h | h
          · have z := fun q (hq : leads.length ≤ q) => c9 q j hq h
            rw [z low l1, tacts_lead, if_neg (by omega)]
            by_cases h2 : i = low
            · rw [if_pos h2, z _ (Nat.le_refl _)]; grind
            · rw [if_neg h2, z i (by omega)]; grind
          · obtain rfl : j = k := by omega
            have hx : en rows low j * (en rows low j)⁻¹ = 1 := f_inv l3
            grind
        · exact en_row (by have := h0.1.2; dsimp only at this; omega) j
      · have hk' : k ∉ leads := fun h => Nat.lt_irrefl _ (c6 k h)
        dsimp only
        have e0 : ([k].filter fun j => decide (j ∉ leads ++ [k])) = [] := by simp
        rw [List.range_succ, List.filter_append, List.length_append, List.length_append, flt (leads ++ [k]) (fun j hj => by simp; omega), e0]
        simp only [List.length_nil, List.length_singleton]
        omega
end
end Tf
set_option maxRecDepth 100000
set_option maxHeartbeats 4000000
namespace Tf
section
variable {F : Type} [Lean.Grind.Field F] [DecidableEq F]
theorem steps_inv {t : List (List F)} (hr : Rect t (ncols t)) : StOk t (ncols t) (ncols t) (steps t) := stepsTo_inv hr _ (Nat.le_refl _)
theorem mul_tacts {t : List (List F)} (hr : Rect t (ncols t)) (c : Vc F) : mul (steps t).1 (ncols t) c = tacts (steps t).2.1 (mul t (ncols t) c) := by
  have h := steps_inv hr
  have e : mul t (ncols t) c = fun i => sm (ncols t) fun j => c j * en t i j := by funext i; unfold mul; exact sm_congr fun j _ => f_mul_comm _ _
  rw [e, tacts_sum (steps t).2.1 c (ncols t) (fun j i => en t i j)]
  funext i
  unfold mul
  exact sm_congr fun j _ => by rw [h.col, f_mul_comm]
theorem en_right {t : List (List F)} (hr : Rect t (ncols t)) {b : List F} (hb : b.length = t.length) (i : Nat) : en (rightOf t b) i 0 = tacts (steps t).2.1 (gt b) i := by
  have h := steps_inv hr
  unfold rightOf
  rw [en_done (n := 1) _ (fun r hr => by obtain ⟨x, _, rfl⟩ := List.mem_map.mp hr; rfl) (by rw [List.length_map, hb]; exact h.ok)]
  congr 1
  funext i'
  unfold en
  rw [rw_map]
  by_cases hi : i' < b.length
  · rw [List.getElem?_eq_getElem hi, gt_get hi]; rfl
  · rw [List.getElem?_eq_none (by omega), gt_ge (xs := b) (by omega)]; rfl
theorem scGo_out (right : List (List F)) : ∀ (ls : List Nat) (k : Nat) (c : List F) (j : Nat), j ∉ ls → (∀ l ∈ ls, l < c.length) → gt (scGo right k ls c) j = gt c j
  | [], _, _, _, _, _ => rfl
  | l :: ls, k, c, j, hj, hc => by
    rw [List.mem_cons, not_or] at hj
    rw [scGo, scGo_out right ls (k + 1) _ j hj.2 (by rw [List.length_set]; exact fun x hx => hc x (List.mem_cons_of_mem _ hx)), gt_set _ _ _ (hc l (List.mem_cons_self ..)), if_neg hj.1]
theorem scGo_in (right : List (List F)) : ∀ (ls : List Nat) (k : Nat) (c : List F) (a j : Nat), ls.Nodup → ls[a]? = some j → (∀ l ∈ ls, l < c.length) → gt (scGo right k ls c) j = en right (k + a) 0
  | [], _, _, _, _, _, h, _ => by cases h
  | l :: ls, k, c, 0, j, nd, h, hc => by
    cases h
    rw [List.nodup_cons] at nd
    rw [scGo, scGo_out right ls (k + 1) _ l nd.1 (by rw [List.length_set]; exact fun x hx => hc x (List.mem_cons_of_mem _ hx)), gt_set _ _ _ (hc l (List.mem_cons_self ..)), if_pos rfl]
    rfl
  | l :: ls, k, c, a + 1, j, nd, h, hc => by
    rw [List.nodup_cons] at nd
    rw [scGo, scGo_in right ls (k + 1) _ a j nd.2 h (by rw [List.length_set]; exact fun x hx => hc x (List.mem_cons_of_mem _ hx))]
    congr 1; omega
theorem kcGo_out (R : List (List F)) (free : Nat) : ∀ (ls : List Nat) (k : Nat) (c : List F) (j : Nat), j ∉ ls → (∀ l ∈ ls, l < c.length) → gt (kcGo R free k ls c) j = gt c j
  | [], _, _, _, _, _ => rfl
  | l :: ls, k, c, j, hj, hc => by
    rw [List.mem_cons, not_or] at hj
    rw [kcGo, kcGo_out R free ls (k + 1) _ j hj.2 (by rw [List.length_set]; exact fun x hx => hc x (List.mem_cons_of_mem _ hx)), gt_set _ _ _ (hc l (List.mem_cons_self ..)), if_neg hj.1]
theorem kcGo_in (R : List (List F)) (free : Nat) : ∀ (ls : List Nat) (k : Nat) (c : List F) (a j : Nat), ls.Nodup → ls[a]? = some j → (∀ l ∈ ls, l < c.length) → gt (kcGo R free k ls c) j = 0 - en R (k + a) free
  | [], _, _, _, _, _, h, _ => by cases h
  | l :: ls, k, c, 0, j, nd, h, hc => by
    cases h
    rw [List.nodup_cons] at nd
    rw [kcGo, kcGo_out R free ls (k + 1) _ l nd.1 (by rw [List.length_set]; exact fun x hx => hc x (List.mem_cons_of_mem _ hx)), gt_set _ _ _ (hc l (List.mem_cons_self ..)), if_pos rfl]
    rfl
  | l :: ls, k, c, a + 1, j, nd, h, hc => by
    rw [List.nodup_cons] at nd
    rw [kcGo, kcGo_in R free ls (k + 1) _ a j nd.2 h (by rw [List.length_set]; exact fun x hx => hc x (List.mem_cons_of_mem _ hx))]
    congr 2; omega
theorem kcGo_len (R : List (List F)) (free : Nat) : ∀ (ls : List Nat) (k : Nat) (c : List F), (kcGo R free k ls c).length = c.length
  | [], _, _ => rfl
  | l :: ls, k, c => by rw [kcGo, kcGo_len R free ls]; simp
/-- on the lead columns alone -/
theorem mul_leads {t : List (List F)} (hr : Rect t (ncols t)) {y : Vc F} (hy : ∀ j, j ∉ (steps t).2.2 → y j = 0) (i : Nat) : mul (steps t).1 (ncols t) y i = match (steps t).2.2[i]? with | some l => y l | none => 0 := by
  have h := steps_inv hr
  have oth : ∀ j, j < ncols t → (steps t).2.2[i]? ≠ some j → en (steps t).1 i j * y j = 0 := fun j hj hne => by
    by_cases hm : j ∈ (steps t).2.2
    · obtain ⟨a, ha⟩ := List.mem_iff_getElem?.mp hm
      by_cases hi : i < t.length
      · rw [h.un a j ha i hi, if_neg (fun e => hne (by rw [e]; exact ha))]; exact f_zero_mul _
      · rw [en_row (by rw [h.len]; omega)]; exact f_zero_mul _
    · rw [hy j hm]; exact f_mul_zero _
  unfold mul
  cases hl : (steps t).2.2[i]? with
  | none => exact sm_zero' fun j hj => oth j hj (by rw [hl]; simp)
  | some l =>
    have hi : i < (steps t).2.2.length := (List.getElem?_eq_some_iff.mp hl).1
    rw [sm_one (k := l) (h.lt l (List.mem_of_getElem? hl)) fun j hj hne => oth j hj (by rw [hl]; exact fun e => hne (Option.some.inj e).symm)]
    rw [h.un i l hl i (by have := h.le; omega), if_pos rfl]
    exact f_one_mul _
theorem sol_found {t : List (List F)} (hr : Rect t (ncols t)) {b : List F} (hb : b.length = t.length) (hf : (solved t b).1 = true) : mul t (ncols t) (gt (solved t b).2) = gt b := by
  have h := steps_inv hr
  unfold solved at hf ⊢
  split at hf
  · cases hf
  · rename_i hn
    dsimp only
    refine tacts_inj h.ok ?_
    rw [← mul_tacts hr]
    funext i
    have lc : ∀ l ∈ (steps t).2.2, l < (noughts (ncols t) : List F).length := fun l hl => by simpa [noughts] using h.lt l hl
    rw [mul_leads hr (fun j hj => by rw [scGo_out _ _ _ _ _ hj lc, gt_noughts])]
    cases hl : (steps t).2.2[i]? with
    | some l =>
      dsimp only
      rw [scGo_in _ _ _ _ i l h.nd hl lc, Nat.zero_add, en_right hr hb]
    | none =>
      dsimp only
      rw [← en_right hr hb]
      exact (firstLow_none hn i (by rw [List.getElem?_eq_none_iff] at hl; exact hl)).symm
theorem sol_never {t : List (List F)} (hr : Rect t (ncols t)) {b : List F} (hb : b.length = t.length) (c : Vc F) (hc : mul t (ncols t) c = gt b) : (solved t b).1 = true := by
  have h := steps_inv hr
  unfold solved
  split
  · rename_i a hn
    exfalso
    obtain ⟨l1, l2, l3⟩ := firstLow_some hn
    apply l3
    show en (rightOf t b) a 0 = 0
    rw [en_right hr hb, ← hc, ← mul_tacts hr]
    unfold mul
    exact sm_zero' fun j hj => by rw [h.zr a j l1 hj]; exact f_zero_mul _
  · rfl
/-! kernels -/
def freeOf (t : List (List F)) : List Nat := (List.range (ncols t)).filter fun j => decide (j ∉ (steps t).2.2)
theorem free_mem {t : List (List F)} {j : Nat} : j ∈ freeOf t ↔ j < ncols t ∧ j ∉ (steps t).2.2 := by
  unfold freeOf; rw [List.mem_filter, List.mem_range]; simp
theorem free_nd (t : List (List F)) : (freeOf t).Nodup := List.Nodup.sublist List.filter_sublist List.nodup_range
theorem kernel_eq (t : List (List F)) : kernel t = (freeOf t).map (kernelCol (steps t).1 (steps t).2.2) := rfl
theorem ker_len {t : List (List F)} (hr : Rect t (ncols t)) : (kernel t).length + (steps t).2.2.length = ncols t := by
  rw [kernel_eq, List.length_map]; exact (steps_inv hr).cnt
theorem steps_ncols {t : List (List F)} (hr : Rect t (ncols t)) (hne : t ≠ []) : ncols (steps t).1 = ncols t := by
  have h := steps_inv hr
  exact ncols_eq h.rect fun e => hne (List.length_eq_zero_iff.mp (by rw [← h.len, e]; rfl))
theorem kcol {t : List (List F)} (hr : Rect t (ncols t)) (hne : t ≠ []) {f : Nat} (hf : f ∈ freeOf t) (j : Nat) :
    gt (kernelCol (steps t).1 (steps t).2.2 f) j = (if j = f then 1 else 0) + (if j ∈ (steps t).2.2 then gt (kernelCol (steps t).1 (steps t).2.2 f) j else 0) ∧ (∀ i, (steps t).2.2[i]? = some j → gt (kernelCol (steps t).1 (steps t).2.2 f) j = 0 - en (steps t).1 i f) := by
  have h := steps_inv hr
  obtain ⟨f1, f2⟩ := free_mem.mp hf
  have ln : ((noughts (ncols t) : List F).set f 1).length = ncols t := by simp [noughts]
  have lc : ∀ l ∈ (steps t).2.2, l < ((noughts (ncols t) : List F).set f 1).length := fun l hl => by rw [ln]; exact h.lt l hl
  unfold kernelCol
  rw [steps_ncols hr hne]
  refine ⟨?_, fun i hi => by rw [kcGo_in _ _ _ _ _ i j h.nd hi lc, Nat.zero_add]⟩
  by_cases hj : j ∈ (steps t).2.2
  · rw [if_neg (fun e => f2 (by rw [← e]; exact hj)), if_pos hj, f_zero_add]
  · rw [if_neg hj, kcGo_out _ _ _ _ _ _ hj lc, gt_set _ _ _ (by simpa [noughts] using f1), gt_noughts]
    exact (f_add_zero _).symm
theorem kcol_len {t : List (List F)} (hr : Rect t (ncols t)) (hne : t ≠ []) (f : Nat) : (kernelCol (steps t).1 (steps t).2.2 f).length = ncols t := by
  unfold kernelCol
  rw [steps_ncols hr hne, kcGo_len]; simp [noughts]
theorem ker_rect {t : List (List F)} (hr : Rect t (ncols t)) (hne : t ≠ []) : Rect (kernel t) (ncols t) := fun r h => by
  rw [kernel_eq] at h
  obtain ⟨f, _, rfl⟩ := List.mem_map.mp h
  exact kcol_len hr hne f
theorem kcol_zero {t : List (List F)} (hr : Rect t (ncols t)) (hne : t ≠ []) {f : Nat} (hf : f ∈ freeOf t) : mul t (ncols t) (gt (kernelCol (steps t).1 (steps t).2.2 f)) = fun _ => 0 := by
  have h := steps_inv hr
  obtain ⟨f1, f2⟩ := free_mem.mp hf
  refine tacts_inj h.ok ?_
  rw [← mul_tacts hr]
  have z : tacts (steps t).2.1 (fun _ => (0 : F)) = fun _ => 0 := tacts_sum (steps t).2.1 (fun _ => (0 : F)) 0 (fun _ _ => 0)
  rw [z]
  funext i
  have e : gt (kernelCol (steps t).1 (steps t).2.2 f) = fun j => (if j = f then 1 else 0) + (if j ∈ (steps t).2.2 then gt (kernelCol (steps t).1 (steps t).2.2 f) j else 0) := by
    funext j; exact (kcol hr hne hf j).1
  rw [e, mul_add (steps t).1 (ncols t) (fun j => if j = f then 1 else 0)]
  dsimp only
  rw [mul_leads hr (y := fun j => if j ∈ (steps t).2.2 then gt (kernelCol (steps t).1 (steps t).2.2 f) j else 0) (fun j hj => if_neg hj)]
  have e1 : mul (steps t).1 (ncols t) (fun j => if j = f then 1 else 0) i = en (steps t).1 i f := by
    unfold mul
    rw [sm_one (k := f) f1 (fun j _ hne => by show _ * (if j = f then 1 else 0) = _; rw [if_neg hne]; exact f_mul_zero _)]
    show _ * (if f = f then 1 else 0) = _
    rw [if_pos rfl, f_mul_one]
  rw [e1]
  cases hl : (steps t).2.2[i]? with
  | some l =>
    dsimp only
    rw [if_pos (List.mem_of_getElem? hl), (kcol hr hne hf l).2 i hl]
    grind
  | none =>
    dsimp only
    rw [h.zr i f (by rw [List.getElem?_eq_none_iff] at hl; exact hl) f1]
    grind
theorem ker_mem {t : List (List F)} (hr : Rect t (ncols t)) (hne : t ≠ []) {k : List F} (hk : k ∈ kernel t) : mul t (ncols t) (gt k) = fun _ => 0 := by
  rw [kernel_eq] at hk
  obtain ⟨f, hf, rfl⟩ := List.mem_map.mp hk
  exact kcol_zero hr hne hf
theorem ker_en {t : List (List F)} (hr : Rect t (ncols t)) (hne : t ≠ []) {l : Nat} {f : Nat} (hl : (freeOf t)[l]? = some f) (j : Nat) : en (kernel t) l j = gt (kernelCol (steps t).1 (steps t).2.2 f) j := by
  unfold en
  rw [kernel_eq, rw_map, hl]
theorem ker_delta {t : List (List F)} (hr : Rect t (ncols t)) (hne : t ≠ []) {l k f : Nat} (hl : l < (kernel t).length) (hk : (freeOf t)[k]? = some f) : en (kernel t) l f = if l = k then 1 else 0 := by
  have hl2 : l < (freeOf t).length := by rw [kernel_eq, List.length_map] at hl; exact hl
  have hg := List.getElem?_eq_getElem hl2
  rw [ker_en hr hne hg, (kcol hr hne (List.getElem_mem hl2) f).1, if_neg (fun e => (free_mem.mp (List.mem_of_getElem? hk)).2 e), f_add_zero]
  by_cases e : l = k
  · subst e; rw [if_pos rfl]; rw [hg] at hk; rw [if_pos (Option.some.inj hk).symm]
  · rw [if_neg e, if_neg]
    intro e2
    obtain ⟨hk1, hk2⟩ := List.getElem?_eq_some_iff.mp hk
    have pw := List.pairwise_iff_getElem.mp (free_nd t)
    rcases Nat.lt_or_gt_of_ne e with h | h
    · exact pw l k hl2 hk1 h (by rw [hk2, e2])
    · exact pw k l hk1 hl2 h (by rw [hk2, e2])
theorem ker_ind {t : List (List F)} (hr : Rect t (ncols t)) (hne : t ≠ []) {c : Nat → F} (h : ∀ i, sm (kernel t).length (fun l => c l * en (kernel t) l i) = 0) : ∀ l, l < (kernel t).length → c l = 0 := fun l hl => by
  have hl2 : l < (freeOf t).length := by rw [kernel_eq, List.length_map] at hl; exact hl
  have hg := List.getElem?_eq_getElem hl2
  have := h (freeOf t)[l]
  rw [sm_one (k := l) hl (fun i hi hne2 => by rw [ker_delta hr hne hi hg, if_neg hne2]; exact f_mul_zero _), ker_delta hr hne hl hg, if_pos rfl, f_mul_one] at this
  exact this
theorem ker_span {t : List (List F)} (hr : Rect t (ncols t)) (hne : t ≠ []) {x : Vc F} (hx : Sup (ncols t) x) (hz : mul t (ncols t) x = fun _ => 0) : ∃ c : Nat → F, x = fun i => sm (kernel t).length fun l => c l * en (kernel t) l i := by
  have h := steps_inv hr
  have kl : (kernel t).length = (freeOf t).length := by rw [kernel_eq, List.length_map]
  refine ⟨fun l => x ((freeOf t).getD l 0), ?_⟩
  -- the rest of x
  have hw : ∀ z : Vc F, z = (fun i => x i + (0 - 1) * sm (kernel t).length fun l => x ((freeOf t).getD l 0) * en (kernel t) l i) → z = fun _ => 0 := fun z hz2 => by
    have hmz : mul t (ncols t) z = fun _ => 0 := by
      rw [hz2, mul_add, mul_smul, hz, mul_sum t (ncols t) (fun l i => en (kernel t) l i)]
      funext i
      dsimp only
      rw [sm_zero' fun l hl => ?_]
      · grind
      · have hl2 : l < (freeOf t).length := by omega
        have e : (fun i => en (kernel t) l i) = gt (kernelCol (steps t).1 (steps t).2.2 (freeOf t)[l]) := by funext j; exact ker_en hr hne (List.getElem?_eq_getElem hl2) j
        rw [e, kcol_zero hr hne (List.getElem_mem hl2)]
        exact f_mul_zero _
    have zf : ∀ j, j ∉ (steps t).2.2 → z j = 0 := fun j hj => by
      rw [hz2]; dsimp only
      by_cases hjn : j < ncols t
      · obtain ⟨k, hk⟩ := List.mem_iff_getElem?.mp (free_mem.mpr ⟨hjn, hj⟩)
        have hk2 := (List.getElem?_eq_some_iff.mp hk).1
        rw [sm_one (k := k) (by omega) (fun l hl hne2 => by rw [ker_delta hr hne hl hk, if_neg hne2]; exact f_mul_zero _), ker_delta hr hne (by omega) hk, if_pos rfl, List.getD_eq_getElem?_getD, hk]
        show x j + (0 - 1) * (x j * 1) = 0
        grind
      · rw [hx j (by omega), sm_zero' fun l hl => by rw [en_col (ker_rect hr hne) (by omega)]; exact f_mul_zero _]
        grind
    have hR : mul (steps t).1 (ncols t) z = fun _ => 0 := by
      rw [mul_tacts hr, hmz]
      exact tacts_sum (steps t).2.1 (fun _ => (0 : F)) 0 (fun _ _ => 0)
    funext j
    by_cases hj : j ∈ (steps t).2.2
    · obtain ⟨i, hi⟩ := List.mem_iff_getElem?.mp hj
      have := congrFun hR i
      rw [mul_leads hr zf, hi] at this
      exact this
    · exact zf j hj
  have := hw _ rfl
  funext i
  have := congrFun this i
  grind
/-! counting -/
def InjM (t : List (List F)) : Prop := ∀ c : Vc F, Sup (ncols t) c → (mul t (ncols t) c = fun _ => 0) → c = fun _ => 0
theorem inj_leads {t : List (List F)} (hr : Rect t (ncols t)) (hne : t ≠ []) (hi : InjM t) : (steps t).2.2.length = ncols t := by
  have hk := ker_len hr
  cases he : kernel t with
  | nil => rw [he] at hk; simpa using hk
  | cons k ks =>
    exfalso
    have hm : k ∈ kernel t := by rw [he]; exact List.mem_cons_self ..
    have h1 := hi (gt k) (by rw [← ker_rect hr hne k hm]; exact sup_gt k) (ker_mem hr hne hm)
    have h0 : 0 < (kernel t).length := by rw [he]; simp
    have h2 : 0 < (freeOf t).length := by rw [kernel_eq, List.length_map] at h0; exact h0
    have hd := ker_delta hr hne h0 (List.getElem?_eq_getElem h2)
    have ek : rw_ (kernel t) 0 = k := by rw [he]; rfl
    unfold en at hd
    rw [ek, h1, if_pos rfl] at hd
    exact f_one_ne hd.symm
theorem inj_le {t : List (List F)} (hr : Rect t (ncols t)) (hne : t ≠ []) (hi : InjM t) : ncols t ≤ t.length := by
  rw [← inj_leads hr hne hi]; exact (steps_inv hr).le
theorem rows_leads {t : List (List F)} (hr : Rect t (ncols t)) (hi : ∀ u : Vc F, Sup t.length u → (∀ j, j < ncols t → sm t.length (fun i => u i * en t i j) = 0) → u = fun _ => 0) : (steps t).2.2.length = t.length := by
  have h := steps_inv hr
  rcases Nat.lt_or_ge (steps t).2.2.length t.length with hlt | hge
  · exfalso
    -- the row below the leads is nought
    have hu : ∀ v : Vc F, Sup t.length v → tacts (steps t).2.1 v (steps t).2.2.length = sm t.length fun k => v k * tacts (steps t).2.1 (ev k) (steps t).2.2.length := fun v hv => by
      conv => lhs; rw [vec_sum hv, tacts_sum (steps t).2.1 v t.length ev]
    have hz := hi (fun k => if k < t.length then tacts (steps t).2.1 (ev k) (steps t).2.2.length else 0) (fun i hi => if_neg (by omega)) fun j hj => by
      have h1 := h.col (steps t).2.2.length j
      rw [h.zr _ j (Nat.le_refl _) hj, hu _ (fun i hi => en_row hi j)] at h1
      refine Eq.trans ?_ h1.symm
      exact sm_congr fun i hi => by rw [if_pos hi]; exact f_mul_comm _ _
    obtain ⟨v, v1, v2⟩ := tacts_surj h.ok (w := ev (steps t).2.2.length) (m := t.length) (fun i hi => by unfold ev; rw [if_neg (by omega)])
    have h2 := hu v v1
    rw [v2, sm_zero' fun k hk => by have := congrFun hz k; rw [if_pos hk] at this; rw [this]; exact f_mul_zero _] at h2
    unfold ev at h2
    rw [if_pos rfl] at h2
    exact f_one_ne h2
  · have := h.le; omega
theorem sol_all {t : List (List F)} (hr : Rect t (ncols t)) {b : List F} (hb : b.length = t.length) (hl : (steps t).2.2.length = t.length) : (solved t b).1 = true := by
  unfold solved
  split
  · rename_i a hn
    obtain ⟨l1, l2, _⟩ := firstLow_some hn
    have : (rightOf t b).length = t.length := by
      rw [← hb]
      exact (right_rect (by rw [hb]; exact (steps_inv hr).ok)).2
    omega
  · rfl
theorem leads_range {t : List (List F)} : ∀ k, (stepsTo t k).2.2.length = k → (stepsTo t k).2.2 = List.range k
  | 0, _ => rfl
  | k + 1, h => by
    have e : (stepsTo t (k + 1)).2.2 = (stepCol (stepsTo t k) k).2.2 := rfl
    have l1 := (stepCol_len (s := stepsTo t k) (c := k)).1
    rw [e] at h ⊢
    unfold stepCol at h l1 ⊢
    split at h
    · rename_i hn
      have := (stepCol_len (s := stepsTo t k) (c := k)).1
      exfalso
      have l2 : (stepsTo t k).2.2.length ≤ k := by
        clear h l1 e this hn
        induction k with
        | zero => exact Nat.zero_le _
        | succ k ih => exact Nat.le_trans (stepCol_len (s := stepsTo t k) (c := k)).1 (Nat.succ_le_succ ih)
      omega
    · rename_i low hn
      dsimp only at h ⊢
      rw [List.length_append, List.length_singleton] at h
      rw [leads_range k (by omega), List.range_succ]
theorem inv_unit {t : List (List F)} (hr : Rect t (ncols t)) (hsq : ncols t = t.length) (hl : (steps t).2.2.length = t.length) (i j : Nat) (hi : i < t.length) (hj : j < t.length) : sm t.length (fun k => en (inverse t) i k * en t k j) = if i = j then 1 else 0 := by
  have h := steps_inv hr
  have hlr : (steps t).2.2 = List.range t.length := by
    have := leads_range (t := t) (ncols t) (by show (steps t).2.2.length = _; rw [hl, hsq])
    rw [hsq] at this
    unfold steps
    rw [hsq]; exact this
  have e1 : ∀ k, k < t.length → en (inverse t) i k = tacts (steps t).2.1 (ev k) i := fun k hk => by
    unfold inverse
    rw [en_done (n := t.length) _ (unit_rect t.length).1 (by rw [(unit_rect t.length).2]; exact h.ok)]
    have : tacts (steps t).2.1 (fun i => en (unit t.length) i k) = tacts (steps t).2.1 (ev k) := by
      congr 1
      funext i'
      rw [en_unit]
      unfold ev
      by_cases e : i' = k
      · rw [if_pos ⟨e, by omega⟩, if_pos e]
      · rw [if_neg (fun z => e z.1), if_neg e]
    exact congrFun this i
  have e2 : sm t.length (fun k => en (inverse t) i k * en t k j) = en (steps t).1 i j := by
    rw [h.col]
    have hs : (fun i => en t i j) = fun i => sm t.length fun k => en t k j * ev k i := vec_sum (v := fun i => en t i j) fun i hi => en_row hi j
    rw [hs, tacts_sum (steps t).2.1 (fun k => en t k j) t.length ev]
    exact sm_congr fun k hk => by rw [e1 k hk]; exact f_mul_comm _ _
  rw [e2, h.un j j (by rw [hlr, List.getElem?_range hj]) i hi]
end
end Tf
set_option maxRecDepth 100000
set_option maxHeartbeats 4000000
namespace Tf
section
variable {F : Type} [Lean.Grind.Field F] [DecidableEq F]
/-! ### power series -/
def nC (n : Nat) : F := Lean.Grind.Semiring.natCast.natCast n
def iC (n : Int) : F := Lean.Grind.Ring.intCast.intCast n
def PS (F : Type) := Nat → F
def PS.c (f : PS F) : Nat → F := f
def psTail (f : PS F) : PS F := fun n => f (n + 1)
def psMul : Nat → PS F → PS F → F
  | 0, f, g => f 0 * g 0
  | n + 1, f, g => f 0 * g (n + 1) + psMul n (psTail f) g
def psC (x : F) : PS F := fun n => if n = 0 then x else 0
instance : Add (PS F) := ⟨fun f g n => f n + g n⟩
instance : Mul (PS F) := ⟨fun f g n => psMul n f g⟩
instance : Neg (PS F) := ⟨fun f n => -f n⟩
instance : Sub (PS F) := ⟨fun f g n => f n - g n⟩
theorem ps_ext {f g : PS F} (h : ∀ n, f n = g n) : f = g := funext h
theorem psAdd (f g : PS F) (n : Nat) : (f + g) n = f n + g n := rfl
theorem psNeg (f : PS F) (n : Nat) : (-f) n = -f n := rfl
theorem psSub (f g : PS F) (n : Nat) : (f - g) n = f n - g n := rfl
theorem psMulD (f g : PS F) (n : Nat) : (f * g) n = psMul n f g := rfl
theorem psTail_add (f g : PS F) : psTail (f + g) = psTail f + psTail g := rfl
theorem psMul_addL (g : PS F) : ∀ (n : Nat) (f f' : PS F), psMul n (f + f') g = psMul n f g + psMul n f' g
  | 0, f, f' => by simp only [psMul, psAdd]; grind
  | n + 1, f, f' => by simp only [psMul, psAdd, psTail_add, psMul_addL g n]; grind
theorem psMul_right : ∀ (n : Nat) (f g : PS F), psMul (n + 1) f g = f (n + 1) * g 0 + psMul n f (psTail g)
  | 0, f, g => by simp only [psMul, psTail]; grind
  | n + 1, f, g => by
    rw [psMul, psMul_right n (psTail f) g, psMul]
    show _ + (f (n + 2) * g 0 + _) = _
    simp only [psTail]
    grind
theorem psMul_comm : ∀ (n : Nat) (f g : PS F), psMul n f g = psMul n g f
  | 0, f, g => by simp only [psMul]; grind
  | n + 1, f, g => by rw [psMul, psMul_right n g f, psMul_comm n (psTail f) g]; grind
theorem psMul_C (x : F) (g : PS F) : ∀ n, psMul n (psC x) g = x * g n
  | 0 => by simp only [psMul, psC, if_true]
  | n + 1 => by
    have z : psTail (psC x) = psC (0 : F) := by
      funext n; show (if n + 1 = 0 then x else 0) = if n = 0 then 0 else 0
      rw [if_neg (by omega)]; split <;> rfl
    have h0 : ∀ n, psMul n (psC (0 : F)) g = 0 := by
      have z0 : psTail (psC (0 : F)) = psC (0 : F) := by funext n; show (if n + 1 = 0 then (0 : F) else 0) = if n = 0 then 0 else 0; rw [if_neg (by omega)]; split <;> rfl
      intro n
      induction n with
      | zero => simp only [psMul, psC, if_true]; grind
      | succ n ih => rw [psMul, z0, ih]; simp only [psC, if_true]; grind
    rw [psMul, z, h0]
    simp only [psC, if_true]
    grind
def psS (x : F) (f : PS F) : PS F := fun k => x * f k
theorem psMul_smul (x : F) (g : PS F) : ∀ (n : Nat) (f : PS F), psMul n (psS x f) g = x * psMul n f g
  | 0, f => by simp only [psMul, psS]; grind
  | n + 1, f => by
    show x * f 0 * g (n + 1) + psMul n (psS x (psTail f)) g = x * (f 0 * g (n + 1) + psMul n (psTail f) g)
    rw [psMul_smul x g n]
    grind
theorem psMul_assoc (h : PS F) : ∀ (n : Nat) (f g : PS F), psMul n (f * g) h = psMul n f (g * h)
  | 0, f, g => by simp only [psMul, psMulD]; grind
  | n + 1, f, g => by
    have t : psTail (f * g) = psS (f 0) (psTail g) + psTail f * g := by funext k; rfl
    rw [psMul, t, psMul_addL, psMul_smul, psMul_assoc h n (psTail f) g]
    show (f * g) 0 * h (n + 1) + _ = f 0 * (g * h) (n + 1) + psMul n (psTail f) (g * h)
    rw [psMulD, psMulD]
    simp only [psMul]
    grind
instance : NatCast (PS F) := ⟨fun n => psC (nC n)⟩
instance (n : Nat) : OfNat (PS F) n := ⟨psC (nC n)⟩
instance : SMul Nat (PS F) := ⟨fun n f => (n : PS F) * f⟩
def psPow (f : PS F) : Nat → PS F
  | 0 => psC (nC 1)
  | n + 1 => psPow f n * f
instance : HPow (PS F) Nat (PS F) := ⟨psPow⟩
instance : IntCast (PS F) := ⟨fun n => psC (iC n)⟩
instance : SMul Int (PS F) := ⟨fun n f => (n : PS F) * f⟩
theorem c1 : (nC 1 : F) = 1 := Lean.Grind.Semiring.natCast_one
theorem c0 : (nC 0 : F) = 0 := Lean.Grind.Semiring.natCast_zero
theorem ps0 (n : Nat) : (0 : PS F) n = 0 := by
  show (if n = 0 then (nC 0 : F) else 0) = 0
  rw [c0]; split <;> rfl
theorem ps1 : (1 : PS F) = psC 1 := by
  show psC (nC 1) = _
  rw [c1]
theorem ps_zero : (0 : PS F) = psC 0 := by
  show psC (nC 0 : F) = _
  rw [c0]
theorem psC_add (x y : F) : psC (x + y) = psC x + psC y := by
  funext n
  show (if n = 0 then x + y else 0) = (if n = 0 then x else 0) + if n = 0 then y else 0
  split
  · rfl
  · grind
theorem psC_neg (x : F) : psC (-x) = -psC x := by
  funext n
  show (if n = 0 then -x else 0) = -(if n = 0 then x else 0)
  split
  · rfl
  · grind
instance : Lean.Grind.Semiring (PS F) where
  add_zero f := ps_ext fun n => by rw [psAdd, ps0]; exact f_add_zero _
  add_comm f g := ps_ext fun n => by rw [psAdd, psAdd]; grind
  add_assoc f g h := ps_ext fun n => by simp only [psAdd]; grind
  mul_assoc f g h := ps_ext fun n => psMul_assoc h n f g
  mul_one f := ps_ext fun n => by rw [psMulD, psMul_comm, ps1, psMul_C, f_one_mul]
  one_mul f := ps_ext fun n => by rw [psMulD, ps1, psMul_C, f_one_mul]
  left_distrib f g h := ps_ext fun n => by rw [psMulD, psMul_comm, psMul_addL, psAdd, psMulD, psMulD, psMul_comm n g, psMul_comm n h]
  right_distrib f g h := ps_ext fun n => by rw [psMulD, psMul_addL, psAdd, psMulD, psMulD]
  zero_mul f := ps_ext fun n => by rw [psMulD, ps_zero, psMul_C]; show _ = (if n = 0 then (0 : F) else 0); split <;> exact f_zero_mul _
  mul_zero f := ps_ext fun n => by rw [psMulD, psMul_comm, ps_zero, psMul_C]; show _ = (if n = 0 then (0 : F) else 0); split <;> exact f_zero_mul _
  pow_zero f := rfl
  pow_succ f n := rfl
  ofNat_succ n := by
    show psC (nC (n + 1)) = psC (nC n) + psC (nC 1)
    rw [← psC_add, c1]
    exact congrArg psC (Lean.Grind.Semiring.natCast_succ n)
instance : Lean.Grind.CommRing (PS F) where
  neg_add_cancel f := ps_ext fun n => by rw [psAdd, psNeg, ps0]; grind
  sub_eq_add_neg f g := ps_ext fun n => by rw [psAdd, psNeg, psSub]; grind
  neg_zsmul i f := ps_ext fun n => by
    show psMul n (psC (iC (-i))) f = -psMul n (psC (iC i)) f
    have : (iC (-i) : F) = -iC i := Lean.Grind.Ring.intCast_neg i
    rw [psMul_C, psMul_C, this]; grind
  zsmul_natCast_eq_nsmul n f := by
    show psC (iC (n : Int)) * f = psC (nC n) * f
    have : (iC (n : Int) : F) = nC n := Lean.Grind.Ring.intCast_natCast n
    rw [this]
  intCast_ofNat n := by
    exact congrArg psC (Lean.Grind.Ring.intCast_natCast n)
  intCast_neg i := by
    show psC (iC (-i)) = -psC (iC i)
    rw [← psC_neg]
    exact congrArg psC (Lean.Grind.Ring.intCast_neg i)
  mul_comm f g := ps_ext fun n => psMul_comm n f g
example (a b c : PS F) : (a + b) * c - a * c = c * b := by grind
/-! ### degrees -/
def psX : PS F := fun n => if n = 1 then 1 else 0
theorem psX_mul (f : PS F) (n : Nat) : ((psX : PS F) * f : PS F) n = match n with | 0 => 0 | n + 1 => f n := by
  cases n with
  | zero => show psX 0 * f 0 = 0; unfold psX; rw [if_neg (by decide)]; exact f_zero_mul _
  | succ n =>
    show psX 0 * f (n + 1) + psMul n (psTail psX) f = f n
    have : psTail (psX : PS F) = psC 1 := by funext k; show (if k + 1 = 1 then (1 : F) else 0) = if k = 0 then 1 else 0; by_cases h : k = 0 <;> simp [h]
    rw [this, psMul_C]; unfold psX; rw [if_neg (by decide)]; grind
/-- no number from the n-th on -/
def Bd (f : PS F) (n : Nat) : Prop := ∀ i, n ≤ i → f i = 0
theorem Bd.mono {f : PS F} {m n : Nat} (h : Bd f m) (hm : m ≤ n) : Bd f n := fun i hi => h i (Nat.le_trans hm hi)
theorem Bd.add {f g : PS F} {m n : Nat} (h : Bd f m) (h' : Bd g n) : Bd (f + g) (max m n) := fun i hi => by rw [psAdd, h i (by omega), h' i (by omega)]; exact f_add_zero _
theorem psMul_bd : ∀ (a b i : Nat) (f g : PS F), Bd f (a + 1) → Bd g (b + 1) → a + b + 1 ≤ i → psMul i f g = 0
  | a, b, 0, f, g, _, _, h => by omega
  | 0, b, i + 1, f, g, hf, hg, h => by
    have e : psTail f = psC 0 := by funext n; show f (n + 1) = if n = 0 then 0 else 0; rw [hf _ (by omega)]; split <;> rfl
    rw [psMul, e, psMul_C, hg (i + 1) (by omega)]; grind
  | a + 1, b, i + 1, f, g, hf, hg, h => by
    rw [psMul, psMul_bd a b i (psTail f) g (fun n hn => hf _ (by omega)) hg (by omega), hg (i + 1) (by omega)]; grind
theorem Bd.mul {f g : PS F} {a b : Nat} (h : Bd f (a + 1)) (h' : Bd g (b + 1)) : Bd (f * g) (a + b + 1) := fun i hi => psMul_bd a b i f g h h' hi
theorem psMul_top : ∀ (a b : Nat) (f g : PS F), Bd f (a + 1) → Bd g (b + 1) → psMul (a + b) f g = f a * g b
  | 0, 0, f, g, hf, hg => rfl
  | 0, b + 1, f, g, hf, hg => by
    have e : psTail f = psC 0 := by funext n; show f (n + 1) = if n = 0 then 0 else 0; rw [hf _ (by omega)]; split <;> rfl
    rw [Nat.zero_add, psMul, e, psMul_C]; grind
  | a + 1, b, f, g, hf, hg => by
    rw [show a + 1 + b = a + b + 1 by omega, psMul, psMul_top a b (psTail f) g (fun n hn => hf _ (by omega)) hg, hg (a + b + 1) (by omega)]
    show _ + f (a + 1) * g b = _
    grind
/-- of degree n -/
structure Dg (f : PS F) (n : Nat) : Prop where
  bd : Bd f (n + 1)
  ne : f n ≠ 0
theorem Dg.mul {f g : PS F} {a b : Nat} (h : Dg f a) (h' : Dg g b) : Dg (f * g) (a + b) := ⟨h.bd.mul h'.bd, by
  show psMul (a + b) f g ≠ 0
  rw [psMul_top a b f g h.bd h'.bd]
  exact f_mul_ne h.ne h'.ne⟩
theorem bd_dg : ∀ {n : Nat} {f : PS F}, Bd f n → f = 0 ∨ ∃ k, k < n ∧ Dg f k
  | 0, f, h => .inl (ps_ext fun i => by rw [h i (Nat.zero_le _), ps0])
  | n + 1, f, h => by
    by_cases e : f n = 0
    · rcases bd_dg (n := n) (f := f) (fun i hi => by
        rcases Nat.lt_or_ge n i with z | z
        · exact h i z
        · rw [show i = n by omega]; exact e) with z | ⟨k, z1, z2⟩
      · exact .inl z
      · exact .inr ⟨k, by omega, z2⟩
    · exact .inr ⟨n, Nat.lt_succ_self n, h, e⟩
theorem Dg.ne0 {f : PS F} {n : Nat} (h : Dg f n) : f ≠ 0 := fun e => h.ne (by rw [e, ps0])
theorem Dg.uniq {f : PS F} {m n : Nat} (h : Dg f m) (h' : Dg f n) : m = n := by
  rcases Nat.lt_trichotomy m n with z | z | z
  · exact absurd (h.bd n z) h'.ne
  · exact z
  · exact absurd (h'.bd m z) h.ne
/-- bounded -/
def Po (f : PS F) : Prop := ∃ n, Bd f n
theorem Po.add {f g : PS F} (h : Po f) (h' : Po g) : Po (f + g) := by obtain ⟨m, h⟩ := h; obtain ⟨n, h'⟩ := h'; exact ⟨_, h.add h'⟩
theorem Po.mul {f g : PS F} (h : Po f) (h' : Po g) : Po (f * g) := by
  obtain ⟨m, h⟩ := h; obtain ⟨n, h'⟩ := h'
  exact ⟨_, (h.mono (Nat.le_succ m)).mul (h'.mono (Nat.le_succ n))⟩
theorem Po.neg {f : PS F} (h : Po f) : Po (-f) := by obtain ⟨m, h⟩ := h; exact ⟨m, fun i hi => by rw [psNeg, h i hi]; grind⟩
theorem Po.sub {f g : PS F} (h : Po f) (h' : Po g) : Po (f - g) := by
  have e : f - g = f + -g := by grind
  rw [e]; exact h.add h'.neg
theorem po_C (x : F) : Po (psC x) := ⟨1, fun i hi => if_neg (by omega)⟩
theorem po_1 : Po (1 : PS F) := by rw [ps1]; exact po_C 1
theorem po_0 : Po (0 : PS F) := by rw [ps_zero]; exact po_C 0
theorem po_cancel {a f g : PS F} (ha : Po a) (hf : Po f) (hg : Po g) (h0 : a ≠ 0) (h : a * f = a * g) : f = g := by
  have hz : a * (f - g) = 0 := by grind
  obtain ⟨n, hn⟩ := ha
  obtain ⟨m, hm⟩ := hf.sub hg
  rcases bd_dg hn with e | ⟨k, _, hk⟩
  · exact absurd e h0
  rcases bd_dg hm with e | ⟨l, _, hl⟩
  · grind
  · exact absurd hz (hk.mul hl).ne0
/-- one divides the other, by a bounded one -/
def Dv (a f : PS F) : Prop := ∃ q, Po q ∧ f = q * a
theorem Dv.refl (a : PS F) : Dv a a := ⟨1, po_1, by grind⟩
theorem Dv.trans {a b c : PS F} (h : Dv a b) (h' : Dv b c) : Dv a c := by obtain ⟨q, p1, rfl⟩ := h; obtain ⟨r, p2, rfl⟩ := h'; exact ⟨r * q, p2.mul p1, by grind⟩
theorem Dv.po {a f : PS F} (ha : Po a) (h : Dv a f) : Po f := by obtain ⟨q, p, rfl⟩ := h; exact p.mul ha
theorem Dv.mulL {a f : PS F} (h : Dv a f) {g : PS F} (hg : Po g) : Dv a (g * f) := by obtain ⟨q, p, rfl⟩ := h; exact ⟨g * q, hg.mul p, by grind⟩
theorem Dv.add {a f g : PS F} (h : Dv a f) (h' : Dv a g) : Dv a (f + g) := by obtain ⟨q, p, rfl⟩ := h; obtain ⟨r, p', rfl⟩ := h'; exact ⟨q + r, p.add p', by grind⟩
/-- coprime -/
def Cop (a b : PS F) : Prop := ∃ u v, Po u ∧ Po v ∧ u * a + v * b = 1
theorem Cop.symm {a b : PS F} (h : Cop a b) : Cop b a := by obtain ⟨u, v, p, q, e⟩ := h; exact ⟨v, u, q, p, by grind⟩
theorem Cop.mul {a b c : PS F} (ha : Po a) (hb : Po b) (hc : Po c) (h : Cop a b) (h' : Cop a c) : Cop a (b * c) := by
  obtain ⟨u, v, p, q, e⟩ := h; obtain ⟨u', v', p', q', e'⟩ := h'
  refine ⟨u * u' * a + u * v' * c + v * u' * b, v * v', (((p.mul p').mul ha).add ((p.mul q').mul hc)).add ((q.mul p').mul hb), q.mul q', ?_⟩
  have : (u * a + v * b) * (u' * a + v' * c) = 1 := by rw [e, e']; grind
  grind
theorem Cop.of_dv {a b c : PS F} (h : Cop a b) (hd : Dv c b) : Cop a c := by obtain ⟨u, v, p, q, e⟩ := h; obtain ⟨r, p', rfl⟩ := hd; exact ⟨u, v * r, p, q.mul p', by grind⟩
theorem Cop.dv {a b c : PS F} (hc : Po c) (h : Cop a b) (hd : Dv a (b * c)) : Dv a c := by
  obtain ⟨u, v, p, q, e⟩ := h; obtain ⟨r, p', e2⟩ := hd
  refine ⟨u * c + v * r, (p.mul hc).add (q.mul p'), ?_⟩
  have : c = (u * a + v * b) * c := by rw [e]; grind
  grind
theorem Cop.mul_dv {a b c : PS F} (hc : Po c) (h : Cop a b) (ha : Dv a c) (hb : Dv b c) : Dv (a * b) c := by
  obtain ⟨q, p, rfl⟩ := ha
  have : Dv b (a * q) := by have e : a * q = q * a := by grind
                            rw [e]; exact hb
  have hq : Po q := p
  obtain ⟨r, p', e⟩ := Cop.dv hq h.symm this
  exact ⟨r, p', by rw [e]; grind⟩
end
end Tf
set_option maxRecDepth 100000
set_option maxHeartbeats 4000000
namespace Tf
section
variable {F : Type} [Lean.Grind.Field F] [DecidableEq F]
/-- a list's polynomial -/
def cv (f : List F) : PS F := gt f
theorem cv_at (f : List F) (i : Nat) : cv f i = gt f i := rfl
theorem cv_nil : cv ([] : List F) = 0 := ps_ext fun i => by rw [ps0]; rfl
theorem cv_bd (f : List F) : Bd (cv f) f.length := fun i hi => gt_ge hi
theorem cv_po (f : List F) : Po (cv f) := ⟨_, cv_bd f⟩
theorem psC_at (x : F) (i : Nat) : psC x i = if i = 0 then x else 0 := rfl
theorem psC_mul (x : F) (f : PS F) (i : Nat) : (psC x * f) i = x * f i := psMul_C x f i
theorem cv_cons (x : F) (xs : List F) : cv (x :: xs) = psC x + psX * cv xs := ps_ext fun i => by
  rw [psAdd, psX_mul, psC_at]
  cases i with
  | zero => show x = _; rw [if_pos rfl]; exact (f_add_zero x).symm
  | succ i => show gt xs i = _; rw [if_neg (by omega)]; exact (f_zero_add _).symm
theorem cv_noughts (n : Nat) : cv (noughts n : List F) = 0 := ps_ext fun i => by rw [ps0]; exact gt_noughts n i
theorem cv_one : cv ([1] : List F) = 1 := by rw [cv_cons, cv_nil, ps1]; grind
theorem cv_trim : ∀ f : List F, cv (trim f) = cv f
  | [] => rfl
  | x :: f => by
    have ih := cv_trim f
    show cv (match trim f with | [] => if x = 0 then [] else [x] | y :: ys => x :: y :: ys) = _
    cases h : trim f with
    | nil =>
      rw [h, cv_nil] at ih
      dsimp only
      rw [cv_cons x f, ← ih]
      split
      · rename_i hx; rw [cv_nil, hx, ← ps_zero]; grind
      · rw [cv_cons, cv_nil]
    | cons y ys =>
      rw [h] at ih
      dsimp only
      rw [cv_cons, ih, ← cv_cons]
theorem lst_eq {f : List F} (h : f ≠ []) : cv f (f.length - 1) = lst f := rfl
theorem lz_dg {f : List F} (h : f ≠ []) (hz : lst f ≠ 0) : Dg (cv f) (f.length - 1) := by
  have := List.length_pos_iff.mpr h
  exact ⟨(cv_bd f).mono (by omega), hz⟩
theorem dg_len {f : List F} (hz : Lz f) {n : Nat} (h : Dg (cv f) n) : f.length = n + 1 ∧ lst f = cv f n ∧ f ≠ [] := by
  rcases hz with e | e
  · exact absurd (by rw [e]; exact cv_nil) h.ne0
  · by_cases hf : f = []
    · exact absurd (by rw [hf]; exact cv_nil) h.ne0
    · have := List.length_pos_iff.mpr hf
      have e2 := h.uniq (lz_dg hf e)
      exact ⟨by omega, by rw [e2]; rfl, hf⟩
theorem lz_inj {f g : List F} (hf : Lz f) (hg : Lz g) (h : cv f = cv g) : f = g := by
  have one : ∀ {a b : List F}, Lz a → Lz b → cv a = cv b → b.length ≤ a.length := fun {a b} ha hb e => by
    rcases hb with z | z
    · rw [z]; exact Nat.zero_le _
    · by_cases hb : b = []
      · rw [hb]; exact Nat.zero_le _
      · have := dg_len ha (by rw [e]; exact lz_dg hb z)
        have := List.length_pos_iff.mpr hb
        omega
  exact ext_gt (Nat.le_antisymm (one hg hf h.symm) (one hf hg h)) fun i _ => congrFun h i
theorem lz_nil {f : List F} (hf : Lz f) (h : cv f = 0) : f = [] := lz_inj hf (.inl rfl) (by rw [h, cv_nil])
theorem gt_addL : ∀ (f g : List F) (i : Nat), gt (addL f g) i = gt f i + gt g i
  | [], [], i => by simp only [addL, gt_nil]; grind
  | [], y :: g, i => by simp only [addL, gt_nil]; grind
  | x :: f, [], i => by simp only [addL, gt_nil]; grind
  | x :: f, y :: g, 0 => rfl
  | x :: f, y :: g, i + 1 => gt_addL f g i
theorem cv_addL (f g : List F) : cv (addL f g) = cv f + cv g := ps_ext fun i => gt_addL f g i
theorem cv_pplus (f g : List F) : cv (pplus f g) = cv f + cv g := by
  unfold pplus
  split <;> rw [cv_trim, cv_addL]
  grind
theorem cv_pnum (c : F) : cv (pnum c) = psC c := by unfold pnum; rw [cv_trim, cv_cons, cv_nil]; grind
def pX (n : Nat) : PS F := psPow psX n
theorem pX0 : (pX 0 : PS F) = 1 := by rw [ps1]; show psC (nC 1) = _; rw [c1]
theorem pXS (n : Nat) : (pX (n + 1) : PS F) = pX n * psX := rfl
theorem pX_mul : ∀ (n : Nat) (f : PS F) (i : Nat), ((pX n : PS F) * f : PS F) i = if i < n then 0 else f (i - n)
  | 0, f, i => by rw [pX0, if_neg (by omega)]; show psMul i 1 f = _; rw [ps1, psMul_C, f_one_mul, Nat.sub_zero]
  | n + 1, f, i => by
    have e : (pX (n + 1) : PS F) * f = pX n * (psX * f) := by rw [pXS]; grind
    rw [e, pX_mul n]
    split
    · rw [if_pos (by omega)]
    · rw [psX_mul]
      cases hi : i - n with
      | zero => rw [if_pos (by omega)]
      | succ k => rw [if_neg (by omega)]; dsimp only; congr 1; omega
theorem cv_tpJ (c : F) : ∀ (ys : List F) (p : Nat) (t : List F), p + ys.length ≤ t.length → cv (tpJ c ys p t) = cv t + pX p * (psC c * cv ys)
  | [], p, t, _ => by rw [tpJ, cv_nil]; grind
  | y :: ys, p, t, h => by
    rw [List.length_cons] at h
    rw [tpJ, cv_tpJ c ys (p + 1) _ (by rw [List.length_set]; omega), cv_cons, pXS]
    have e : cv (t.set p (gt t p + c * y)) = cv t + pX p * psC (c * y) := ps_ext fun i => by
      rw [psAdd, pX_mul, psC_at, cv_at, cv_at, gt_set _ _ _ (by omega)]
      by_cases hi : i = p
      · rw [if_pos hi, if_neg (by omega), if_pos (by omega), hi]
      · rw [if_neg hi]
        split
        · exact (f_add_zero _).symm
        · rw [if_neg (by omega)]; exact (f_add_zero _).symm
    have e2 : psC (c * y) = psC c * psC y := ps_ext fun i => by rw [psC_mul, psC_at, psC_at]; split <;> grind
    rw [e, e2]
    grind
theorem cv_tpI (g : List F) : ∀ (xs : List F) (i : Nat) (t : List F), (xs ≠ [] → i + xs.length + g.length ≤ t.length + 1) → cv (tpI g xs i t) = cv t + pX i * (cv xs * cv g)
  | [], i, t, _ => by rw [tpI, cv_nil]; grind
  | x :: xs, i, t, h => by
    have h := h (by simp)
    rw [List.length_cons] at h
    rw [tpI, cv_tpI g xs (i + 1) _ (fun _ => by rw [tpJ_len]; omega), cv_tpJ x g i t (by omega), cv_cons, pXS]
    grind
theorem cv_ptimes (f g : List F) : cv (ptimes f g) = cv f * cv g := by
  unfold ptimes
  split
  · rename_i h
    rcases h with h | h
    · rw [h, cv_nil]; grind
    · rw [h, cv_nil]; grind
  · rw [cv_trim, cv_tpI _ _ _ _ (fun _ => by simp [noughts]; omega), cv_noughts, pX0]
    grind
theorem cv_pminus (f g : List F) : cv (pminus f g) = cv f - cv g := by
  unfold pminus
  have e : psC (0 - 1 : F) = 0 - 1 := ps_ext fun i => by rw [psSub, ps0, ps1, psC_at, psC_at]; split <;> grind
  rw [cv_pplus, cv_ptimes, cv_pnum, e]
  grind
theorem cv_dvK (c : F) : ∀ (ys : List F) (p : Nat) (t : List F), p + ys.length ≤ t.length → cv (dvK c ys p t) = cv t - pX p * (psC c * cv ys)
  | [], p, t, _ => by rw [dvK, cv_nil]; grind
  | y :: ys, p, t, h => by
    rw [List.length_cons] at h
    rw [dvK, cv_dvK c ys (p + 1) _ (by rw [List.length_set]; omega), cv_cons, pXS]
    have e : cv (t.set p (gt t p - c * y)) = cv t - pX p * psC (c * y) := ps_ext fun i => by
      rw [psSub, pX_mul, psC_at, cv_at, cv_at, gt_set _ _ _ (by omega)]
      by_cases hi : i = p
      · rw [if_pos hi, if_neg (by omega), if_pos (by omega), hi]
      · rw [if_neg hi]
        split
        · grind
        · rw [if_neg (by omega)]; grind
    have e2 : psC (c * y) = psC c * psC y := ps_ext fun i => by rw [psC_mul, psC_at, psC_at]; split <;> grind
    rw [e, e2]
    grind
theorem cv_dropLast {t : List F} (h : lst t = 0) : cv t.dropLast = cv t := ps_ext fun i => by
  rw [cv_at, cv_at, List.dropLast_eq_take]
  by_cases hi : i < t.length - 1
  · rw [gt_get (by rw [List.length_take]; omega), gt_get (by omega), List.getElem_take]
  · rw [gt_ge (by rw [List.length_take]; omega)]
    by_cases h2 : i = t.length - 1
    · rw [h2]; exact h.symm
    · rw [gt_ge (by omega)]
theorem cv_snoc_rev (q : List F) (c : F) : cv (q ++ [c]).reverse = psC c + psX * cv q.reverse := by
  rw [List.reverse_append]; exact cv_cons c _
theorem cv_dvGo {by_ : F} {g : List F} (hg : g ≠ []) (hb : lst g * by_ = 1) : ∀ (n : Nat) (q r : List F), r.length < n →
    pX (r.length + 1 - g.length) * cv q.reverse * cv g + cv r = cv (dvGo by_ g n q r).1.reverse * cv g + cv (dvGo by_ g n q r).2
  | 0, q, r, h => by omega
  | n + 1, q, r, h => by
    have g0 := List.length_pos_iff.mpr hg
    unfold dvGo
    split
    · rename_i hl
      have hk : cv (dvK (lst r * by_) g (r.length - g.length) r) = cv r - pX (r.length - g.length) * (psC (lst r * by_) * cv g) := cv_dvK _ _ _ _ (by omega)
      have hlen : (dvK (lst r * by_) g (r.length - g.length) r).length = r.length := dvK_len _ _ _ _
      have hz : lst (dvK (lst r * by_) g (r.length - g.length) r) = 0 := by
        show gt _ _ = 0
        rw [hlen]
        have := congrFun hk (r.length - 1)
        rw [cv_at] at this
        rw [this, psSub, pX_mul, if_neg (by omega), psC_mul, cv_at, cv_at, show r.length - 1 - (r.length - g.length) = g.length - 1 by omega]
        show lst r - lst r * by_ * lst g = 0
        grind
      have hd : cv (dvK (lst r * by_) g (r.length - g.length) r).dropLast = _ := (cv_dropLast hz).trans hk
      have hdl : (dvK (lst r * by_) g (r.length - g.length) r).dropLast.length = r.length - 1 := by rw [List.length_dropLast, hlen]
      rw [← cv_dvGo hg hb n _ _ (by omega), hd, hdl, cv_snoc_rev, show r.length - 1 + 1 - g.length = r.length - g.length by omega, show r.length + 1 - g.length = r.length - g.length + 1 by omega, pXS]
      grind
    · rw [show r.length + 1 - g.length = 0 by omega, pX0]
      grind
theorem cv_divided {f g : List F} (hg : g ≠ []) (hz : lst g ≠ 0) : cv f = cv (divided f g).1 * cv g + cv (divided f g).2 := by
  have h := cv_dvGo (by_ := (lst g)⁻¹) hg (f_inv hz) (f.length + 1) [] f (Nat.lt_succ_self _)
  unfold divided
  dsimp only
  rw [cv_trim, ← h, List.reverse_nil, cv_nil]
  grind
/-- monic -/
structure Mon (f : List F) : Prop where
  ne : f ≠ []
  m : lst f = 1
theorem Mon.z {f : List F} (h : Mon f) : lst f ≠ 0 := by rw [h.m]; exact f_one_ne
theorem Mon.lz {f : List F} (h : Mon f) : Lz f := .inr h.z
theorem Mon.dg {f : List F} (h : Mon f) : Dg (cv f) (f.length - 1) := lz_dg h.ne h.z
theorem Mon.pos {f : List F} (h : Mon f) : 0 < f.length := List.length_pos_iff.mpr h.ne
theorem Mon.top {f : List F} (h : Mon f) : cv f (f.length - 1) = 1 := h.m
theorem mon_of {f : List F} (hz : Lz f) {n : Nat} (h : Bd (cv f) (n + 1)) (h1 : cv f n = 1) : Mon f ∧ f.length = n + 1 := by
  obtain ⟨a, b, c⟩ := dg_len hz ⟨h, by rw [h1]; exact f_one_ne⟩
  exact ⟨⟨c, by rw [b, h1]⟩, a⟩
theorem mon_times {f g : List F} (hf : Mon f) (hg : Mon g) : Mon (ptimes f g) ∧ (ptimes f g).length + 1 = f.length + g.length := by
  have a := hf.pos; have b := hg.pos
  have e := cv_ptimes f g
  obtain ⟨h1, h2⟩ := mon_of (n := f.length - 1 + (g.length - 1)) (ptimes_lz f g) (by rw [e]; exact hf.dg.bd.mul hg.dg.bd) (by
    rw [e]; show psMul _ _ _ = _; rw [psMul_top _ _ _ _ hf.dg.bd hg.dg.bd, hf.top, hg.top, f_one_mul])
  exact ⟨h1, by omega⟩
theorem mon_inj {f g : List F} (hf : Mon f) (hg : Mon g) (h : cv f = cv g) : f = g := lz_inj hf.lz hg.lz h
theorem dv_rest {f g : List F} (hg : g ≠ []) (hz : lst g ≠ 0) (h : Dv (cv g) (cv f)) : (divided f g).2 = [] := by
  have e := cv_divided (f := f) hg hz
  obtain ⟨q, pq, e2⟩ := h
  have lr : Lz (divided f g).2 := trim_last _
  have hl := (divided_len (f := f) hg).1
  refine lz_nil lr ?_
  have e3 : (q - cv (divided f g).1) * cv g = cv (divided f g).2 := by grind
  obtain ⟨n, hn⟩ := pq.sub (cv_po (divided f g).1)
  rcases bd_dg hn with z | ⟨k, _, hk⟩
  · rw [← e3, z]; grind
  · have hd := hk.mul (lz_dg hg hz)
    rw [e3] at hd
    have := dg_len lr hd
    have := List.length_pos_iff.mpr hg
    omega
theorem div_mon {f g : List F} (hf : Mon f) (hg : Mon g) (h : Dv (cv g) (cv f)) : Mon (divided f g).1 ∧ cv f = cv (divided f g).1 * cv g ∧ (divided f g).1.length + g.length = f.length + 1 := by
  have e := cv_divided (f := f) hg.ne hg.z
  rw [dv_rest hg.ne hg.z h, cv_nil] at e
  have e : cv f = cv (divided f g).1 * cv g := by grind
  have hl := (divided_len (f := f) hg.ne).2.2
  have a := hf.pos; have b := hg.pos
  rcases bd_dg (cv_bd (divided f g).1) with z | ⟨k, k1, hk⟩
  · exfalso
    apply hf.dg.ne0
    rw [e, z]; grind
  · have hd := hk.mul hg.dg
    rw [← e] at hd
    have hu := hf.dg.uniq hd
    have hq : (divided f g).1.length = k + 1 := by omega
    refine ⟨⟨fun z => by rw [z] at hq; simp at hq, ?_⟩, e, by omega⟩
    show cv (divided f g).1 ((divided f g).1.length - 1) = 1
    rw [hq, Nat.add_sub_cancel]
    have ht := hf.top
    rw [hu, e] at ht
    have := psMul_top k (g.length - 1) (cv (divided f g).1) (cv g) hk.bd hg.dg.bd
    rw [hg.top, f_mul_one] at this
    rw [← this]; exact ht
/-! common -/
structure EuInv (f g : PS F) (e : Eu F) : Prop where
  d : cv e.d = cv e.u * f + cv e.v * g
  r : cv e.rest = cv e.low * f + cv e.high * g
  b : ∃ a b c d, Po a ∧ Po b ∧ Po c ∧ Po d ∧ f = a * cv e.d + b * cv e.rest ∧ g = c * cv e.d + d * cv e.rest
  z : Lz e.d
  zr : Lz e.rest
theorem EuInv.step {f g : PS F} {e : Eu F} (h : EuInv f g e) (hr : e.rest ≠ []) : EuInv f g (euStep e) := by
  obtain ⟨h1, h2, ⟨a, b, c, d, pa, pb, pc, pd, h3, h4⟩, z, zr⟩ := h
  have hd := cv_divided (f := e.d) hr (zr.resolve_left hr)
  refine ⟨h2, ?_, ⟨a * cv (divided e.d e.rest).1 + b, a, c * cv (divided e.d e.rest).1 + d, c, (pa.mul (cv_po _)).add pb, pa, (pc.mul (cv_po _)).add pd, pc, ?_, ?_⟩, zr, trim_last _⟩
  · show cv (divided e.d e.rest).2 = cv (pminus e.u (ptimes (divided e.d e.rest).1 e.low)) * f + cv (pminus e.v (ptimes (divided e.d e.rest).1 e.high)) * g
    rw [cv_pminus, cv_pminus, cv_ptimes, cv_ptimes]
    grind
  · show f = _ * cv e.rest + a * cv (divided e.d e.rest).2
    grind
  · show g = _ * cv e.rest + c * cv (divided e.d e.rest).2
    grind
theorem euGo_inv {f g : PS F} : ∀ (n : Nat) {e : Eu F}, EuInv f g e → EuInv f g (euGo n e)
  | 0, _, h => h
  | n + 1, e, h => by
    unfold euGo
    split
    · exact h
    · rename_i hr; exact euGo_inv n (h.step hr)
theorem common_spec {f g : List F} (hf : Mon f) (hg : Lz g) : Mon (common f g) ∧ Dv (cv (common f g)) (cv f) ∧ Dv (cv (common f g)) (cv g) ∧ ∃ u v, Po u ∧ Po v ∧ u * cv f + v * cv g = cv (common f g) := by
  have h0 : EuInv (cv f) (cv g) (eu0 f g) := by
    refine ⟨?_, ?_, ⟨1, 0, 0, 1, po_1, po_0, po_0, po_1, ?_, ?_⟩, hf.lz, hg⟩
    · show cv f = cv (pnum 1) * cv f + cv [] * cv g; rw [cv_pnum, cv_nil, ← ps1]; grind
    · show cv g = cv [] * cv f + cv (pnum 1) * cv g; rw [cv_pnum, cv_nil, ← ps1]; grind
    · show cv f = 1 * cv f + 0 * cv g; grind
    · show cv g = 0 * cv f + 1 * cv g; grind
  have h := euGo_inv (g.length + 1) h0
  have hr := (euGo_len (g.length + 1) (EuOk.start hf.lz hg) (Nat.lt_succ_self _)).2
  unfold common
  dsimp only
  change EuInv (cv f) (cv g) (euEnd f g) at h
  change (euEnd f g).rest = [] at hr
  obtain ⟨h1, h2, ⟨a, b, c, d, pa, pb, pc, pd, h3, h4⟩, z, zr⟩ := h
  rw [hr, cv_nil] at h3 h4
  by_cases hd : (euEnd f g).d = []
  · exfalso
    apply hf.dg.ne0
    rw [h3, hd, cv_nil]; grind
  · rw [if_neg hd]
    have hz := z.resolve_left hd
    have hi := f_inv hz
    have e : cv (ptimes [(lst (euEnd f g).d)⁻¹] (euEnd f g).d) = psC (lst (euEnd f g).d)⁻¹ * cv (euEnd f g).d := by
      rw [cv_ptimes, cv_cons, cv_nil]; grind
    have ec : psC (lst (euEnd f g).d) * psC (lst (euEnd f g).d)⁻¹ = (1 : PS F) := ps_ext fun i => by
      rw [psC_mul, ps1, psC_at, psC_at]; split
      · exact hi
      · exact f_mul_zero _
    have dd := lz_dg hd hz
    refine ⟨(mon_of (n := (euEnd f g).d.length - 1) (ptimes_lz _ _) (fun i hi => by rw [e, psC_mul, dd.bd i hi]; exact f_mul_zero _) (by rw [e, psC_mul, lst_eq hd]; grind)).1, ⟨a * psC (lst (euEnd f g).d), pa.mul (po_C _), ?_⟩, ⟨c * psC (lst (euEnd f g).d), pc.mul (po_C _), ?_⟩, psC (lst (euEnd f g).d)⁻¹ * cv (euEnd f g).u, psC (lst (euEnd f g).d)⁻¹ * cv (euEnd f g).v, (po_C _).mul (cv_po _), (po_C _).mul (cv_po _), ?_⟩
    · rw [e]; grind
    · rw [e]; grind
    · rw [e, h1]; grind
/-! parted -/
theorem ptGo_spec {rest : List F} (hr : Mon rest) : ∀ (n : Nat) (one : List F), Mon one → one.length ≤ n → one.length ≤ 50 → ptOk rest n one ∧ Mon (ptGo rest n one) ∧ Cop (cv (ptGo rest n one)) (cv rest) ∧ (ptGo rest n one).length ≤ one.length ∧
    ∃ e, Po e ∧ cv one = e * cv (ptGo rest n one) ∧ ∀ x, Po x → Cop x (cv rest) → Cop x e
  | 0, one, h, hl, _ => by have := h.pos; omega
  | n + 1, one, h, hl, h50 => by
    obtain ⟨cm, c1, c2, u, v, pu, pv, hb⟩ := common_spec h hr.lz
    by_cases hc : (common one rest).length ≤ 1
    · have e : ptGo rest (n + 1) one = one := by unfold ptGo; rw [if_pos hc]
      rw [e]
      have c1 : common one rest = [1] := by
        have := cm.m
        cases hcc : common one rest with
        | nil => exact absurd hcc cm.ne
        | cons x xs =>
          rw [hcc] at this hc
          cases xs with
          | nil => have : x = 1 := this; rw [this]
          | cons y ys => simp at hc
      rw [c1, cv_one] at hb
      exact ⟨⟨h.lz, h50, .inl hc⟩, h, ⟨u, v, pu, pv, hb⟩, Nat.le_refl _, 1, po_1, by grind, fun x px _ => ⟨0, 1, po_0, po_1, by grind⟩⟩
    · obtain ⟨dm, de, dl⟩ := div_mon h cm c1
      obtain ⟨i1, i2, i3, i4, e, pe, i5, i6⟩ := ptGo_spec hr n (divided one (common one rest)).1 dm (by omega) (by omega)
      have ee : ptGo rest (n + 1) one = ptGo rest n (divided one (common one rest)).1 := by
        conv => lhs; unfold ptGo
        exact if_neg hc
      rw [ee]
      refine ⟨⟨h.lz, h50, .inr i1⟩, i2, i3, by omega, e * cv (common one rest), pe.mul (cv_po _), by rw [de, i5]; grind, fun x px hx => Cop.mul px pe (cv_po _) (i6 x px hx) (hx.of_dv c2)⟩
structure PartSpec (f g : List F) : Prop where
  ok : PartedOk f g
  m1 : Mon (parted f g).1
  m2 : Mon (parted f g).2
  cop : Cop (cv (parted f g).1) (cv (parted f g).2)
  d1 : Dv (cv (parted f g).1) (cv f)
  d2 : Dv (cv (parted f g).2) (cv g)
  df : Dv (cv f) (cv (parted f g).1 * cv (parted f g).2)
  dg : Dv (cv g) (cv (parted f g).1 * cv (parted f g).2)
  l1 : (parted f g).1.length ≤ f.length
  l2 : (parted f g).2.length ≤ g.length
theorem dv_len {f g : List F} (hf : Mon f) (hg : Mon g) (h : Dv (cv f) (cv g)) : f.length ≤ g.length := by
  have := (div_mon hg hf h).2.2
  have := (div_mon hg hf h).1.pos
  omega
theorem part_spec {f g : List F} (hf : Mon f) (hg : Mon g) (lf : f.length ≤ 40) (lg : g.length ≤ 40) : PartSpec f g := by
  obtain ⟨cm, c1, c2, u, v, pu, pv, hb⟩ := common_spec hf hg.lz
  obtain ⟨rm, re, rl⟩ := div_mon hg cm c2
  have rm : Mon (ptRest f g) := rm
  have re : cv g = cv (ptRest f g) * cv (common f g) := re
  obtain ⟨o1, om, ocop, ol, e, pe, oe, ox⟩ := ptGo_spec rm (f.length + 1) f hf (Nat.le_succ _) (by omega)
  obtain ⟨wm, wl⟩ := mon_times hf rm
  have hone : (parted f g).1 = ptGo (ptRest f g) (f.length + 1) f := rfl
  have htwo : (parted f g).2 = (divided (ptimes f (ptRest f g)) (ptGo (ptRest f g) (f.length + 1) f)).1 := rfl
  have dw : Dv (cv (ptGo (ptRest f g) (f.length + 1) f)) (cv (ptimes f (ptRest f g))) := ⟨e * cv (ptRest f g), pe.mul (cv_po _), by rw [cv_ptimes, oe]; grind⟩
  obtain ⟨tm, te, tl⟩ := div_mon wm om dw
  rw [← htwo] at tm te tl
  rw [← hone] at te tl om ocop ol oe
  have et : cv (parted f g).2 = e * cv (ptRest f g) := by
    refine po_cancel (cv_po (parted f g).1) (cv_po _) (pe.mul (cv_po _)) om.dg.ne0 ?_
    have : cv f * cv (ptRest f g) = cv (parted f g).2 * cv (parted f g).1 := by rw [← te, cv_ptimes]
    rw [oe] at this
    grind
  have hcop : Cop (cv (parted f g).1) (cv (parted f g).2) := by
    rw [et]
    exact Cop.mul (cv_po _) pe (cv_po _) (ox _ (cv_po _) ocop) ocop
  obtain ⟨h, ph, eh⟩ := c1
  have hcr : Cop h (cv (ptRest f g)) := ⟨u, v, pu, pv, by
    refine po_cancel (cv_po (common f g)) ((pu.mul ph).add (pv.mul (cv_po _))) po_1 cm.dg.ne0 ?_
    grind⟩
  have hec : Dv e (cv (common f g)) := Cop.dv (cv_po _) (ox h ph hcr).symm (by
    rw [← eh]; exact ⟨cv (parted f g).1, cv_po _, by rw [oe]; grind⟩)
  have hd2 : Dv (cv (parted f g).2) (cv g) := by
    obtain ⟨q, pq, eq⟩ := hec
    exact ⟨q, pq, by rw [re, et, eq]; grind⟩
  have hl2 := dv_len tm hg hd2
  exact ⟨⟨lf, lg, hf.lz, hg.lz, cm.ne, rm.lz, o1, om.ne, om.lz, by omega⟩, om, tm, hcop, ⟨e, pe, oe⟩, hd2, ⟨cv (ptRest f g), cv_po _, by rw [et, oe]; grind⟩, ⟨h, ph, by rw [et, re]; rw [eh] at oe; grind⟩, ol, hl2⟩
end
end Tf
set_option maxRecDepth 100000
set_option maxHeartbeats 4000000
namespace Tf
section
variable {F : Type} [Lean.Grind.Field F] [DecidableEq F]
/-! ### polynomials act -/
structure Lin (L : Vc F → Vc F) : Prop where
  add : ∀ v w : Vc F, L (fun i => v i + w i) = fun i => L v i + L w i
  smul : ∀ (c : F) (v : Vc F), L (fun i => c * v i) = fun i => c * L v i
theorem Lin.zero {L : Vc F → Vc F} (h : Lin L) : L (fun _ => 0) = fun _ => 0 := by
  have := h.smul 0 (fun _ => 0)
  have e : (fun _ : Nat => (0 : F) * 0) = fun _ => 0 := by funext i; exact f_mul_zero _
  rw [e] at this
  rw [this]; funext i; exact f_zero_mul _
theorem Lin.sum {L : Vc F → Vc F} (h : Lin L) (c : Nat → F) (f : Nat → Vc F) : ∀ k, L (fun i => sm k fun l => c l * f l i) = fun i => sm k fun l => c l * L (f l) i
  | 0 => h.zero
  | k + 1 => by
    show L (fun i => sm k (fun l => c l * f l i) + c k * f k i) = _
    rw [h.add, h.sum c f k, h.smul]
    rfl
theorem lin_mul (A : List (List F)) (n : Nat) : Lin (mul A n) := ⟨mul_add A n, mul_smul A n⟩
def act (L : Vc F → Vc F) : List F → Vc F → Vc F
  | [], _ => fun _ => 0
  | c :: q, v => fun i => c * v i + L (act L q v) i
def Lp (L : Vc F → Vc F) : Nat → Vc F → Vc F
  | 0, v => v
  | k + 1, v => L (Lp L k v)
section
variable {L : Vc F → Vc F} (hL : Lin L)
include hL
theorem act_eq : ∀ (p : List F) (v : Vc F), act L p v = fun i => sm p.length fun k => gt p k * Lp L k v i
  | [], v => rfl
  | c :: q, v => by
    funext i
    rw [act, act_eq q v, hL.sum (fun k => gt q k) (fun k => Lp L k v), List.length_cons, sm_front]
    rfl
theorem act_big {p : List F} {n : Nat} (h : p.length ≤ n) (v : Vc F) : act L p v = fun i => sm n fun k => gt p k * Lp L k v i := by
  rw [act_eq hL]; funext i
  exact (sm_more h fun k h1 _ => by rw [gt_ge h1]; exact f_zero_mul _).symm
theorem act_congr {p q : List F} (h : cv p = cv q) (v : Vc F) : act L p v = act L q v := by
  rw [act_big hL (Nat.le_max_left p.length q.length), act_big hL (Nat.le_max_right p.length q.length)]
  funext i
  exact sm_congr fun k _ => by rw [← cv_at, h, cv_at]
theorem act_nil {p : List F} (h : cv p = 0) (v : Vc F) : act L p v = fun _ => 0 := by rw [act_congr hL (q := []) (by rw [h, cv_nil])]; rfl
theorem act_addL : ∀ (p q : List F) (v : Vc F), act L (addL p q) v = fun i => act L p v i + act L q v i
  | [], [], v => by funext i; exact (f_add_zero _).symm
  | [], y :: q, v => by funext i; exact (f_zero_add _).symm
  | x :: p, [], v => by funext i; exact (f_add_zero _).symm
  | x :: p, y :: q, v => by
    funext i
    rw [addL, act, act_addL p q, hL.add]
    show _ = (x * v i + L (act L p v) i) + (y * v i + L (act L q v) i)
    grind
theorem act_smulL (c : F) : ∀ (p : List F) (v : Vc F), act L (p.map fun x => c * x) v = fun i => c * act L p v i
  | [], v => by funext i; exact (f_mul_zero _).symm
  | x :: p, v => by
    funext i
    rw [List.map_cons, act, act_smulL c p, hL.smul]
    show _ = c * (x * v i + L (act L p v) i)
    grind
theorem act_lin (p : List F) : Lin (act L p) := by
  induction p with
  | nil => exact ⟨fun v w => by funext i; exact (f_add_zero _).symm, fun c v => by funext i; exact (f_mul_zero _).symm⟩
  | cons x p ih =>
    refine ⟨fun v w => ?_, fun c v => ?_⟩
    · funext i
      show x * (v i + w i) + L (act L p fun i => v i + w i) i = (x * v i + L (act L p v) i) + (x * w i + L (act L p w) i)
      rw [ih.add, hL.add]; grind
    · funext i
      show x * (c * v i) + L (act L p fun i => c * v i) i = c * (x * v i + L (act L p v) i)
      rw [ih.smul, hL.smul]; grind
omit hL in
theorem po_list {f : PS F} (h : Po f) : ∃ p : List F, cv p = f := by
  obtain ⟨n, hn⟩ := h
  refine ⟨(List.range n).map f, ps_ext fun i => ?_⟩
  refine (gt_range f n i).trans ?_
  split
  · rfl
  · exact (hn i (by omega)).symm
omit hL in
theorem cv_smul (c : F) (p : List F) : cv (p.map fun x => c * x) = psC c * cv p := ps_ext fun i => by rw [cv_at, gt_smul, psC_mul, cv_at]
theorem act_mul : ∀ (p q r : List F), cv r = cv p * cv q → ∀ v, act L r v = act L p (act L q v)
  | [], q, r, h, v => act_nil hL (by rw [h, cv_nil]; grind) v
  | c :: p, q, r, h, v => by
    obtain ⟨r', hr⟩ := po_list ((cv_po p).mul (cv_po q))
    have e : cv r = cv (addL (q.map fun x => c * x) (0 :: r')) := by
      rw [h, cv_addL, cv_smul, cv_cons, cv_cons, hr, ← ps_zero]; grind
    rw [act_congr hL e, act_addL hL, act_smulL hL]
    funext i
    show c * act L q v i + (0 * v i + L (act L r' v) i) = c * act L q v i + L (act L p (act L q v)) i
    rw [act_mul p q r' hr]; grind
theorem act_comb {h q f r : List F} (e : cv h = cv q * cv f + cv r) (v : Vc F) : act L h v = fun i => act L q (act L f v) i + act L r v i := by
  have e2 : cv h = cv (addL (ptimes q f) r) := by rw [cv_addL, cv_ptimes]; exact e
  rw [act_congr hL e2, act_addL hL, act_mul hL q f _ (cv_ptimes q f)]
theorem act_comm (p q : List F) (v : Vc F) : act L p (act L q v) = act L q (act L p v) := by
  rw [← act_mul hL p q (ptimes p q) (cv_ptimes p q), ← act_mul hL q p (ptimes p q) (by rw [cv_ptimes]; grind)]
/-- the least polynomial of a vector -/
structure MinP (L : Vc F → Vc F) (v : Vc F) (f : List F) : Prop where
  mon : Mon f
  z : act L f v = fun _ => 0
  mn : ∀ h : List F, h.length < f.length → (act L h v = fun _ => 0) → cv h = 0
theorem dv_zero {f h : List F} {v : Vc F} (hz : act L f v = fun _ => 0) (hd : Dv (cv f) (cv h)) : act L h v = fun _ => 0 := by
  obtain ⟨q, pq, e⟩ := hd
  obtain ⟨q, rfl⟩ := po_list pq
  rw [act_mul hL q f h e, hz, (act_lin hL q).zero]
theorem MinP.dv {v : Vc F} {f h : List F} (m : MinP L v f) (hz : act L h v = fun _ => 0) : Dv (cv f) (cv h) := by
  have e := cv_divided (f := h) m.mon.ne m.mon.z
  have hr : act L (divided h f).2 v = fun _ => 0 := by
    have := act_comb hL e v
    rw [hz, m.z, (act_lin hL _).zero] at this
    funext i
    have := congrFun this i
    grind
  have := m.mn _ (divided_len m.mon.ne).1 hr
  exact ⟨_, cv_po (divided h f).1, by rw [this] at e; grind⟩
omit hL in
theorem dv_small {f h : List F} (hf : Mon f) (hd : Dv (cv f) (cv h)) (hl : h.length < f.length) : cv h = 0 := by
  obtain ⟨q, ⟨n, hn⟩, e⟩ := hd
  rcases bd_dg hn with z | ⟨k, _, hk⟩
  · rw [e, z]; grind
  · have d := hk.mul hf.dg
    rw [← e] at d
    exact absurd (cv_bd h _ (by have := hf.pos; omega)) d.ne
end
/-! ### the table's own -/
section
variable {A : List (List F)} {n : Nat} (hA : Rect A n) (hn : A.length = n) (h0 : 0 < n)
include hA hn
theorem gt_pw {v : List F} (hv : v.length = n) : ∀ k, gt (pw A v k) = Lp (mul A n) k (gt v)
  | 0 => rfl
  | k + 1 => by
    show gt (image A (pw A v k)) = mul A n (Lp (mul A n) k (gt v))
    rw [gt_image hA (by rw [pw_len (by rw [hv, hn]), hn]), gt_pw hv k]
theorem gt_atCol {v : List F} (hv : v.length = n) : ∀ q, gt (atCol A v q) = act (mul A n) q (gt v)
  | [] => by funext i; exact gt_noughts _ i
  | c :: q => by
    funext i
    show gt (plusCol (image A (atCol A v q)) c v) i = c * gt v i + mul A n (act (mul A n) q (gt v)) i
    unfold plusCol
    rw [gt_range, gt_image hA (by rw [atCol_len, hv]), gt_atCol hv q]
    split
    · grind
    · rw [gt_ge (xs := v) (by omega), mul_sup (m := n) (by omega) _ i (by omega)]; grind
theorem lp_sup {v : Vc F} (hv : Sup n v) : ∀ k, Sup n (Lp (mul A n) k v)
  | 0 => hv
  | k + 1 => mul_sup (by omega) _
theorem act_sup {v : Vc F} (hv : Sup n v) : ∀ p, Sup n (act (mul A n) p v)
  | [] => fun _ _ => rfl
  | c :: q => fun i hi => by
    show c * v i + mul A n (act (mul A n) q v) i = 0
    rw [hv i hi, mul_sup (m := n) (by omega) _ i hi]; grind
/-- what the columns v, Av, .. make together -/
theorem mul_chain {v : List F} (hv : v.length = n) {k : Nat} (hk : 0 < k) (h0 : 0 < n) (c : Vc F) : mul (turned (chained A v k)) k c = act (mul A n) ((List.range k).map c) (gt v) := by
  have cr := chained_rect (A := A) (v := v) (by rw [hv, hn]) k
  have cl := chained_len A v k
  have cn : chained A v k ≠ [] := fun e => by rw [e] at cl; simp at cl; omega
  rw [act_big (lin_mul A n) (p := (List.range k).map c) (n := k) (by simp)]
  funext i
  unfold mul
  refine sm_congr fun j hj => ?_
  rw [en_turned (by rw [ncols_eq cr cn]; exact cr), gt_range, if_pos hj]
  have e : en (chained A v k) j i = Lp (mul A n) j (gt v) i := by
    have hg := chained_get (A := A) (v := v) hj
    have : rw_ (chained A v k) j = pw A v j := by
      unfold rw_
      rw [List.getD_eq_getElem?_getD, hg]; rfl
    unfold en
    rw [this, gt_pw hA hn hv]
  rw [e]
  exact f_mul_comm _ _
def Ind (A : List (List F)) (n : Nat) (v : List F) (k : Nat) : Prop := ∀ h : List F, h.length ≤ k → (act (mul A n) h (gt v) = fun _ => 0) → cv h = 0
omit hA hn in
theorem range_gt {k : Nat} {c : Vc F} (hc : Sup k c) : gt ((List.range k).map c) = c := by
  funext i; rw [gt_range]; split
  · rfl
  · exact (hc i (by omega)).symm
theorem chain_t (h0 : 0 < n) {v : List F} (hv : v.length = n) {k : Nat} (hk : 0 < k) : turned (chained A v k) ≠ [] ∧ (turned (chained A v k)).length = n ∧ ncols (turned (chained A v k)) = k ∧ Rect (turned (chained A v k)) (ncols (turned (chained A v k))) := by
  have cr := chained_rect (A := A) (v := v) (by rw [hv, hn]) k
  have cl := chained_len A v k
  have cn : chained A v k ≠ [] := fun e => by rw [e] at cl; simp at cl; omega
  obtain ⟨a, b, c, d⟩ := turned_rect cr cn (by omega)
  exact ⟨a, by omega, by omega, d⟩
theorem ind_inj (h0 : 0 < n) {v : List F} (hv : v.length = n) {k : Nat} (hk : 0 < k) (hi : Ind A n v k) : InjM (turned (chained A v k)) := by
  obtain ⟨a, b, c, d⟩ := chain_t hA hn h0 hv hk
  intro x hx hz
  rw [c] at hx hz
  rw [mul_chain hA hn hv hk h0] at hz
  have := hi _ (by simp) hz
  rw [← range_gt hx]
  funext i
  have := congrFun this i
  rwa [ps0] at this
theorem ind_le (h0 : 0 < n) {v : List F} (hv : v.length = n) {k : Nat} (hk : 0 < k) (hi : Ind A n v k) : k ≤ n := by
  obtain ⟨a, b, c, d⟩ := chain_t hA hn h0 hv hk
  have := inj_le d a (ind_inj hA hn h0 hv hk hi)
  omega
theorem minp_len (h0 : 0 < n) {v f : List F} (hv : v.length = n) (m : MinP (mul A n) (gt v) f) : f.length ≤ n + 1 := by
  by_cases h : f.length ≤ 1
  · omega
  · have := ind_le hA hn h0 hv (k := f.length - 1) (by omega) fun h hl hz => m.mn h (by omega) hz
    omega
theorem lo_spec (h0 : 0 < n) {v : List F} (hv : v.length = n) : ∀ (fuel k : Nat), 0 < k → fuel + k = n + 2 → Ind A n v k →
    loFound A fuel (chained A v k) (pw A v k) ∧ MinP (mul A n) (gt v) ((loGo A fuel (chained A v k) (pw A v k)).map (fun c => 0 - c) ++ [1])
  | 0, k, hk, hf, hi => by have := ind_le hA hn h0 hv hk hi; omega
  | fuel + 1, k, hk, hf, hi => by
    obtain ⟨a, b, c, d⟩ := chain_t hA hn h0 hv hk
    have hpl : (pw A v k).length = (turned (chained A v k)).length := by rw [pw_len (by rw [hv, hn]), b, hn]
    unfold loFound loGo
    cases hs : (solved (turned (chained A v k)) (pw A v k)).1 with
    | true =>
      refine ⟨.inl rfl, ?_⟩
      rw [if_pos rfl]
      have hx := sol_found d hpl hs
      have xl := solved_len hs
      generalize (solved (turned (chained A v k)) (pw A v k)).2 = x at *
      rw [c] at hx xl
      rw [mul_chain hA hn hv hk h0, gt_pw hA hn hv] at hx
      have fl : (x.map (fun c => 0 - c) ++ [1]).length = k + 1 := by simp [xl]
      have xr : (List.range k).map (gt x) = x := ext_gt (by simp [xl]) fun i hi => by rw [gt_range, if_pos (by simpa using hi)]
      rw [xr, act_big (lin_mul A n) (n := k) (by omega)] at hx
      refine ⟨⟨by simp, ?_⟩, ?_, fun h hl hz => hi h (by omega) hz⟩
      · show gt _ _ = 1
        rw [fl, gt_append, if_neg (by simp; omega)]
        simp [xl]; rfl
      · rw [act_eq (lin_mul A n), fl]
        funext i
        rw [sm]
        have e1 : sm k (fun j => gt (x.map (fun c => 0 - c) ++ [1]) j * Lp (mul A n) j (gt v) i) = (0 - 1) * sm k fun j => gt x j * Lp (mul A n) j (gt v) i := by
          rw [← sm_mul]
          refine sm_congr fun j hj => ?_
          rw [gt_append, if_pos (by simpa [xl] using hj), gt_map, List.getElem?_eq_getElem (by omega), gt_get (xs := x) (by omega)]
          grind
        have e2 : gt (x.map (fun c => 0 - c) ++ [1]) k = 1 := by
          rw [gt_append, if_neg (by simp; omega)]; simp [xl]; rfl
        rw [e1, e2, congrFun hx i]
        grind
    | false =>
      rw [if_neg (by simp)]
      have hi2 : Ind A n v (k + 1) := by
        intro h hl hz
        have hz2 := hz
        rw [act_big (lin_mul A n) hl] at hz2
        by_cases e : gt h k = 0
        · have hd : cv (h.take k) = cv h := ps_ext fun i => by
            rw [cv_at, cv_at]
            by_cases hi : i < (h.take k).length
            · rw [gt_get hi, gt_get (by rw [List.length_take] at hi; omega), List.getElem_take]
            · rw [gt_ge (by omega)]
              rw [List.length_take] at hi
              by_cases h2 : i = k
              · rw [h2, e]
              · rw [gt_ge (by omega)]
          rw [← hd]
          exact hi _ (by rw [List.length_take]; omega) (by rw [act_congr (lin_mul A n) hd]; exact hz)
        · exfalso
          have := sol_never d hpl (fun j => if j < k then (0 - (gt h k)⁻¹) * gt h j else 0) (by
            rw [c, mul_chain hA hn hv hk h0, gt_pw hA hn hv, act_big (lin_mul A n) (n := k) (by simp)]
            funext i
            have h3 := congrFun hz2 i
            rw [sm] at h3
            have e1 : sm k (fun j => gt ((List.range k).map fun j => if j < k then (0 - (gt h k)⁻¹) * gt h j else 0) j * Lp (mul A n) j (gt v) i) = (0 - (gt h k)⁻¹) * sm k fun j => gt h j * Lp (mul A n) j (gt v) i := by
              rw [← sm_mul]
              refine sm_congr fun j hj => ?_
              rw [gt_range, if_pos hj, if_pos hj]
              grind
            rw [e1]
            have := f_inv e
            grind)
          rw [hs] at this
          cases this
      have ih := lo_spec h0 hv fuel (k + 1) (by omega) (by omega) hi2
      rw [chained_succ] at ih
      exact ⟨.inr ih.1, ih.2⟩
theorem leastOf_spec (h0 : 0 < n) {v : List F} (hv : v.length = n) : LoOk A v ∧ MinP (mul A n) (gt v) (leastOf A v) := by
  unfold leastOf
  cases hz : allNought v with
  | true =>
    refine ⟨⟨by rw [hv, hn], fun h => by rw [hz] at h; cases h⟩, ?_⟩
    rw [if_pos rfl]
    have e : gt v = fun _ => 0 := by
      funext i
      unfold allNought at hz
      rw [List.all_eq_true] at hz
      by_cases hi : i < v.length
      · rw [gt_get hi]; exact of_decide_eq_true (hz _ (List.getElem_mem hi))
      · exact gt_ge (by omega)
    refine ⟨⟨by simp, rfl⟩, ?_, fun h hl _ => by
      have : h = [] := List.length_eq_zero_iff.mp (by simp at hl; rw [hl]; rfl)
      rw [this, cv_nil]⟩
    rw [e]; exact (act_lin (lin_mul A n) [1]).zero
  | false =>
    rw [if_neg (by simp)]
    have hi : Ind A n v 1 := by
      intro h hl hz2
      rw [act_big (lin_mul A n) hl] at hz2
      have h0 : gt h 0 = 0 := by
        by_cases e : gt h 0 = 0
        · exact e
        · exfalso
          have hv0 : ∀ i, gt v i = 0 := fun i => by
            have := congrFun hz2 i
            simp only [sm, Lp] at this
            have h2 := f_inv e
            grind
          have : allNought v = true := by
            unfold allNought
            rw [List.all_eq_true]
            intro x hx
            obtain ⟨i, hi, rfl⟩ := List.getElem_of_mem hx
            rw [← gt_get hi, hv0]; simp
          rw [hz] at this; cases this
      refine ps_ext fun i => ?_
      rw [cv_at, ps0]
      cases i with
      | zero => exact h0
      | succ i => exact gt_ge (by omega)
    have := lo_spec hA hn h0 hv (n + 1) 1 (by omega) (by omega) hi
    have e1 : chained A v 1 = [v] := rfl
    have e2 : pw A v 1 = image A v := rfl
    rw [e1, e2, ← hv] at this
    rw [hv] at this ⊢
    exact ⟨⟨by rw [hv, hn], fun _ => by rw [hv]; exact this.1⟩, this.2⟩
end
end
end Tf
set_option maxRecDepth 100000
set_option maxHeartbeats 4000000
namespace Tf
section
variable {F : Type} [Lean.Grind.Field F] [DecidableEq F]
variable {A : List (List F)} {n : Nat} (hA : Rect A n) (hn : A.length = n) (h0 : 0 < n) (hm : n ≤ 15)
include hA hn h0 hm
theorem gt_plusVec {l r : List F} (hl : l.length = n) (hr : r.length = n) : gt (plusVec l r) = fun i => gt l i + gt r i := by
  funext i
  unfold plusVec
  rw [gt_range]
  split
  · rfl
  · rw [gt_ge (xs := l) (by omega), gt_ge (xs := r) (by omega)]; exact (f_add_zero _).symm
structure JSpec (A : List (List F)) (n : Nat) (a b : List F × List F) : Prop where
  ok : JoinedOk A a b
  m : MinP (mul A n) (gt (joined A a b).2) (joined A a b).1
  l : (joined A a b).2.length = n
  da : Dv (cv a.1) (cv (joined A a b).1)
  db : Dv (cv b.1) (cv (joined A a b).1)
/-- one side of the least polynomial of the sum -/
theorem joined_half {v w : Vc F} {f g f1 f2 g1 g2 h : List F} (mf : MinP (mul A n) v f) (zg : act (mul A n) g w = fun _ => 0) (m1 : Mon f1) (e1 : cv f = cv f2 * cv f1) (e2 : cv g = cv g2 * cv g1) (hf2 : cv f2 ≠ 0) (hc : Cop (cv f1) (cv g1))
    (hz : act (mul A n) h (fun i => act (mul A n) f2 v i + act (mul A n) g2 w i) = fun _ => 0) : Dv (cv f1) (cv h) := by
  have L := lin_mul A n
  have k1 : act (mul A n) (ptimes g1 h) (fun i => act (mul A n) f2 v i + act (mul A n) g2 w i) = fun _ => 0 := by rw [act_mul L g1 h _ (cv_ptimes _ _), hz, (act_lin L g1).zero]
  have k2 : act (mul A n) (ptimes g1 h) (act (mul A n) g2 w) = fun _ => 0 := by
    rw [← act_mul L (ptimes g1 h) g2 (ptimes (ptimes g1 h) g2) (cv_ptimes _ _)]
    exact dv_zero L zg ⟨cv h, cv_po h, by rw [cv_ptimes, cv_ptimes, e2]; grind⟩
  rw [(act_lin L _).add, k2] at k1
  have k3 : act (mul A n) (ptimes (ptimes g1 h) f2) v = fun _ => 0 := by
    rw [act_mul L (ptimes g1 h) f2 _ (cv_ptimes _ _)]
    funext i
    have := congrFun k1 i
    grind
  obtain ⟨q, pq, e⟩ := mf.dv L k3
  rw [cv_ptimes, cv_ptimes, e1] at e
  have : cv g1 * cv h = q * cv f1 := by
    refine po_cancel (cv_po f2) ((cv_po _).mul (cv_po _)) (pq.mul (cv_po _)) hf2 ?_
    grind
  exact Cop.dv (cv_po h) hc ⟨q, pq, this⟩
theorem joined_spec {a b : List F × List F} (ma : MinP (mul A n) (gt a.2) a.1) (mb : MinP (mul A n) (gt b.2) b.1) (la : a.2.length = n) (lb : b.2.length = n) : JSpec A n a b := by
  have L := lin_mul A n
  have fa := minp_len hA hn h0 la ma
  have fb := minp_len hA hn h0 lb mb
  have P := part_spec ma.mon mb.mon (by omega) (by omega)
  obtain ⟨qa, ea, _⟩ := div_mon ma.mon P.m1 P.d1
  obtain ⟨qb, eb, _⟩ := div_mon mb.mon P.m2 P.d2
  have j2 : (joined A a b).2 = plusVec (atCol A a.2 (divided a.1 (parted a.1 b.1).1).1) (atCol A b.2 (divided b.1 (parted a.1 b.1).2).1) := by unfold joined; dsimp only
  have jl : (joined A a b).2.length = n := by
    rw [j2]
    simp [plusVec, atCol_len, la]
  have je : gt (joined A a b).2 = fun i => act (mul A n) (divided a.1 (parted a.1 b.1).1).1 (gt a.2) i + act (mul A n) (divided b.1 (parted a.1 b.1).2).1 (gt b.2) i := by
    rw [j2, gt_plusVec (A := A) hA hn h0 hm (by rw [atCol_len, la]) (by rw [atCol_len, lb]), gt_atCol hA hn la, gt_atCol hA hn lb]
  have jp : (joined A a b).1 = ptimes (parted a.1 b.1).1 (parted a.1 b.1).2 := rfl
  have jm := mon_times P.m1 P.m2
  refine ⟨⟨P.ok, P.m2.ne, P.m2.lz, by have := P.l2; omega, by rw [la, hn], by rw [lb, hn]⟩, ⟨by rw [jp]; exact jm.1, ?_, fun h hl hz => ?_⟩, jl, by rw [jp, cv_ptimes]; exact P.df, by rw [jp, cv_ptimes]; exact P.dg⟩
  · rw [je, jp, (act_lin L _).add]
    have z1 : act (mul A n) (ptimes (parted a.1 b.1).1 (parted a.1 b.1).2) (act (mul A n) (divided a.1 (parted a.1 b.1).1).1 (gt a.2)) = fun _ => 0 := by
      rw [← act_mul L _ _ (ptimes (ptimes (parted a.1 b.1).1 (parted a.1 b.1).2) (divided a.1 (parted a.1 b.1).1).1) (cv_ptimes _ _)]
      exact dv_zero L ma.z ⟨cv (parted a.1 b.1).2, cv_po _, by rw [cv_ptimes, cv_ptimes, ea]; grind⟩
    have z2 : act (mul A n) (ptimes (parted a.1 b.1).1 (parted a.1 b.1).2) (act (mul A n) (divided b.1 (parted a.1 b.1).2).1 (gt b.2)) = fun _ => 0 := by
      rw [← act_mul L _ _ (ptimes (ptimes (parted a.1 b.1).1 (parted a.1 b.1).2) (divided b.1 (parted a.1 b.1).2).1) (cv_ptimes _ _)]
      exact dv_zero L mb.z ⟨cv (parted a.1 b.1).1, cv_po _, by rw [cv_ptimes, cv_ptimes, eb]; grind⟩
    rw [z1, z2]
    funext i
    exact f_add_zero _
  · rw [je] at hz
    have d1 : Dv (cv (parted a.1 b.1).1) (cv h) := joined_half hA hn h0 hm ma mb.z P.m1 ea eb qa.dg.ne0 P.cop hz
    have d2 : Dv (cv (parted a.1 b.1).2) (cv h) := joined_half hA hn h0 hm mb ma.z P.m2 eb ea qb.dg.ne0 P.cop.symm (by
      have e : (fun i => act (mul A n) (divided b.1 (parted a.1 b.1).2).1 (gt b.2) i + act (mul A n) (divided a.1 (parted a.1 b.1).1).1 (gt a.2) i) = fun i => act (mul A n) (divided a.1 (parted a.1 b.1).1).1 (gt a.2) i + act (mul A n) (divided b.1 (parted a.1 b.1).2).1 (gt b.2) i := by funext i; grind
      rw [e]; exact hz)
    exact dv_small jm.1 (by rw [cv_ptimes]; exact Cop.mul_dv (cv_po h) P.cop d1 d2) (by rw [jp] at hl; exact hl)
/-- a vector whose least polynomial is as long as can be makes all -/
theorem cyclic {w f : List F} (hw : w.length = n) (m : MinP (mul A n) (gt w) f) (hf : n < f.length) (u : Vc F) (hu : Sup n u) : act (mul A n) f u = fun _ => 0 := by
  have L := lin_mul A n
  have hi : Ind A n w n := fun h hl hz => m.mn h (by omega) hz
  obtain ⟨a, b, c, d⟩ := chain_t hA hn h0 hw (k := n) h0
  have hinj := ind_inj hA hn h0 hw h0 hi
  have hl := inj_leads d a hinj
  have hul : ((List.range n).map u).length = (turned (chained A w n)).length := by rw [b]; simp
  have hs := sol_all d hul (by rw [hl, c, b])
  have hx := sol_found d hul hs
  rw [c, mul_chain hA hn hw h0 h0, range_gt hu] at hx
  rw [← hx, act_comm L, m.z, (act_lin L _).zero]
theorem leastGo_spec : ∀ (cs : List (List F)) (t : List F × List F), (∀ c ∈ cs, c.length = n) → MinP (mul A n) (gt t.2) t.1 → t.2.length = n →
    LeastOk A cs t ∧ MinP (mul A n) (gt (leastGo A cs t).2) (leastGo A cs t).1 ∧ (leastGo A cs t).2.length = n ∧ (n < (leastGo A cs t).1.length ∨ ∀ c ∈ cs, act (mul A n) (leastGo A cs t).1 (gt c) = fun _ => 0) ∧ Dv (cv t.1) (cv (leastGo A cs t).1)
  | [], t, _, m, l => ⟨trivial, m, l, .inr fun c h => (by cases h), Dv.refl _⟩
  | c :: cs, t, hc, m, l => by
    have L := lin_mul A n
    have lc := hc c (List.mem_cons_self ..)
    obtain ⟨lo1, lo2⟩ := leastOf_spec hA hn h0 lc
    have J := joined_spec hA hn h0 hm (a := t) (b := (leastOf A c, c)) m lo2 l lc
    have zc : act (mul A n) (joined A t (leastOf A c, c)).1 (gt c) = fun _ => 0 := dv_zero L lo2.z J.db
    unfold LeastOk leastGo
    by_cases h : A.length < (joined A t (leastOf A c, c)).1.length
    · rw [if_pos h]
      exact ⟨⟨lo1, J.ok, .inl h⟩, J.m, J.l, .inl (by omega), J.da⟩
    · rw [if_neg h]
      obtain ⟨i1, i2, i3, i4, i5⟩ := leastGo_spec cs (joined A t (leastOf A c, c)) (fun c hc2 => hc c (List.mem_cons_of_mem _ hc2)) J.m J.l
      refine ⟨⟨lo1, J.ok, .inr i1⟩, i2, i3, ?_, J.da.trans i5⟩
      rcases i4 with z | z
      · exact .inl z
      · refine .inr fun d hd => ?_
        rcases List.mem_cons.mp hd with rfl | hd
        · exact dv_zero L zc i5
        · exact z d hd
structure LeastSpec (A : List (List F)) (n : Nat) : Prop where
  ok : LeastOk A (unit A.length) ([1], noughts A.length)
  m : MinP (mul A n) (gt (least A).2) (least A).1
  l : (least A).2.length = n
  z : ∀ u : Vc F, Sup n u → act (mul A n) (least A).1 u = fun _ => 0
  l1 : 2 ≤ (least A).1.length
  l2 : (least A).1.length ≤ n + 1
theorem least_spec : LeastSpec A n := by
  have L := lin_mul A n
  have hu : ∀ c ∈ (unit A.length : List (List F)), c.length = n := fun c hc => by rw [(unit_rect A.length).1 c hc, hn]
  have e0 : gt (noughts A.length : List F) = fun _ => 0 := by funext i; exact gt_noughts _ i
  have m0 : MinP (mul A n) (gt (noughts A.length : List F)) [1] := by
    rw [e0]
    exact ⟨⟨by simp, rfl⟩, (act_lin L [1]).zero, fun h hl _ => by
      have : h = [] := List.length_eq_zero_iff.mp (by simp at hl; rw [hl]; rfl)
      rw [this, cv_nil]⟩
  obtain ⟨i1, i2, i3, i4, i5⟩ := leastGo_spec hA hn h0 hm (unit A.length) ([1], noughts A.length) hu m0 (by simp [noughts, hn])
  have hz : ∀ u : Vc F, Sup n u → act (mul A n) (least A).1 u = fun _ => 0 := fun u hu => by
    rcases i4 with z | z
    · exact cyclic hA hn h0 hm i3 i2 z u hu
    · rw [vec_sum hu, (act_lin L _).sum u ev n]
      funext i
      refine sm_zero' fun k hk => ?_
      have hk2 : (unit A.length : List (List F))[k]? = some (unitRow A.length k) := by
        unfold unit
        rw [List.getElem?_map, List.getElem?_range (by omega)]; rfl
      have := z _ (List.mem_of_getElem? hk2)
      have e : gt (unitRow A.length k : List F) = ev k := by
        funext j
        unfold unitRow ev
        rw [gt_range]
        by_cases hj : j < A.length
        · rw [if_pos hj]
          by_cases e : k = j
          · rw [if_pos e, if_pos e.symm]
          · rw [if_neg e, if_neg (Ne.symm e)]
        · rw [if_neg hj, if_neg (by omega)]
      rw [e] at this
      show u k * act (mul A n) (leastGo A (unit A.length) ([1], noughts A.length)).1 (ev k) i = 0
      rw [this]
      exact f_mul_zero _
  refine ⟨i1, i2, i3, hz, ?_, minp_len hA hn h0 i3 i2⟩
  rcases Nat.lt_or_ge (least A).1.length 2 with h | h
  · exfalso
    have hm1 : Mon (least A).1 := i2.mon
    have hp := hm1.pos
    have h1 : (least A).1.length = 1 := by omega
    have he := hz (ev 0) (fun i hi => by unfold ev; rw [if_neg (by omega)])
    rw [act_eq L, h1] at he
    have := congrFun he 0
    simp only [sm, Lp] at this
    have ht := hm1.m
    unfold lst at ht
    rw [h1] at ht
    have : (0 : F) + gt (least A).1 0 * ev 0 0 = 0 := this
    have ht : gt (least A).1 0 = 1 := ht
    rw [ht] at this
    have e0 : (ev 0 0 : F) = 1 := rfl
    rw [e0] at this
    apply f_one_ne (F := F)
    grind
  · exact h
end
end Tf
set_option maxRecDepth 100000
set_option maxHeartbeats 4000000
namespace Tf
section
variable {F : Type} [Lean.Grind.Field F] [DecidableEq F]
/-! ### pairings -/
def ip (n : Nat) (y x : Vc F) : F := sm n fun j => y j * x j
theorem ip_add (n : Nat) (y v w : Vc F) : ip n y (fun i => v i + w i) = ip n y v + ip n y w := by unfold ip; rw [← sm_add]; exact sm_congr fun j _ => by grind
theorem ip_sum (n : Nat) (y : Vc F) (c : Nat → F) (f : Nat → Vc F) (k : Nat) : ip n y (fun i => sm k fun l => c l * f l i) = sm k fun l => c l * ip n y (f l) := by
  unfold ip
  calc sm n (fun j => y j * sm k fun l => c l * f l j) = sm n (fun j => sm k fun l => y j * (c l * f l j)) := sm_congr fun j _ => (sm_mul _ _ _).symm
    _ = sm k (fun l => sm n fun j => y j * (c l * f l j)) := sm_comm _ _ _
    _ = _ := sm_congr fun l _ => by rw [← sm_mul]; exact sm_congr fun j _ => by grind
theorem ip_sym (n : Nat) (y x : Vc F) : ip n y x = ip n x y := by unfold ip; exact sm_congr fun j _ => f_mul_comm _ _
theorem ip_zero (n : Nat) (y : Vc F) : ip n y (fun _ => 0) = 0 := sm_zero' fun j _ => f_mul_zero _
theorem turned_sq {A : List (List F)} {n : Nat} (hA : Rect A n) (hn : A.length = n) (h0 : 0 < n) : Rect (turned A) n ∧ (turned A).length = n ∧ ∀ i j, en (turned A) i j = en A j i := by
  have hne : A ≠ [] := fun e => by rw [e] at hn; simp at hn; omega
  obtain ⟨a, b, c, d⟩ := turned_rect hA hne h0
  exact ⟨by rw [c, hn] at d; exact d, b, en_turned (by rw [ncols_eq hA hne]; exact hA)⟩
theorem adj {A : List (List F)} {n : Nat} (hA : Rect A n) (hn : A.length = n) (h0 : 0 < n) (y x : Vc F) : ip n (mul (turned A) n y) x = ip n y (mul A n x) := by
  have ht := (turned_sq hA hn h0).2.2
  unfold ip mul
  calc sm n (fun j => (sm n fun i => en (turned A) j i * y i) * x j) = sm n (fun j => sm n fun i => x j * (en A i j * y i)) := sm_congr fun j _ => by rw [f_mul_comm, ← sm_mul]; exact sm_congr fun i _ => by rw [ht]
    _ = sm n (fun i => sm n fun j => x j * (en A i j * y i)) := sm_comm _ _ _
    _ = _ := sm_congr fun i _ => by rw [← sm_mul]; exact sm_congr fun j _ => by grind
theorem lp_succ {L : Vc F → Vc F} : ∀ (k : Nat) (x : Vc F), Lp L (k + 1) x = Lp L k (L x)
  | 0, x => rfl
  | k + 1, x => by show L (Lp L (k + 1) x) = L (Lp L k (L x)); rw [lp_succ k x]
theorem lp_add {L : Vc F → Vc F} (j : Nat) (x : Vc F) : ∀ k, Lp L (k + j) x = Lp L k (Lp L j x)
  | 0 => by rw [Nat.zero_add]; rfl
  | k + 1 => by rw [show k + 1 + j = k + j + 1 by omega]; show L (Lp L (k + j) x) = L _; rw [lp_add j x k]
theorem adj_k {A : List (List F)} {n : Nat} (hA : Rect A n) (hn : A.length = n) (h0 : 0 < n) (y : Vc F) : ∀ (k : Nat) (x : Vc F), ip n (Lp (mul (turned A) n) k y) x = ip n y (Lp (mul A n) k x)
  | 0, x => rfl
  | k + 1, x => by
    show ip n (mul (turned A) n (Lp (mul (turned A) n) k y)) x = _
    rw [adj hA hn h0, adj_k hA hn h0 y k, lp_succ]
theorem lp_lin {L : Vc F → Vc F} (h : Lin L) : ∀ k, Lin (Lp L k)
  | 0 => ⟨fun _ _ => rfl, fun _ _ => rfl⟩
  | k + 1 => ⟨fun v w => by show L (Lp L k _) = fun i => L (Lp L k v) i + L (Lp L k w) i; rw [(lp_lin h k).add, h.add], fun c v => by show L (Lp L k _) = fun i => c * L (Lp L k v) i; rw [(lp_lin h k).smul, h.smul]⟩
/-- numbers that hang on one another down to nought -/
theorem hankel {d : Nat} {h u : Nat → F} (hh : ∀ k, k < d → h k = if k + 1 = d then 1 else 0) (hz : ∀ k, k < d → sm d (fun j => u j * h (k + j)) = 0) : ∀ m, m ≤ d → ∀ j, d - m ≤ j → j < d → u j = 0
  | 0, _, j, h1, h2 => by omega
  | m + 1, hm, j, h1, h2 => by
    by_cases e : d - m ≤ j
    · exact hankel hh hz m (by omega) j e h2
    · have hj : j + m + 1 = d := by omega
      have := hz m (by omega)
      rw [sm_one (k := j) h2 (fun i hi hne => by
        rcases Nat.lt_or_ge i j with z | z
        · rw [hh (m + i) (by omega), if_neg (by omega)]; exact f_mul_zero _
        · rw [hankel hh hz m (by omega) i (by omega) hi]; exact f_zero_mul _), hh (m + j) (by omega), if_pos (by omega), f_mul_one] at this
      exact this
/-! ### splitting -/
/-- the columns of the blocks, from the place on -/
def Blk (L : Vc F → Vc F) (col : Nat → Vc F) : Nat → List (List F) → Prop
  | _, [] => True
  | p, f :: fs => (∀ k, k + 1 < f.length → L (col (p + k)) = if k + 2 < f.length then col (p + k + 1) else fun i => sm (f.length - 1) fun l => (0 - gt f l) * col (p + l) i) ∧ Blk L col (p + (f.length - 1)) fs
theorem blk_move {L M B : Vc F → Vc F} (hB : Lin B) {col col' : Nat → Vc F} {d : Nat} (hc : ∀ j, col (d + j) = B (col' j)) (hLM : ∀ j, L (B (col' j)) = B (M (col' j))) : ∀ (fs : List (List F)) (p : Nat), Blk M col' p fs → Blk L col (d + p) fs
  | [], _, _ => trivial
  | f :: fs, p, ⟨h1, h2⟩ => by
    refine ⟨fun k hk => ?_, by have := blk_move hB hc hLM fs _ h2; rwa [← Nat.add_assoc] at this⟩
    rw [Nat.add_assoc, hc, hLM, h1 k hk]
    split
    · rw [Nat.add_assoc d, hc]
    · rw [hB.sum]
      funext i
      exact sm_congr fun l _ => by rw [Nat.add_assoc, hc]
def degs : List (List F) → Nat
  | [] => 0
  | f :: fs => (f.length - 1) + degs fs
/-- each is divided by the next -/
def Chn : List (List F) → Prop
  | [] => True
  | f :: fs => Mon f ∧ 2 ≤ f.length ∧ (∀ g ∈ fs.head?, Dv (cv g) (cv f)) ∧ Chn fs
theorem chn_len : ∀ {fs : List (List F)}, Chn fs → fs.length ≤ degs fs
  | [], _ => Nat.le_refl _
  | f :: fs, ⟨_, h2, _, h⟩ => by have := chn_len h; simp only [List.length_cons, degs]; omega
structure PartsSpec (A : List (List F)) (n k : Nat) : Prop where
  ok : PartsOk k A
  ch : Chn (parts k A).1
  ne : (parts k A).1 ≠ []
  hd : ∀ f ∈ (parts k A).1.head?, ∀ g : List F, (∀ u : Vc F, Sup n u → act (mul A n) g u = fun _ => 0) → Dv (cv f) (cv g)
  sum : degs (parts k A).1 = n
  l : (parts k A).2.length = n
  r : Rect (parts k A).2 n
  ind : ∀ c : Nat → F, (∀ i, sm n (fun j => c j * en (parts k A).2 j i) = 0) → ∀ j, j < n → c j = 0
  blk : Blk (mul A n) (fun j => gt (rw_ (parts k A).2 j)) 0 (parts k A).1
  kl : ∀ d, (least A).1.length = d + 1 → d < n → (beside A (chained A (least A).2 d)).length + d = n
theorem rw_append (s t : List (List F)) (i : Nat) : rw_ (s ++ t) i = if i < s.length then rw_ s i else rw_ t (i - s.length) := by
  unfold rw_
  rw [List.getD_eq_getElem?_getD, List.getElem?_append]
  split <;> rw [List.getD_eq_getElem?_getD]
theorem parts_spec : ∀ (k n : Nat) (A : List (List F)), n ≤ k → Rect A n → A.length = n → 0 < n → n ≤ 15 → PartsSpec A n k
  | 0, n, A, hk, _, _, h0, _ => by omega
  | k + 1, n, A, hk, hA, hn, h0, hm => by
    have L := lin_mul A n
    have S := least_spec hA hn h0 hm
    obtain ⟨lok, m, wl, fz, f2, fn⟩ := S
    have hne : A ≠ [] := fun e => by rw [e] at hn; simp at hn; omega
    generalize hf : (least A).1 = f at *
    generalize hw : (least A).2 = w at *
    have hle : least A = (f, w) := by rw [← hf, ← hw]
    obtain ⟨d, hd⟩ : ∃ d, f.length = d + 1 := ⟨f.length - 1, by omega⟩
    have hd1 : f.length - 1 = d := by omega
    have ind : Ind A n w d := fun h hl hz => m.mn h (by omega) hz
    have csl := chained_len A w d
    have csr : Rect (chained A w d) n := by rw [← hn]; exact chained_rect (by rw [wl, hn]) d
    have csen : ∀ j, j < d → rw_ (chained A w d) j = pw A w j := fun j hj => by
      unfold rw_
      rw [List.getD_eq_getElem?_getD, chained_get hj]; rfl
    have cse : ∀ j i, j < d → en (chained A w d) j i = Lp (mul A n) j (gt w) i := fun j i hj => by
      unfold en
      rw [csen j hj, gt_pw hA hn wl]
    have csne : chained A w d ≠ [] := fun e => by rw [e] at csl; simp at csl; omega
    have ft : gt f d = 1 := by have := m.mon.m; unfold lst at this; rwa [hd1] at this
    -- the last column's image
    have fw : ∀ v : Vc F, Sup n v → ∀ i, Lp (mul A n) d v i = sm d fun l => (0 - gt f l) * Lp (mul A n) l v i := fun v hv i => by
      have := congrFun (fz v hv) i
      rw [act_eq L, hd] at this
      simp only [sm] at this
      rw [ft] at this
      have e : sm d (fun l => (0 - gt f l) * Lp (mul A n) l v i) = (0 - 1) * sm d fun l => gt f l * Lp (mul A n) l v i := by rw [← sm_mul]; exact sm_congr fun l _ => by grind
      rw [e]; grind
    have ws : Sup n (gt w) := by rw [← wl]; exact sup_gt w
    have cyc : ∀ c : Nat → F, (∀ i, sm d (fun j => c j * Lp (mul A n) j (gt w) i) = 0) → ∀ j, j < d → c j = 0 := fun c hc j hj => by
      have := ind ((List.range d).map c) (by simp) (by
        rw [act_big L (n := d) (by simp)]
        funext i
        rw [← hc i]
        exact sm_congr fun l hl => by rw [gt_range, if_pos hl])
      have := congrFun this j
      rw [cv_at, gt_range, if_pos hj, ps0] at this
      exact this
    by_cases hdn : d = n
    · -- one block
      have hp : parts (k + 1) A = ([f], chained A w d) := by
        show (if _ then _ else _) = _
        rw [hle]; dsimp only
        rw [hd1, csl, if_pos (by omega)]
      refine ⟨⟨hne, by omega, by rw [hn]; exact hA, lok, by rw [hf]; exact f2, by rw [hf]; omega, by rw [hw]; omega, .inl (by rw [hf]; omega)⟩, ?_, ?_, ?_, ?_, ?_, ?_, ?_, ?_, fun d' h1 h2 => by rw [hf] at h1; omega⟩
      · rw [hp]; exact ⟨m.mon, f2, fun g hg => (by cases hg), trivial⟩
      · rw [hp]; simp
      · rw [hp]
        intro f' hf' g hg
        cases hf'
        exact m.dv L (hg _ ws)
      · rw [hp]; show f.length - 1 + 0 = n; omega
      · rw [hp]; show (chained A w d).length = n; omega
      · rw [hp]; exact csr
      · rw [hp]
        intro c hc j hj
        refine cyc c (fun i => ?_) j (by omega)
        have := hc i
        rw [← hdn] at this
        rw [← this]
        exact sm_congr fun l hl => by rw [cse l i hl]
      · rw [hp]
        refine ⟨fun j hj => ?_, trivial⟩
        dsimp only
        rw [Nat.zero_add, csen j (by omega), gt_pw hA hn wl]
        split
        · rename_i h
          rw [csen (j + 1) (by omega), gt_pw hA hn wl]; rfl
        · rename_i h
          have e : j + 1 = d := by omega
          show Lp (mul A n) (j + 1) (gt w) = _
          rw [e]
          funext i
          rw [fw _ ws, hd1]
          exact sm_congr fun l hl => by rw [Nat.zero_add, csen l hl, gt_pw hA hn wl]
    · -- the columns and those beside
      have hdlt : d < n := by omega
      have hd0 : 0 < d := by omega
      have csn : ncols (chained A w d) = n := ncols_eq csr csne
      have cro : (steps (chained A w d)).2.2.length = (chained A w d).length := rows_leads (by rw [csn]; exact csr) fun u hu hz => by
        rw [csl] at hu hz
        rw [csn] at hz
        funext j
        by_cases hj : j < d
        · refine cyc u (fun i => ?_) j hj
          by_cases hi : i < n
          · rw [← hz i hi]; exact sm_congr fun l hl => by rw [cse l i hl]
          · exact sm_zero' fun l hl => by rw [lp_sup hA hn ws l i (by omega)]; exact f_mul_zero _
        · exact hu j (by omega)
      have wal : (wanted (chained A w d).length : List F).length = (chained A w d).length := by simp [wanted, noughts]; omega
      have bok : (solved (chained A w d) (wanted (chained A w d).length)).1 = true := sol_all (by rw [csn]; exact csr) wal cro
      have ysol := sol_found (by rw [csn]; exact csr) wal bok
      have yl := solved_len bok
      rw [csn] at ysol yl
      -- the pairing
      have hpair : ∀ j, j < d → ip n (gt (solved (chained A w d) (wanted (chained A w d).length)).2) (Lp (mul A n) j (gt w)) = if j + 1 = d then 1 else 0 := fun j hj => by
        have := congrFun ysol j
        have e : gt (wanted (chained A w d).length : List F) j = if j + 1 = d then 1 else 0 := by
          rw [csl]
          unfold wanted
          rw [gt_append]
          have nl : (noughts (d - 1) : List F).length = d - 1 := by simp [noughts]
          rw [nl]
          by_cases e : j + 1 = d
          · rw [if_neg (by omega), if_pos e, show j - (d - 1) = 0 by omega]; rfl
          · rw [if_pos (by omega), if_neg e, gt_noughts]
        rw [e] at this
        rw [← this, ip_sym]
        refine sm_congr (n := n) fun i _ => ?_
        rw [cse j i hj]
      have hmo : beside A (chained A w d) = kernel (chained (turned A) (solved (chained A w d) (wanted (chained A w d).length)).2 d) := by unfold beside; rw [csl]
      generalize hy : (solved (chained A w d) (wanted (chained A w d).length)).2 = y at *
      obtain ⟨ta, tl, te⟩ := turned_sq hA hn h0
      have Rr : Rect (chained (turned A) y d) n := by
        have := chained_rect (A := turned A) (v := y) (by rw [yl, tl]) d
        rw [tl] at this; exact this
      have Rl := chained_len (turned A) y d
      have Rne : chained (turned A) y d ≠ [] := fun e => by rw [e] at Rl; simp at Rl; omega
      have Rn : ncols (chained (turned A) y d) = n := ncols_eq Rr Rne
      have Re : ∀ j i, j < d → en (chained (turned A) y d) j i = Lp (mul (turned A) n) j (gt y) i := fun j i hj => by
        unfold en
        have : rw_ (chained (turned A) y d) j = pw (turned A) y j := by
          unfold rw_
          rw [List.getD_eq_getElem?_getD, chained_get hj]; rfl
        rw [this, gt_pw ta tl yl]
      have Rm : ∀ (x : Vc F) (j : Nat), j < d → mul (chained (turned A) y d) n x j = ip n (gt y) (Lp (mul A n) j x) := fun x j hj => by
        rw [← adj_k hA hn h0]
        refine sm_congr (n := n) fun i _ => ?_
        rw [Re j i hj]
      have Rz : ∀ x : Vc F, (mul (chained (turned A) y d) n x = fun _ => 0) ↔ ∀ j, j < d → ip n (gt y) (Lp (mul A n) j x) = 0 := fun x => ⟨fun h j hj => by rw [← Rm x j hj, h], fun h => by
        funext j
        by_cases hj : j < d
        · rw [Rm x j hj, h j hj]
        · exact mul_sup (m := d) (by omega) x j (by omega)⟩
      have Rro : (steps (chained (turned A) y d)).2.2.length = d := by
        have := rows_leads (t := chained (turned A) y d) (by rw [Rn]; exact Rr) fun u hu hz => by
          rw [Rl] at hu hz
          rw [Rn] at hz
          funext j
          by_cases hj : j < d
          · refine hankel (d := d) (h := fun q => ip n (gt y) (Lp (mul A n) q (gt w))) hpair (fun q hq => ?_) d (Nat.le_refl _) j (by omega) hj
            have e1 : ip n (fun i => sm d fun l => u l * Lp (mul (turned A) n) l (gt y) i) (Lp (mul A n) q (gt w)) = 0 := by
              unfold ip
              refine sm_zero' fun i hi => ?_
              have : sm d (fun l => u l * Lp (mul (turned A) n) l (gt y) i) = 0 := by
                rw [← hz i hi]; exact sm_congr fun l hl => by rw [Re l i hl]
              show sm d (fun l => u l * Lp (mul (turned A) n) l (gt y) i) * _ = 0
              rw [this]; exact f_zero_mul _
            rw [ip_sym, ip_sum] at e1
            rw [← e1]
            refine sm_congr fun l hl => ?_
            rw [ip_sym n _ (Lp (mul (turned A) n) l (gt y)), adj_k hA hn h0, ← lp_add, Nat.add_comm]
          · exact hu j (by omega)
        omega
      have Rnr : Rect (chained (turned A) y d) (ncols (chained (turned A) y d)) := by rw [Rn]; exact Rr
      have kl : (kernel (chained (turned A) y d)).length + d = n := by have := ker_len Rnr; rw [Rro, Rn] at this; exact this
      have kr : Rect (kernel (chained (turned A) y d)) n := by have := ker_rect Rnr Rne; rw [Rn] at this; exact this
      have kind := fun {c : Nat → F} h => ker_ind Rnr Rne (c := c) h
      have kspan := fun {x : Vc F} (h1 : Sup n x) h2 => ker_span Rnr Rne (x := x) (by rw [Rn]; exact h1) (by rw [Rn]; exact h2)
      have kmem := fun {c : List F} (h : c ∈ kernel (chained (turned A) y d)) => by have := ker_mem Rnr Rne h; rw [Rn] at this; exact this
      rw [← hmo] at kl kr kind kspan kmem
      generalize hmore : beside A (chained A w d) = more at *
      obtain ⟨p, hp⟩ : ∃ p, more.length = p := ⟨_, rfl⟩
      have p0 : 0 < p := by omega
      have mne : more ≠ [] := fun e => by rw [e] at hp; simp at hp; omega
      obtain ⟨tm1, tm2, tm3, tm4⟩ := turned_rect kr mne h0
      have tme : ∀ i j, en (turned more) i j = en more j i := en_turned (by rw [ncols_eq kr mne]; exact kr)
      have Bm : ∀ (c : Vc F) (i : Nat), mul (turned more) p c i = sm p fun l => c l * en more l i := fun c i => by
        unfold mul; exact sm_congr fun l _ => by rw [tme]; exact f_mul_comm _ _
      -- W is closed
      have inW : ∀ c ∈ more, ∀ j, j < d → ip n (gt y) (Lp (mul A n) j (mul A n (gt c))) = 0 := fun c hc j hj => by
        have hz := (Rz (gt c)).mp (kmem hc)
        rw [← lp_succ]
        by_cases e : j + 1 < d
        · exact hz (j + 1) e
        · have e : j + 1 = d := by omega
          rw [e]
          have cs : Sup n (gt c) := by rw [← kr c hc]; exact sup_gt c
          have : Lp (mul A n) d (gt c) = fun i => sm d fun l => (0 - gt f l) * Lp (mul A n) l (gt c) i := funext fun i => fw _ cs i
          rw [this, ip_sum]
          exact sm_zero' fun l hl => by rw [hz l hl]; exact f_mul_zero _
      have cl : ∀ c ∈ more, c.length = n := fun c hc => kr c hc
      have imgl : ∀ c : List F, (image A c).length = (turned more).length := fun c => by rw [image_len, tm2, hn]
      have wok : ∀ c ∈ more, (solved (turned more) (image A c)).1 = true := fun c hc => by
        obtain ⟨x, hx⟩ := kspan (x := mul A n (gt c)) (mul_sup (by omega) _) ((Rz _).mpr (inW c hc))
        refine sol_never tm4 (imgl c) x ?_
        rw [tm3, hp, gt_image hA (cl c hc), hx]
        funext i
        rw [Bm, hp]
      have wsol : ∀ c ∈ more, mul (turned more) p (gt (solved (turned more) (image A c)).2) = mul A n (gt c) := fun c hc => by
        have := sol_found tm4 (imgl c) (wok c hc)
        rw [tm3, hp, gt_image hA (cl c hc)] at this
        exact this
      -- the table within
      have xr : Rect (more.map fun c => (solved (turned more) (image A c)).2) p := fun r hr => by
        obtain ⟨c, hc, rfl⟩ := List.mem_map.mp hr
        show (solved (turned more) (image A c)).2.length = p
        rw [solved_len (wok c hc), tm3, hp]
      have xne : (more.map fun c => (solved (turned more) (image A c)).2) ≠ [] := by simpa using mne
      obtain ⟨M1, M2, M3, M4⟩ := turned_rect xr xne p0
      have Me : ∀ i j, en (within A more) i j = en (more.map fun c => (solved (turned more) (image A c)).2) j i := en_turned (by rw [ncols_eq xr xne]; exact xr)
      have Ml : (within A more).length = p := M2
      have Mr : Rect (within A more) p := by
        have : Rect (within A more) (ncols (within A more)) := M4
        have e : ncols (within A more) = p := by
          show ncols (turned _) = p
          rw [M3, List.length_map, hp]
        rwa [e] at this
      have BM : ∀ v : Vc F, mul (turned more) p (mul (within A more) p v) = mul A n (mul (turned more) p v) := fun v => by
        have e1 : mul (within A more) p v = fun i => sm p fun j => v j * gt (rw_ (more.map fun c => (solved (turned more) (image A c)).2) j) i := by
          funext i; unfold mul
          exact sm_congr fun j _ => by rw [Me]; exact f_mul_comm _ _
        have e2 : mul (turned more) p v = fun i => sm p fun j => v j * gt (rw_ more j) i := by funext i; rw [Bm]; rfl
        rw [e1, e2, mul_sum (turned more) p (fun j => gt (rw_ (more.map fun c => (solved (turned more) (image A c)).2) j)) v p, mul_sum A n (fun j => gt (rw_ more j)) v p]
        funext i
        refine sm_congr fun j hj => ?_
        have hj2 : j < more.length := by omega
        have e3 : rw_ (more.map fun c => (solved (turned more) (image A c)).2) j = (solved (turned more) (image A (rw_ more j))).2 := by
          rw [rw_map, List.getElem?_eq_getElem hj2, rw_get hj2]
        rw [e3, wsol _ (rw_in hj2)]
      have Binj : ∀ v : Vc F, Sup p v → (mul (turned more) p v = fun _ => 0) → v = fun _ => 0 := fun v hv hz => by
        funext l
        by_cases hl : l < p
        · refine kind (c := v) (fun i => ?_) l (by omega)
          rw [hp, ← Bm, hz]
        · exact hv l (by omega)
      have ih := parts_spec k p (within A more) (by omega) Mr Ml p0 (by omega)
      obtain ⟨iok, ich, ine, ihd, isum, il, ir, iind, iblk⟩ := ih
      have Bact : ∀ (g : List F) (v : Vc F), mul (turned more) p (act (mul (within A more) p) g v) = act (mul A n) g (mul (turned more) p v) := fun g v => by
        induction g with
        | nil => exact mul_zero _ _
        | cons x g ihg =>
          show mul (turned more) p (fun i => x * v i + mul (within A more) p (act (mul (within A more) p) g v) i) = fun i => x * mul (turned more) p v i + mul A n (act (mul A n) g (mul (turned more) p v)) i
          rw [mul_add (turned more) p (fun i => x * v i), mul_smul, BM, ihg]
      have tmle : (turned more).length ≤ n := by omega
      have hp2 : parts (k + 1) A = (f :: (parts k (within A more)).1, chained A w d ++ (parts k (within A more)).2.map fun o => image (turned more) o) := by
        show (if _ then _ else _) = _
        rw [hle]; dsimp only
        rw [hd1, csl, if_neg (by omega), hmore]
      have ol : ∀ o ∈ (parts k (within A more)).2, o.length = more.length := fun o ho => by rw [ir o ho, hp]
      have ocol : ∀ j, j < p → gt (rw_ ((parts k (within A more)).2.map fun o => image (turned more) o) j) = mul (turned more) p (gt (rw_ (parts k (within A more)).2 j)) := fun j hj => by
        have hj2 : j < (parts k (within A more)).2.length := by omega
        rw [rw_map, List.getElem?_eq_getElem hj2]
        dsimp only
        rw [rw_get hj2]
        refine gt_image (A := turned more) (n := p) ?_ (by rw [ol _ (List.getElem_mem hj2), hp])
        rw [← hp]; exact turned_row
      have colL : ∀ j, j < d → gt (rw_ (chained A w d ++ (parts k (within A more)).2.map fun o => image (turned more) o) j) = Lp (mul A n) j (gt w) := fun j hj => by
        rw [rw_append, csl, if_pos hj, csen j hj, gt_pw hA hn wl]
      have colR : ∀ j, gt (rw_ (chained A w d ++ (parts k (within A more)).2.map fun o => image (turned more) o) (d + j)) = mul (turned more) p (gt (rw_ (parts k (within A more)).2 j)) := fun j => by
        rw [rw_append, csl, if_neg (by omega), show d + j - d = j by omega]
        by_cases hj : j < p
        · exact ocol j hj
        · rw [rw_ge (by simp; omega), rw_ge (t := (parts k (within A more)).2) (by omega)]
          exact (mul_zero (turned more) p).symm
      have Lblk : Lin (mul (turned more) p) := lin_mul _ _
      have chl := chn_len ich
      refine ⟨⟨hne, by omega, by rw [hn]; exact hA, lok, by rw [hf]; exact f2, by rw [hf]; omega, by rw [hw]; omega, .inr ?_⟩, ?_, ?_, ?_, ?_, ?_, ?_, ?_, ?_, fun d' h1 h2 => by
        rw [hf] at h1
        obtain rfl : d' = d := by omega
        rw [hw, hmore]; exact kl⟩
      · dsimp only
        rw [hf, hw, hd1, hmore]
        exact ⟨bok, mne, by omega, by rw [hn]; exact kr, wok, iok, ol, by omega, by omega⟩
      · rw [hp2]
        refine ⟨m.mon, f2, fun g hg => ihd g hg f fun u hu => ?_, ich⟩
        refine Binj _ (act_sup Mr Ml hu f) ?_
        rw [Bact]
        exact fz _ (mul_sup tmle _)
      · rw [hp2]; simp
      · rw [hp2]
        intro f' hf' g hg
        cases hf'
        exact m.dv L (hg _ ws)
      · rw [hp2]; show f.length - 1 + degs _ = n; omega
      · rw [hp2]; dsimp only; rw [List.length_append, List.length_map]; omega
      · rw [hp2]
        intro r hr
        rcases List.mem_append.mp hr with h | h
        · exact csr r h
        · obtain ⟨o, _, rfl⟩ := List.mem_map.mp h
          show (image (turned more) o).length = n
          rw [image_len, tm2]
      · rw [hp2]
        intro c hc
        have e : ∀ i, sm d (fun j => c j * Lp (mul A n) j (gt w) i) + mul (turned more) p (fun q => sm p fun l => c (d + l) * gt (rw_ (parts k (within A more)).2 l) q) i = 0 := fun i => by
          have := hc i
          rw [show n = d + p by omega, sm_plus] at this
          rw [← this, mul_sum (turned more) p (fun l => gt (rw_ (parts k (within A more)).2 l)) (fun l => c (d + l)) p]
          congr 1
          · exact sm_congr fun j hj => by unfold en; rw [colL j hj]
          · exact sm_congr fun l hl => by unfold en; rw [colR l]
        have osup : Sup p (fun q => sm p fun l => c (d + l) * gt (rw_ (parts k (within A more)).2 l) q) := fun q hq => sm_zero' fun l hl => by
          have hl2 : l < (parts k (within A more)).2.length := by omega
          rw [gt_ge (by rw [ir _ (rw_in hl2)]; exact hq)]; exact f_mul_zero _
        -- what is beside is paired to nought
        have hW : ∀ (v : Vc F) (q : Nat), q < d → ip n (gt y) (Lp (mul A n) q (mul (turned more) p v)) = 0 := fun v q hq => by
          have e2 : mul (turned more) p v = fun i => sm p fun j => v j * gt (rw_ more j) i := by funext i; rw [Bm]; rfl
          rw [e2, (lp_lin L q).sum v (fun j => gt (rw_ more j)), ip_sum]
          refine sm_zero' fun j hj => ?_
          have hj2 : j < more.length := by omega
          rw [(Rz _).mp (kmem (rw_in hj2)) q hq]; exact f_mul_zero _
        have cz : ∀ j, j < d → c j = 0 := fun j hj => hankel (d := d) (h := fun q => ip n (gt y) (Lp (mul A n) q (gt w))) hpair (fun q hq => by
          have e3 : (fun i => sm d (fun j => c j * Lp (mul A n) j (gt w) i) + mul (turned more) p (fun q => sm p fun l => c (d + l) * gt (rw_ (parts k (within A more)).2 l) q) i) = fun _ => 0 := funext e
          have e4 : ip n (gt y) (Lp (mul A n) q fun _ => 0) = 0 := by rw [(lp_lin L q).zero]; exact ip_zero _ _
          rw [← e3, (lp_lin L q).add, ip_add, hW _ q hq, (lp_lin L q).sum c (fun j => Lp (mul A n) j (gt w)), ip_sum, f_add_zero] at e4
          rw [← e4]
          exact sm_congr fun l _ => by rw [lp_add]) d (Nat.le_refl _) j (by omega) hj
        have vz := Binj _ osup (funext fun i => by
          have := e i
          rw [sm_zero' fun j hj => by rw [cz j hj]; exact f_zero_mul _, f_zero_add] at this
          exact this)
        intro j hj
        by_cases h : j < d
        · exact cz j h
        · have := iind (fun l => c (d + l)) (fun i => congrFun vz i) (j - d) (by omega)
          rwa [show d + (j - d) = j by omega] at this
      · rw [hp2]
        refine ⟨fun j hj => ?_, ?_⟩
        · dsimp only
          rw [Nat.zero_add, colL j (by omega)]
          split
          · rename_i h
            rw [colL (j + 1) (by omega)]; rfl
          · rename_i h
            have e : j + 1 = d := by omega
            show Lp (mul A n) (j + 1) (gt w) = _
            rw [e]
            funext i
            rw [fw _ ws, hd1]
            exact sm_congr fun l hl => by rw [Nat.zero_add, colL l hl]
        · rw [hd1, Nat.zero_add]
          have := blk_move (L := mul A n) (M := mul (within A more) p) Lblk (col := fun j => gt (rw_ (chained A w d ++ (parts k (within A more)).2.map fun o => image (turned more) o) j)) (col' := fun j => gt (rw_ (parts k (within A more)).2 j)) (d := d) colR (fun j => (BM _).symm) _ 0 iblk
          rwa [Nat.add_zero] at this
theorem turn_ok {A : List (List F)} {n : Nat} (hA : Rect A n) (hn : A.length = n) (h0 : 0 < n) (h7 : n ≤ 7) : FrameOk A ∧ PartsSpec A n n := by
  have S := parts_spec n n A (Nat.le_refl _) hA hn h0 (by omega)
  have hne : (parts n A).2 ≠ [] := fun e => by have := S.l; rw [e] at this; simp at this; omega
  obtain ⟨a, b, c, d⟩ := turned_rect S.r hne h0
  have te : ∀ i j, en (turned (parts n A).2) i j = en (parts n A).2 j i := en_turned (by rw [ncols_eq S.r hne]; exact S.r)
  have hi : InjM (turned (parts n A).2) := fun x hx hz => by
    rw [c, S.l] at hx hz
    funext j
    by_cases hj : j < n
    · refine S.ind x (fun i => ?_) j hj
      have := congrFun hz i
      unfold mul at this
      rw [← this]
      exact sm_congr fun l _ => by rw [te]; exact f_mul_comm _ _
    · exact hx j (by omega)
  have hl := inj_leads d a hi
  subst hn
  exact ⟨⟨S.ok, h7, S.l, S.r, by show (steps (turned (parts A.length A).2)).2.2.length = _; rw [hl, c, S.l]⟩, S⟩
end
end Tf
set_option maxRecDepth 100000
set_option maxHeartbeats 4000000
namespace Tf
/-! ### primes by trial -/
/-- no m from 2 on divides n, as far as m * m ≤ n -/
def Pr0 (n : Nat) : Prop := 2 ≤ n ∧ ∀ m, 2 ≤ m → m * m ≤ n → ¬ m ∣ n
theorem pr_gcd {p x : Nat} (hp : Pr0 p) (h0 : 0 < x) (hx : x < p) : Nat.gcd x p = 1 := by
  obtain ⟨h2, hm⟩ := hp
  have g1 : Nat.gcd x p ∣ x := Nat.gcd_dvd_left x p
  have g2 : Nat.gcd x p ∣ p := Nat.gcd_dvd_right x p
  have gx := Nat.le_of_dvd h0 g1
  have g0 : 0 < Nat.gcd x p := Nat.gcd_pos_of_pos_left p h0
  rcases Nat.lt_or_ge (Nat.gcd x p) 2 with h | h
  · omega
  · exfalso
    generalize Nat.gcd x p = g at *
    obtain ⟨k, hk⟩ := g2
    have hk2 : 2 ≤ k := by
      rcases Nat.lt_or_ge k 2 with z | z
      · have : k = 0 ∨ k = 1 := by omega
        rcases this with rfl | rfl <;> omega
      · exact z
    rcases Nat.le_total g k with z | z
    · refine hm g h ?_ ⟨k, hk⟩
      rw [hk]; exact Nat.mul_le_mul_left g z
    · refine hm k hk2 ?_ ⟨g, by rw [hk, Nat.mul_comm]⟩
      rw [hk]; exact Nat.mul_le_mul_right k z
/-! ### the long way of Euclid -/
def shGo : Nat → Int → Int → Int → Int → Int × Int
  | 0, d, u, _, _ => (d, u)
  | n + 1, d, u, rest, low => if rest = 0 then (d, u) else shGo n rest low (d - d.fdiv rest * rest) (u - d.fdiv rest * low)
def zinv (p x : Nat) : Nat := if x = 0 then 0 else ((shGo (p + 1) x 1 p 0).2 % (p : Int)).toNat
theorem fdiv_rest (d rest : Int) (h : 0 < rest) (hd : 0 ≤ d) : d - d.fdiv rest * rest = d % rest := by
  rw [Int.fdiv_eq_ediv_of_nonneg d (Int.le_of_lt h)]
  have := Int.emod_add_mul_ediv d rest
  rw [Int.mul_comm (d / rest)]
  omega
theorem shGo_spec {p x : Int} : ∀ (n : Nat) (d u rest low : Int), 0 ≤ d → 0 ≤ rest → rest.toNat < n → (∃ k, d = u * x + k * p) → (∃ k, rest = low * x + k * p) →
    (∃ k, (shGo n d u rest low).1 = (shGo n d u rest low).2 * x + k * p) ∧ (shGo n d u rest low).1 = Int.gcd d rest
  | 0, _, _, _, _, _, _, h, _, _ => by omega
  | n + 1, d, u, rest, low, hd, hr, hn, ⟨k1, e1⟩, ⟨k2, e2⟩ => by
    unfold shGo
    split
    · rename_i h0
      subst h0
      exact ⟨⟨k1, e1⟩, by simp [Int.gcd]; omega⟩
    · rename_i h0
      have hr' : 0 < rest := by omega
      have e := fdiv_rest d rest hr' hd
      have b1 := Int.emod_nonneg d h0
      have b2 := Int.emod_lt_of_pos d hr'
      obtain ⟨i1, i2⟩ := shGo_spec (p := p) (x := x) n rest low (d - d.fdiv rest * rest) (u - d.fdiv rest * low) hr (by omega) (by omega) ⟨k2, e2⟩ ⟨k1 - d.fdiv rest * k2, by
        have : d - d.fdiv rest * rest = (u * x + k1 * p) - d.fdiv rest * (low * x + k2 * p) := by rw [← e1, ← e2]
        rw [this]; grind⟩
      refine ⟨i1, ?_⟩
      rw [i2, e]
      show ((Int.gcd rest (d % rest) : Nat) : Int) = (Int.gcd d rest : Nat)
      congr 1
      obtain ⟨a, rfl⟩ := Int.eq_ofNat_of_zero_le hd
      obtain ⟨b, rfl⟩ := Int.eq_ofNat_of_zero_le hr
      rw [← Int.natCast_emod]
      show Nat.gcd b (a % b) = Nat.gcd a b
      rw [Nat.gcd_comm a b, Nat.gcd_rec b a, Nat.gcd_comm]
theorem zinv_lt {p x : Nat} (hp : 0 < p) : zinv p x < p := by
  unfold zinv
  split
  · exact hp
  · have := Int.emod_lt_of_pos (shGo (p + 1) x 1 p 0).2 (show (0 : Int) < p by omega)
    have := Int.emod_nonneg (shGo (p + 1) x 1 p 0).2 (show (p : Int) ≠ 0 by omega)
    omega
theorem zinv_mul {p x : Nat} (hp : Pr0 p) (h0 : 0 < x) (hx : x < p) : x * zinv p x % p = 1 := by
  obtain ⟨⟨k, e1⟩, e2⟩ := shGo_spec (p := p) (x := x) (p + 1) x 1 p 0 (by omega) (by omega) (by omega) ⟨0, by omega⟩ ⟨1, by omega⟩
  have hg : Int.gcd (x : Int) (p : Int) = 1 := pr_gcd hp h0 hx
  rw [hg] at e2
  rw [e2] at e1
  unfold zinv
  rw [if_neg (by omega)]
  have hp2 := hp.1
  generalize (shGo (p + 1) x 1 p 0).2 = u at *
  have hn := Int.emod_nonneg u (show (p : Int) ≠ 0 by omega)
  have h1 : ((x * (u % (p : Int)).toNat : Nat) : Int) % (p : Int) = 1 := by
    rw [Int.natCast_mul, Int.toNat_of_nonneg hn, Int.mul_emod, Int.emod_emod, ← Int.mul_emod]
    have : (x : Int) * u = 1 + (p : Int) * (-k) := by
      have h : (1 : Int) = u * x + k * p := e1
      rw [h]; grind
    rw [this, Int.add_mul_emod_self_left]
    exact Int.emod_eq_of_lt (by omega) (by omega)
  have h2 : ((x * (u % (p : Int)).toNat % p : Nat) : Int) = 1 := by rw [Int.natCast_emod]; exact h1
  omega
/-! ### the field -/
section
variable {R : Type} [C : Lean.Grind.CommRing R] (inv : R → R) (h0 : inv 0 = 0) (hm : ∀ a : R, a ≠ 0 → a * inv a = 1) (h01 : (0 : R) ≠ 1)
def zp0 (inv : R → R) (a : R) : Int → R
  | .ofNat n => a ^ n
  | .negSucc n => inv (a ^ (n + 1))
include h0 hm h01
theorem inv_inv0 (a : R) (hd : a = 0 ∨ a ≠ 0) : inv (inv a) = a := by
  rcases hd with rfl | h
  · rw [h0, h0]
  · have e := hm a h
    have hi : inv a ≠ 0 := fun z => h01 (by rw [← e, z]; grind)
    have e2 := hm _ hi
    have : inv (inv a) = (a * inv a) * inv (inv a) := by rw [e]; grind
    rw [this]
    have : a * inv a * inv (inv a) = a * (inv a * inv (inv a)) := by grind
    rw [this, e2]; grind
theorem inv_one0 : inv 1 = 1 := by
  have := hm 1 (Ne.symm h01)
  grind
end
abbrev mkField {R : Type} (C : Lean.Grind.CommRing R) (D : DecidableEq R) (inv : R → R) (h0 : inv 0 = 0) (hm : ∀ a : R, a ≠ 0 → a * inv a = 1) (h01 : (0 : R) ≠ 1) : Lean.Grind.Field R where
  toCommRing := C
  inv := inv
  div a b := a * inv b
  zpow := ⟨zp0 inv⟩
  div_eq_mul_inv _ _ := rfl
  zero_ne_one := h01
  inv_zero := h0
  mul_inv_cancel {a} h := hm a h
  zpow_zero a := Lean.Grind.Semiring.pow_zero a
  zpow_succ a n := Lean.Grind.Semiring.pow_succ a n
  zpow_neg a n := by
    cases n with
    | ofNat n =>
      cases n with
      | zero =>
        show a ^ (0 : Nat) = inv (a ^ (0 : Nat))
        rw [Lean.Grind.Semiring.pow_zero, inv_one0 inv h0 hm h01]
      | succ n => rfl
    | negSucc n =>
      show a ^ (n + 1) = inv (inv (a ^ (n + 1)))
      exact (inv_inv0 inv h0 hm h01 _ (Decidable.em _)).symm
/-- the rests of a prime -/
def Zp (p : Nat) : Type := Fin p
section
variable (p : Nat) (hp : Pr0 p)
abbrev zpRing : Lean.Grind.CommRing (Zp p) := by
  haveI : NeZero p := ⟨by have := hp.1; omega⟩
  exact (inferInstance : Lean.Grind.CommRing (Fin p))
instance : DecidableEq (Zp p) := (inferInstance : DecidableEq (Fin p))
abbrev zpField : Lean.Grind.Field (Zp p) :=
  haveI : NeZero p := ⟨by have := hp.1; omega⟩
  mkField (zpRing p hp) inferInstance (fun x => ⟨zinv p x.val, zinv_lt (by have := hp.1; omega)⟩)
    (by
      have h2 := hp.1
      apply Fin.ext
      show zinv p ((0 : Fin p).val) = (0 : Fin p).val
      rw [show ((0 : Fin p).val) = 0 from rfl]
      rfl)
    (fun a h => by
      have h2 := hp.1
      have ha : 0 < a.val := by
        rcases Nat.eq_zero_or_pos a.val with z | z
        · exact absurd (Fin.ext (show a.val = (0 : Fin p).val from z)) h
        · exact z
      apply Fin.ext
      show a.val * zinv p a.val % p = ((1 : Nat) % p)
      rw [zinv_mul hp ha a.isLt, Nat.mod_eq_of_lt (by omega)])
    (fun h => by
      have h2 := hp.1
      have := congrArg Fin.val (show (0 : Fin p) = 1 from h)
      have e : ((1 : Fin p).val) = 1 % p := rfl
      rw [e, Nat.mod_eq_of_lt (by omega)] at this
      cases this)
end
end Tf
set_option maxRecDepth 100000
set_option maxHeartbeats 4000000
namespace Tf
open PySem PySem.Spec PyProof.Rows L2
section
variable {K : PySem.W.Frag} {σ : L2.St} {H : Hp} {ta tb : TE} {P : Pr}
theorem ev_isi {t : Value} {n : String} {b : Bool} (h : Ev ta σ H P) (hty : ∀ v H1, P.p v H1 → TyX K H1 v t) (hk : PySem.W.kitOne K t (.type n) = some b) : Ev (tCB (rIsi K) (tCons ta (tCons (tC (.ty n)) tNil))) σ H (isB b) := fun H1 s Q q =>
  h H1 s _ fun v H2 s2 p => ⟨v, .ty n, t, .type n, b, rfl, .ty n, hty v H2 p, hk, q _ H2 s2 rfl⟩
theorem s_nx {D : Ends} {σ : L2.St} {H : Hp} (h : D.nx σ H) : tNext D σ H := h
theorem s_seq {a b : TS} {D : Ends} {σ : L2.St} {H : Hp} (h : a { D with nx := b D } σ H) : tSeq a b D σ H := h
theorem ev_abs {i : Int} (h : Ev ta σ H (isI i)) : Ev (tCB (fun xs H Q => ∃ i, xs = [.int i] ∧ Q (.int (if i < 0 then -i else i)) H) (tCons ta tNil)) σ H (isI (if i < 0 then -i else i)) := fun H1 s Q q =>
  h H1 s _ fun v H2 s2 e => ⟨i, by rw [show v = _ from e], q _ H2 s2 rfl⟩
theorem ev_neq {i j : Int} (ha : Ev ta σ H (isI i)) (hb : Ev tb σ H (isI j)) : Ev (tOp rNe ta tb) σ H (isB (decide (i ≠ j))) := (ev_neI ha hb).to (by simp)
theorem mulw {i j : Int} (h : i.natAbs < 2 ^ 200) (h' : j.natAbs < 2 ^ 200) : CMulW i j := wide_mul h h' (by decide) (by decide) (by decide)
theorem p400 {n : Nat} (h : n ≤ 100000000000000) : n < 2 ^ 200 := Nat.lt_of_le_of_lt h (by decide)
end
noncomputable instance decPr0 (n : Nat) : Decidable (Pr0 n) := Classical.propDecidable _
theorem gcd_fmod (a b : Int) : Int.gcd b (a.fmod b) = Int.gcd a b := by
  have e : a.fmod b = a - b * a.fdiv b := Int.fmod_def a b
  rw [e, Int.gcd_sub_mul_left_right, Int.gcd_comm]
theorem fmod_lt (a : Int) {b : Int} (h : b ≠ 0) : (a.fmod b).natAbs < b.natAbs := by
  rcases Int.lt_or_gt_of_ne h with hb | hb
  · have h1 := Int.fmod_eq_emod (a := a) (b := b)
    have e := Int.emod_nonneg a h
    have e2 := Int.emod_lt a h
    rw [h1]
    split <;> omega
  · rw [Int.fmod_eq_emod_of_nonneg a (Int.le_of_lt hb)]
    have e := Int.emod_nonneg a h
    have e2 := Int.emod_lt_of_pos a hb
    omega
section
variable {P : Program} {w : World} {K : PySem.W.Frag} {mg : Str → Option Value} {base : Heap} (T : Txt K mg)
include T
/-! divisor(one, other) -/
omit T in
def sDvr : Spc where
  ι := Int × Int
  pre := fun _ => True
  args := fun x => [isI x.1, isI x.2]
  post := fun x _ => isI (Int.gcd x.1 x.2)
  an := fun _ h => h
-- 0 one, 1 other
theorem ok_divisor : Ok P w K mg base 1 ("divisor", none) ["one", "other"] sDvr := by
  refine T.d_divisor.ok sc_divisor (fun _ => rfl) fun cdv A outer s H vs Q E ⟨a, b⟩ hr _ ha k => ?_
  obtain ⟨_, _, rfl, rfl, _, _, rfl, rfl, rfl⟩ := ha
  refine ⟨_, (pss_cons (ps_while PassesOwn.never (pt_cmpR op_ne (pv 1) pe_int (nomark _)) (pss_one (ps_par (i := 0) (j := 1) (by rfl) sc_divisor.nd rfl rfl (by decide) rfl rfl (pa_cons (pv 1) (pa_cons (pe_op op_modN (pv 0) (pv 1)) pa_nil)) (by rfl))))
      (pss_one (ps_ret (pe_callB call_abs (by rfl) T.free_abs (by decide +kernel) (pa_cons (pv 0) pa_nil))))), ?_⟩
  refine s_while (fun n σ H' => Same H H' ∧ ∃ x y : Int, σ = [some (.int x), some (.int y)] ∧ Int.gcd x y = Int.gcd a b ∧ y.natAbs = n) b.natAbs ⟨Same.refl _, a, b, rfl, rfl, rfl⟩ ?_
  rintro n σ' H' ⟨e1, x, y, rfl, hg, hn⟩
  refine ⟨decide (y ≠ 0), et_test (ev_neq (ev_vint rfl) ev_int), fun hb H1 e2 => ?_, fun hb H1 e2 => ?_⟩
  · have hb : y ≠ 0 := of_decide_eq_true hb
    refine ⟨fun σ H' => Same H H' ∧ σ = [some (.int y), some (.int (x.fmod y))], fun σ2 H2 ⟨s, e⟩ => ⟨(x.fmod y).natAbs, by rw [← hn]; exact fmod_lt x hb, s, y, x.fmod y, e, by rw [gcd_fmod]; exact hg, rfl⟩, ?_⟩
    refine s_par (ea_cons (ev_vint rfl) (ea_cons (ev_opC (g := fun i j => i.fmod j) (ev_vint rfl) (ev_vint rfl) hb) ea_nil)) fun v w H2 e3 h1 h2 => ?_
    cases (show v = .int y from h1)
    cases (show w = .int (x.fmod y) from h2)
    exact ⟨e1.trans (e2.trans e3), rfl⟩
  · have hb : y = 0 := by simpa using hb
    subst hb
    refine s_ret (ev_abs (ev_vint rfl)) fun v H2 e3 h => k v H2 (e1.trans (e2.trans e3)) ?_
    have e : (if x < 0 then -x else x) = ((Int.gcd a b : Nat) : Int) := by rw [← hg, Int.gcd_zero_right]; split <;> omega
    show v = .int (Int.gcd a b : Nat)
    rw [← e]; exact h
/-! is_whole(thing) -/
omit T in
def sWhole : Spc where
  ι := Int
  pre := fun _ => True
  args := fun n => [isI n]
  post := fun _ _ => isB true
  an := fun _ h => h
theorem ok_is_whole : Ok P w K mg base 1 ("is_whole", none) ["thing"] sWhole := by
  refine T.d_is_whole.ok sc_is_whole (fun _ => rfl) fun cdv A outer s H vs Q E (n : Int) hr _ ha k => ?_
  obtain ⟨_, _, rfl, rfl, rfl⟩ := ha
  refine ⟨_, (pss_one (ps_ret (pe_and (pe_callB (isiK K) (by rfl) T.free_isinstance (by decide +kernel) (pa_cons (pv 0) (pa_cons (pe_bltn (v := .ty "int") (by rfl) T.free_int (by decide +kernel) rfl) pa_nil))) (pe_one (pe_not (pe_callB (isiK K) (by rfl) T.free_isinstance (by decide +kernel) (pa_cons (pv 0) (pa_cons (pe_bltn (v := .ty "bool") (by rfl) T.free_bool (by decide +kernel) rfl) pa_nil)))))))), ?_⟩
  exact s_ret ((ev_and (a := true) (b := true) (ev_isi (t := .type "int") (ev_vint (n := n) rfl) (fun v H1 e => by rw [show v = .int n from e]; exact .base (.int n)) rfl) fun _ => (ev_not (a := false) (ev_isi (t := .type "int") (ev_vint (n := n) rfl) (fun v H1 e => by rw [show v = .int n from e]; exact .base (.int n)) rfl)).to rfl).to rfl) fun v H1 e1 h => k v H1 e1 h
/-! is_prime(number) -/
omit T in
noncomputable def sPrime : Spc where
  ι := Nat
  pre := fun n => n ≤ 1000000
  args := fun n => [isI (n : Nat)]
  post := fun n _ => isB (decide (Pr0 n))
  an := fun _ h => h
-- 0 number, 1 by
theorem ok_is_prime : Ok P w K mg base 1 ("is_prime", none) ["number"] sPrime := by
  refine T.d_is_prime.ok sc_is_prime (fun _ => rfl) fun cdv A outer s H vs Q E (n : Nat) hr hn ha k => ?_
  obtain ⟨_, _, rfl, rfl, rfl⟩ := ha
  have hn : n ≤ 1000000 := hn
  refine ⟨_, (pss_cons (ps_if (pt_cmpR op_lt (pv 0) pe_int (nomark _)) (pss_one (ps_ret pe_bl)) pss_nil)
      (pss_cons (ps_set (i := 1) sc_is_prime.nd rfl (Or.inl rfl) pe_int)
      (pss_cons (ps_while PassesOwn.never (pt_cmpR op_le (pe_op op_mulW (pv 1) (pv 1)) (pv 0) (nomark _)) (pss_cons (ps_if (pt_cmpR op_eq (pe_op op_modN (pv 0) (pv 1)) pe_int (nomark _)) (pss_one (ps_ret pe_bl)) pss_nil)
      (pss_one (ps_aug (i := 1) sc_is_prime.nd rfl (Or.inl rfl) pe_int L2.ip_add))))
      (pss_one (ps_ret pe_bl))))), ?_⟩
  refine s_if (et_test (ev_opB (g := fun i j => decide (i < j)) (ev_vint rfl) ev_int)) (fun hb H1 e1 => ?_) (fun hb H1 e1 => ?_)
  · have hb : n < 2 := by have := of_decide_eq_true hb; omega
    refine s_ret (σ := [some (.int (n : Nat)), none]) ev_c fun v H2 e2 h => k v H2 (e1.trans e2) ?_
    show v = .bl _
    rw [decide_eq_false (fun h : Pr0 n => by have := h.1; omega)]; exact h
  · have hb : 2 ≤ n := by have := of_decide_eq_false hb; omega
    refine s_nx ?_
    dsimp only
    refine s_asg (te := tC (.int 2)) (P := isI 2) (i := 1) ev_int fun v H2 e2 h2 => ?_
    cases (show v = .int 2 from h2)
    have E2 := e1.trans e2
    refine s_while (fun m σ H' => Same H H' ∧ ∃ q : Nat, σ = [some (.int (n : Nat)), some (.int (q : Nat))] ∧ 2 ≤ q ∧ q + m = n + 1 ∧ ∀ d, 2 ≤ d → d < q → d * d ≤ n → ¬ d ∣ n) (n - 1) ⟨E2, 2, rfl, Nat.le_refl _, by omega, fun d h1 h2 => by omega⟩ ?_
    rintro m σ' H' ⟨e3, q, rfl, hq, hm, hd⟩
    have hql : q ≤ 1000001 := by omega
    have hsq : ((q : Nat) : Int) * (q : Nat) = ((q * q : Nat) : Int) := by rw [Int.natCast_mul]
    refine ⟨decide (q * q ≤ n), et_test (ev_opB (g := fun i j => decide (i ≤ j)) (ev_opC (g := fun i j => i * j) (ev_vint rfl) (ev_vint rfl) (mulw (p400 (by rw [Int.natAbs_natCast]; omega)) (p400 (by rw [Int.natAbs_natCast]; omega)))) (ev_vint rfl)) |>.to (by rw [hsq]; simp only [Int.ofNat_le]), fun hb H4 e4 => ?_, fun hb H4 e4 => ?_⟩
    · have hb : q * q ≤ n := of_decide_eq_true hb
      have hqn : q < n := by
        have : q * 2 ≤ q * q := Nat.mul_le_mul_left q hq
        omega
      refine ⟨fun σ H' => Same H H' ∧ ∃ q : Nat, σ = [some (.int (n : Nat)), some (.int (q : Nat))] ∧ 2 ≤ q ∧ q + (m - 1) = n + 1 ∧ ∀ d, 2 ≤ d → d < q → d * d ≤ n → ¬ d ∣ n, fun σ2 H2 h => ⟨m - 1, by omega, h⟩, ?_⟩
      have hmod : ((n : Nat) : Int).fmod (q : Nat) = ((n % q : Nat) : Int) := by rw [Int.fmod_eq_emod_of_nonneg _ (by omega), Int.natCast_emod]
      refine s_if (et_test (ev_eqI (ev_opC (g := fun i j => i.fmod j) (ev_vint rfl) (ev_vint rfl) (show ((q : Nat) : Int) ≠ 0 by omega)) ev_int)) (fun hz H5 e5 => ?_) (fun hz H5 e5 => ?_)
      · have hz := of_decide_eq_true hz
        rw [hmod] at hz
        refine s_ret (σ := [some (.int (n : Nat)), some (.int (q : Nat))]) ev_c fun v H6 e6 h => k v H6 (e3.trans (e4.trans (e5.trans e6))) ?_
        show v = .bl _
        rw [decide_eq_false (fun h : Pr0 n => h.2 q hq hb (Nat.dvd_of_mod_eq_zero (by omega)))]; exact h
      · have hz := of_decide_eq_false hz
        rw [hmod] at hz
        refine s_aug rfl ev_int fun H6 e6 => ⟨e3.trans (e4.trans (e5.trans e6)), q + 1, rfl, by omega, by omega, fun d h1 h2 h3 h4 => ?_⟩
        rcases Nat.lt_or_ge d q with z | z
        · exact hd d h1 z h3 h4
        · obtain rfl : d = q := by omega
          exact hz (by rw [Nat.mod_eq_zero_of_dvd h4]; rfl)
    · have hb : ¬ q * q ≤ n := of_decide_eq_false hb
      dsimp only
      refine s_ret (te := tC (.bl true)) (P := isV (.bl true)) ev_c fun v H6 e6 h => k v H6 (e3.trans (e4.trans e6)) ?_
      show v = .bl _
      rw [decide_eq_true (show Pr0 n from ⟨by omega, fun d h1 h2 h3 => by
        rcases Nat.lt_or_ge d q with z | z
        · exact hd d h1 z h2 h3
        · exact hb (Nat.le_trans (Nat.mul_le_mul z z) h2)⟩)]
      exact h
/-! shares(one, other) -/
omit T in
def sShare : Spc where
  ι := Nat × Nat
  pre := fun ⟨x, p⟩ => 0 < x ∧ x < p ∧ p ≤ 1000000
  args := fun ⟨x, p⟩ => [isI (x : Nat), isI (p : Nat)]
  post := fun ⟨x, p⟩ _ => TR nilH [anyP, isI (shGo (p + 1) x 1 p 0).2, anyP]
  an := fun {i _ _ _ _} _ h => by obtain ⟨x, p⟩ := i; exact h
omit T in
/-- what the long way keeps below the start -/
theorem sh_step {d r a b c e M N : Nat} (hr : 0 < r) (h1 : r * a + d * b ≤ M) {b' : Nat} (hb : b' ≤ a + d / r * b) : (d - d / r * r) * b + r * b' ≤ M := by
  have e1 : d - d / r * r = d % r := by
    have := Nat.div_add_mod d r
    rw [Nat.mul_comm] at this
    omega
  have e2 : r * b' ≤ r * a + d / r * r * b := by
    have := Nat.mul_le_mul_left r hb
    have z : r * (a + d / r * b) = r * a + d / r * r * b := by rw [Nat.mul_add, ← Nat.mul_assoc, Nat.mul_comm r (d / r)]
    omega
  have e3 : (d % r) * b + d / r * r * b = d * b := by
    rw [← Nat.add_mul]
    congr 1
    have := Nat.div_add_mod d r
    rw [Nat.mul_comm] at this
    omega
  rw [e1]
  omega
-- 0 one, 1 other, 2 d, 3 u, 4 v, 5 rest, 6 low, 7 high, 8 times
theorem ok_shares : Ok P w K mg base 1 ("shares", none) ["one", "other"] sShare := by
  refine T.d_shares.ok sc_shares (fun _ => rfl) fun cdv A outer s H vs Q E ⟨x, p⟩ hr ⟨hx, hxp, hp⟩ ha k => ?_
  obtain ⟨_, _, rfl, rfl, _, _, rfl, rfl, rfl⟩ := ha
  have hp : p ≤ 1000000 := hp
  refine ⟨_, (pss_cons (ps_par3 (i := 2) (j := 3) (l := 4) (by rfl) sc_shares.nd rfl rfl rfl (by decide) (by decide) (by decide) rfl rfl rfl (pa_cons (pv 0) (pa_cons pe_int (pa_cons pe_int pa_nil))) (by rfl))
      (pss_cons (ps_par3 (i := 5) (j := 6) (l := 7) (by rfl) sc_shares.nd rfl rfl rfl (by decide) (by decide) (by decide) rfl rfl rfl (pa_cons (pv 1) (pa_cons pe_int (pa_cons pe_int pa_nil))) (by rfl))
      (pss_cons (ps_while PassesOwn.never (pt_cmpR op_ne (pv 5) pe_int (nomark _)) (pss_cons (ps_set (i := 8) sc_shares.nd rfl (Or.inl rfl) (pe_op op_fdivN (pv 2) (pv 5)))
      (pss_cons (ps_par (i := 2) (j := 5) (by rfl) sc_shares.nd rfl rfl (by decide) rfl rfl (pa_cons (pv 5) (pa_cons (pe_op op_sub (pv 2) (pe_op op_mulW (pv 8) (pv 5))) pa_nil)) (by rfl))
      (pss_cons (ps_par (i := 3) (j := 6) (by rfl) sc_shares.nd rfl rfl (by decide) rfl rfl (pa_cons (pv 6) (pa_cons (pe_op op_sub (pv 3) (pe_op op_mulW (pv 8) (pv 6))) pa_nil)) (by rfl))
      (pss_one (ps_par (i := 4) (j := 7) (by rfl) sc_shares.nd rfl rfl (by decide) rfl rfl (pa_cons (pv 7) (pa_cons (pe_op op_sub (pv 4) (pe_op op_mulW (pv 8) (pv 7))) pa_nil)) (by rfl)))))))
      (pss_cons (ps_if (pt_cmpR op_lt (pv 2) pe_int (nomark _)) (pss_one (ps_ret (pe_tup (pa_cons (pe_un un_neg (pv 2)) (pa_cons (pe_un un_neg (pv 3)) (pa_cons (pe_un un_neg (pv 4)) pa_nil)))))) pss_nil)
      (pss_one (ps_ret (pe_tup (pa_cons (pv 2) (pa_cons (pv 3) (pa_cons (pv 4) pa_nil)))))))))), ?_⟩
  refine s_par3 (ea_cons (ev_vint rfl) (ea_cons ev_int (ea_cons ev_int ea_nil))) fun u1 u2 u3 H1 e1 h1 h2 h3 => ?_
  cases (show u1 = .int (x : Nat) from h1)
  cases (show u2 = .int 1 from h2)
  cases (show u3 = .int 0 from h3)
  refine s_par3 (ea_cons (ev_vint rfl) (ea_cons ev_int (ea_cons ev_int ea_nil))) fun u1 u2 u3 H2 e2 h1 h2 h3 => ?_
  cases (show u1 = .int (p : Nat) from h1)
  cases (show u2 = .int 0 from h2)
  cases (show u3 = .int 1 from h3)
  refine s_while (fun n σ H' => Same H H' ∧ ∃ (d r : Nat) (u v low high : Int) (tv : Option V), σ = [some (.int (x : Nat)), some (.int (p : Nat)), some (.int (d : Nat)), some (.int u), some (.int v), some (.int (r : Nat)), some (.int low), some (.int high), tv] ∧ r < n ∧ 0 < d ∧ d ≤ p ∧ r ≤ p ∧ r * u.natAbs + d * low.natAbs ≤ p ∧ r * v.natAbs + d * high.natAbs ≤ p ∧ shGo n d u r low = shGo (p + 1) x 1 p 0) (p + 1)
    ⟨e1.trans e2, x, p, 1, 0, 0, 1, none, rfl, Nat.lt_succ_self _, hx, by omega, Nat.le_refl _, by simp, by simp; omega, rfl⟩ ?_
  rintro n σ' H' ⟨e3, d, r, u, v, low, high, tv, rfl, hrn, hd, hdp, hrp, b1, b2, hgo⟩
  obtain ⟨n, rfl⟩ : ∃ q, n = q + 1 := ⟨n - 1, by omega⟩
  refine ⟨decide (((r : Nat) : Int) ≠ 0), et_test (ev_neq (ev_vint rfl) ev_int), fun hb H4 e4 => ?_, fun hb H4 e4 => ?_⟩
  · have hb : ((r : Nat) : Int) ≠ 0 := of_decide_eq_true hb
    have hr0 : 0 < r := by omega
    have hf : ((d : Nat) : Int).fdiv (r : Nat) = ((d / r : Nat) : Int) := by rw [Int.fdiv_eq_ediv_of_nonneg _ (by omega), Int.natCast_ediv]
    have hu : u.natAbs ≤ p := Nat.le_trans (Nat.le_mul_of_pos_left _ hr0) (by omega)
    have hv : v.natAbs ≤ p := Nat.le_trans (Nat.le_mul_of_pos_left _ hr0) (by omega)
    have hl : low.natAbs ≤ p := Nat.le_trans (Nat.le_mul_of_pos_left _ hd) (by omega)
    have hh : high.natAbs ≤ p := Nat.le_trans (Nat.le_mul_of_pos_left _ hd) (by omega)
    have ht : d / r ≤ p := Nat.le_trans (Nat.div_le_self d r) hdp
    have hm := Nat.mod_lt d hr0
    have hdm := Nat.div_add_mod d r
    have er : ((d : Nat) : Int) - ((d / r : Nat) : Int) * (r : Nat) = ((d - d / r * r : Nat) : Int) := by
      have : d / r * r ≤ d := Nat.div_mul_le_self d r
      rw [Int.natCast_sub this, Int.natCast_mul]
    conv at hgo => lhs; unfold shGo
    rw [if_neg hb, hf, er] at hgo
    refine ⟨fun σ H' => Same H H' ∧ ∃ (d r : Nat) (u v low high : Int) (tv : Option V), σ = [some (.int (x : Nat)), some (.int (p : Nat)), some (.int (d : Nat)), some (.int u), some (.int v), some (.int (r : Nat)), some (.int low), some (.int high), tv] ∧ r < n ∧ 0 < d ∧ d ≤ p ∧ r ≤ p ∧ r * u.natAbs + d * low.natAbs ≤ p ∧ r * v.natAbs + d * high.natAbs ≤ p ∧ shGo n d u r low = shGo (p + 1) x 1 p 0, fun σ2 H2 h => ⟨n, Nat.lt_succ_self _, h⟩, ?_⟩
    refine s_asg (ev_opC (g := fun i j => i.fdiv j) (ev_vint rfl) (ev_vint rfl) ⟨hb, by simp; omega⟩) fun w1 H5 e5 h5 => ?_
    cases (show w1 = .int (((d : Nat) : Int).fdiv (r : Nat)) from h5)
    rw [hf]
    refine s_par (ea_cons (ev_vint rfl) (ea_cons (ev_opI (g := fun i j => i - j) (ev_vint rfl) (ev_opC (g := fun i j => i * j) (ev_vint rfl) (ev_vint rfl) (mulw (p400 (by rw [Int.natAbs_natCast]; omega)) (p400 (by rw [Int.natAbs_natCast]; omega))))) ea_nil)) fun w1 w2 H6 e6 h1 h2 => ?_
    cases (show w1 = .int (r : Nat) from h1)
    cases (show w2 = .int (((d : Nat) : Int) - ((d / r : Nat) : Int) * (r : Nat)) from h2)
    rw [er]
    refine s_par (ea_cons (ev_vint rfl) (ea_cons (ev_opI (g := fun i j => i - j) (ev_vint rfl) (ev_opC (g := fun i j => i * j) (ev_vint rfl) (ev_vint rfl) (mulw (p400 (by rw [Int.natAbs_natCast]; omega)) (p400 (by omega))))) ea_nil)) fun w1 w2 H7 e7 h1 h2 => ?_
    cases (show w1 = .int low from h1)
    cases (show w2 = .int (u - ((d / r : Nat) : Int) * low) from h2)
    refine s_par (ea_cons (ev_vint rfl) (ea_cons (ev_opI (g := fun i j => i - j) (ev_vint rfl) (ev_opC (g := fun i j => i * j) (ev_vint rfl) (ev_vint rfl) (mulw (p400 (by rw [Int.natAbs_natCast]; omega)) (p400 (by omega))))) ea_nil)) fun w1 w2 H8 e8 h1 h2 => ?_
    cases (show w1 = .int high from h1)
    cases (show w2 = .int (v - ((d / r : Nat) : Int) * high) from h2)
    have ab : ∀ y z : Int, (y - ((d / r : Nat) : Int) * z).natAbs ≤ y.natAbs + d / r * z.natAbs := fun y z => by
      have := Int.natAbs_sub_le y (((d / r : Nat) : Int) * z)
      rw [Int.natAbs_mul, Int.natAbs_natCast] at this
      exact this
    have hrr : d - d / r * r < r := by rw [Nat.mul_comm] at hdm; omega
    exact ⟨e3.trans (e4.trans (e5.trans (e6.trans (e7.trans e8)))), r, d - d / r * r, low, high, u - ((d / r : Nat) : Int) * low, v - ((d / r : Nat) : Int) * high, _, rfl, by omega, hr0, hrp, by omega, sh_step (c := 0) (e := 0) (N := 0) hr0 b1 (ab u low), sh_step (c := 0) (e := 0) (N := 0) hr0 b2 (ab v high), hgo⟩
  · have hb : ((r : Nat) : Int) = 0 := by simpa using hb
    conv at hgo => lhs; unfold shGo
    rw [if_pos hb] at hgo
    refine s_ifF (et_test (ev_opB (g := fun i j => decide (i < j)) (ev_vint rfl) ev_int) |>.to (by rw [decide_eq_false_iff_not]; omega)) fun H5 e5 => ?_
    refine s_ret (ev_tup (Ps := [isI (d : Nat), isI u, isI v]) (ea_cons (ev_vint rfl) (ea_cons (ev_vint rfl) (ea_cons (ev_vint rfl) ea_nil)))) fun w H6 e6 h => k w H6 (e3.trans (e4.trans (e5.trans e6))) ?_
    obtain ⟨a, vs, e, _, h, v1, r1, q1, p1, v2, r2, q2, p2, v3, r3, q3, p3, q4⟩ := h
    exact ⟨a, vs, e, rfl, h, v1, r1, q1, trivial, v2, r2, q2, by rw [← hgo]; exact p2, v3, r3, q3, trivial, q4⟩
end
end Tf
set_option maxRecDepth 100000
set_option maxHeartbeats 4000000
namespace Tf
open PySem PySem.Spec PyProof.Rows L2
/-- a prime below a million -/
class PrimeP (p : Nat) : Prop where
  pr : Pr0 p
  lt : p < 1000000
instance zpF (p : Nat) [h : PrimeP p] : Lean.Grind.Field (Zp p) := zpField p h.pr
section
variable {p : Nat} [hP : PrimeP p]
def zv (x : Zp p) : Nat := Fin.val (n := p) x
theorem zv_lt (x : Zp p) : zv x < p := Fin.isLt (n := p) x
theorem zv_ext {x y : Zp p} (h : zv x = zv y) : x = y := Fin.ext (n := p) h
theorem zv_add (x y : Zp p) : zv (x + y) = (zv x + zv y) % p := rfl
theorem zv_mul (x y : Zp p) : zv (x * y) = zv x * zv y % p := rfl
theorem zv_zero : zv (0 : Zp p) = 0 := by
  show 0 % p = 0
  exact Nat.zero_mod p
theorem p2 : 2 ≤ p := hP.pr.1
theorem zv_one : zv (1 : Zp p) = 1 := by
  show 1 % p = 1
  exact Nat.mod_eq_of_lt (by have := p2 (p := p); omega)
theorem zv_inv (x : Zp p) : zv x⁻¹ = zinv p (zv x) := rfl
theorem zv_ofI {n : Int} (hn : n = 0 ∨ n = 1 ∨ n = -1) : n.fmod (p : Int) = (zv (ofI n : Zp p) : Int) := by
  have h2 := p2 (p := p)
  rcases hn with rfl | rfl | rfl
  · rw [ofI0, zv_zero]; simp
  · rw [ofI1, zv_one, Int.fmod_eq_emod_of_nonneg _ (by omega), Int.emod_eq_of_lt (by omega) (by omega)]; rfl
  · rw [ofIm]
    have e : zv ((0 : Zp p) - 1) + 1 = p := by
      have h1 : (0 : Zp p) - 1 + 1 = 0 := by grind
      have h3 := congrArg zv h1
      rw [zv_add, zv_one, zv_zero] at h3
      have h4 := zv_lt ((0 : Zp p) - 1)
      have h5 := Nat.dvd_of_mod_eq_zero h3
      have := Nat.le_of_dvd (by omega) h5
      omega
    rw [Int.fmod_eq_emod_of_nonneg _ (by omega)]
    have : ((-1 : Int)) % (p : Int) = p - 1 := by
      rw [← Int.add_mul_emod_self_left (-1) p 1]
      rw [Int.emod_eq_of_lt (by omega) (by omega)]
      omega
    rw [this]; omega
end
section
variable {K : PySem.W.Frag} {σ : L2.St} {H : Hp} {ta tb : TE}
theorem ev_eqD {A B : Pr} {da db : PyData} (ha : Ev ta σ H A) (hb : Ev tb σ H B) (pa : ∀ v H, A.p v H → Dp K H v da) (pb : ∀ v H, B.p v H → Dp K H v db) (sa : SeqAt.shaped da = true) (sb : SeqAt.shaped db = true) : Ev (tOp (rEqD K) ta tb) σ H (isB (PyData.eqv da db)) :=
  ev_op ha hb fun u v H1 s pu pv Q q => ⟨_, _, pa _ _ pu, pb _ _ pv, sa, sb, q _ H1 (Same.refl _) rfl⟩
theorem zeqv (a b : Nat) : PyData.eqv (.int (a : Nat)) (.int (b : Nat)) = decide (a = b) := by
  show (((a : Nat) : Int) == ((b : Nat) : Int)) = decide (a = b)
  by_cases h : a = b
  · subst h; simp
  · have : ¬ ((a : Nat) : Int) = ((b : Nat) : Int) := by omega
    simp [h, this]
theorem ev_neD {A B : Pr} {da db : PyData} (ha : Ev ta σ H A) (hb : Ev tb σ H B) (pa : ∀ v H, A.p v H → Dp K H v da) (pb : ∀ v H, B.p v H → Dp K H v db) (sa : SeqAt.shaped da = true) (sb : SeqAt.shaped db = true) : Ev (tOp (rNeD K) ta tb) σ H (isB (!PyData.eqv da db)) :=
  ev_op ha hb fun u v H1 s pu pv Q q => ⟨_, _, pa _ _ pu, pb _ _ pv, sa, sb, q _ H1 (Same.refl _) rfl⟩
end
section
variable {P : Program} {w : World} {K : PySem.W.Frag} {mg : Str → Option Value} {base : Heap} (T : Txt K mg) (p : Nat) [hP : PrimeP p]
/-- the rests of p -/
def RO : Pr where
  p := fun v H => ∃ a dx, v = .ref a ∧ H a = some (.ins (He.ga K "Rests") dx [("prime", .int (p : Nat))])
  mo := fun ⟨a, dx, e, h⟩ s => ⟨a, dx, e, s _ _ h⟩
theorem ro_at {m : Str} (h : m ∈ (["number", "plus", "times", "minus", "back", "is_nought"] : List Str)) : ObjOf K (He.ga K "Rests") m (RO (K := K) p) := ⟨fun ⟨a, dx, e, h1⟩ => ⟨a, dx, _, e, h1, by
  have : m ≠ "prime" := fun e => by rw [e] at h; exact absurd h (by decide +kernel)
  simp only [List.lookup]
  rw [beq_false_of_ne this]⟩⟩
theorem ev_prime {σ : L2.St} {H : Hp} {te : TE} (T : Txt K mg) (h : Ev te σ H (RO (K := K) p)) : Ev (tFld K te "prime") σ H (isI (p : Nat)) := fun H1 s Q q =>
  h H1 s _ fun v H2 s2 ⟨a, dx, e, h1⟩ => ⟨a, _, dx, _, .int (p : Nat), e, h1, T.cls_Rests, T.noat_prime, rfl, q _ H2 s2 rfl⟩
def zR (x : Zp p) : Pr := isI (zv x : Nat)
abbrev znum : Spc := sNum (fun _ : Zp p => True) (zR p) (RO (K := K) p)
include T
theorem ok_Rests_back : Ok P w K mg base 2 ("Rests", some "back") ["self", "one"] (sBack (zR p) (RO (K := K) p)) := by
  refine T.d_Rests_back.ok sc_Rests_back (fun _ => rfl) fun cdv A outer s H vs Q E (x : Zp p) hr hx ha k => ?_
  obtain ⟨ov, _, rfl, ho, _, _, rfl, rfl, rfl⟩ := ha
  have hr_shares : Room 1 _ := hr
  have G_shares := ok_shares (P := P) (w := w) (base := base) T
  have h0 : 0 < zv x := by
    rcases Nat.eq_zero_or_pos (zv x) with z | z
    · exact absurd (zv_ext (show zv x = zv (0 : Zp p) by rw [zv_zero]; exact z)) hx
    · exact z
  have hl := zv_lt x
  have hp := hP.lt
  have h2 := p2 (p := p)
  refine ⟨_, (pss_cons (ps_if (pt_cmpR op_eq (pv 1) pe_int (nomark _)) pss_never pss_nil)
      (pss_one (ps_ret (pe_op op_modN (pe_ix (ixT K) (pe_call G_shares hr_shares rfl T.g_shares T.d_shares.fn.kp T.d_shares.bd .nil pass0 (pa_cons (pv 1) (pa_cons (pe_fld (pv 0) rfl) pa_nil))) pe_int (fun _ _ => rfl)) (pe_fld (pv 0) rfl))))), ?_⟩
  refine s_ifF (et_test (ev_eqI (ev_vint rfl) ev_int) |>.to (by rw [decide_eq_false_iff_not]; omega)) fun H1 e1 => ?_
  refine s_ret (ev_opC (g := fun i j => i.fmod j) (ev_tix (i := 1) (ev_call (S := sShare) (zv x, p) (ea_cons (ev_vint rfl) (ea_cons (ev_prime p T (ev_var rfl ((RO p).mo ho e1))) ea_nil)) ⟨h0, hl, by omega⟩) ev_int rfl) (ev_prime p T (ev_var rfl ((RO p).mo ho e1))) (show ((p : Nat) : Int) ≠ 0 by omega)) fun v H2 e2 h => k v H2 (e1.trans e2) ?_
  have e : (shGo (p + 1) (zv x) 1 p 0).2.fmod (p : Int) = (zv x⁻¹ : Int) := by
    rw [zv_inv]
    unfold zinv
    rw [if_neg (by omega), Int.fmod_eq_emod_of_nonneg _ (by omega)]
    have := Int.emod_nonneg (shGo (p + 1) (zv x) 1 p 0).2 (show ((p : Nat) : Int) ≠ 0 by omega)
    omega
  show v = .int (zv x⁻¹ : Nat)
  rw [← e]; exact h
theorem ok_Rests_number : Ok P w K mg base 2 ("Rests", some "number") ["self", "top", "bottom"] (znum (K := K) p) := by
  refine ok_of T.d_Rests_number.fn sc_Rests_number (fun _ => rfl) fun cdv A outer s H vs Q E (n : Int) hr hn ha k => ?_
  obtain ⟨ov, _, rfl, ho, _, _, rfl, rfl, _, _, rfl, rfl, rfl⟩ := ha
  have h2 := p2 (p := p)
  refine ⟨_, (pss_cons (ps_if (pt_cmpR op_eq (pv 2) pe_int (nomark _)) (pss_one (ps_ret (pe_op op_modN (pv 1) (pe_fld (pv 0) rfl)))) pss_nil)
      (pss_one ps_never)), ?_⟩
  refine s_ifT (et_test (ev_eqI (ev_vint rfl) ev_int) |>.to (by simp)) fun H1 e1 => ?_
  refine s_ret (ev_opC (g := fun i j => i.fmod j) (ev_vint rfl) (ev_prime p T (ev_var rfl ((RO p).mo ho e1))) (show ((p : Nat) : Int) ≠ 0 by omega)) fun v H2 e2 h => k v H2 (e1.trans e2) ?_
  show v = .int (zv (ofI n : Zp p) : Nat)
  rw [← zv_ofI hn]; exact h
theorem ok_Rests_plus : Ok P w K mg base 1 ("Rests", some "plus") ["self", "one", "other"] (s2 (fun _ : Zp p => True) (zR p) (RO (K := K) p) fun a b => a + b) := by
  refine T.d_Rests_plus.ok sc_Rests_plus (fun _ => rfl) fun cdv A outer s H vs Q E ⟨x, y⟩ hr hn ha k => ?_
  obtain ⟨ov, _, rfl, ho, _, _, rfl, rfl, _, _, rfl, rfl, rfl⟩ := ha
  have h2 := p2 (p := p)
  refine ⟨_, (pss_one (ps_ret (pe_op op_modN (pe_op op_add (pv 1) (pv 2)) (pe_fld (pv 0) rfl)))), ?_⟩
  refine s_ret (ev_opC (g := fun i j => i.fmod j) (ev_opI (g := fun i j => i + j) (ev_vint rfl) (ev_vint rfl)) (ev_prime p T (ev_var rfl ho)) (show ((p : Nat) : Int) ≠ 0 by omega)) fun v H2 e2 h => k v H2 e2 ?_
  have e : ((zv x : Int) + (zv y : Int)).fmod (p : Int) = (zv (x + y) : Int) := by rw [zv_add, Int.fmod_eq_emod_of_nonneg _ (by omega), Int.natCast_emod, Int.natCast_add]
  show v = .int (zv (x + y) : Nat)
  rw [← e]; exact h
theorem ok_Rests_times : Ok P w K mg base 1 ("Rests", some "times") ["self", "one", "other"] (s2 (fun _ : Zp p => True) (zR p) (RO (K := K) p) fun a b => a * b) := by
  refine T.d_Rests_times.ok sc_Rests_times (fun _ => rfl) fun cdv A outer s H vs Q E ⟨x, y⟩ hr hn ha k => ?_
  obtain ⟨ov, _, rfl, ho, _, _, rfl, rfl, _, _, rfl, rfl, rfl⟩ := ha
  have h2 := p2 (p := p)
  have hp := hP.lt
  have hx := zv_lt x
  have hy := zv_lt y
  refine ⟨_, (pss_one (ps_ret (pe_op op_modN (pe_op op_mulW (pv 1) (pv 2)) (pe_fld (pv 0) rfl)))), ?_⟩
  refine s_ret (ev_opC (g := fun i j => i.fmod j) (ev_opC (g := fun i j => i * j) (ev_vint rfl) (ev_vint rfl) (mulw (p400 (by rw [Int.natAbs_natCast]; show zv x ≤ _; omega)) (p400 (by rw [Int.natAbs_natCast]; show zv y ≤ _; omega)))) (ev_prime p T (ev_var rfl ho)) (show ((p : Nat) : Int) ≠ 0 by omega)) fun v H2 e2 h => k v H2 e2 ?_
  have e : ((zv x : Int) * (zv y : Int)).fmod (p : Int) = (zv (x * y) : Int) := by rw [zv_mul, Int.fmod_eq_emod_of_nonneg _ (by omega), Int.natCast_emod, Int.natCast_mul]
  show v = .int (zv (x * y) : Nat)
  rw [← e]; exact h
theorem ms_Rests : Ms P w K mg base 39 (He.ga K "Rests") (RO (K := K) p) (fun _ => zR p) (fun _ h => h) ofI (fun _ _ => True) (fun _ _ => True) (fun a b => a + b) fun a b => a * b :=
  ⟨T.cls_Rests, fun h => ro_at p h, T.m_Rests_number, T.m_Rests_plus, T.m_Rests_times, T.d_Rests_number.bd1, T.d_Rests_plus.bd, T.d_Rests_times.bd, (ok_Rests_number T p).mono (by decide), (ok_Rests_plus T p).mono (by decide), (ok_Rests_times T p).mono (by decide)⟩
omit T in
theorem sp_minus {F : Type} [Lean.Grind.Field F] [DecidableEq F] {Sm : F → Prop} {rep : F → Pr} {O : Pr} {pp pt : F → F → Prop} (h : ∀ x y, Sm x → Sm y → Sm (x - y) → pt (ofI (-1)) y ∧ pp x (ofI (-1) * y)) (hs : ∀ {x v H}, (rep x).p v H → Sm x) {vs : List V} {H : Hp} {Q : VK} {E : XK} (q : (s2 Sm rep O fun a b => a - b).sp vs H Q E) :
    (gB O (fun _ => rep) (fun _ h => h) (fun x y => pt (ofI (-1)) y ∧ pp x (ofI (-1) * y)) fun x y => x + ofI (-1) * y).sp vs H Q E := by
  obtain ⟨⟨x, y⟩, h1, h2, h3⟩ := q
  have ⟨v1, r1, e1, p1, v2, r2, e2, p2, v3, r3, e3, p3, e4⟩ := h2
  refine ⟨(x, y), h x y (hs p2) (hs p3) h1, h2, fun v H' s p => h3 v H' s ?_⟩
  have e : x + ofI (-1) * y = x - y := by rw [ofIm]; grind
  have p : (rep (x + ofI (-1) * y)).p v H' := p
  rw [e] at p
  exact p
-- 0 self, 1 one
theorem ok_Rests_nought : Ok P w K mg base 39 ("Rests", some "is_nought") ["self", "one"] (sNou (zR p) (RO (K := K) p)) := by
  refine FnOk.mono (j := 3) (T.d_Rests_is_nought.ok (k := 2) sc_Kind_is_nought (fun _ => rfl) fun cdv A outer s H vs Q E (x : Zp p) hr _ ha k => ?_) (by decide)
  obtain ⟨ov, _, rfl, ho, _, _, rfl, rfl, rfl⟩ := ha
  have hr_π : Room 2 _ := hr
  have hu := hr.units
  have π : Ms P w K mg base 2 (He.ga K "Rests") (RO (K := K) p) (fun _ => zR p) (fun _ h => h) ofI (fun _ _ => True) (fun _ _ => True) (fun a b => a + b) fun a b => a * b :=
    ⟨T.cls_Rests, fun h => ro_at p h, T.m_Rests_number, T.m_Rests_plus, T.m_Rests_times, T.d_Rests_number.bd1, T.d_Rests_plus.bd, T.d_Rests_times.bd, ok_Rests_number T p, (ok_Rests_plus T p).mono (by decide), (ok_Rests_times T p).mono (by decide)⟩
  obtain ⟨dsN, vN_π, bN_π⟩ := π.bd_number
  refine ⟨_, (pss_one (ps_ret (pe_cmpR (eqDK K hu) (pv 1) (pe_meth (pv 0) π.cls π.m_number π.number hr_π bN_π vN_π pass0 (pa_cons pe_int pa_nil)) (nomark _)))), ?_⟩
  refine s_ret (Ev.to (ev_eqD (A := isI (zv x : Nat)) (B := zR p (ofI 0)) (da := .int (zv x : Nat)) (db := .int (zv (ofI 0 : Zp p) : Nat)) (ev_vint rfl) (ev_meth1 (S := znum (K := K) p) (0 : Int) (ro_at p (by decide +kernel)) (ev_var rfl ho) (ea_cons ev_int ea_nil) (.inl rfl)) (fun v H h => by rw [show v = .int _ from h]; exact .int _) (fun v H h => by rw [show v = .int _ from h]; exact .int _) rfl rfl) ?_) fun v H1 e1 h => k v H1 e1 h
  show isB (PyData.eqv (.int (zv x : Nat)) (.int (zv (ofI 0 : Zp p) : Nat))) = isB (decide (x = 0))
  rw [ofI0, zv_zero, zeqv]
  congr 1
  rw [decide_eq_decide]
  exact ⟨fun h => zv_ext (by rw [zv_zero]; omega), fun h => by rw [h, zv_zero]⟩
/-- the rests as a kind -/
def kdRests : @Kd (Zp p) (zpF p) inferInstance P w K mg base where
  C := He.ga K "Rests"
  Sm := fun _ => True
  rep := zR p
  obj := RO p
  cls := T.cls_Rests
  rep_sm := fun _ => trivial
  rep_sta := fun x d => sta_I
  obj_sta := fun d v H o o' e ⟨a, dx, ea, h⟩ => ⟨a, dx, ea, by rw [upd_ne (ne_of h e (by intro z; cases z))]; exact h⟩
  at_ := fun h => ro_at p h
  sm0 := trivial
  sm1 := trivial
  sm_neg := fun _ => trivial
  sm_inv := fun _ => trivial
  m_number := T.m_Rests_number
  m_plus := T.m_Rests_plus
  m_times := T.m_Rests_times
  m_minus := T.m_Rests_minus
  m_back := T.m_Rests_back
  m_nought := T.m_Rests_is_nought
  b_number := T.d_Rests_number.bd1
  b_number0 := T.d_Rests_number.bd
  b_plus := T.d_Rests_plus.bd
  b_times := T.d_Rests_times.bd
  b_minus := T.d_Rests_minus.bd
  b_back := T.d_Rests_back.bd
  b_nought := T.d_Rests_is_nought.bd
  number := (ok_Rests_number T p).mono (by decide)
  plus := (ok_Rests_plus T p).mono (by decide)
  times := (ok_Rests_times T p).mono (by decide)
  minus := (ok_Kind_minus T.d_Rests_minus (ms_Rests T p)).imp fun vs H Q E q => sp_minus (pp := fun _ _ => True) (pt := fun _ _ => True) (fun _ _ _ _ _ => ⟨trivial, trivial⟩) (fun _ => trivial) q
  back := (ok_Rests_back T p).mono (by decide)
  nought := (ok_Rests_nought T p).mono (by decide)
  dat := fun x => .int (zv x : Nat)
  dat_ok := fun h => by rw [show _ = V.int _ from h]; exact .int _
  dat_sh := fun x => ⟨rfl, by simp [PyData.depth]⟩
  dat_eq := fun x y => by
    rw [zeqv, decide_eq_decide]
    exact ⟨fun h => zv_ext (by omega), fun h => by rw [h]⟩
end
/-! Rests(prime) -/
theorem same_upd {H H' : Hp} {x : Addr} {o : HO} (s : Same H H') : Same (upd H x o) (upd H' x o) := fun b u q => by
  by_cases e : b = x
  · subst e; rw [upd_same] at q ⊢; exact q
  · rw [upd_ne e] at q ⊢; exact s b u q
section
variable {P : Program} {w : World} {K : PySem.W.Frag} {mg : Str → Option Value} {base : Heap} (T : Txt K mg)
def spRinit : Sp := fun vs H Q _ => ∃ (x dx : Addr) (p : Nat), vs = [.ref x, .int (p : Nat)] ∧ Pr0 p ∧ p < 1000000 ∧ H x = some (.ins (He.ga K "Rests") dx []) ∧ ∀ H', Same (upd H x (.ins (He.ga K "Rests") dx [("prime", .int (p : Nat))])) H' → Q .non H'
include T
theorem ok_Rests_init : FnOk P w K mg base CX0 2 (He.fAd K ("Rests", some "__init__")) (fdAt K (He.fAd K ("Rests", some "__init__"))) ["self", "prime"] (spRinit (K := K)) := by
  refine T.d_Rests_init.fn.ok (k := 1) sc_Rests_init (fun vs H Q E ⟨x, dx, p, e, _⟩ => by rw [e]; rfl) fun cdv A outer s H vs Q E hr ⟨x, dx, p, e, hp, hl, h1, q⟩ => ?_
  subst e
  have hr_is_whole : Room 1 _ := hr
  have hr_is_prime : Room 1 _ := hr
  have G_is_whole := ok_is_whole (P := P) (w := w) (base := base) T
  have G_is_prime := ok_is_prime (P := P) (w := w) (base := base) T
  obtain ⟨tMOST, hMOST⟩ := T.int_MOST
  refine ⟨_, PSs.nox ((pss_cons (ps_if (PW.pt (pw_or (pt_not (pt_val (pe_call G_is_whole hr_is_whole rfl T.g_is_whole T.d_is_whole.fn.kp T.d_is_whole.bd .nil pass0 (pa_cons (pv 1) pa_nil)))) (pw_or (pt_cmpR op_ge (pv 1) (pe_glob (v := .int 1000000) (by rfl) hMOST ⟨_, rfl⟩) (nomark _)) (pw_or1 (pt_not (pt_val (pe_call G_is_prime hr_is_prime rfl T.g_is_prime T.d_is_prime.fn.kp T.d_is_prime.bd .nil pass0 (pa_cons (pv 1) pa_nil)))))))) pss_never pss_nil)
      (pss_one (ps_fld (pv 0) (pv 1) rfl)))), ?_⟩
  refine s_ifF ((et_or (et_not (et_test (ev_call (S := sWhole) ((p : Nat) : Int) (ea_cons (ev_vint rfl) ea_nil) trivial))) fun _ => et_or (et_test (ev_opB (g := fun i j => decide (j ≤ i)) (ev_vint rfl) ev_c)) fun _ => et_not (et_test (ev_call (S := sPrime) p (ea_cons (ev_vint rfl) ea_nil) (show p ≤ 1000000 by omega)))).to ?_) fun H1 e1 => ?_
  · simp [hp]; omega
  · exact ⟨.int (p : Nat), rfl, .ref x, rfl, x, _, dx, [], rfl, e1 _ _ h1, T.cls_Rests, T.noat_prime, by decide, q _ (same_upd e1)⟩
omit T in
theorem ev_Rests {p : Nat} {σ : L2.St} {H : Hp} {t : TA} {E : XK} (h : EvA t σ H [isI (p : Nat)]) (hp : Pr0 p) (hl : p < 1000000) : Ev (tMake (He.ga K "Rests") (spRinit (K := K)) [] E t) σ H (RO (K := K) p) := fun H1 s Q q =>
  h H1 s _ fun vs H2 s2 ⟨kd, r, e, pk, e2⟩ x dx hx hdx hne => by
    cases (show kd = .int (p : Nat) from pk)
    refine ⟨x, dx, p, by rw [e, show r = [] from e2]; rfl, hp, hl, upd_same, fun H' s' => ⟨rfl, ?_⟩⟩
    have sA : Same H2 (upd H2 dx (.own x)) := same_new hdx
    have sB : Same H2 (upd (upd H2 dx (.own x)) x (.ins (He.ga K "Rests") dx [])) := same_mut sA hx
    have sC : Same H2 H' := (same_mut sB hx).trans s'
    exact q _ H' (s2.trans sC) ⟨x, dx, rfl, s' _ _ upd_same⟩
end
end Tf
set_option maxRecDepth 100000
set_option maxHeartbeats 4000000
namespace Tf
open PySem PySem.Spec PyProof.Rows L2
section
variable {P : Program} {w : World} {K : PySem.W.Frag} {mg : Str → Option Value} {base : Heap} {F : Type} [Lean.Grind.Field F] [DecidableEq F]
def lMake (κ : Kd F P w K mg base) (q : Nat) : Spc where
  ι := Int
  pre := fun n => n = 0 ∨ n = 1 ∨ n = -1
  args := fun n => [isI (q : Nat), isI n]
  post := fun n _ => κ.rep (ofI n)
  an := fun _ h => h
def lOp (κ : Kd F P w K mg base) (q : Nat) (op : F → F → F) : Spc where
  ι := F × F
  pre := fun x => κ.Sm (op x.1 x.2)
  args := fun x => [isI (q : Nat), κ.rep x.1, κ.rep x.2]
  post := fun x _ => κ.rep (op x.1 x.2)
  an := fun _ h => h
def lIs (κ : Kd F P w K mg base) (q : Nat) : Spc where
  ι := F
  pre := fun _ => True
  args := fun x => [isI (q : Nat), κ.rep x]
  post := fun _ _ => isB true
  an := fun _ h => h
def lDrawn (κ : Kd F P w K mg base) (q : Nat) (dr : Int → F) : Spc where
  ι := Int
  pre := fun _ => True
  args := fun n => [isI (q : Nat), isI n]
  post := fun n _ => κ.rep (dr n)
  an := fun _ h => h
/-- the law's own arithmetic -/
structure LK (κ : Kd F P w K mg base) where
  q : Nat
  make : Ok P w K mg base 40 ("_law_make", none) ["_law_prime_here", "_law_number"] (lMake κ q)
  plus : Ok P w K mg base 40 ("_law_plus", none) ["_law_prime_here", "_law_one", "_law_other"] (lOp κ q fun a b => a + b)
  times : Ok P w K mg base 40 ("_law_times", none) ["_law_prime_here", "_law_one", "_law_other"] (lOp κ q fun a b => a * b)
  isn : Ok P w K mg base 40 ("_law_is_number", none) ["_law_prime_here", "_law_found"] (lIs κ q)
  dr : Int → F
  drawn : Ok P w K mg base 40 ("_law_drawn", none) ["_law_prime_here", "_law_number"] (lDrawn κ q dr)
end
section
variable {P : Program} {w : World} {K : PySem.W.Frag} {mg : Str → Option Value} {base : Heap} {F : Type} [Lean.Grind.Field F] [DecidableEq F] (κ : Kd F P w K mg base) (lk : LK κ)
section
variable {σ : L2.St} {H : Hp} {ta tb te to : TE} {E : XK} {x y : F}
theorem el_make {n : Int} (hn : n = 0 ∨ n = 1 ∨ n = -1) (ho : Ev to σ H (isI (lk.q : Nat))) (ha : Ev ta σ H (isI n)) : Ev (tCall (lMake κ lk.q).sp [] E (tCons to (tCons ta tNil))) σ H (κ.rep (ofI n)) :=
  ev_call (S := lMake κ lk.q) n (ea_cons ho (ea_cons ha ea_nil)) hn
theorem el_op {op : F → F → F} (ho : Ev to σ H (isI (lk.q : Nat))) (ha : Ev ta σ H (κ.rep x)) (hb : Ev tb σ H (κ.rep y)) (hs : κ.Sm (op x y)) : Ev (tCall (lOp κ lk.q op).sp [] E (tCons to (tCons ta (tCons tb tNil)))) σ H (κ.rep (op x y)) :=
  ev_call (S := lOp κ lk.q op) (x, y) (ea_cons ho (ea_cons ha (ea_cons hb ea_nil))) hs
theorem shaped_dat (x : F) : SeqAt.shaped (κ.dat x) = true := by
  obtain ⟨a, b⟩ := κ.dat_sh x
  unfold SeqAt.shaped
  rw [a, decide_eq_true (show (κ.dat x).depth ≤ 64 by omega)]
  rfl
theorem ev_eqN (ha : Ev ta σ H (κ.rep x)) (hb : Ev tb σ H (κ.rep y)) : Ev (tOp (rEqD K) ta tb) σ H (isB (decide (x = y))) :=
  (ev_eqD ha hb (fun v H h => κ.dat_ok h) (fun v H h => κ.dat_ok h) (shaped_dat κ x) (shaped_dat κ y)).to (by rw [κ.dat_eq])
theorem ev_neN (ha : Ev ta σ H (κ.rep x)) (hb : Ev tb σ H (κ.rep y)) : Ev (tOp (rNeD K) ta tb) σ H (isB (!decide (x = y))) :=
  (ev_neD ha hb (fun v H h => κ.dat_ok h) (fun v H h => κ.dat_ok h) (shaped_dat κ x) (shaped_dat κ y)).to (by rw [κ.dat_eq])
end
variable (T : Txt K mg)
include T
theorem ok_L_minus : Ok P w K mg base 41 ("_law_minus", none) ["_law_prime_here", "_law_one", "_law_other"] (lOp κ lk.q fun a b => a - b) := by
  refine T.d_L_minus.ok sc_L_minus (fun _ => rfl) fun cdv A outer s H vs Q E ⟨x, y⟩ hr hs ha k => ?_
  obtain ⟨_, _, rfl, rfl, xv, _, rfl, hx, yv, _, rfl, hy, rfl⟩ := ha
  have hr_L_make : Room 40 _ := hr
  have hr_L_plus : Room 40 _ := hr
  have hr_L_times : Room 40 _ := hr
  have G_L_make := lk.make
  have G_L_plus := lk.plus
  have G_L_times := lk.times
  have hx : (κ.rep x).p xv H := hx
  have hy : (κ.rep y).p yv H := hy
  have hs : κ.Sm (x - y) := hs
  have e1 : (0 - 1) * y = 0 - y := by grind
  have e2 : x + (0 - 1) * y = x - y := by grind
  refine ⟨_, (pss_one (ps_ret (pe_call G_L_plus hr_L_plus rfl T.g_L_plus T.d_L_plus.fn.kp T.d_L_plus.bd .nil pass0 (pa_cons (pv 0) (pa_cons (pv 1) (pa_cons (pe_call G_L_times hr_L_times rfl T.g_L_times T.d_L_times.fn.kp T.d_L_times.bd .nil pass0 (pa_cons (pv 0) (pa_cons (pe_call G_L_make hr_L_make rfl T.g_L_make T.d_L_make.fn.kp T.d_L_make.bd .nil pass0 (pa_cons (pv 0) (pa_cons (pe_un un_neg pe_int) pa_nil))) (pa_cons (pv 2) pa_nil)))) pa_nil)))))), ?_⟩
  refine s_ret (el_op κ lk (op := fun a b => a + b) (y := (0 - 1) * y) (ev_vint rfl) (ev_var rfl hx) (el_op κ lk (op := fun a b => a * b) (x := 0 - 1) (ev_vint rfl) (el_make κ lk (n := -1) (.inr (.inr rfl)) (ev_vint rfl) (ev_neg ev_int)) (ev_var rfl hy) (by rw [e1]; exact κ.sm_neg (κ.rep_sm hy))) (by show κ.Sm (x + (0 - 1) * y); rw [e2]; exact hs)) fun v H1 e1 h => k v H1 e1 ?_
  show (κ.rep (x - y)).p v H1
  rw [← e2]; exact h
/-! _law_cut -/
def lCut : Spc where
  ι := List F
  pre := fun xs => xs.length ≤ 500
  args := fun xs => [isI (lk.q : Nat), κ.L nilH xs]
  post := fun xs _ => κ.L nilH (trim xs)
  an := fun _ h => h
theorem ok_L_cut : Ok P w K mg base 42 ("_law_cut", none) ["_law_prime_here", "_law_numbers"] (lCut κ lk) := by
  refine T.d_L_cut.ok sc_L_cut (fun _ => rfl) fun cdv A outer s H vs Q E (xs : List F) hr hn ha k => ?_
  obtain ⟨_, _, rfl, rfl, xv, _, rfl, hx, rfl⟩ := ha
  have hr_L_make : Room 40 _ := hr.mono (by decide)
  have G_L_make := lk.make
  have hu := hr.units
  refine ⟨_, (pss_cons (ps_while PassesOwn.never (PW.pt (pw_and (pt_cmpR op_gt (pe_callB (lenK K) (by rfl) T.free_len PySem.boot_len (pa_cons (pv 1) pa_nil)) pe_int (nomark _)) (pw_and1 (pt_cmpR (eqDK K hu) (pe_ix (ixL K) (pv 1) (pe_op op_sub (pe_callB (lenK K) (by rfl) T.free_len PySem.boot_len (pa_cons (pv 1) pa_nil)) pe_int) (fun _ _ => rfl)) (pe_call G_L_make hr_L_make rfl T.g_L_make T.d_L_make.fn.kp T.d_L_make.bd .nil pass0 (pa_cons (pv 0) (pa_cons pe_int pa_nil))) (nomark _))))) (pss_one (ps_set (i := 1) sc_L_cut.nd rfl (Or.inl rfl) (pe_slice (slL K) (pv 1) po_none (po_some (pe_un un_neg pe_int))))))
      (pss_one (ps_ret (pv 1)))), ?_⟩
  refine s_while (fun m σ H' => Same H H' ∧ ∃ (ys : List F) (v : V), σ = [some (.int (lk.q : Nat)), some v] ∧ (κ.L nilH ys).p v H' ∧ ys.length = m ∧ trim ys = trim xs) xs.length ⟨Same.refl _, xs, xv, rfl, hx, rfl, rfl⟩ ?_
  rintro m σ' H' ⟨e1, ys, v, rfl, hy, hm, ht⟩
  refine ⟨decide (0 < ys.length) && decide (gt ys (ys.length - 1) = 0), et_and ((et_test (ev_opB (g := fun i j => decide (j < i)) (ev_len (ev_var rfl hy)) ev_int)).to (by rw [decide_eq_decide]; omega)) fun hb => et_test (ev_eqN κ (ev_ix (i := ys.length - 1) (ev_var rfl hy) ((ev_opI (g := fun i j => i - j) (ev_len (ev_var rfl hy)) ev_int).to ?_) (gt_some ?_)) (el_make κ lk (n := 0) (.inl rfl) (ev_vint rfl) ev_int)), fun hb H2 e2 => ?_, fun hb H2 e2 => ?_⟩
  · have : 0 < ys.length := of_decide_eq_true hb
    have em : ((ys.length : Nat) : Int) - 1 = ((ys.length - 1 : Nat) : Int) := by omega
    exact congrArg isI em
  · have : 0 < ys.length := of_decide_eq_true hb
    omega
  · simp only [Bool.and_eq_true, decide_eq_true_eq] at hb
    obtain ⟨h1, h2⟩ := hb
    refine ⟨fun σ H' => Same H H' ∧ ∃ (v : V), σ = [some (.int (lk.q : Nat)), some v] ∧ (κ.L nilH ys.dropLast).p v H', fun σ2 H3 ⟨s, v, e, h⟩ => ⟨m - 1, by omega, s, _, v, e, h, by rw [List.length_dropLast]; omega, ?_⟩, ?_⟩
    · rw [← ht, List.dropLast_eq_take]
      have : ys = ys.take (ys.length - 1 + 1) := by rw [show ys.length - 1 + 1 = ys.length by omega, List.take_length]
      conv => rhs; rw [this]
      exact (trim_take (by omega) h2).symm
    · refine s_asg (ev_butlast (ev_var rfl ((κ.L nilH ys).mo hy e2)) (ev_neg ev_int)) fun v3 H3 e3 h3 => ⟨e1.trans (e2.trans e3), v3, rfl, κ.famL.an (fun _ _ => rfl) h3⟩
  · refine s_ret (ev_var rfl ((κ.L nilH ys).mo hy e2)) fun v3 H3 e3 h3 => k v3 H3 (e1.trans (e2.trans e3)) ?_
    have e : ys = trim xs := by
      rw [← ht]
      rcases Nat.eq_zero_or_pos ys.length with z | z
      · rw [List.length_eq_zero_iff.mp z]; rfl
      · have h2 : gt ys (ys.length - 1) ≠ 0 := by
          intro h
          rw [h] at hb
          simp at hb
          rw [hb] at z; simp at z
        have := trim_take' (xs := ys) (n := ys.length - 1) (by omega) h2
        rw [show ys.length - 1 + 1 = ys.length by omega, List.take_length] at this
        exact this.symm
    show (κ.L nilH (trim xs)).p v3 H3
    rw [← e]; exact h3
/-! _law_rest_by -/
def lRest : Spc where
  ι := List F × List F
  pre := fun ⟨f, g⟩ => Mon g ∧ f.length ≤ 200 ∧ g.length ≤ 200 ∧ κ.Al (dividedT f g)
  args := fun ⟨f, g⟩ => [isI (lk.q : Nat), κ.L nilH f, κ.L nilH g]
  post := fun ⟨f, g⟩ _ => κ.L nilH (divided f g).2
  an := fun {i _ _ _ _} _ h => by obtain ⟨f, g⟩ := i; exact h
-- 0 _law_prime_here, 1 _law_f, 2 _law_monic, 3 _law_rest, 4 _law_by, 5 _law_at, 6 _law_k
theorem ok_L_rest_by : Ok P w K mg base 43 ("_law_rest_by", none) ["_law_prime_here", "_law_f", "_law_monic"] (lRest κ lk) := by
  refine T.d_L_rest_by.ok sc_L_rest_by (fun _ => rfl) fun cdv A outer s H vs Q E ⟨f, g⟩ hr ⟨hm, hf, hg, hs⟩ ha k => ?_
  obtain ⟨_, _, rfl, rfl, fv, _, rfl, hfv, gv, _, rfl, hgv, rfl⟩ := ha
  have hr_L_minus : Room 41 _ := hr.mono (by decide)
  have hr_L_times : Room 40 _ := hr.mono (by decide)
  have hr_L_cut : Room 42 _ := hr
  have G_L_minus := ok_L_minus κ lk T
  have G_L_times := lk.times
  have G_L_cut := ok_L_cut κ lk T
  have hfv : (κ.L nilH f).p fv H := hfv
  have hgv : (κ.L nilH g).p gv H := hgv
  have hf : f.length ≤ 200 := hf
  have hg : g.length ≤ 200 := hg
  have hg0 := hm.pos
  have hb1 : (lst g)⁻¹ = (1 : F) := by
    have := f_inv hm.z
    rw [hm.m] at this ⊢
    grind
  have hs : κ.Al (dvGoT (lst g)⁻¹ g (f.length + 1) f) := hs
  rw [hb1] at hs
  have hdv : (divided f g).2 = trim (dvGo 1 g (f.length + 1) [] f).2 := by unfold divided; rw [hb1]
  refine ⟨_, (pss_cons (ps_set (i := 3) sc_L_rest_by.nd rfl (Or.inl rfl) (pe_callTy (listK K) (by rfl) T.free_list (by decide +kernel) (pa_cons (pv 1) pa_nil)))
      (pss_cons (ps_while PassesOwn.never (pt_cmpR op_ge (pe_callB (lenK K) (by rfl) T.free_len PySem.boot_len (pa_cons (pv 3) pa_nil)) (pe_callB (lenK K) (by rfl) T.free_len PySem.boot_len (pa_cons (pv 2) pa_nil)) (nomark _)) (pss_cons (ps_set (i := 4) sc_L_rest_by.nd rfl (Or.inl rfl) (pe_ix (ixL K) (pv 3) (pe_op op_sub (pe_callB (lenK K) (by rfl) T.free_len PySem.boot_len (pa_cons (pv 3) pa_nil)) pe_int) (fun _ _ => rfl)))
      (pss_cons (ps_set (i := 5) sc_L_rest_by.nd rfl (Or.inl rfl) (pe_op op_sub (pe_callB (lenK K) (by rfl) T.free_len PySem.boot_len (pa_cons (pv 3) pa_nil)) (pe_callB (lenK K) (by rfl) T.free_len PySem.boot_len (pa_cons (pv 2) pa_nil))))
      (pss_cons (ps_for PassesOwn.never rfl (pi_range1 (by rfl) T.free_range (pa_cons (pe_callB (lenK K) (by rfl) T.free_len PySem.boot_len (pa_cons (pv 2) pa_nil)) pa_nil)) (pg_name (i := 6) sc_L_rest_by.nd rfl (Or.inl rfl)) (pss_one (ps_asg (pe_call G_L_minus hr_L_minus rfl T.g_L_minus T.d_L_minus.fn.kp T.d_L_minus.bd .nil pass0 (pa_cons (pv 0) (pa_cons (pe_ix (ixL K) (pv 3) (pe_op op_add (pv 5) (pv 6)) (fun _ _ => rfl)) (pa_cons (pe_call G_L_times hr_L_times rfl T.g_L_times T.d_L_times.fn.kp T.d_L_times.bd .nil pass0 (pa_cons (pv 0) (pa_cons (pv 4) (pa_cons (pe_ix (ixL K) (pv 2) (pv 6) (fun _ _ => rfl)) pa_nil)))) pa_nil)))) (pg_sub (pv 3) (pe_op op_add (pv 5) (pv 6)) set_list))))
      (pss_one (ps_set (i := 3) sc_L_rest_by.nd rfl (Or.inl rfl) (pe_slice (slL K) (pv 3) po_none (po_some (pe_un un_neg pe_int)))))))))
      (pss_one (ps_ret (pe_call G_L_cut hr_L_cut rfl T.g_L_cut T.d_L_cut.fn.kp T.d_L_cut.bd .nil pass0 (pa_cons (pv 0) (pa_cons (pv 3) pa_nil))))))), ?_⟩
  refine s_asg (ev_list (ev_var rfl hfv)) fun v3 H3 e3 h3 => ?_
  refine s_while (fun n σ H' => Same H H' ∧ ∃ (a b c : Option V) (r q : List F) (rv : V), σ = [some (.int (lk.q : Nat)), some fv, some gv, some rv, a, b, c] ∧ (κ.L H r).p rv H' ∧ r.length < n ∧ r.length ≤ 200 ∧ (dvGo 1 g n q r).2 = (dvGo 1 g (f.length + 1) [] f).2 ∧ κ.Al (dvGoT 1 g n r)) (f.length + 1)
    ⟨e3, none, none, none, f, [], v3, rfl, h3, Nat.lt_succ_self _, hf, rfl, hs⟩ ?_
  rintro n σ' H' ⟨e4, a, b, c, r, q, rv, rfl, hrv, hrn, hrl, hgo, hA⟩
  refine ⟨decide (g.length ≤ r.length), et_test (ev_opB (g := fun i j => decide (j ≤ i)) (ev_len (ev_var rfl hrv)) (ev_len (ev_var rfl ((κ.L nilH g).mo hgv e4)))) |>.to (by rw [decide_eq_decide]; omega), fun hb H5 e5 => ?_, fun hb H5 e5 => ?_⟩
  · have hb : g.length ≤ r.length := of_decide_eq_true hb
    obtain ⟨n, rfl⟩ : ∃ p, n = p + 1 := ⟨n - 1, by omega⟩
    have e1 : lst r * 1 = lst r := f_mul_one _
    unfold dvGo at hgo
    rw [if_pos hb, e1] at hgo
    unfold dvGoT at hA
    rw [if_pos hb, e1] at hA
    have er : ((r.length : Nat) : Int) - 1 = ((r.length - 1 : Nat) : Int) := by omega
    have ea : ((r.length : Nat) : Int) - ((g.length : Nat) : Int) = ((r.length - g.length : Nat) : Int) := by omega
    have hr5 := (κ.L H r).mo hrv e5
    refine ⟨fun σ H' => Same H H' ∧ ∃ (a b c : Option V) (r q : List F) (rv : V), σ = [some (.int (lk.q : Nat)), some fv, some gv, some rv, a, b, c] ∧ (κ.L H r).p rv H' ∧ r.length < n ∧ r.length ≤ 200 ∧ (dvGo 1 g n q r).2 = (dvGo 1 g (f.length + 1) [] f).2 ∧ κ.Al (dvGoT 1 g n r), fun σ2 H2 h => ⟨n, Nat.lt_succ_self _, h⟩, ?_⟩
    refine s_asg (ev_ix (i := r.length - 1) (ev_var rfl hr5) ((ev_opI (g := fun i j => i - j) (ev_len (ev_var rfl hr5)) ev_int).to (congrArg isI er)) (gt_some (by omega))) fun bv H6 e6 hbv => ?_
    have hbv : (κ.rep (lst r)).p bv H6 := hbv
    have hr6 := (κ.L H r).mo hr5 e6
    have E6 := e4.trans (e5.trans e6)
    refine s_asg ((ev_opI (g := fun i j => i - j) (ev_len (ev_var rfl hr6)) (ev_len (ev_var rfl ((κ.L nilH g).mo hgv E6)))).to (congrArg isI ea)) fun av H7 e7 h7 => ?_
    cases (show av = .int ((r.length - g.length : Nat) : Int) from h7)
    have E7 := E6.trans e7
    obtain ⟨l, ws, rfl, hlH, hl7, hp7⟩ := (κ.L H r).mo hr6 e7
    refine s_forR (n := g.length) (ea_cons (ev_len (ev_var rfl ((κ.L nilH g).mo hgv E7))) ea_nil) (by omega)
      (fun i σ H' => Same H H' ∧ ∃ d t ws, σ = [some (.int (lk.q : Nat)), some fv, some gv, some (.ref l), some bv, some (.int ((r.length - g.length : Nat) : Int)), d] ∧ (κ.rep (lst r)).p bv H' ∧ H' l = some (.lst ws) ∧ Paired (fun x u => (κ.rep x).p u H') t ws ∧ t.length = r.length ∧
        dvK (lst r) (g.drop i) (r.length - g.length + i) t = dvK (lst r) g (r.length - g.length) r ∧ κ.Al (dvKT (lst r) (g.drop i) (r.length - g.length + i) t))
      (fun H11 e11 => ⟨E7.trans e11, c, r, ws, rfl, (κ.rep _).mo hbv (e7.trans e11), e11 _ _ hl7, pmo (R := κ.rep) hp7 e11, rfl, rfl, fun z hz => hA z (List.mem_cons_of_mem _ (List.mem_append_left _ hz))⟩) ?_ ?_
    · rintro i σ' H' hi ⟨e11, d, t, ws, rfl, hb11, hl11, hp11, htl, hdv, hA11⟩
      rw [drop_at hi] at hdv hA11
      have hpl := paired_len hp11
      have ep : ((r.length - g.length : Nat) : Int) + (i : Nat) = ((r.length - g.length + i : Nat) : Int) := by omega
      have ix := ev_ix (K := K) (xs := t) (R := κ.rep) (G := nilH) (H := H') (i := r.length - g.length + i) (ta := tVar 3) (tb := tOp (rI0 fun i j => .int (i + j)) (tVar 5) (tVar 6)) (σ := [some (.int (lk.q : Nat)), some fv, some gv, some (.ref l), some bv, some (.int ((r.length - g.length : Nat) : Int)), some (.int (i : Nat))]) (ev_var rfl ⟨l, ws, rfl, rfl, hl11, hp11⟩) ((ev_opI (g := fun i j => i + j) (ev_vint rfl) (ev_vint rfl)).to (congrArg isI ep)) (gt_some (by omega))
      refine s_set (j := r.length - g.length + i) hl11 (el_op κ lk (op := fun a b => a - b) (ev_vint rfl) ix (el_op κ lk (op := fun a b => a * b) (ev_vint rfl) (ev_var rfl hb11) (ev_ix (i := i) (ev_var rfl ((κ.L nilH g).mo hgv e11)) (ev_vint rfl) (gt_some hi)) (hA11 _ (List.mem_cons_self ..))) (hA11 _ (List.mem_cons_of_mem _ (List.mem_cons_self ..)))) (ev_var rfl rfl) ((ev_opI (g := fun i j => i + j) (ev_vint rfl) (ev_vint rfl)).to (congrArg isI ep)) (by omega) fun v12 H12 e12 h12 => ?_
      have hl12 := e12 _ _ hl11
      exact ⟨same_mut (e11.trans e12) hlH, _, _, _, rfl, κ.rep_sta _ l _ _ _ _ hl12 ((κ.rep _).mo hb11 e12), upd_same, pset (R := κ.rep) (κ.rep_sta _ _ _ _ _ _ hl12 h12) (r.length - g.length + i) (psta (R := κ.rep) (fun x => κ.rep_sta x l) hl12 (pmo (R := κ.rep) hp11 e12)), by rw [List.length_set]; exact htl, hdv, fun z hz => hA11 z (List.mem_cons_of_mem _ (List.mem_cons_of_mem _ hz))⟩
    · rintro σ' H' ⟨e11, d, t, ws, rfl, hb11, hl11, hp11, htl, hdv, hA11⟩
      rw [List.drop_length] at hdv
      have hdv : t = dvK (lst r) g (r.length - g.length) r := hdv
      rw [← hdv] at hgo hA
      have hdl : t.dropLast.length = r.length - 1 := by rw [List.length_dropLast, htl]
      refine s_asg (ev_butlast (ev_var (P := κ.L nilH t) rfl ⟨l, ws, rfl, rfl, hl11, hp11⟩) (ev_neg ev_int)) fun v12 H12 e12 h12 => ?_
      exact ⟨e11.trans e12, _, _, _, t.dropLast, _, v12, rfl, κ.famL.an (fun a q => Same.free e11 q) h12, by omega, by omega, hgo, fun z hz => hA z (List.mem_cons_of_mem _ (List.mem_append_right _ hz))⟩
  · have hb : r.length < g.length := by have := of_decide_eq_false hb; omega
    rw [dvGo_stop hb] at hgo
    have hgo : r = (dvGo 1 g (f.length + 1) [] f).2 := hgo
    refine s_ret (ev_call (S := lCut κ lk) r (ea_cons (ev_vint rfl) (ea_cons (ev_var rfl (κ.famL.an (fun _ _ => rfl) ((κ.L H r).mo hrv e5))) ea_nil)) (by show r.length ≤ 500; omega)) fun v9 H9 e9 h9 => k v9 H9 (e4.trans (e5.trans e9)) ?_
    show (κ.L nilH (divided f g).2).p v9 H9
    rw [hdv, ← hgo]; exact h9
end
end Tf
set_option maxRecDepth 100000
set_option maxHeartbeats 4000000
namespace Tf
open PySem PySem.Spec PyProof.Rows L2
section
variable {F : Type} [Lean.Grind.Field F] [DecidableEq F]
theorem dotL_drop : ∀ (xs ys : List F) (acc : F) (j : Nat), xs.length = ys.length → j < ys.length → dotL acc (xs.drop j) (ys.drop j) = dotL (acc + gt xs j * gt ys j) (xs.drop (j + 1)) (ys.drop (j + 1)) := fun xs ys acc j h hj => by
  rw [drop_at (xs := xs) (by omega), drop_at hj]; rfl
theorem dotT_drop : ∀ (xs ys : List F) (acc : F) (j : Nat), xs.length = ys.length → j < ys.length → dotT acc (xs.drop j) (ys.drop j) = gt xs j * gt ys j :: (acc + gt xs j * gt ys j) :: dotT (acc + gt xs j * gt ys j) (xs.drop (j + 1)) (ys.drop (j + 1)) := fun xs ys acc j h hj => by
  rw [drop_at (xs := xs) (by omega), drop_at hj]; rfl
theorem dotL_end {acc : F} {xs ys : List F} (h : ys.length ≤ j) (h' : xs.length = ys.length) : dotL acc (xs.drop j) (ys.drop j) = acc := by
  rw [List.drop_eq_nil_of_le (by omega), List.drop_eq_nil_of_le (by omega)]; rfl
def product (A B : List (List F)) : List (List F) := turned ((turned B).map (image A))
def productT (A B : List (List F)) : List F := (turned B).flatMap (imageT A)
end
section
variable {K : PySem.W.Frag} {σ : L2.St} {H : Hp} {D : Ends} {tu : TS} {g : TG} {α : Type} {R : α → Pr} {G : Hp} {xs : List α}
/-- for x in xs, xs a list that stands in H0 -/
theorem s_forS {i0 : Nat} {v : V} {H0 : Hp} (hv : σ[i0]? = some (some v)) (hx : (LR R G xs).p v H0) (s0 : Same H0 H) (Pv : Nat → L2.St → Hp → Prop) (h0 : Pv 0 σ H) (hm : ∀ i σ' H', Pv i σ' H' → Same H0 H')
    (hs : ∀ i x u σ' H', xs[i]? = some x → Pv i σ' H' → (R x).p u H' → g u σ' H' fun σ2 H2 => tu { D with nx := Pv (i + 1), ct := Pv (i + 1), bk := D.nx } σ2 H2) (hd : ∀ σ' H', Pv xs.length σ' H' → D.nx σ' H') : tFor (iList K (tVar i0)) g tu D σ H := by
  obtain ⟨a, vs, e, g0, ha, hp⟩ := hx
  subst e
  refine ⟨_, hv, a, rfl, ⟨vs, SqL.of (s0 _ _ ha)⟩, ?_⟩
  refine for_list (xs := vs) Pv h0 (fun i σ' H' _ p => SqL.of (hm i σ' H' p _ _ ha)) (fun i u σ' H' hi p => ?_) (fun σ' H' p => hd σ' H' (by rw [paired_len hp]; exact p))
  obtain ⟨x, hx, r⟩ := paired_get2 hp hi
  exact hs i x u σ' H' hx p ((R x).mo r (hm i σ' H' p))
end
section
variable {P : Program} {w : World} {K : PySem.W.Frag} {mg : Str → Option Value} {base : Heap} {F : Type} [Lean.Grind.Field F] [DecidableEq F] (κ : Kd F P w K mg base) (lk : LK κ) (T : Txt K mg)
include T
/-! _law_image -/
def lImage : Spc where
  ι := List (List F) × List F
  pre := fun ⟨t, c⟩ => (∀ r ∈ t, r.length = c.length) ∧ t.length ≤ 500 ∧ c.length ≤ 500 ∧ κ.Al (imageT t c)
  args := fun ⟨t, c⟩ => [isI (lk.q : Nat), κ.T nilH t, κ.L nilH c]
  post := fun ⟨t, c⟩ G => κ.L G (image t c)
  an := fun {i _ _ _ _} e h => by obtain ⟨f, g⟩ := i; exact κ.famL.an e h
-- 0 _law_prime_here, 1 _law_table, 2 _law_column, 3 _law_told, 4 _law_row, 5 _law_one, 6 _law_j
theorem ok_L_image : Ok P w K mg base 42 ("_law_image", none) ["_law_prime_here", "_law_table", "_law_column"] (lImage κ lk) := by
  refine T.d_L_image.ok sc_L_image (fun _ => rfl) fun cdv A outer s H vs Q E ⟨t, c⟩ hr ⟨hrc, ht, hc, hs⟩ ha k => ?_
  obtain ⟨_, _, rfl, rfl, tv, _, rfl, htv, cv, _, rfl, hcv, rfl⟩ := ha
  have hr_L_make : Room 40 _ := hr.mono (by decide)
  have hr_L_plus : Room 40 _ := hr.mono (by decide)
  have hr_L_times : Room 40 _ := hr.mono (by decide)
  have G_L_make := lk.make
  have G_L_plus := lk.plus
  have G_L_times := lk.times
  have htv : (κ.T nilH t).p tv H := htv
  have hcv : (κ.L nilH c).p cv H := hcv
  have ht : t.length ≤ 500 := ht
  have hc : c.length ≤ 500 := hc
  have hs : κ.Al (t.flatMap fun r => dotT 0 r c) := hs
  refine ⟨_, (pss_cons (ps_set (i := 3) sc_L_image.nd rfl (Or.inl rfl) (pe_lst pa_nil))
      (pss_cons (ps_for PassesOwn.never rfl (pi_listK K rfl (pv 1)) (pg_name (i := 4) sc_L_image.nd rfl (Or.inl rfl)) (pss_cons (ps_set (i := 5) sc_L_image.nd rfl (Or.inl rfl) (pe_call G_L_make hr_L_make rfl T.g_L_make T.d_L_make.fn.kp T.d_L_make.bd .nil pass0 (pa_cons (pv 0) (pa_cons pe_int pa_nil))))
      (pss_cons (ps_for PassesOwn.never rfl (pi_range1 (by rfl) T.free_range (pa_cons (pe_callB (lenK K) (by rfl) T.free_len PySem.boot_len (pa_cons (pv 2) pa_nil)) pa_nil)) (pg_name (i := 6) sc_L_image.nd rfl (Or.inl rfl)) (pss_one (ps_set (i := 5) sc_L_image.nd rfl (Or.inl rfl) (pe_call G_L_plus hr_L_plus rfl T.g_L_plus T.d_L_plus.fn.kp T.d_L_plus.bd .nil pass0 (pa_cons (pv 0) (pa_cons (pv 5) (pa_cons (pe_call G_L_times hr_L_times rfl T.g_L_times T.d_L_times.fn.kp T.d_L_times.bd .nil pass0 (pa_cons (pv 0) (pa_cons (pe_ix (ixL K) (pv 4) (pv 6) (fun _ _ => rfl)) (pa_cons (pe_ix (ixL K) (pv 2) (pv 6) (fun _ _ => rfl)) pa_nil)))) pa_nil)))))))
      (pss_one (ps_expr (pe_bm PySem.F.plainAttrs_list PySem.F.slot_list_append PySem.F.type_list_append mt_append (pv 3) (pa_cons (pv 5) pa_nil)))))))
      (pss_one (ps_ret (pv 3))))), ?_⟩
  refine s_asg (ev_nilL (R := κ.rep)) fun v3 H3 e3 h3 => ?_
  obtain ⟨l, ls, rfl, hlH, hl3, hp3⟩ := h3
  refine s_forS (R := κ.L nilH) rfl htv e3 (fun i σ H' => Same H H' ∧ ∃ a b d ws, σ = [some (.int (lk.q : Nat)), some tv, some cv, some (.ref l), a, b, d] ∧ H' l = some (.lst ws) ∧ Paired (fun x u => (κ.rep x).p u H') (image (t.take i) c) ws) ⟨e3, none, none, none, ls, rfl, hl3, hp3⟩ (fun i σ' H' p => p.1) ?_ ?_
  · rintro i x u σ' H' hx ⟨e4, a, b, d, ws, rfl, hl4, hp4⟩ hu
    have hi := (List.getElem?_eq_some_iff.mp hx).1
    have hxm := List.mem_of_getElem? hx
    have hxl := hrc x hxm
    have hxl : x.length = c.length := hxl
    have hA : κ.Al (dotT 0 x c) := fun z hz => hs z (List.mem_flatMap.mpr ⟨x, hxm, hz⟩)
    refine s_asg (el_make κ lk (n := 0) (.inl rfl) (ev_vint rfl) ev_int) fun ov H5 e5 hov => ?_
    refine s_forR (n := c.length) (ea_cons (ev_len (ev_var rfl ((κ.L nilH c).mo hcv (e4.trans e5)))) ea_nil) (by omega)
      (fun j σ H' => Same H5 H' ∧ ∃ (acc : F) (ov : V) (d : Option V), σ = [some (.int (lk.q : Nat)), some tv, some cv, some (.ref l), some u, some ov, d] ∧ (κ.rep acc).p ov H' ∧ dotL acc (x.drop j) (c.drop j) = dot x c ∧ κ.Al (dotT acc (x.drop j) (c.drop j)))
      (fun H6 e6 => ⟨e6, 0, ov, d, rfl, (κ.rep _).mo hov e6, rfl, hA⟩) ?_ ?_
    · rintro j σ' H6 hj ⟨e6, acc, ov, d, rfl, hov, hd6, hA6⟩
      rw [dotL_drop x c acc j hxl hj] at hd6
      rw [dotT_drop x c acc j hxl hj] at hA6
      have hu6 := (κ.L nilH x).mo hu (e5.trans e6)
      refine s_asg (el_op κ lk (op := fun a b => a + b) (ev_vint rfl) (ev_var rfl hov) (el_op κ lk (op := fun a b => a * b) (ev_vint rfl) (ev_ix (i := j) (ev_var rfl hu6) (ev_vint rfl) (gt_some (by omega))) (ev_ix (i := j) (ev_var rfl ((κ.L nilH c).mo hcv (e4.trans (e5.trans e6)))) (ev_vint rfl) (gt_some hj)) (hA6 _ (List.mem_cons_self ..))) (hA6 _ (List.mem_cons_of_mem _ (List.mem_cons_self ..)))) fun ov2 H7 e7 h7 => ⟨e6.trans e7, _, ov2, _, rfl, h7, hd6, fun z hz => hA6 z (List.mem_cons_of_mem _ (List.mem_cons_of_mem _ hz))⟩
    · rintro σ' H6 ⟨e6, acc, ov, d, rfl, hov, hd6, hA6⟩
      have hacc : acc = dot x c := by rw [dotL_end (Nat.le_refl _) hxl] at hd6; exact hd6
      subst hacc
      refine s_app ((e5.trans e6) _ _ hl4) (ev_var rfl rfl) (ev_var rfl hov) (by rw [← paired_len hp4]; simp only [image, List.length_map, List.length_take]; omega) fun v7 H7 e7 h7 => ?_
      have hl7 := (e5.trans (e6.trans e7)) _ _ hl4
      refine ⟨same_mut (e4.trans (e5.trans (e6.trans e7))) hlH, _, _, _, _, rfl, upd_same, ?_⟩
      have e : image (t.take (i + 1)) c = image (t.take i) c ++ [dot x c] := by
        rw [List.take_succ, hx]; simp [image]
      rw [e]
      exact psnoc (R := κ.rep) (psta (R := κ.rep) (fun x => κ.rep_sta x l) hl7 (pmo (R := κ.rep) hp4 (e5.trans (e6.trans e7)))) (κ.rep_sta _ _ _ _ _ _ hl7 h7)
  · rintro σ' H' ⟨e4, a, b, d, ws, rfl, hl4, hp4⟩
    rw [List.take_length] at hp4
    exact s_ret (P := κ.L H (image t c)) (ev_var rfl ⟨l, ws, rfl, hlH, hl4, hp4⟩) fun v9 H9 e9 h9 => k v9 H9 (e4.trans e9) h9
/-! _law_across -/
def lAcross : Spc where
  ι := List (List F)
  pre := fun t => t ≠ [] ∧ Rect t (ncols t) ∧ t.length ≤ 1000 ∧ ncols t ≤ 1000
  args := fun t => [κ.T nilH t]
  post := fun t G => κ.T G (turned t)
  an := fun g h => κ.famT.an g h
theorem ok_L_across : Ok P w K mg base 1 ("_law_across", none) ["_law_table"] (lAcross κ) := by
  refine T.d_L_across.ok sc_L_across (fun _ => rfl) fun cdv A outer s H vs Q E t hr ⟨hne, hrc, hl, hc⟩ ha k => ?_
  obtain ⟨tv, _, rfl, ht, rfl⟩ := ha
  refine ⟨_, (pss_one (ps_ret (pe_lc (own := [("_law_j", 1)]) rfl sc_L_across.nd (pi_range1 (by rfl) T.free_range (pa_cons (pe_callB (lenK K) (by rfl) T.free_len PySem.boot_len (pa_cons (pe_ix (ixL K) (pv 0) pe_int (fun _ _ => rfl)) pa_nil)) pa_nil)) (blkOk_by (own := [("_law_j", 1)]) (N := ["_law_table", "_law_j", "_law_row"]) (sc := defScope s_L_across) (by decide +kernel)) (fun _ _ _ _ _ => (pg_name (i := 1) sc_L_across.nd rfl (Or.inr rfl))) (fun _ _ _ _ _ => pts_nil) (fun _ _ _ _ _ => (pe_lc (own := [("_law_row", 2)]) rfl sc_L_across.nd (pi_listK K rfl (pv 0)) (blkOk_by (own := [("_law_row", 2)]) (N := ["_law_table", "_law_j", "_law_row"]) (sc := relS (lcScope (stE ((defBody s_L_across).getD 0 (.Pass ⟨0, 0, 0, 0⟩)))) (defScope s_L_across)) (by decide +kernel)) (fun _ _ _ _ _ => (pg_name (i := 2) sc_L_across.nd rfl (Or.inl rfl))) (fun _ _ _ _ _ => pts_nil) (fun _ _ _ _ _ => (pe_ix (ixL K) (pv 2) (pv 1) (fun _ _ => rfl)))))))), ?_⟩
  refine s_ret (ev_lcR κ.famL (fun j => t.map fun r => gt r j) (ea_cons (ev_len (ev_ix (i := 0) (ev_var rfl ht) ev_int (hd_some hne))) ea_nil) hc (fun _ => rfl) fun j H1 e1 hj => ?_) fun v H2 e2 h2 => k v H2 e2 h2
  refine ev_lcN κ.fam (fun r => gt r j) (ev_var rfl ((κ.T nilH t).mo ht e1)) hl (fun _ => rfl) fun i r u H2 e2 hi hu => ?_
  exact ev_ix (i := j) (ev_var rfl hu) (ev_vint rfl) (gt_some (by rw [hrc r (List.mem_of_getElem? hi)]; exact hj))
/-! _law_product -/
def lProd : Spc where
  ι := List (List F) × List (List F)
  pre := fun ⟨A, B⟩ => A ≠ [] ∧ B ≠ [] ∧ A.length ≤ 100 ∧ B.length ≤ 100 ∧ 0 < ncols B ∧ ncols B ≤ 100 ∧ Rect B (ncols B) ∧ Rect A B.length ∧ κ.Al (productT A B)
  args := fun ⟨A, B⟩ => [isI (lk.q : Nat), κ.T nilH A, κ.T nilH B]
  post := fun ⟨A, B⟩ G => κ.T G (product A B)
  an := fun {i _ _ _ _} e h => by obtain ⟨f, g⟩ := i; exact κ.famT.an e h
-- 0 _law_prime_here, 1 _law_one, 2 _law_other, 3 _law_column
theorem ok_L_product : Ok P w K mg base 43 ("_law_product", none) ["_law_prime_here", "_law_one", "_law_other"] (lProd κ lk) := by
  refine T.d_L_product.ok sc_L_product (fun _ => rfl) fun cdv A0 outer s H vs Q E ⟨A, B⟩ hr ⟨hA, hB, hAl, hBl, hB0, hBn, hBr, hAr, hs⟩ ha k => ?_
  obtain ⟨_, _, rfl, rfl, av, _, rfl, hav, bv, _, rfl, hbv, rfl⟩ := ha
  have hr_L_image : Room 42 _ := hr
  have hr_L_across : Room 1 _ := hr.mono (by decide)
  have G_L_image := ok_L_image κ lk T
  have G_L_across := ok_L_across κ T
  have hav : (κ.T nilH A).p av H := hav
  have hbv : (κ.T nilH B).p bv H := hbv
  have hAl : A.length ≤ 100 := hAl
  have hBl : B.length ≤ 100 := hBl
  have hBn : ncols B ≤ 100 := hBn
  have hB0 : 0 < ncols B := hB0
  obtain ⟨t1, t2, t3, t4⟩ := turned_rect hBr hB hB0
  have hs : κ.Al ((turned B).flatMap (imageT A)) := hs
  have mr : Rect ((turned B).map (image A)) A.length := image_rect
  have mne : (turned B).map (image A) ≠ [] := by simpa using t1
  have ml : ((turned B).map (image A)).length = ncols B := by rw [List.length_map, t2]
  refine ⟨_, (pss_one (ps_ret (pe_call G_L_across hr_L_across rfl T.g_L_across T.d_L_across.fn.kp T.d_L_across.bd .nil pass0 (pa_cons (pe_lc (own := [("_law_column", 3)]) rfl sc_L_product.nd (pi_listK K rfl (pe_call G_L_across hr_L_across rfl T.g_L_across T.d_L_across.fn.kp T.d_L_across.bd .nil pass0 (pa_cons (pv 2) pa_nil))) (blkOk_by (own := [("_law_column", 3)]) (N := ["_law_prime_here", "_law_one", "_law_other", "_law_column"]) (sc := defScope s_L_product) (by decide +kernel)) (fun _ _ _ _ _ => (pg_name (i := 3) sc_L_product.nd rfl (Or.inl rfl))) (fun _ _ _ _ _ => pts_nil) (fun _ _ _ _ _ => (pe_call G_L_image hr_L_image rfl T.g_L_image T.d_L_image.fn.kp T.d_L_image.bd .nil pass0 (pa_cons (pv 0) (pa_cons (pv 1) (pa_cons (pv 3) pa_nil)))))) pa_nil)))), ?_⟩
  refine s_ret (ev_call (S := lAcross κ) ((turned B).map (image A)) (ea_cons (Ev.imp (ev_lcN κ.famL (image A) (ev_call (S := lAcross κ) B (ea_cons (ev_var rfl hbv) ea_nil) ⟨hB, hBr, by omega, by omega⟩) (by omega) (fun _ => rfl) fun i x u H2 e2 hx hu => ?_) fun v _ _ p => κ.famT.an (fun _ _ => rfl) p) ea_nil) ⟨mne, by rw [ncols_eq mr mne]; exact mr, by omega, by rw [ncols_eq mr mne]; omega⟩) fun v9 H9 e9 h9 => k v9 H9 e9 h9
  have hxm := List.mem_of_getElem? hx
  have hxl : x.length = B.length := turned_row x hxm
  exact ev_call (S := lImage κ lk) (A, x) (ea_cons (ev_vint rfl) (ea_cons (ev_var rfl ((κ.T nilH A).mo hav e2)) (ea_cons (ev_var rfl (κ.famL.an (fun _ _ => rfl) hu)) ea_nil))) ⟨fun r hr => by rw [hxl]; exact hAr r hr, by show A.length ≤ 500; omega, by show x.length ≤ 500; omega, fun z hz => hs z (List.mem_flatMap.mpr ⟨x, hxm, hz⟩)⟩
/-! _law_unit -/
def lUnit : Spc where
  ι := Nat
  pre := fun n => n ≤ 1000
  args := fun n => [isI (lk.q : Nat), isI (n : Nat)]
  post := fun n G => κ.T G (unit n)
  an := fun g h => κ.famT.an g h
theorem ok_L_unit : Ok P w K mg base 41 ("_law_unit", none) ["_law_prime_here", "_law_size_here"] (lUnit κ lk) := by
  refine T.d_L_unit.ok sc_L_unit (fun _ => rfl) fun cdv A outer s H vs Q E (n : Nat) hr hn ha k => ?_
  obtain ⟨_, _, rfl, rfl, _, _, rfl, rfl, rfl⟩ := ha
  have hr_L_make : Room 40 _ := hr
  have G_L_make := lk.make
  refine ⟨_, (pss_one (ps_ret (pe_lc (own := [("_law_i", 2)]) rfl sc_L_unit.nd (pi_range1 (by rfl) T.free_range (pa_cons (pv 1) pa_nil)) (blkOk_by (own := [("_law_i", 2)]) (N := ["_law_prime_here", "_law_size_here", "_law_i", "_law_j"]) (sc := defScope s_L_unit) (by decide +kernel)) (fun _ _ _ _ _ => (pg_name (i := 2) sc_L_unit.nd rfl (Or.inr rfl))) (fun _ _ _ _ _ => pts_nil) (fun _ _ _ _ _ => (pe_lc (own := [("_law_j", 3)]) rfl sc_L_unit.nd (pi_range1 (by rfl) T.free_range (pa_cons (pv 1) pa_nil)) (blkOk_by (own := [("_law_j", 3)]) (N := ["_law_prime_here", "_law_size_here", "_law_i", "_law_j"]) (sc := relS (lcScope (stE ((defBody s_L_unit).getD 0 (.Pass ⟨0, 0, 0, 0⟩)))) (defScope s_L_unit)) (by decide +kernel)) (fun _ _ _ _ _ => (pg_name (i := 3) sc_L_unit.nd rfl (Or.inl rfl))) (fun _ _ _ _ _ => pts_nil) (fun _ _ _ _ _ => (pe_call G_L_make hr_L_make rfl T.g_L_make T.d_L_make.fn.kp T.d_L_make.bd .nil pass0 (pa_cons (pv 0) (pa_cons (pe_callTy call_int1 (by rfl) T.free_int (by decide +kernel) (pa_cons (pe_cmpR op_eq (pv 2) (pv 3) (nomark _)) pa_nil)) pa_nil))))))))), ?_⟩
  refine s_ret (ev_lcR κ.famL (fun i => unitRow n i) (ea_cons (ev_vint rfl) ea_nil) hn (fun _ => rfl) fun i H1 e1 hi => ?_) fun v H2 e2 h2 => k v H2 e2 h2
  refine ev_lcR κ.fam (fun j => if i = j then 1 else 0) (ea_cons (ev_vint rfl) ea_nil) hn (fun _ => rfl) fun j H2 e2 hj => ?_
  refine (el_make κ lk (n := if decide (((i : Nat) : Int) = (j : Nat)) then 1 else 0) ?_ (ev_vint rfl) (ev_intB (ev_eqI (ev_vint rfl) (ev_vint rfl)))).to ?_
  · split
    · exact .inr (.inl rfl)
    · exact .inl rfl
  · congr 1
    by_cases h : i = j
    · subst h; simp [ofI]
    · have h2 : ¬ (((i : Nat) : Int) = (j : Nat)) := by omega
      simp [ofI, h, h2]
/-! _law_is_row, _law_is_table -/
def lIsRow : Spc where
  ι := List F
  pre := fun _ => True
  args := fun xs => [isI (lk.q : Nat), κ.L nilH xs, isI (xs.length : Nat)]
  post := fun _ _ => isB true
  an := fun _ h => h
theorem ok_L_is_row : Ok P w K mg base 41 ("_law_is_row", none) ["_law_prime_here", "_law_found", "_law_many"] (lIsRow κ lk) := by
  refine T.d_L_is_row.ok sc_L_is_row (fun _ => rfl) fun cdv A outer s H vs Q E (xs : List F) hr _ ha k => ?_
  obtain ⟨_, _, rfl, rfl, xv, _, rfl, hx, _, _, rfl, rfl, rfl⟩ := ha
  have hr_L_is_number : Room 40 _ := hr
  have G_L_is_number := lk.isn
  have hx : (κ.L nilH xs).p xv H := hx
  refine ⟨_, (pss_cons (ps_if (PW.pt (pw_or (pt_not (pt_val (pe_callB (isiK K) (by rfl) T.free_isinstance (by decide +kernel) (pa_cons (pv 1) (pa_cons (pe_bltn (v := .ty "list") (by rfl) T.free_list (by decide +kernel) rfl) pa_nil))))) (pw_or1 (pt_cmpR op_ne (pe_callB (lenK K) (by rfl) T.free_len PySem.boot_len (pa_cons (pv 1) pa_nil)) (pv 2) (nomark _))))) (pss_one (ps_ret pe_bl)) pss_nil)
      (pss_cons (ps_for PassesOwn.never rfl (pi_listK K rfl (pv 1)) (pg_name (i := 3) sc_L_is_row.nd rfl (Or.inl rfl)) (pss_one (ps_if (pt_not (pt_val (pe_call G_L_is_number hr_L_is_number rfl T.g_L_is_number T.d_L_is_number.fn.kp T.d_L_is_number.bd .nil pass0 (pa_cons (pv 0) (pa_cons (pv 3) pa_nil))))) (pss_one (ps_ret pe_bl)) pss_nil)))
      (pss_one (ps_ret pe_bl)))), ?_⟩
  refine s_ifF ((et_or (et_not (et_test (ev_isi (t := .type "list") (b := true) (ev_var rfl hx) (fun v H1 ⟨a, vs, e, _, ha, _⟩ => by rw [e]; exact .base (.lst ha)) rfl))) fun _ => et_test (ev_neI (ev_len (ev_var rfl hx)) (ev_vint rfl))).to (by simp)) fun H1 e1 => ?_
  refine s_nx ?_
  dsimp only
  refine s_forS (R := κ.rep) (xs := xs) rfl hx e1 (fun i σ H' => Same H H' ∧ ∃ b, σ = [some (.int (lk.q : Nat)), some xv, some (.int (xs.length : Nat)), b]) ⟨e1, none, rfl⟩ (fun i σ' H' p => p.1) ?_ ?_
  · rintro i x u σ' H' hxi ⟨e2, b, rfl⟩ hu
    refine s_ifF ((et_not (et_test (ev_call (S := lIs κ lk.q) x (ea_cons (ev_vint rfl) (ea_cons (ev_var rfl hu) ea_nil)) trivial))).to rfl) fun H3 e3 => ⟨e2.trans e3, _, rfl⟩
  · rintro σ' H' ⟨e2, b, rfl⟩
    dsimp only
    refine s_ret (te := tC (.bl true)) (P := isV (.bl true)) ev_c fun v9 H9 e9 h9 => k v9 H9 (e2.trans e9) h9
def lIsTab : Spc where
  ι := List (List F) × Nat
  pre := fun ⟨t, n⟩ => t.length = n ∧ Rect t n
  args := fun ⟨t, n⟩ => [isI (lk.q : Nat), κ.T nilH t, isI (n : Nat)]
  post := fun _ _ => isB true
  an := fun _ h => h
theorem ok_L_is_table : Ok P w K mg base 42 ("_law_is_table", none) ["_law_prime_here", "_law_found", "_law_size_here"] (lIsTab κ lk) := by
  refine T.d_L_is_table.ok sc_L_is_table (fun _ => rfl) fun cdv A outer s H vs Q E ⟨t, n⟩ hr ⟨hl, hrc⟩ ha k => ?_
  obtain ⟨_, _, rfl, rfl, xv, _, rfl, hx, _, _, rfl, rfl, rfl⟩ := ha
  have hr_L_is_row : Room 41 _ := hr
  have G_L_is_row := ok_L_is_row κ lk T
  have hx : (κ.T nilH t).p xv H := hx
  have hl : t.length = n := hl
  refine ⟨_, (pss_cons (ps_if (PW.pt (pw_or (pt_not (pt_val (pe_callB (isiK K) (by rfl) T.free_isinstance (by decide +kernel) (pa_cons (pv 1) (pa_cons (pe_bltn (v := .ty "list") (by rfl) T.free_list (by decide +kernel) rfl) pa_nil))))) (pw_or1 (pt_cmpR op_ne (pe_callB (lenK K) (by rfl) T.free_len PySem.boot_len (pa_cons (pv 1) pa_nil)) (pv 2) (nomark _))))) (pss_one (ps_ret pe_bl)) pss_nil)
      (pss_cons (ps_for PassesOwn.never rfl (pi_listK K rfl (pv 1)) (pg_name (i := 3) sc_L_is_table.nd rfl (Or.inl rfl)) (pss_one (ps_if (pt_not (pt_val (pe_call G_L_is_row hr_L_is_row rfl T.g_L_is_row T.d_L_is_row.fn.kp T.d_L_is_row.bd .nil pass0 (pa_cons (pv 0) (pa_cons (pv 3) (pa_cons (pv 2) pa_nil)))))) (pss_one (ps_ret pe_bl)) pss_nil)))
      (pss_one (ps_ret pe_bl)))), ?_⟩
  refine s_ifF ((et_or (et_not (et_test (ev_isi (t := .type "list") (b := true) (ev_var rfl hx) (fun v H1 ⟨a, vs, e, _, ha, _⟩ => by rw [e]; exact .base (.lst ha)) rfl))) fun _ => et_test (ev_neI (ev_len (ev_var rfl hx)) (ev_vint rfl))).to (by simp [hl])) fun H1 e1 => ?_
  refine s_nx ?_
  dsimp only
  refine s_forS (R := κ.L nilH) (xs := t) rfl hx e1 (fun i σ H' => Same H H' ∧ ∃ b, σ = [some (.int (lk.q : Nat)), some xv, some (.int (n : Nat)), b]) ⟨e1, none, rfl⟩ (fun i σ' H' p => p.1) ?_ ?_
  · rintro i x u σ' H' hxi ⟨e2, b, rfl⟩ hu
    have hxl := hrc x (List.mem_of_getElem? hxi)
    refine s_ifF ((et_not (et_test (ev_call (S := lIsRow κ lk) x (ea_cons (ev_vint rfl) (ea_cons (ev_var rfl hu) (ea_cons (ev_var (P := isI (x.length : Nat)) rfl (by rw [hxl]; rfl)) ea_nil))) trivial))).to rfl) fun H3 e3 => ⟨e2.trans e3, _, rfl⟩
  · rintro σ' H' ⟨e2, b, rfl⟩
    dsimp only
    refine s_ret (te := tC (.bl true)) (P := isV (.bl true)) ev_c fun v9 H9 e9 h9 => k v9 H9 (e2.trans e9) h9
/-! _law_chain_right -/
/-- what the chain must be -/
structure ChainOk (ps : List (List F)) (n : Nat) : Prop where
  ch : Chn ps
  sum : degs ps = n
  ll : ∀ f ∈ ps, f.length ≤ 200
def chainT : List (List F) → List F
  | f :: g :: fs => dividedT f g ++ chainT (g :: fs)
  | _ => []
omit T in
theorem chn_at {f g : List F} {i : Nat} : ∀ {ps : List (List F)}, Chn ps → ps[i]? = some f → ps[i + 1]? = some g → Mon f ∧ Mon g ∧ Dv (cv g) (cv f) := by
  intro ps
  induction ps generalizing i with
  | nil => intro _ h; cases h
  | cons p ps ih =>
    intro ⟨h1, h2, h3, h4⟩ e1 e2
    cases i with
    | zero =>
      cases e1
      cases ps with
      | nil => cases e2
      | cons q qs =>
        cases e2
        exact ⟨h1, h4.1, h3 _ rfl⟩
    | succ i => exact ih h4 e1 e2
omit T in
theorem chn_mem {f : List F} : ∀ {ps : List (List F)}, Chn ps → f ∈ ps → Mon f ∧ 2 ≤ f.length
  | [], _, h => by cases h
  | p :: ps, ⟨h1, h2, _, h4⟩, h => by
    rcases List.mem_cons.mp h with rfl | h
    · exact ⟨h1, h2⟩
    · exact chn_mem h4 h
omit T in
theorem chainT_at {f g : List F} {i : Nat} : ∀ {ps : List (List F)}, ps[i]? = some f → ps[i + 1]? = some g → ∀ z ∈ dividedT f g, z ∈ chainT ps := by
  intro ps
  induction ps generalizing i with
  | nil => intro h; cases h
  | cons p ps ih =>
    intro e1 e2 z hz
    cases i with
    | zero =>
      cases e1
      cases ps with
      | nil => cases e2
      | cons q qs => cases e2; exact List.mem_append_left _ hz
    | succ i =>
      cases ps with
      | nil => cases e1
      | cons q qs => exact List.mem_append_right _ (ih e1 e2 z hz)
omit T in
theorem degs_take : ∀ {ps : List (List F)} {i : Nat} {f : List F}, ps[i]? = some f → degs (ps.take (i + 1)) = degs (ps.take i) + (f.length - 1)
  | [], i, f, h => by cases h
  | p :: ps, 0, f, h => by cases h; simp [degs]
  | p :: ps, i + 1, f, h => by
    have := degs_take (ps := ps) (i := i) h
    simp only [List.take_succ_cons, degs]
    omega
omit T in
theorem degs_le : ∀ (ps : List (List F)) (i : Nat), degs (ps.take i) ≤ degs ps
  | [], i => by simp [degs]
  | p :: ps, 0 => by simp [degs]
  | p :: ps, i + 1 => by have := degs_le ps i; simp only [List.take_succ_cons, degs]; omega
def lChain : Spc where
  ι := List (List F) × Nat
  pre := fun ⟨ps, n⟩ => ChainOk ps n ∧ n ≤ 500 ∧ κ.Al (chainT ps)
  args := fun ⟨ps, n⟩ => [isI (lk.q : Nat), κ.T nilH ps, isI (n : Nat)]
  post := fun _ _ => isB true
  an := fun _ h => h
-- 0 _law_prime_here, 1 _law_chain, 2 _law_size_here, 3 _law_left, 4 _law_k, 5 _law_f
theorem ok_L_chain_right : Ok P w K mg base 44 ("_law_chain_right", none) ["_law_prime_here", "_law_chain", "_law_size_here"] (lChain κ lk) := by
  refine T.d_L_chain_right.ok sc_L_chain_right (fun _ => rfl) fun cdv A outer s H vs Q E ⟨ps, n⟩ hr ⟨⟨hch, hsum, hll⟩, hn, hs⟩ ha k => ?_
  obtain ⟨_, _, rfl, rfl, xv, _, rfl, hx, _, _, rfl, rfl, rfl⟩ := ha
  have hr_L_is_row : Room 41 _ := hr.mono (by decide)
  have hr_L_make : Room 40 _ := hr.mono (by decide)
  have hr_L_rest_by : Room 43 _ := hr
  have G_L_is_row := ok_L_is_row κ lk T
  have G_L_make := lk.make
  have G_L_rest_by := ok_L_rest_by κ lk T
  have hu := hr.units
  have hx : (κ.T nilH ps).p xv H := hx
  have hn : n ≤ 500 := hn
  have hpl : ps.length ≤ n := by rw [← hsum]; exact chn_len hch
  refine ⟨_, (pss_cons (ps_if (pt_not (pt_val (pe_callB (isiK K) (by rfl) T.free_isinstance (by decide +kernel) (pa_cons (pv 1) (pa_cons (pe_bltn (v := .ty "list") (by rfl) T.free_list (by decide +kernel) rfl) pa_nil))))) (pss_one (ps_ret pe_bl)) pss_nil)
      (pss_cons (ps_set (i := 3) sc_L_chain_right.nd rfl (Or.inl rfl) (pv 2))
      (pss_cons (ps_for PassesOwn.never rfl (pi_range1 (by rfl) T.free_range (pa_cons (pe_callB (lenK K) (by rfl) T.free_len PySem.boot_len (pa_cons (pv 1) pa_nil)) pa_nil)) (pg_name (i := 4) sc_L_chain_right.nd rfl (Or.inl rfl)) (pss_cons (ps_set (i := 5) sc_L_chain_right.nd rfl (Or.inl rfl) (pe_ix (ixL K) (pv 1) (pv 4) (fun _ _ => rfl)))
      (pss_cons (ps_if (PW.pt (pw_or (pt_not (pt_val (pe_callB (isiK K) (by rfl) T.free_isinstance (by decide +kernel) (pa_cons (pv 5) (pa_cons (pe_bltn (v := .ty "list") (by rfl) T.free_list (by decide +kernel) rfl) pa_nil))))) (pw_or (pt_cmpR op_lt (pe_callB (lenK K) (by rfl) T.free_len PySem.boot_len (pa_cons (pv 5) pa_nil)) pe_int (nomark _)) (pw_or1 (pt_not (pt_val (pe_call G_L_is_row hr_L_is_row rfl T.g_L_is_row T.d_L_is_row.fn.kp T.d_L_is_row.bd .nil pass0 (pa_cons (pv 0) (pa_cons (pv 5) (pa_cons (pe_callB (lenK K) (by rfl) T.free_len PySem.boot_len (pa_cons (pv 5) pa_nil)) pa_nil)))))))))) (pss_one (ps_ret pe_bl)) pss_nil)
      (pss_cons (ps_if (pt_cmpR (neDK K hu) (pe_ix (ixL K) (pv 5) (pe_op op_sub (pe_callB (lenK K) (by rfl) T.free_len PySem.boot_len (pa_cons (pv 5) pa_nil)) pe_int) (fun _ _ => rfl)) (pe_call G_L_make hr_L_make rfl T.g_L_make T.d_L_make.fn.kp T.d_L_make.bd .nil pass0 (pa_cons (pv 0) (pa_cons pe_int pa_nil))) (nomark _)) (pss_one (ps_ret pe_bl)) pss_nil)
      (pss_cons (ps_if (PW.pt (pw_and (pt_cmpR op_gt (pv 4) pe_int (nomark _)) (pw_and1 (pt_cmpR (neDK K hu) (pe_call G_L_rest_by hr_L_rest_by rfl T.g_L_rest_by T.d_L_rest_by.fn.kp T.d_L_rest_by.bd .nil pass0 (pa_cons (pv 0) (pa_cons (pe_ix (ixL K) (pv 1) (pe_op op_sub (pv 4) pe_int) (fun _ _ => rfl)) (pa_cons (pv 5) pa_nil)))) (pe_lst pa_nil) (nomark _))))) (pss_one (ps_ret pe_bl)) pss_nil)
      (pss_one (ps_set (i := 3) sc_L_chain_right.nd rfl (Or.inl rfl) (pe_op op_add (pe_op op_sub (pv 3) (pe_callB (lenK K) (by rfl) T.free_len PySem.boot_len (pa_cons (pv 5) pa_nil))) pe_int))))))))
      (pss_one (ps_ret (pe_cmpR op_eq (pv 3) pe_int (nomark _))))))), ?_⟩
  refine s_ifF ((et_not (et_test (ev_isi (t := .type "list") (b := true) (ev_var rfl hx) (fun v H1 ⟨a, vs, e, _, ha, _⟩ => by rw [e]; exact .base (.lst ha)) rfl))).to rfl) fun H1 e1 => ?_
  refine s_nx ?_
  dsimp only
  refine s_asg (te := tVar 2) (P := isI (n : Nat)) (i := 3) (ev_vint rfl) fun lv H2 e2 h2 => ?_
  cases (show lv = .int (n : Nat) from h2)
  have E2 := e1.trans e2
  refine s_forR (n := ps.length) (ea_cons (ev_len (ev_var rfl ((κ.T nilH ps).mo hx E2))) ea_nil) (by omega)
    (fun i σ H' => Same H H' ∧ ∃ a b, σ = [some (.int (lk.q : Nat)), some xv, some (.int (n : Nat)), some (.int ((n - degs (ps.take i) : Nat) : Int)), a, b])
    (fun H3 e3 => ⟨E2.trans e3, none, none, rfl⟩) ?_ ?_
  · rintro i σ' H' hi ⟨e3, a, b, rfl⟩
    have hx3 := (κ.T nilH ps).mo hx e3
    obtain ⟨f, hf⟩ : ∃ f, ps[i]? = some f := ⟨_, List.getElem?_eq_getElem hi⟩
    have hfm := List.mem_of_getElem? hf
    obtain ⟨fm, f2⟩ := chn_mem hch hfm
    have fl := hll f hfm
    refine s_asg (ev_ix (i := i) (ev_var rfl hx3) (ev_vint rfl) hf) fun fv H4 e4 hfv => ?_
    have hfv : (κ.L nilH f).p fv H4 := hfv
    refine s_ifF ((et_or (et_not (et_test (ev_isi (t := .type "list") (b := true) (ev_var rfl hfv) (fun v H1 ⟨a, vs, e, _, ha, _⟩ => by rw [e]; exact .base (.lst ha)) rfl))) fun _ => et_or (et_test (ev_opB (g := fun i j => decide (i < j)) (ev_len (ev_var rfl hfv)) ev_int)) fun _ => et_not (et_test (ev_call (S := lIsRow κ lk) f (ea_cons (ev_vint rfl) (ea_cons (ev_var rfl hfv) (ea_cons (ev_len (ev_var rfl hfv)) ea_nil))) trivial))).to (by simp; omega)) fun H5 e5 => ?_
    have hfv5 := (κ.L nilH f).mo hfv e5
    have er : ((f.length : Nat) : Int) - 1 = ((f.length - 1 : Nat) : Int) := by omega
    refine s_ifF ((et_test (ev_neN κ (y := 1) (ev_ix (i := f.length - 1) (ev_var rfl hfv5) ((ev_opI (g := fun i j => i - j) (ev_len (ev_var rfl hfv5)) ev_int).to (congrArg isI er)) (gt_some (by omega))) (el_make κ lk (n := 1) (.inr (.inl rfl)) (ev_vint rfl) ev_int))).to (by
      have : gt f (f.length - 1) = 1 := fm.m
      rw [this]; simp)) fun H6 e6 => ?_
    have E6 := e3.trans (e4.trans (e5.trans e6))
    have hfv6 := (κ.L nilH f).mo hfv5 e6
    refine s_ifF ((et_and (a := decide (0 < i)) (b := false) ((et_test (ev_opB (g := fun i j => decide (j < i)) (ev_vint rfl) ev_int)).to (by rw [decide_eq_decide]; omega)) fun hb => ?_).to (by simp)) fun H7 e7 => ?_
    · have hb : 0 < i := of_decide_eq_true hb
      obtain ⟨j, rfl⟩ : ∃ j, i = j + 1 := ⟨i - 1, by omega⟩
      obtain ⟨g, hg⟩ : ∃ g, ps[j]? = some g := ⟨_, List.getElem?_eq_getElem (by omega)⟩
      obtain ⟨m1, m2, hd⟩ := chn_at hch hg hf
      have gl := hll g (List.mem_of_getElem? hg)
      have ei : ((j + 1 : Nat) : Int) - 1 = ((j : Nat) : Int) := by omega
      refine (et_test (ev_neL κ (xs := (divided g f).2) (ev_call (S := lRest κ lk) (g, f) (ea_cons (ev_vint rfl) (ea_cons (ev_ix (i := j) (ev_var rfl ((κ.T nilH ps).mo hx E6)) ((ev_opI (g := fun i j => i - j) (ev_vint rfl) ev_int).to (congrArg isI ei)) hg) (ea_cons (ev_var rfl hfv6) ea_nil))) ⟨m2, gl, fl, fun z hz => hs z (chainT_at hg hf z hz)⟩) (ev_nilL (R := κ.rep)))).to ?_
      rw [dv_rest m2.ne m2.z hd]; rfl
    · have hfv7 := (κ.L nilH f).mo hfv6 e7
      have hdt := degs_take hf
      have hdl := degs_le ps (i + 1)
      have el : ((n - degs (ps.take i) : Nat) : Int) - (f.length : Nat) + 1 = ((n - degs (ps.take (i + 1)) : Nat) : Int) := by omega
      refine s_nx ?_
      dsimp only
      refine s_asg ((ev_opI (g := fun i j => i + j) (ev_opI (g := fun i j => i - j) (ev_vint rfl) (ev_len (ev_var rfl hfv7))) ev_int).to (congrArg isI el)) fun v8 H8 e8 h8 => ?_
      cases (show v8 = .int ((n - degs (ps.take (i + 1)) : Nat) : Int) from h8)
      exact ⟨E6.trans (e7.trans e8), _, _, rfl⟩
  · rintro σ' H' ⟨e3, a, b, rfl⟩
    rw [List.take_length, hsum, Nat.sub_self]
    refine s_ret ((ev_eqI (ev_vint rfl) ev_int).to (P' := isB true) (by simp)) fun v9 H9 e9 h9 => k v9 H9 (e3.trans e9) h9
end
end Tf
set_option maxRecDepth 100000
set_option maxHeartbeats 4000000
namespace Tf
open PySem PySem.Spec PyProof.Rows L2
theorem paired_of {α β : Type} {R : α → β → Prop} : ∀ {xs : List α} {ys : List β}, xs.length = ys.length → (∀ (i : Nat) (x : α) (y : β), xs[i]? = some x → ys[i]? = some y → R x y) → Paired R xs ys
  | [], [], _, _ => .nil
  | [], _ :: _, h, _ => by simp at h
  | _ :: _, [], h, _ => by simp at h
  | x :: xs, y :: ys, h, r => .cons (r 0 x y rfl rfl) (paired_of (by simpa using h) fun i a b h1 h2 => r (i + 1) a b h1 h2)
theorem paired_at {α β : Type} {R : α → β → Prop} {xs : List α} {ys : List β} (h : Paired R xs ys) {i : Nat} {x : α} {y : β} (hx : xs[i]? = some x) (hy : ys[i]? = some y) : R x y := by
  obtain ⟨y', h1, h2⟩ := paired_get h hx
  rw [hy] at h1
  cases h1
  exact h2
/-- for x in xs, xs a list that stands in H0 -/
theorem s_forS0 {K : PySem.W.Frag} {σ : L2.St} {H : Hp} {D : Ends} {tu : TS} {g : TG} {α : Type} {R : α → Pr} {G : Hp} {xs : List α} {i0 : Nat} {v : V} {H0 : Hp} (hv : σ[i0]? = some (some v)) (hx : (LR R G xs).p v H0) (s0 : Same H0 H) (Pv : Nat → L2.St → Hp → Prop) (h0 : Pv 0 σ H) (hm : ∀ i σ' H', Pv i σ' H' → Same H0 H')
    (hs : ∀ i x u σ' H', xs[i]? = some x → Pv i σ' H' → (R x).p u H0 → g u σ' H' fun σ2 H2 => tu { D with nx := Pv (i + 1), ct := Pv (i + 1), bk := D.nx } σ2 H2) (hd : ∀ σ' H', Pv xs.length σ' H' → D.nx σ' H') : tFor (iList K (tVar i0)) g tu D σ H := by
  obtain ⟨a, vs, e, g0, ha, hp⟩ := hx
  subst e
  refine ⟨_, hv, a, rfl, ⟨vs, SqL.of (s0 _ _ ha)⟩, ?_⟩
  refine for_list (xs := vs) Pv h0 (fun i σ' H' _ p => SqL.of (hm i σ' H' p _ _ ha)) (fun i u σ' H' hi p => ?_) (fun σ' H' p => hd σ' H' (by rw [paired_len hp]; exact p))
  obtain ⟨x, hx, r⟩ := paired_get2 hp hi
  exact hs i x u σ' H' hx p r
theorem nodup_at {α : Type} {xs : List α} (h : xs.Nodup) {i j : Nat} {x : α} (hi : xs[i]? = some x) (hj : xs[j]? = some x) : i = j := by
  obtain ⟨a1, a2⟩ := List.getElem?_eq_some_iff.mp hi
  obtain ⟨b1, b2⟩ := List.getElem?_eq_some_iff.mp hj
  have pw := List.pairwise_iff_getElem.mp h
  rcases Nat.lt_trichotomy i j with z | z | z
  · exact absurd (a2.trans b2.symm) (pw i j a1 b1 z)
  · exact z
  · exact absurd (b2.trans a2.symm) (pw j i b1 a1 z)
section
variable {F : Type} [Lean.Grind.Field F] [DecidableEq F]
def setEn (t : List (List F)) (i j : Nat) (x : F) : List (List F) := t.set i ((rw_ t i).set j x)
/-- the block of f after k rows, at the place p -/
def blkK (f : List F) (p m : Nat) : Nat → List (List F) → List (List F)
  | 0, t => t
  | k + 1, t => setEn (if 0 < k then setEn (blkK f p m k t) (p + k) (p + k - 1) 1 else blkK f p m k t) (p + k) (p + m - 1) (0 - gt f k)
def blkF : List (List F) → Nat → List (List F) → List (List F)
  | [], _, t => t
  | f :: fs, p, t => blkF fs (p + (f.length - 1)) (blkK f p (f.length - 1) (f.length - 1) t)
def blocks (ps : List (List F)) : List (List F) := blkF ps 0 ((List.range (degs ps)).map fun _ => noughts (degs ps))
theorem setEn_rect {t : List (List F)} {n : Nat} (h : Rect t n) (i j : Nat) (x : F) : Rect (setEn t i j x) n ∧ (setEn t i j x).length = t.length := by
  refine ⟨fun r hr => ?_, by simp [setEn]⟩
  unfold setEn at hr
  rcases List.mem_or_eq_of_mem_set hr with z | z
  · exact h r z
  · rw [z, List.length_set]
    by_cases hi : i < t.length
    · exact h _ (rw_in hi)
    · rw [rw_ge (by omega)] at z ⊢
      rw [List.set_eq_of_length_le (by omega)] at hr
      rw [z] at hr
      exact h _ hr
theorem degs_map : ∀ ps : List (List F), (∀ f ∈ ps, 1 ≤ f.length) → (ps.map fun f => ((f.length : Nat) : Int) - 1).sum = (degs ps : Int)
  | [], _ => rfl
  | f :: fs, h => by
    have h1 := h f (List.mem_cons_self ..)
    simp only [List.map_cons, List.sum_cons, degs, degs_map fs fun g hg => h g (List.mem_cons_of_mem _ hg)]
    omega
end
section
variable {P : Program} {w : World} {K : PySem.W.Frag} {mg : Str → Option Value} {base : Heap} {F : Type} [Lean.Grind.Field F] [DecidableEq F] (κ : Kd F P w K mg base)
/-- a table whose rows are each their own -/
structure DR (G : Hp) (rows : List (List F)) (H : Hp) (lt : Addr) (ras : List Addr) : Prop where
  g : G lt = none
  h : H lt = some (.lst (ras.map V.ref))
  nd : ras.Nodup
  nt : lt ∉ ras
  gs : ∀ ra ∈ ras, G ra = none
  p : Paired (fun row ra => ∃ ws, H ra = some (.lst ws) ∧ Paired (fun x u => (κ.rep x).p u H) row ws) rows ras
theorem DR.mo {G : Hp} {rows : List (List F)} {H H' : Hp} {lt : Addr} {ras : List Addr} (d : DR κ G rows H lt ras) (s : Same H H') : DR κ G rows H' lt ras :=
  ⟨d.g, s _ _ d.h, d.nd, d.nt, d.gs, Paired.mapP d.p fun _ _ ⟨ws, a, b⟩ => ⟨ws, s _ _ a, pmo (R := κ.rep) b s⟩⟩
theorem DR.T {G : Hp} {rows : List (List F)} {H : Hp} {lt : Addr} {ras : List Addr} (d : DR κ G rows H lt ras) : (κ.T G rows).p (.ref lt) H :=
  ⟨lt, _, rfl, d.g, d.h, paired_of (by rw [List.length_map]; exact paired_len d.p) fun i x y hx hy => by
    rw [List.getElem?_map] at hy
    cases hr : ras[i]? with
    | none => rw [hr] at hy; cases hy
    | some ra =>
      rw [hr] at hy
      cases hy
      obtain ⟨ws, a, b⟩ := paired_at d.p hx hr
      exact ⟨ra, ws, rfl, d.gs ra (List.mem_of_getElem? hr), a, b⟩⟩
theorem DR.set {G : Hp} {rows : List (List F)} {H : Hp} {lt : Addr} {ras : List Addr} (d : DR κ G rows H lt ras) {i j : Nat} {ra : Addr} {ws : List V} {x : F} {v : V} (hi : ras[i]? = some ra) (hw : H ra = some (.lst ws)) (hx : (κ.rep x).p v H) : DR κ G (setEn rows i j x) (upd H ra (.lst (ws.set j v))) lt ras := by
  have hil := (List.getElem?_eq_some_iff.mp hi).1
  have hl := paired_len d.p
  have nlt : lt ≠ ra := fun e => d.nt (by rw [e]; exact List.mem_of_getElem? hi)
  refine ⟨d.g, by rw [upd_ne nlt]; exact d.h, d.nd, d.nt, d.gs, paired_of (by simp [setEn]; exact hl) fun k row rb hrow hrb => ?_⟩
  unfold setEn at hrow
  rw [List.getElem?_set] at hrow
  by_cases e : i = k
  · subst e
    rw [if_pos rfl, if_pos (by omega)] at hrow
    cases hrow
    rw [hi] at hrb
    cases hrb
    have hr0 : rows[i]? = some (rw_ rows i) := by
      unfold rw_
      rw [List.getD_eq_getElem?_getD, List.getElem?_eq_getElem (by omega)]; rfl
    obtain ⟨ws', a, b⟩ := paired_at d.p hr0 hi
    rw [hw] at a
    cases a
    exact ⟨_, upd_same, pset (R := κ.rep) (κ.rep_sta _ _ _ _ _ _ hw hx) j (psta (R := κ.rep) (fun x => κ.rep_sta x ra) hw b)⟩
  · rw [if_neg e] at hrow
    obtain ⟨ws', a, b⟩ := paired_at d.p hrow hrb
    have : rb ≠ ra := fun z => e (nodup_at d.nd hi (by rw [← z]; exact hrb))
    exact ⟨ws', by rw [upd_ne this]; exact a, psta (R := κ.rep) (fun x => κ.rep_sta x ra) hw b⟩
def DRP (G : Hp) (rows : List (List F)) : Pr := ⟨fun v H => ∃ lt ras, v = .ref lt ∧ DR κ G rows H lt ras, fun ⟨lt, ras, e, d⟩ s => ⟨lt, ras, e, d.mo κ s⟩⟩
/-- [[..] for i in range(n)], each row its own -/
theorem ev_lcRD {σ : L2.St} {H : Hp} {te : TE} {ta : TA} {j : Nat} {vs : List Nat} {n : Nat} (f : Nat → List F) (h : EvA ta σ H [isI (n : Nat)]) (hn : n ≤ 1000) (hw : ∀ x, wipe ((wipe σ vs).set j (some x)) vs = wipe σ vs)
    (he : ∀ i H1, Same H H1 → i < n → Ev te ((wipe σ vs).set j (some (.int (i : Nat)))) H1 (κ.L H1 (f i))) : Ev (tLc (iRng1 ta) (gName j) tYes te vs) σ H (DRP κ H ((List.range n).map f)) := fun H0 s0 Q q =>
  h H0 s0 _ fun us H1 s1 ⟨v, rr, e1, ev, e2⟩ => by
    have ev' : v = .int (n : Nat) := ev
    refine ⟨n, by rw [e1, ev', show rr = [] from e2], by omega, by omega, fun Dl hD => ?_⟩
    rw [show ((n : Nat) : Int).toNat = n from by simp]
    refine lc_it (walk_range (lo := 0) (n := n)) (fun i H' => Same H1 H' ∧ ∃ ras, DR κ H ((List.range i).map f) H' Dl ras ∧ H1 Dl = none ∧ i = ras.length) ⟨same_new hD, [], ⟨Same.free (s0.trans s1) hD, upd_same, List.nodup_nil, by simp, fun _ h => (by cases h), .nil⟩, hD, rfl⟩ (fun _ _ _ _ => trivial) (fun i z H' H'' hi p y => ?_) (fun H' ⟨sp, ras, d, _⟩ => q _ H' (s1.trans sp) ⟨Dl, ras, rfl, d⟩)
    obtain ⟨sp, ras, d, _, hil⟩ := p
    obtain ⟨y1, y2⟩ := y
    subst y1 y2
    have ez : V.int ((0 : Int) + (i : Int)) = V.int (i : Nat) := by rw [Int.zero_add]
    have he' := he i H'' ((s0.trans s1).trans sp) hi
    rw [← ez] at he'
    refine ⟨hw _, ?_⟩
    refine he' H'' (Same.refl _) (fun y H4 => ∃ acc, H4 Dl = some (.lst acc) ∧ acc.length < sizeLine ∧ (Same H1 (upd H4 Dl (.lst (acc ++ [y]))) ∧ ∃ ras, DR κ H ((List.range (i + 1)).map f) (upd H4 Dl (.lst (acc ++ [y]))) Dl ras ∧ H1 Dl = none ∧ i + 1 = ras.length)) fun w H4 s4 ⟨b, ws, eb, gb, hb, hp⟩ => ?_
    subst eb
    have d4 := d.mo κ s4
    have nb : b ≠ Dl := fun z => by rw [z] at gb; rw [d.h] at gb; cases gb
    have nbr : b ∉ ras := fun z => by
      obtain ⟨k, hk⟩ := List.mem_iff_getElem?.mp z
      obtain ⟨row, _, ws', a, _⟩ := paired_get2 d.p hk
      rw [a] at gb; cases gb
    refine ⟨_, d4.h, by rw [List.length_map]; exact small1000 (by omega), same_mut (sp.trans s4) hD, ras ++ [b], ⟨d.g, by rw [upd_same, List.map_append]; rfl, ?_, ?_, ?_, ?_⟩, hD, by rw [List.length_append, List.length_singleton]; omega⟩
    · rw [List.nodup_append]
      refine ⟨d.nd, by simp, fun x hx y hy => ?_⟩
      rw [List.mem_singleton] at hy
      intro e
      exact nbr (by rw [← hy, ← e]; exact hx)
    · rw [List.mem_append, List.mem_singleton, not_or]
      exact ⟨d.nt, Ne.symm nb⟩
    · intro ra hra
      rcases List.mem_append.mp hra with z | z
      · exact d.gs ra z
      · rw [List.mem_singleton] at z
        rw [z]
        exact Same.free (s0.trans (s1.trans sp)) gb
    · rw [List.range_succ, List.map_append]
      refine paired_app (paired_of (paired_len d4.p) fun k row ra hr hra => ?_) (.cons ⟨ws, by rw [upd_ne nb]; exact hb, psta (R := κ.rep) (fun x => κ.rep_sta x Dl) d4.h hp⟩ .nil)
      obtain ⟨ws', a, b'⟩ := paired_at d4.p hr hra
      have : ra ≠ Dl := fun z => d.nt (by rw [← z]; exact List.mem_of_getElem? hra)
      exact ⟨ws', by rw [upd_ne this]; exact a, psta (R := κ.rep) (fun x => κ.rep_sta x Dl) d4.h b'⟩
theorem ev_sum {σ : L2.St} {H G : Hp} {ta : TE} {ns : List Int} (h : Ev ta σ H (LR (fun n : Int => isI n) G ns)) : Ev (tCB (rSum K) (tCons ta tNil)) σ H (isI ns.sum) := fun H1 s Q q =>
  h H1 s _ fun v H2 s2 ⟨a, vs, e, _, ha, hp⟩ => by
    have : vs = ns.map V.int := by
      have key : ∀ {ns : List Int} {vs : List V}, Paired (fun (n : Int) u => (isI n).p u H2) ns vs → vs = ns.map V.int := by
        intro ns vs h
        induction h with
        | nil => rfl
        | cons a t ih => rw [List.map_cons, ← ih, ← (show _ = V.int _ from a)]
      exact key hp
    exact ⟨a, ns, by rw [e], by rw [← this]; exact SqL.of ha, q _ H2 s2 rfl⟩
variable (lk : LK κ) (T : Txt K mg)
include T
/-! _law_blocks -/
def lBlk : Spc where
  ι := List (List F)
  pre := fun ps => Chn ps ∧ degs ps ≤ 500
  args := fun ps => [isI (lk.q : Nat), κ.T nilH ps]
  post := fun ps G => κ.T G (blocks ps)
  an := fun g h => κ.famT.an g h
-- 0 _law_prime_here, 1 _law_chain, 2 _law_size_here, 3 _law_f, 4 _law_told, 5 _law_i, 6 _law_j, 7 _law_at, 8 _law_many, 9 _law_k
theorem ok_L_blocks : Ok P w K mg base 42 ("_law_blocks", none) ["_law_prime_here", "_law_chain"] (lBlk κ lk) := by
  refine T.d_L_blocks.ok sc_L_blocks (fun _ => rfl) fun cdv A outer s H vs Q E (ps : List (List F)) hr ⟨hch, hn⟩ ha k => ?_
  obtain ⟨_, _, rfl, rfl, cv_, _, rfl, hcv, rfl⟩ := ha
  have hr_L_make : Room 40 _ := hr.mono (by decide)
  have hr_L_times : Room 40 _ := hr.mono (by decide)
  have G_L_make := lk.make
  have G_L_times := lk.times
  have hcv : (κ.T nilH ps).p cv_ H := hcv
  have hpl := chn_len hch
  refine ⟨_, (pss_cons (ps_set (i := 2) sc_L_blocks.nd rfl (Or.inr rfl) (pe_callB (sumK K rfl) (by rfl) T.free_sum (by decide +kernel) (pa_cons (pe_lc (own := [("_law_f", 3)]) rfl sc_L_blocks.nd (pi_listK K rfl (pv 1)) (blkOk_by (own := [("_law_f", 3)]) (N := ["_law_prime_here", "_law_chain", "_law_size_here", "_law_f", "_law_told", "_law_i", "_law_j", "_law_at", "_law_many", "_law_k"]) (sc := defScope s_L_blocks) (by decide +kernel)) (fun _ _ _ _ _ => (pg_name (i := 3) sc_L_blocks.nd rfl (Or.inl rfl))) (fun _ _ _ _ _ => pts_nil) (fun _ _ _ _ _ => (pe_op op_sub (pe_callB (lenK K) (by rfl) T.free_len PySem.boot_len (pa_cons (pv 3) pa_nil)) pe_int))) pa_nil)))
      (pss_cons (ps_setLc (i := 4) (own := [("_law_i", 5)]) rfl sc_L_blocks.nd rfl rfl (sw_true rfl rfl rfl (by decide +kernel)) (pi_range1 (by rfl) T.free_range (pa_cons (pv 2) pa_nil)) (blkOk_by (own := [("_law_i", 5)]) (N := ["_law_prime_here", "_law_chain", "_law_size_here", "_law_f", "_law_told", "_law_i", "_law_j", "_law_at", "_law_many", "_law_k"]) (sc := defScope s_L_blocks) (by decide +kernel)) (fun _ _ _ _ _ => (pg_name (i := 5) sc_L_blocks.nd rfl (Or.inl rfl))) (fun _ _ _ _ _ => pts_nil) (fun _ _ _ _ _ => (pe_lc (own := [("_law_j", 6)]) rfl sc_L_blocks.nd (pi_range1 (by rfl) T.free_range (pa_cons (pv 2) pa_nil)) (blkOk_by (own := [("_law_j", 6)]) (N := ["_law_prime_here", "_law_chain", "_law_size_here", "_law_f", "_law_told", "_law_i", "_law_j", "_law_at", "_law_many", "_law_k"]) (sc := relS (lcScope (stE ((defBody s_L_blocks).getD 1 (.Pass ⟨0, 0, 0, 0⟩)))) (defScope s_L_blocks)) (by decide +kernel)) (fun _ _ _ _ _ => (pg_name (i := 6) sc_L_blocks.nd rfl (Or.inl rfl))) (fun _ _ _ _ _ => pts_nil) (fun _ _ _ _ _ => (pe_call G_L_make hr_L_make rfl T.g_L_make T.d_L_make.fn.kp T.d_L_make.bd .nil pass0 (pa_cons (pv 0) (pa_cons pe_int pa_nil)))))))
      (pss_cons (ps_set (i := 7) sc_L_blocks.nd rfl (Or.inl rfl) pe_int)
      (pss_cons (ps_for PassesOwn.never rfl (pi_listK K rfl (pv 1)) (pg_name (i := 3) sc_L_blocks.nd rfl (Or.inl rfl)) (pss_cons (ps_set (i := 8) sc_L_blocks.nd rfl (Or.inl rfl) (pe_op op_sub (pe_callB (lenK K) (by rfl) T.free_len PySem.boot_len (pa_cons (pv 3) pa_nil)) pe_int))
      (pss_cons (ps_for PassesOwn.never rfl (pi_range1 (by rfl) T.free_range (pa_cons (pv 8) pa_nil)) (pg_name (i := 9) sc_L_blocks.nd rfl (Or.inl rfl)) (Evl.pss_cut (ps_if (pt_cmpR op_gt (pv 9) pe_int (nomark _)) (pss_one (ps_asg (pe_call G_L_make hr_L_make rfl T.g_L_make T.d_L_make.fn.kp T.d_L_make.bd .nil pass0 (pa_cons (pv 0) (pa_cons pe_int pa_nil))) (pg_sub (pe_ix (ixL K) (pv 4) (pe_op op_add (pv 7) (pv 9)) (fun _ _ => rfl)) (pe_op op_sub (pe_op op_add (pv 7) (pv 9)) pe_int) set_list))) pss_nil)
      (pss_one (ps_asg (pe_call G_L_times hr_L_times rfl T.g_L_times T.d_L_times.fn.kp T.d_L_times.bd .nil pass0 (pa_cons (pv 0) (pa_cons (pe_call G_L_make hr_L_make rfl T.g_L_make T.d_L_make.fn.kp T.d_L_make.bd .nil pass0 (pa_cons (pv 0) (pa_cons (pe_un un_neg pe_int) pa_nil))) (pa_cons (pe_ix (ixL K) (pv 3) (pv 9) (fun _ _ => rfl)) pa_nil)))) (pg_sub (pe_ix (ixL K) (pv 4) (pe_op op_add (pv 7) (pv 9)) (fun _ _ => rfl)) (pe_op op_sub (pe_op op_add (pv 7) (pv 8)) pe_int) set_list)))))
      (pss_one (ps_set (i := 7) sc_L_blocks.nd rfl (Or.inl rfl) (pe_op op_add (pv 7) (pv 8)))))))
      (pss_one (ps_ret (pv 4))))))), ?_⟩
  refine s_asg ((ev_sum (ev_lcN fam_int (fun f : List F => ((f.length : Nat) : Int) - 1) (ev_var rfl hcv) (by omega) (fun _ => rfl) fun i x u H1 e1 hx hu => ev_opI (g := fun i j => i - j) (ev_len (ev_var rfl hu)) ev_int)).to (P' := isI (degs ps : Nat)) (by rw [degs_map ps fun f hf => by have := (chn_mem hch hf).2; omega])) fun sv H1 e1 h1 => ?_
  cases (show sv = .int (degs ps : Nat) from h1)
  refine s_asg (ev_lcRD κ (fun _ => noughts (degs ps)) (ea_cons (ev_vint rfl) ea_nil) (by omega) (fun _ => rfl) fun i H2 e2 hi => ev_lcR κ.fam (fun _ => (0 : F)) (ea_cons (ev_vint rfl) ea_nil) (by omega) (fun _ => rfl) fun j H3 e3 hj => el_make κ lk (n := 0) (.inl rfl) (ev_vint rfl) ev_int) fun tv H2 e2 h2 => ?_
  obtain ⟨lt, ras, rfl, hd⟩ := h2
  dsimp only
  refine s_asg (te := tC (.int 0)) (P := isI 0) (i := 7) ev_int fun v3 H3 e3 h3 => ?_
  cases (show v3 = .int 0 from h3)
  have zr : Rect ((List.range (degs ps)).map fun _ => (noughts (degs ps) : List F)) (degs ps) := fun r hr => by
    obtain ⟨i, _, rfl⟩ := List.mem_map.mp hr; simp [noughts]
  have an1 : ∀ {rows : List (List F)} {H' : Hp}, DR κ H1 rows H' lt ras → DR κ H rows H' lt ras := fun d => ⟨Same.free e1 d.g, d.h, d.nd, d.nt, fun ra h => Same.free e1 (d.gs ra h), d.p⟩
  refine s_forS0 (R := κ.L nilH) (xs := ps) rfl hcv (e1.trans (e2.trans e3)) (fun i σ H' => Same H H' ∧ ∃ (a b c : Option V) (t : List (List F)), σ = [some (.int (lk.q : Nat)), some cv_, some (.int (degs ps : Nat)), a, some (.ref lt), none, none, some (.int (degs (ps.take i) : Nat)), b, c] ∧ DR κ H t H' lt ras ∧ t.length = degs ps ∧ Rect t (degs ps) ∧ blkF (ps.drop i) (degs (ps.take i)) t = blocks ps)
    ⟨e1.trans (e2.trans e3), none, none, none, _, rfl, an1 (hd.mo κ e3), by simp, zr, rfl⟩ (fun i σ' H' p => p.1) ?_ ?_
  · rintro i f u σ' H' hf ⟨e4, a, b, c, t, rfl, hd4, htl, htr, hbf⟩ hu0
    have hu : (κ.L nilH f).p u H' := (κ.L nilH f).mo hu0 e4
    have hu0 : (κ.L nilH f).p u H := hu0
    have hi := (List.getElem?_eq_some_iff.mp hf).1
    obtain ⟨fm, f2⟩ := chn_mem hch (List.mem_of_getElem? hf)
    have d1 : ps.drop i = f :: ps.drop (i + 1) := by rw [List.drop_eq_getElem_cons hi, (List.getElem?_eq_some_iff.mp hf).2]
    rw [d1] at hbf
    have hbf : blkF (ps.drop (i + 1)) (degs (ps.take i) + (f.length - 1)) (blkK f (degs (ps.take i)) (f.length - 1) (f.length - 1) t) = blocks ps := hbf
    have hdt := degs_take hf
    have hdl := degs_le ps (i + 1)
    have em : ((f.length : Nat) : Int) - 1 = ((f.length - 1 : Nat) : Int) := by omega
    refine s_asg ((ev_opI (g := fun i j => i - j) (ev_len (ev_var rfl hu)) ev_int).to (congrArg isI em)) fun v5 H5 e5 h5 => ?_
    cases (show v5 = .int ((f.length - 1 : Nat) : Int) from h5)
    generalize hp : degs (ps.take i) = p at *
    refine s_forR (n := f.length - 1) (ea_cons (ev_vint rfl) ea_nil) (by omega)
      (fun k σ H' => Same H H' ∧ ∃ (c : Option V), σ = [some (.int (lk.q : Nat)), some cv_, some (.int (degs ps : Nat)), some u, some (.ref lt), none, none, some (.int (p : Nat)), some (.int ((f.length - 1 : Nat) : Int)), c] ∧ DR κ H (blkK f p (f.length - 1) k t) H' lt ras ∧ (blkK f p (f.length - 1) k t).length = degs ps ∧ Rect (blkK f p (f.length - 1) k t) (degs ps))
      (fun H6 e6 => ⟨e4.trans (e5.trans e6), c, rfl, hd4.mo κ (e5.trans e6), htl, htr⟩) ?_ ?_
    · rintro k σ' H6 hk ⟨e6, c, rfl, hd6, htl6, htr6⟩
      have hpk : p + k < degs ps := by omega
      obtain ⟨ra, hra⟩ : ∃ ra, ras[p + k]? = some ra := ⟨_, List.getElem?_eq_getElem (by have := paired_len hd6.p; omega)⟩
      have hrm : (ras.map V.ref)[p + k]? = some (.ref ra) := by rw [List.getElem?_map, hra]; rfl
      have epk : ((p : Nat) : Int) + (k : Nat) = ((p + k : Nat) : Int) := by omega
      refine ⟨fun σ H' => Same H H' ∧ ∃ t2, σ = [some (.int (lk.q : Nat)), some cv_, some (.int (degs ps : Nat)), some u, some (.ref lt), none, none, some (.int (p : Nat)), some (.int ((f.length - 1 : Nat) : Int)), some (.int (k : Nat))] ∧ DR κ H t2 H' lt ras ∧ t2.length = degs ps ∧ Rect t2 (degs ps) ∧ t2 = (if 0 < k then setEn (blkK f p (f.length - 1) k t) (p + k) (p + k - 1) 1 else blkK f p (f.length - 1) k t), ?_, ?_⟩
      · refine s_if ((et_test (ev_opB (g := fun i j => decide (j < i)) (ev_vint rfl) ev_int)).to (b' := decide (0 < k)) (by rw [decide_eq_decide]; omega)) (fun hb H7 e7 => ?_) (fun hb H7 e7 => ?_)
        · have hb := of_decide_eq_true hb
          have hd7 := hd6.mo κ e7
          obtain ⟨row, hrow, ws, hw, hpw⟩ := paired_get2 hd7.p hra
          have rl := htr6 row (List.mem_of_getElem? hrow)
          have wl := paired_len hpw
          have ej : ((p : Nat) : Int) + (k : Nat) - 1 = ((p + k - 1 : Nat) : Int) := by omega
          refine s_set (j := p + k - 1) hw (el_make κ lk (n := 1) (.inr (.inl rfl)) (ev_vint rfl) ev_int) (ev_ixV (i := p + k) (ev_var rfl rfl) hd7.h ((ev_opI (g := fun i j => i + j) (ev_vint rfl) (ev_vint rfl)).to (congrArg isI epk)) hrm) ((ev_opI (g := fun i j => i - j) (ev_opI (g := fun i j => i + j) (ev_vint rfl) (ev_vint rfl)) ev_int).to (congrArg isI ej)) (by omega) fun v8 H8 e8 h8 => ?_
          have hw8 := e8 _ _ hw
          have hg : H ra = none := hd6.gs ra (List.mem_of_getElem? hra)
          have sr := setEn_rect htr6 (p + k) (p + k - 1) (1 : F)
          exact ⟨same_mut (e6.trans (e7.trans e8)) hg, setEn (blkK f p (f.length - 1) k t) (p + k) (p + k - 1) 1, rfl, (hd7.mo κ e8).set κ hra hw8 h8, by rw [sr.2]; exact htl6, sr.1, by rw [if_pos hb]⟩
        · have hb := of_decide_eq_false hb
          exact ⟨e6.trans e7, _, rfl, hd6.mo κ e7, htl6, htr6, by rw [if_neg hb]⟩
      · rintro σ7 H7 ⟨e7, t2, rfl, hd7, htl7, htr7, ht2⟩
        obtain ⟨row, hrow, ws, hw, hpw⟩ := paired_get2 hd7.p hra
        have rl := htr7 row (List.mem_of_getElem? hrow)
        have wl := paired_len hpw
        have ej : ((p : Nat) : Int) + ((f.length - 1 : Nat) : Int) - 1 = ((p + (f.length - 1) - 1 : Nat) : Int) := by omega
        have e1 : (0 - 1) * gt f k = 0 - gt f k := by grind
        have hu7 := (κ.L nilH f).mo hu0 e7
        have hfk := gt_some (xs := f) (i := k) (by omega)
        have hsm : κ.Sm (gt f k) := by
          obtain ⟨a', us, e', _, ha', hp'⟩ := hu7
          obtain ⟨v', _, r'⟩ := paired_get hp' hfk
          exact κ.rep_sm r'
        refine s_set (P := κ.rep (0 - gt f k)) (j := p + (f.length - 1) - 1) hw (Ev.to (el_op κ lk (op := fun a b => a * b) (x := 0 - 1) (ev_vint rfl) (el_make κ lk (n := -1) (.inr (.inr rfl)) (ev_vint rfl) (ev_neg ev_int)) (ev_ix (i := k) (ev_var rfl hu7) (ev_vint rfl) hfk) (by show κ.Sm ((0 - 1) * gt f k); rw [e1]; exact κ.sm_neg hsm)) (by show κ.rep ((0 - 1) * gt f k) = _; rw [e1])) (ev_ixV (i := p + k) (ev_var rfl rfl) hd7.h ((ev_opI (g := fun i j => i + j) (ev_vint rfl) (ev_vint rfl)).to (congrArg isI epk)) hrm) ((ev_opI (g := fun i j => i - j) (ev_opI (g := fun i j => i + j) (ev_vint rfl) (ev_vint rfl)) ev_int).to (congrArg isI ej)) (by omega) fun v8 H8 e8 h8 => ?_
        have hw8 := e8 _ _ hw
        have hg : H ra = none := hd7.gs ra (List.mem_of_getElem? hra)
        have sr := setEn_rect htr7 (p + k) (p + (f.length - 1) - 1) (0 - gt f k)
        have eb : blkK f p (f.length - 1) (k + 1) t = setEn t2 (p + k) (p + (f.length - 1) - 1) (0 - gt f k) := by rw [ht2]; rfl
        exact ⟨same_mut (e7.trans e8) hg, _, rfl, by rw [eb]; exact (hd7.mo κ e8).set κ hra hw8 h8, by rw [eb, sr.2]; exact htl7, by rw [eb]; exact sr.1⟩
    · rintro σ' H6 ⟨e6, c, rfl, hd6, htl6, htr6⟩
      have ee : ((p : Nat) : Int) + ((f.length - 1 : Nat) : Int) = ((degs (ps.take (i + 1)) : Nat) : Int) := by omega
      refine s_asg ((ev_opI (g := fun i j => i + j) (ev_vint rfl) (ev_vint rfl)).to (congrArg isI ee)) fun v7 H7 e7 h7 => ?_
      cases (show v7 = .int ((degs (ps.take (i + 1)) : Nat) : Int) from h7)
      exact ⟨e6.trans e7, _, _, _, _, rfl, hd6.mo κ e7, htl6, htr6, by rw [hdt]; exact hbf⟩
  · rintro σ' H' ⟨e4, a, b, c, t, rfl, hd4, htl, htr, hbf⟩
    rw [List.drop_length] at hbf
    have hbf : t = blocks ps := hbf
    subst hbf
    exact s_ret (P := κ.T H (blocks ps)) (ev_var rfl (hd4.T κ)) fun v9 H9 e9 h9 => k v9 H9 (e4.trans e9) h9
end
end Tf
set_option maxRecDepth 100000
set_option maxHeartbeats 4000000
namespace Tf
section
variable {F : Type} [Lean.Grind.Field F] [DecidableEq F]
theorem en_product {A B : List (List F)} {m p : Nat} (hA : Rect A m) (hBl : B.length = m) (hB : Rect B p) (hp : 0 < p) (hm : 0 < m) (hA0 : A ≠ []) :
    Rect (product A B) p ∧ (product A B).length = A.length ∧ ∀ i j, en (product A B) i j = sm m fun k => en A i k * en B k j := by
  have hBne : B ≠ [] := fun e => by rw [e] at hBl; simp at hBl; omega
  obtain ⟨t1, t2, t3, t4⟩ := turned_rect hB hBne hp
  have a0 : 0 < A.length := List.length_pos_iff.mpr hA0
  have mr : Rect ((turned B).map (image A)) A.length := image_rect
  have mne : (turned B).map (image A) ≠ [] := by simpa using t1
  obtain ⟨u1, u2, u3, u4⟩ := turned_rect mr mne a0
  have ml : ((turned B).map (image A)).length = p := by rw [List.length_map, t2]
  refine ⟨by rw [u3, ml] at u4; exact u4, u2, fun i j => ?_⟩
  show en (turned ((turned B).map (image A))) i j = _
  rw [en_turned (by rw [ncols_eq mr mne]; exact mr)]
  have te : ∀ i j, en (turned B) i j = en B j i := en_turned (by rw [ncols_eq hB hBne]; exact hB)
  by_cases hj : j < p
  · have hj2 : j < (turned B).length := by omega
    have e1 : rw_ ((turned B).map (image A)) j = image A (rw_ (turned B) j) := by rw [rw_map, List.getElem?_eq_getElem hj2, rw_get hj2]
    show gt (rw_ ((turned B).map (image A)) j) i = _
    rw [e1, gt_image hA (by rw [turned_row _ (rw_in hj2), hBl])]
    exact sm_congr (n := m) fun k _ => by
      have : gt (rw_ (turned B) j) k = en B k j := te j k
      rw [this]
  · rw [en_row (by omega)]
    exact (sm_zero' fun k _ => by rw [en_col hB (by omega)]; exact f_mul_zero _).symm
theorem product_inv {t : List (List F)} {n : Nat} (hr : Rect t n) (hn : t.length = n) (h0 : 0 < n) (hl : (steps t).2.2.length = n) : product (inverse t) t = unit n := by
  have hne : t ≠ [] := fun e => by rw [e] at hn; simp at hn; omega
  have hnc := ncols_eq hr hne
  have hr2 : Rect t (ncols t) := by rw [hnc]; exact hr
  have ir : Rect (inverse t) n ∧ (inverse t).length = n := by
    have := done_rect (steps t).2.1 (unit_rect (F := F) t.length).1 (by rw [(unit_rect t.length).2]; exact (steps_inv hr2).ok)
    rw [(unit_rect t.length).2, hn] at this
    unfold inverse
    rw [hn]; exact this
  have ine : inverse t ≠ [] := fun e => by have := ir.2; rw [e] at this; simp at this; omega
  obtain ⟨p1, p2, p3⟩ := en_product ir.1 hn hr h0 h0 ine
  refine ext_en (by rw [p2, ir.2, (unit_rect n).2]) p1 (unit_rect n).1 fun i j hi hj => ?_
  have hi : i < n := by rw [p2, ir.2] at hi; exact hi
  rw [p3, en_unit]
  have := inv_unit hr2 (by omega) (by omega) i j (by omega) (by omega)
  rw [hn] at this
  rw [this]
  by_cases e : i = j
  · rw [if_pos e, if_pos ⟨e, hi⟩]
  · rw [if_neg e, if_neg (fun z => e z.1)]
/-! the blocks -/
def ent (f : List F) (p m k j : Nat) : F := if j = p + m - 1 then 0 - gt f k else if 0 < k ∧ j = p + k - 1 then 1 else 0
def bEn : Nat → List (List F) → Nat → Nat → F
  | _, [], _, _ => 0
  | p, f :: fs, l, j => if p ≤ l ∧ l < p + (f.length - 1) then ent f p (f.length - 1) (l - p) j else bEn (p + (f.length - 1)) fs l j
theorem bEn_cons (p : Nat) (f : List F) (fs : List (List F)) (l j : Nat) : bEn p (f :: fs) l j = if p ≤ l ∧ l < p + (f.length - 1) then ent f p (f.length - 1) (l - p) j else bEn (p + (f.length - 1)) fs l j := rfl
theorem en_setEn {t : List (List F)} {n a b : Nat} (hr : Rect t n) (ha : a < t.length) (hb : b < n) (x : F) (l j : Nat) : en (setEn t a b x) l j = if l = a ∧ j = b then x else en t l j := by
  unfold en setEn
  rw [rw_set ha]
  by_cases e : l = a
  · subst e
    rw [if_pos rfl, gt_set _ _ _ (by rw [hr _ (rw_in ha)]; exact hb)]
    by_cases e2 : j = b
    · rw [if_pos e2, if_pos ⟨rfl, e2⟩]
    · rw [if_neg e2, if_neg (fun z => e2 z.2)]
  · rw [if_neg e, if_neg (fun z => e z.1)]
theorem blkK_rect {f : List F} {p m n : Nat} {t : List (List F)} (hr : Rect t n) : ∀ k, Rect (blkK f p m k t) n ∧ (blkK f p m k t).length = t.length
  | 0 => ⟨hr, rfl⟩
  | k + 1 => by
    obtain ⟨a, b⟩ := blkK_rect (f := f) (p := p) (m := m) hr k
    unfold blkK
    by_cases h : 0 < k
    · rw [if_pos h]
      have s1 := setEn_rect a (p + k) (p + k - 1) (1 : F)
      have s2 := setEn_rect s1.1 (p + k) (p + m - 1) (0 - gt f k)
      exact ⟨s2.1, by rw [s2.2, s1.2, b]⟩
    · rw [if_neg h]
      have s2 := setEn_rect a (p + k) (p + m - 1) (0 - gt f k)
      exact ⟨s2.1, by rw [s2.2, b]⟩
theorem blkK_en {f : List F} {p m n : Nat} {t : List (List F)} (hr : Rect t n) (hl : t.length = n) (hpm : p + m ≤ n) (hz : ∀ l j, p ≤ l → en t l j = 0) : ∀ k, k ≤ m → ∀ l j, en (blkK f p m k t) l j = if p ≤ l ∧ l < p + k then ent f p m (l - p) j else en t l j
  | 0, _, l, j => by rw [if_neg (by omega)]; rfl
  | k + 1, hk, l, j => by
    have ih := blkK_en (f := f) hr hl hpm hz k (by omega)
    obtain ⟨r1, r2⟩ := blkK_rect (f := f) (p := p) (m := m) hr k
    have hrow : ∀ j, en (blkK f p m k t) (p + k) j = 0 := fun j => by rw [ih, if_neg (by omega), hz _ _ (by omega)]
    unfold blkK
    have key : ∀ t2 : List (List F), Rect t2 n → t2.length = n → (∀ l j, en t2 l j = if 0 < k ∧ l = p + k ∧ j = p + k - 1 then 1 else en (blkK f p m k t) l j) → en (setEn t2 (p + k) (p + m - 1) (0 - gt f k)) l j = if p ≤ l ∧ l < p + (k + 1) then ent f p m (l - p) j else en t l j := fun t2 h1 h2 h3 => by
      rw [en_setEn h1 (by omega) (by omega), h3]
      by_cases hlk : l = p + k
      · subst hlk
        rw [if_pos (show p ≤ p + k ∧ p + k < p + (k + 1) by omega), show p + k - p = k by omega]
        unfold ent
        by_cases e1 : j = p + m - 1
        · rw [if_pos ⟨rfl, e1⟩, if_pos e1]
        · rw [if_neg (fun z => e1 z.2), if_neg e1]
          by_cases e2 : 0 < k ∧ j = p + k - 1
          · rw [if_pos ⟨e2.1, rfl, e2.2⟩, if_pos e2]
          · rw [if_neg (fun z => e2 ⟨z.1, z.2.2⟩), if_neg e2, hrow]
      · rw [if_neg (fun z => hlk z.1), if_neg (fun z => hlk z.2.1), ih]
        by_cases e : p ≤ l ∧ l < p + k
        · rw [if_pos e, if_pos (by omega)]
        · rw [if_neg e, if_neg (by omega)]
    by_cases h : 0 < k
    · rw [if_pos h]
      have s1 := setEn_rect r1 (p + k) (p + k - 1) (1 : F)
      refine key _ s1.1 (by rw [s1.2, r2, hl]) fun l j => ?_
      rw [en_setEn r1 (by omega) (by omega)]
      by_cases e : l = p + k ∧ j = p + k - 1
      · rw [if_pos e, if_pos ⟨h, e⟩]
      · rw [if_neg e, if_neg (fun z => e z.2)]
    · rw [if_neg h]
      exact key _ r1 (by rw [r2, hl]) fun l j => by rw [if_neg (fun z => h z.1)]
theorem blkF_en {n : Nat} : ∀ (fs : List (List F)) (p : Nat) (t : List (List F)), Rect t n → t.length = n → p + degs fs ≤ n → (∀ l j, p ≤ l → en t l j = 0) → (Rect (blkF fs p t) n ∧ (blkF fs p t).length = n) ∧ ∀ l j, en (blkF fs p t) l j = if l < p then en t l j else bEn p fs l j
  | [], p, t, hr, hl, hp, hz => ⟨⟨hr, hl⟩, fun l j => by
      show en t l j = _
      by_cases h : l < p
      · rw [if_pos h]
      · rw [if_neg h, hz l j (by omega)]; rfl⟩
  | f :: fs, p, t, hr, hl, hp, hz => by
    simp only [degs] at hp
    obtain ⟨r1, r2⟩ := blkK_rect (f := f) (p := p) (m := f.length - 1) hr (f.length - 1)
    have e := blkK_en (f := f) hr hl (by omega : p + (f.length - 1) ≤ n) hz (f.length - 1) (Nat.le_refl _)
    obtain ⟨i1, i2⟩ := blkF_en fs (p + (f.length - 1)) (blkK f p (f.length - 1) (f.length - 1) t) r1 (by rw [r2, hl]) (by omega) fun l j h => by rw [e, if_neg (by omega), hz l j (by omega)]
    refine ⟨i1, fun l j => ?_⟩
    show en (blkF fs (p + (f.length - 1)) (blkK f p (f.length - 1) (f.length - 1) t)) l j = _
    rw [i2]
    by_cases h : l < p
    · rw [if_pos h, if_pos (by omega), e, if_neg (by omega)]
    · rw [if_neg h, bEn_cons]
      by_cases h2 : l < p + (f.length - 1)
      · rw [if_pos h2, e, if_pos ⟨by omega, h2⟩, if_pos ⟨by omega, h2⟩]
      · rw [if_neg h2, if_neg (by omega)]
theorem bEn_low : ∀ (fs : List (List F)) (p l j : Nat), (∀ f ∈ fs, 2 ≤ f.length) → j < p → bEn p fs l j = 0
  | [], _, _, _, _, _ => rfl
  | f :: fs, p, l, j, h2, h => by
    have hf := h2 f (List.mem_cons_self ..)
    unfold bEn
    split
    · unfold ent
      rw [if_neg (by omega), if_neg (by omega)]
    · exact bEn_low fs _ l j (fun g hg => h2 g (List.mem_cons_of_mem _ hg)) (by omega)
theorem bEn_row : ∀ (fs : List (List F)) (p l j : Nat), l < p → bEn p fs l j = 0
  | [], _, _, _, _ => rfl
  | f :: fs, p, l, j, h => by unfold bEn; rw [if_neg (by omega)]; exact bEn_row fs _ l j (by omega)
theorem blk_mul {L : Vc F → Vc F} {col : Nat → Vc F} : ∀ (fs : List (List F)) (p : Nat), (∀ f ∈ fs, 2 ≤ f.length) → Blk L col p fs → ∀ j, p ≤ j → j < p + degs fs → ∀ i, L (col j) i = sm (p + degs fs) fun l => bEn p fs l j * col l i
  | [], p, _, _, j, h1, h2, i => by simp [degs] at h2; omega
  | f :: fs, p, hf, ⟨b1, b2⟩, j, h1, h2, i => by
    have hf2 := hf f (List.mem_cons_self ..)
    obtain ⟨m, hm⟩ : ∃ m, f.length = m + 1 := ⟨f.length - 1, by omega⟩
    have hm1 : f.length - 1 = m := by omega
    rw [hm1] at b1 b2
    simp only [degs, hm1] at h2 ⊢
    by_cases hj : j < p + m
    · obtain ⟨k, rfl⟩ : ∃ k, j = p + k := ⟨j - p, by omega⟩
      rw [b1 k (by omega), sm_plus, sm_zero' (n := p) fun l hl => by rw [bEn_row _ _ _ _ hl]; exact f_zero_mul _, f_zero_add, sm_plus]
      have z2 : sm (degs fs) (fun i_1 => bEn p (f :: fs) (p + (m + i_1)) (p + k) * col (p + (m + i_1)) i) = 0 := sm_zero' fun l hl => by
        have : bEn p (f :: fs) (p + (m + l)) (p + k) = 0 := by
          unfold bEn
          rw [hm1, if_neg (by omega)]
          exact bEn_low fs _ _ _ (fun g hg => hf g (List.mem_cons_of_mem _ hg)) (by omega)
        rw [this]; exact f_zero_mul _
      rw [z2, f_add_zero]
      have ee : ∀ l, l < m → bEn p (f :: fs) (p + l) (p + k) = if k + 1 = m then 0 - gt f l else if l = k + 1 then 1 else 0 := fun l hl => by
        unfold bEn
        rw [hm1, if_pos (by omega), show p + l - p = l by omega]
        unfold ent
        by_cases e : k + 1 = m
        · rw [if_pos (by omega), if_pos e]
        · rw [if_neg (by omega), if_neg e]
          by_cases e2 : l = k + 1
          · rw [if_pos (by omega), if_pos e2]
          · rw [if_neg (by omega), if_neg e2]
      by_cases e : k + 1 = m
      · rw [if_neg (by omega)]
        exact sm_congr fun l hl => by rw [ee l hl, if_pos e]
      · rw [if_pos (by omega), sm_one (k := k + 1) (by omega) (fun l hl hne => by rw [ee l hl, if_neg e, if_neg hne]; exact f_zero_mul _), ee (k + 1) (by omega), if_neg e, if_pos rfl, f_one_mul]
        rfl
    · have ih := blk_mul fs (p + m) (fun g hg => hf g (List.mem_cons_of_mem _ hg)) b2 j (by omega) (by omega) i
      rw [ih, Nat.add_assoc]
      refine sm_congr fun l hl => ?_
      by_cases h : p ≤ l ∧ l < p + m
      · rw [bEn_row _ _ _ _ h.2]
        have : bEn p (f :: fs) l j = 0 := by
          unfold bEn
          rw [hm1, if_pos h]
          unfold ent
          rw [if_neg (by omega), if_neg (by omega)]
        rw [this]
      · have : bEn p (f :: fs) l j = bEn (p + m) fs l j := by
          conv => lhs; unfold bEn
          rw [hm1, if_neg h]
        rw [this]
theorem chn_2 : ∀ {ps : List (List F)}, Chn ps → ∀ f ∈ ps, 2 ≤ f.length := fun h f hf => (chn_mem h hf).2
theorem product_blocks {A : List (List F)} {n : Nat} (hA : Rect A n) (hn : A.length = n) (h0 : 0 < n) (S : PartsSpec A n n) : product A (turned (parts n A).2) = product (turned (parts n A).2) (blocks (parts n A).1) := by
  have hA0 : A ≠ [] := fun e => by rw [e] at hn; simp at hn; omega
  have cne : (parts n A).2 ≠ [] := fun e => by have := S.l; rw [e] at this; simp at this; omega
  obtain ⟨t1, t2, t3, t4⟩ := turned_rect S.r cne h0
  have tr : Rect (turned (parts n A).2) n := by rw [t3, S.l] at t4; exact t4
  have te : ∀ i j, en (turned (parts n A).2) i j = en (parts n A).2 j i := en_turned (by rw [ncols_eq S.r cne]; exact S.r)
  have zr : Rect ((List.range n).map fun _ => (noughts n : List F)) n := fun r hr => by
    obtain ⟨i, _, rfl⟩ := List.mem_map.mp hr; simp [noughts]
  have zz : ∀ l j, en ((List.range n).map fun _ => (noughts n : List F)) l j = 0 := fun l j => by
    unfold en
    rw [rw_map]
    cases (List.range n)[l]? with
    | none => rfl
    | some x => exact gt_noughts n j
  obtain ⟨⟨b1, b2⟩, b3⟩ := blkF_en (n := n) (parts n A).1 0 _ zr (by simp) (by rw [S.sum]; omega) fun l j _ => zz l j
  have eb : blocks (parts n A).1 = blkF (parts n A).1 0 ((List.range n).map fun _ => noughts n) := by unfold blocks; rw [S.sum]
  rw [← eb] at b1 b2 b3
  obtain ⟨p1, p2, p3⟩ := en_product hA t2 tr h0 h0 hA0
  obtain ⟨q1, q2, q3⟩ := en_product tr b2 b1 h0 h0 t1
  refine ext_en (by rw [p2, q2, t2, hn]) p1 q1 fun i j hi hj => ?_
  rw [p3, q3]
  have := blk_mul (parts n A).1 0 (chn_2 S.ch) S.blk j (by omega) (by rw [S.sum]; omega) i
  rw [S.sum, Nat.zero_add] at this
  have e1 : (sm n fun k => en A i k * en (turned (parts n A).2) k j) = mul A n (gt (rw_ (parts n A).2 j)) i := sm_congr (n := n) fun k _ => by rw [te]; rfl
  rw [e1, this]
  refine sm_congr fun l hl => ?_
  rw [b3, if_neg (by omega), te, f_mul_comm]
  rfl
end
end Tf
set_option maxRecDepth 100000
set_option maxHeartbeats 4000000
namespace Tf
open PySem PySem.Spec PyProof.Rows L2
section
variable {F : Type} [Lean.Grind.Field F] [DecidableEq F]
theorem blocks_rect (ps : List (List F)) : Rect (blocks ps) (degs ps) ∧ (blocks ps).length = degs ps := by
  have zr : Rect ((List.range (degs ps)).map fun _ => (noughts (degs ps) : List F)) (degs ps) := fun r hr => by
    obtain ⟨i, _, rfl⟩ := List.mem_map.mp hr; simp [noughts]
  have zz : ∀ l j, en ((List.range (degs ps)).map fun _ => (noughts (degs ps) : List F)) l j = 0 := fun l j => by
    unfold en
    rw [rw_map]
    cases (List.range (degs ps))[l]? with
    | none => rfl
    | some x => exact gt_noughts _ j
  exact (blkF_en (n := degs ps) ps 0 _ zr (by simp) (by omega) fun l j _ => zz l j).1
end
section
variable {P : Program} {w : World} {K : PySem.W.Frag} {mg : Str → Option Value} {base : Heap} {F : Type} [Lean.Grind.Field F] [DecidableEq F] (κ : Kd F P w K mg base) {σ : L2.St} {H : Hp} {ta tb : TE}
/-! tables compared -/
def datT (t : List (List F)) : List PyData := t.map fun r => .list (r.map κ.dat)
theorem dp_allT {G : Hp} {xs : List (List F)} {vs : List V} (h : Paired (fun x u => (κ.L G x).p u H) xs vs) : DpAll K H vs (datT κ xs) := by
  induction h with
  | nil => exact .nil
  | cons a t ih => exact .cons (dp_L κ a) ih
theorem dp_T {G : Hp} {xs : List (List F)} {v : V} (h : (κ.T G xs).p v H) : Dp K H v (.list (datT κ xs)) := by
  obtain ⟨a, vs, rfl, _, ha, hp⟩ := h
  exact .lst (SqL.of ha) (dp_allT κ hp)
theorem canLay_T (xs : List (List F)) : PyData.canLayAll0 (datT κ xs) = true := by
  induction xs with
  | nil => rfl
  | cons x xs ih =>
    have := canLay_map κ x
    unfold datT at ih ⊢
    simp only [List.map_cons, PyData.canLayAll0, PyData.canLay0, this, ih, Bool.and_self]
theorem depth_T (xs : List (List F)) : PyData.depthAll (datT κ xs) ≤ 20 := by
  induction xs with
  | nil => simp [PyData.depthAll, datT]
  | cons x xs ih =>
    have := depth_map κ x
    unfold datT at ih ⊢
    simp only [List.map_cons, PyData.depthAll, PyData.depth]
    omega
theorem shaped_T (xs : List (List F)) : SeqAt.shaped (.list (datT κ xs)) = true := by
  have h := depth_T κ xs
  have c : PyData.canLay0 (.list (datT κ xs)) = true := by simp only [PyData.canLay0]; exact canLay_T κ xs
  have d : PyData.depth (.list (datT κ xs)) ≤ 64 := by simp only [PyData.depth]; omega
  unfold SeqAt.shaped
  rw [c, decide_eq_true d]
  rfl
theorem eqv_T : ∀ xs ys : List (List F), PyData.eqvAll (datT κ xs) (datT κ ys) = decide (xs = ys)
  | [], [] => rfl
  | [], _ :: _ => rfl
  | _ :: _, [] => rfl
  | x :: xs, y :: ys => by
    have ih := eqv_T xs ys
    unfold datT at ih ⊢
    simp only [List.map_cons, PyData.eqvAll, PyData.eqv, eqv_L, ih]
    by_cases h1 : x = y <;> by_cases h2 : xs = ys <;> simp [h1, h2]
theorem ev_neT {G G' : Hp} {xs ys : List (List F)} (ha : Ev ta σ H (κ.T G xs)) (hb : Ev tb σ H (κ.T G' ys)) : Ev (tOp (rNeD K) ta tb) σ H (isB (!decide (xs = ys))) :=
  (ev_neD ha hb (fun v H h => dp_T κ h) (fun v H h => dp_T κ h) (shaped_T κ xs) (shaped_T κ ys)).to (by rw [show PyData.eqv (.list (datT κ xs)) (.list (datT κ ys)) = PyData.eqvAll (datT κ xs) (datT κ ys) by simp only [PyData.eqv], eqv_T])
end
section
variable {K : PySem.W.Frag} {σ : L2.St} {H : Hp} {ta tb : TE}
theorem dp_N {G : Hp} {xs : List Nat} {v : V} (h : (LR (fun n : Nat => isI (n : Nat)) G xs).p v H) : Dp K H v (.list (xs.map fun n : Nat => .int (n : Nat))) := by
  obtain ⟨a, vs, rfl, _, ha, hp⟩ := h
  refine .lst (SqL.of ha) ?_
  clear ha
  induction hp with
  | nil => exact .nil
  | cons a t ih => exact .cons (by rw [show _ = V.int _ from a]; exact .int _) ih
theorem canLay_N (xs : List Nat) : PyData.canLayAll0 (xs.map fun n : Nat => PyData.int (n : Nat)) = true := by
  induction xs with
  | nil => rfl
  | cons x xs ih => simp only [List.map_cons, PyData.canLayAll0, PyData.canLay0, ih, Bool.and_self]
theorem depth_N (xs : List Nat) : PyData.depthAll (xs.map fun n : Nat => PyData.int (n : Nat)) ≤ 8 := by
  induction xs with
  | nil => simp [PyData.depthAll]
  | cons x xs ih => simp only [List.map_cons, PyData.depthAll, PyData.depth]; omega
theorem shaped_N (xs : List Nat) : SeqAt.shaped (.list (xs.map fun n : Nat => .int (n : Nat))) = true := by
  have h := depth_N xs
  have c : PyData.canLay0 (.list (xs.map fun n : Nat => .int (n : Nat))) = true := by simp only [PyData.canLay0]; exact canLay_N xs
  have d : PyData.depth (.list (xs.map fun n : Nat => .int (n : Nat))) ≤ 64 := by simp only [PyData.depth]; omega
  unfold SeqAt.shaped
  rw [c, decide_eq_true d]
  rfl
theorem eqv_N : ∀ xs : List Nat, PyData.eqvAll (xs.map fun n : Nat => PyData.int (n : Nat)) (xs.map fun n : Nat => PyData.int (n : Nat)) = true
  | [] => rfl
  | x :: xs => by simp only [List.map_cons, PyData.eqvAll, eqv_N xs, zeqv, decide_true, Bool.and_self]
theorem ev_eqNs {G G' : Hp} {xs : List Nat} (ha : Ev ta σ H (LR (fun n : Nat => isI (n : Nat)) G xs)) (hb : Ev tb σ H (LR (fun n : Nat => isI (n : Nat)) G' xs)) : Ev (tOp (rEqD K) ta tb) σ H (isB true) :=
  (ev_eqD ha hb (fun v H h => dp_N h) (fun v H h => dp_N h) (shaped_N xs) (shaped_N xs)).to (by rw [show PyData.eqv (.list (xs.map fun n : Nat => PyData.int (n : Nat))) (.list (xs.map fun n : Nat => PyData.int (n : Nat))) = PyData.eqvAll (xs.map fun n : Nat => PyData.int (n : Nat)) (xs.map fun n : Nat => PyData.int (n : Nat)) by simp only [PyData.eqv], eqv_N])
theorem ev_lenT {G : Hp} {Ps : List Pr} (h : Ev ta σ H (TR G Ps)) :
    Ev (tCB (fun vs H Q => ∃ p ys, vs = [.ref p] ∧ (SqL K H p ys ∨ SqT K H p ys) ∧ Q (.int ys.length) H) (tCons ta tNil)) σ H (isI (Ps.length : Nat)) := fun H1 s Q q =>
  h H1 s _ fun v H2 s2 ⟨a, vs, e, _, ha, hp⟩ => ⟨a, vs, by rw [e], .inr (SqT.of ha), q _ H2 s2 (show V.int _ = V.int _ by rw [hp.length])⟩
end
section
variable {P : Program} {w : World} {K : PySem.W.Frag} {mg : Str → Option Value} {base : Heap} {F : Type} [Lean.Grind.Field F] [DecidableEq F] (κ : Kd F P w K mg base) (lk : LK κ) (T : Txt K mg)
/-- what is known of a table and its frame -/
structure RightOk (A : List (List F)) (n : Nat) : Prop where
  r : Rect A n
  l : A.length = n
  n0 : 0 < n
  n7 : n ≤ 7
  al1 : κ.Al (chainT (parts n A).1)
  al2 : κ.Al (productT (inverse (turned (parts n A).2)) (turned (parts n A).2))
  al3 : κ.Al (productT (turned (parts n A).2) (blocks (parts n A).1))
  al4 : κ.Al (productT A (turned (parts n A).2))
def spRight : Sp := fun vs H Q _ => ∃ (A : List (List F)) (S1 S2 S3 : Addr → Prop) (kv tv fv : V), vs = [kv, .int (lk.q : Nat), tv, fv] ∧ RightOk κ A A.length ∧ (κ.T nilH A).p tv H ∧ (FRS κ S1 S2 S3 (parts A.length A).1 (turned (parts A.length A).2) (inverse (turned (parts A.length A).2))).p fv H ∧
  (∀ a, S1 a → ¬ S2 a ∧ ¬ S3 a) ∧ (∀ a, S2 a → ¬ S3 a) ∧ ∀ H', (∀ (P : Pr) (u : V), (∀ d, S1 d ∨ S2 d → Sta P d) → P.p u H → P.p u H') → Q (.bl true) H'
theorem ls_L {S : Addr → Prop} {x : List F} {v : V} {H : Hp} (h : (LS κ.rep S x).p v H) : (κ.L nilH x).p v H := by
  obtain ⟨a, vs, e, _, h, q⟩ := h
  exact ⟨a, vs, e, rfl, h, q⟩
theorem ls_T {S : Addr → Prop} {x : List (List F)} {v : V} {H : Hp} (h : (LS (LS κ.rep S) S x).p v H) : (κ.T nilH x).p v H := by
  obtain ⟨a, vs, e, _, h, q⟩ := h
  exact ⟨a, vs, e, rfl, h, Paired.mapP q fun _ _ r => ls_L κ r⟩
/-- any list or, for none, anything -/
def orAny (S : Addr → Prop) : Option (List F) → Pr
  | none => anyP
  | some x => LS κ.rep S x
theorem paired_some {S : Addr → Prop} {H : Hp} {fs : List (List F)} {vs : List V} (h : Paired (fun x u => (LS κ.rep S x).p u H) fs vs) : Paired (fun x u => (orAny κ S x).p u H) (fs.map some) vs := by
  induction h with
  | nil => exact .nil
  | cons a t ih => exact .cons a ih
theorem paired_hd {α β : Type} {R : α → β → Prop} {xs : List α} {ys : List β} (h : Paired R xs ys) (h0 : 0 < xs.length) : ∃ x xs' y ys', xs = x :: xs' ∧ ys = y :: ys' ∧ R x y ∧ Paired R xs' ys' := by
  cases h with
  | nil => simp at h0
  | cons a t => exact ⟨_, _, _, _, rfl, rfl, a, t⟩
/-- what is still asked once the turn's first row and the chain's first polynomial are changed -/
def AftP (S1 S3 : Addr → Prop) (fa c t a0 : Addr) (sv : V) (fs : List (List F)) (cvs : List V) (I : List (List F)) (G : Hp) (many : List Nat) (mv : V) : Pr where
  p := fun _ H => H fa = some (.tup [.ref c, .ref t, sv]) ∧ H c = some (.lst (.ref a0 :: cvs)) ∧ Paired (fun x u => (LS κ.rep (fun b => S1 b ∧ b ≠ a0) x).p u H) fs cvs ∧ (LS (LS κ.rep S3) S3 I).p sv H ∧ (LR (fun n : Nat => isI (n : Nat)) G many).p mv H
  mo := fun ⟨a, b, c, d, e⟩ s => ⟨s _ _ a, s _ _ b, Paired.mapP c fun _ _ r => (LS _ _ _).mo r s, (LS _ _ _).mo d s, (LR _ _ _).mo e s⟩
theorem aft_sta {S1 S3 : Addr → Prop} {fa c t a0 : Addr} {sv : V} {fs : List (List F)} {cvs : List V} {I : List (List F)} {G : Hp} {many : List Nat} {mv : V} {d : Addr} (h1 : c ≠ d) (h2 : ¬ (S1 d ∧ d ≠ a0)) (h3 : ¬ S3 d) (h4 : G d ≠ none) : Sta (AftP κ S1 S3 fa c t a0 sv fs cvs I G many mv) d := fun v H o o' e ⟨z1, z2, z3, z4, z5⟩ =>
  ⟨by rw [upd_ne (ne_of z1 e (by intro z; cases z))]; exact z1, by rw [upd_ne h1]; exact z2, Paired.mapP z3 fun x u r => sta_LS h2 (fun x => κ.rep_sta x d) u H o o' e r, sta_LS h3 (fun x => sta_LS h3 fun x => κ.rep_sta x d) _ H o o' e z4, sta_L h4 (fun _ => sta_I) _ H o o' e z5⟩
include T
-- 0 _law_kind_here, 1 _law_prime_here, 2 _law_table, 3 _law_told, 4 _law_size_here, 5 _law_due, 6 _law_many, 7 _law_f
theorem ok_L_right : FnOk P w K mg base CX0 45 (He.fAd K ("_law_right", none)) (fdAt K (He.fAd K ("_law_right", none))) ["_law_kind_here", "_law_prime_here", "_law_table", "_law_told"] (spRight κ lk) := by
  refine T.d_L_right.fn.ok (k := 44) sc_L_right (fun vs H Q E ⟨A, S1, S2, S3, kv, tv, fv, e, _⟩ => by rw [e]; rfl) fun cdv A0 outer s H vs Q E hr ⟨A, S1, S2, S3, kv, tv, fv, e, R, htv, hfr, dj1, dj2, kq⟩ => ?_
  subst e
  have hr_L_chain_right : Room 44 _ := hr
  have hr_L_is_table : Room 42 _ := hr.mono (by decide)
  have hr_L_product : Room 43 _ := hr.mono (by decide)
  have hr_L_unit : Room 41 _ := hr.mono (by decide)
  have hr_L_blocks : Room 42 _ := hr.mono (by decide)
  have G_L_chain_right := ok_L_chain_right κ lk T
  have G_L_is_table := ok_L_is_table κ lk T
  have G_L_product := ok_L_product κ lk T
  have G_L_unit := ok_L_unit κ lk T
  have G_L_blocks := ok_L_blocks κ lk T
  have hu := hr.units
  obtain ⟨fok, S⟩ := turn_ok R.r R.l R.n0 R.n7
  obtain ⟨Ar, Al, A0', A7, al1, al2, al3, al4⟩ := R
  generalize hn : A.length = n at *
  have hA : A ≠ [] := fun e => by rw [e] at hn; simp at hn; omega
  have cne : (parts n A).2 ≠ [] := fun e => by have := S.l; rw [e] at this; simp at this; omega
  obtain ⟨t1, t2, t3, t4⟩ := turned_rect S.r cne A0'
  have Ur : Rect (turned (parts n A).2) n := by rw [t3, S.l] at t4; exact t4
  have Unc : ncols (turned (parts n A).2) = n := by rw [t3, S.l]
  have pinv : product (inverse (turned (parts n A).2)) (turned (parts n A).2) = unit n := product_inv Ur t2 A0' (by have := fok.s; unfold frameTurn at this; rw [hn] at this; exact this)
  have pblk := product_blocks Ar hn A0' S
  obtain ⟨Br, Bl⟩ := blocks_rect (parts n A).1
  rw [S.sum] at Br Bl
  have Ir : Rect (inverse (turned (parts n A).2)) n ∧ (inverse (turned (parts n A).2)).length = n := by
    have h2 : Rect (turned (parts n A).2) (ncols (turned (parts n A).2)) := by rw [Unc]; exact Ur
    have := done_rect (steps (turned (parts n A).2)).2.1 (unit_rect (F := F) (turned (parts n A).2).length).1 (by rw [(unit_rect (turned (parts n A).2).length).2]; exact (steps_inv h2).ok)
    rw [(unit_rect (turned (parts n A).2).length).2, t2] at this
    unfold inverse
    rw [t2]; exact this
  have Sch := S.ch
  have Ssum := S.sum
  generalize hC : (parts n A).1 = C at *
  generalize hU : turned (parts n A).2 = U at *
  generalize hI : inverse U = I at *
  have Ine : I ≠ [] := fun e => by have := Ir.2; rw [e] at this; simp at this; omega
  have Bne : blocks C ≠ [] := fun e => by rw [e] at Bl; simp at Bl; omega
  have Bnc := ncols_eq Br Bne
  have Cl := chn_len Sch
  have Cll : ∀ f ∈ C, f.length ≤ 200 := fun f hf => by
    have key : ∀ {ps : List (List F)}, f ∈ ps → f.length ≤ degs ps + 1 := by
      intro ps
      induction ps with
      | nil => intro h; cases h
      | cons p ps ih =>
        intro h
        simp only [degs]
        rcases List.mem_cons.mp h with rfl | h
        · omega
        · have := ih h; omega
    have := key hf
    omega
  obtain ⟨fa, c, t, sv, rfl, hfa, hS1c, ⟨a0, f, fs, cvs, eC, hc, nca, hS1a, hf, hfs⟩, hU2, hI3⟩ := hfr
  subst eC
  have tri : ∀ {H' : Hp}, Same H H' → (TR nilH [κ.T nilH (f :: fs), κ.T nilH U, κ.T nilH I]).p (.ref fa) H' := fun s => ⟨fa, _, rfl, rfl, s _ _ hfa, _, _, rfl, (κ.T nilH _).mo ⟨c, _, rfl, rfl, hc, .cons hf (Paired.mapP hfs fun _ _ r => ls_L κ r)⟩ s, _, _, rfl, (κ.T nilH _).mo (ls_T κ hU2) s, _, _, rfl, (κ.T nilH _).mo (ls_T κ hI3) s, rfl⟩
  refine ⟨_, PSs.nox ((pss_cons (ps_set (i := 4) sc_L_right.nd rfl (Or.inl rfl) (pe_callB (lenK K) (by rfl) T.free_len PySem.boot_len (pa_cons (pv 2) pa_nil)))
      (pss_cons (ps_if (PW.pt (pw_or (pt_not (pt_val (pe_callB (isiK K) (by rfl) T.free_isinstance (by decide +kernel) (pa_cons (pv 3) (pa_cons (pe_bltn (v := .ty "tuple") (by rfl) T.free_tuple (by decide +kernel) rfl) pa_nil))))) (pw_or (pt_cmpR op_ne (pe_callB (lenK K) (by rfl) T.free_len PySem.boot_len (pa_cons (pv 3) pa_nil)) pe_int (nomark _)) (pw_or1 (pt_not (pt_val (pe_call G_L_chain_right hr_L_chain_right rfl T.g_L_chain_right T.d_L_chain_right.fn.kp T.d_L_chain_right.bd .nil pass0 (pa_cons (pv 1) (pa_cons (pe_ix (ixT K) (pv 3) pe_int (fun _ _ => rfl)) (pa_cons (pv 4) pa_nil)))))))))) (pss_one (ps_ret pe_bl)) pss_nil)
      (pss_cons (ps_if (PW.pt (pw_or (pt_not (pt_val (pe_call G_L_is_table hr_L_is_table rfl T.g_L_is_table T.d_L_is_table.fn.kp T.d_L_is_table.bd .nil pass0 (pa_cons (pv 1) (pa_cons (pe_ix (ixT K) (pv 3) pe_int (fun _ _ => rfl)) (pa_cons (pv 4) pa_nil)))))) (pw_or1 (pt_not (pt_val (pe_call G_L_is_table hr_L_is_table rfl T.g_L_is_table T.d_L_is_table.fn.kp T.d_L_is_table.bd .nil pass0 (pa_cons (pv 1) (pa_cons (pe_ix (ixT K) (pv 3) pe_int (fun _ _ => rfl)) (pa_cons (pv 4) pa_nil))))))))) (pss_one (ps_ret pe_bl)) pss_nil)
      (pss_cons (ps_if (pt_cmpR (neDK K hu) (pe_call G_L_product hr_L_product rfl T.g_L_product T.d_L_product.fn.kp T.d_L_product.bd .nil pass0 (pa_cons (pv 1) (pa_cons (pe_ix (ixT K) (pv 3) pe_int (fun _ _ => rfl)) (pa_cons (pe_ix (ixT K) (pv 3) pe_int (fun _ _ => rfl)) pa_nil)))) (pe_call G_L_unit hr_L_unit rfl T.g_L_unit T.d_L_unit.fn.kp T.d_L_unit.bd .nil pass0 (pa_cons (pv 1) (pa_cons (pv 4) pa_nil))) (nomark _)) (pss_one (ps_ret pe_bl)) pss_nil)
      (pss_cons (ps_set (i := 5) sc_L_right.nd rfl (Or.inl rfl) (pe_call G_L_product hr_L_product rfl T.g_L_product T.d_L_product.fn.kp T.d_L_product.bd .nil pass0 (pa_cons (pv 1) (pa_cons (pe_ix (ixT K) (pv 3) pe_int (fun _ _ => rfl)) (pa_cons (pe_call G_L_blocks hr_L_blocks rfl T.g_L_blocks T.d_L_blocks.fn.kp T.d_L_blocks.bd .nil pass0 (pa_cons (pv 1) (pa_cons (pe_ix (ixT K) (pv 3) pe_int (fun _ _ => rfl)) pa_nil))) pa_nil)))))
      (pss_cons (ps_if (pt_cmpR (neDK K hu) (pe_call G_L_product hr_L_product rfl T.g_L_product T.d_L_product.fn.kp T.d_L_product.bd .nil pass0 (pa_cons (pv 1) (pa_cons (pv 2) (pa_cons (pe_ix (ixT K) (pv 3) pe_int (fun _ _ => rfl)) pa_nil)))) (pv 5) (nomark _)) (pss_one (ps_ret pe_bl)) pss_nil)
      (pss_cons (ps_setLc (i := 6) (own := [("_law_f", 7)]) rfl sc_L_right.nd rfl rfl (sw_true rfl rfl rfl (by decide +kernel)) (pi_listK K rfl (pe_ix (ixT K) (pv 3) pe_int (fun _ _ => rfl))) (blkOk_by (own := [("_law_f", 7)]) (N := ["_law_kind_here", "_law_prime_here", "_law_table", "_law_told", "_law_size_here", "_law_due", "_law_many", "_law_f"]) (sc := defScope s_L_right) (by decide +kernel)) (fun _ _ _ _ _ => (pg_name (i := 7) sc_L_right.nd rfl (Or.inl rfl))) (fun _ _ _ _ _ => pts_nil) (fun _ _ _ _ _ => (pe_callB (lenK K) (by rfl) T.free_len PySem.boot_len (pa_cons (pv 7) pa_nil))))
      (pss_cons (ps_expr (pe_bm PySem.F.plainAttrs_list PySem.F.slot_list_append PySem.F.type_list_append mt_append (pe_ix (ixL K) (pe_ix (ixT K) (pv 3) pe_int (fun _ _ => rfl)) pe_int (fun _ _ => rfl)) (pa_cons pe_non pa_nil)))
      (pss_cons (ps_expr (pe_bm PySem.F.plainAttrs_list PySem.F.slot_list_append PySem.F.type_list_append mt_append (pe_ix (ixL K) (pe_ix (ixT K) (pv 3) pe_int (fun _ _ => rfl)) pe_int (fun _ _ => rfl)) (pa_cons pe_non pa_nil)))
      (pss_one (ps_ret (pe_and (pe_call G_L_is_table hr_L_is_table rfl T.g_L_is_table T.d_L_is_table.fn.kp T.d_L_is_table.bd .nil pass0 (pa_cons (pv 1) (pa_cons (pe_ix (ixT K) (pv 3) pe_int (fun _ _ => rfl)) (pa_cons (pv 4) pa_nil)))) (pe_one (pe_cmpR (eqDK K hu) (pe_lc (own := [("_law_f", 7)]) rfl sc_L_right.nd (pi_listK K rfl (pe_slice (slL K) (pe_ix (ixT K) (pv 3) pe_int (fun _ _ => rfl)) (po_some pe_int) po_none)) (blkOk_by (own := [("_law_f", 7)]) (N := ["_law_kind_here", "_law_prime_here", "_law_table", "_law_told", "_law_size_here", "_law_due", "_law_many", "_law_f"]) (sc := defScope s_L_right) (by decide +kernel)) (fun _ _ _ _ _ => (pg_name (i := 7) sc_L_right.nd rfl (Or.inl rfl))) (fun _ _ _ _ _ => pts_nil) (fun _ _ _ _ _ => (pe_callB (lenK K) (by rfl) T.free_len PySem.boot_len (pa_cons (pv 7) pa_nil)))) (pe_slice (slL K) (pv 6) (po_some pe_int) po_none) (nomark _)))))))))))))))), ?_⟩
  refine s_asg ((ev_len (ev_var rfl htv)).to (congrArg isI (congrArg Nat.cast hn))) fun v4 H1 e1 h1 => ?_
  cases (show v4 = .int (n : Nat) from h1)
  refine s_ifF ((et_or (et_not (et_test (ev_isi (t := .type "tuple") (b := true) (ev_var rfl (tri e1)) (fun v H1 ⟨a, vs, e, _, ha, _⟩ => by rw [e]; exact .base (.tup ha)) rfl))) fun _ => et_or (et_test (ev_neI (ev_lenT (ev_var rfl (tri e1))) ev_int)) fun _ => et_not (et_test (ev_call (S := lChain κ lk) (f :: fs, n) (ea_cons (ev_vint rfl) (ea_cons (ev_tix (i := 0) (ev_var rfl (tri e1)) ev_int rfl) (ea_cons (ev_vint rfl) ea_nil))) ⟨⟨Sch, Ssum, Cll⟩, by omega, al1⟩))).to rfl) fun H2 e2 => ?_
  have E2 := e1.trans e2
  refine s_nx ?_
  dsimp only
  refine s_ifF ((et_or (et_not (et_test (ev_call (S := lIsTab κ lk) (U, n) (ea_cons (ev_vint rfl) (ea_cons (ev_tix (i := 1) (ev_var rfl (tri E2)) ev_int rfl) (ea_cons (ev_vint rfl) ea_nil))) ⟨t2, Ur⟩))) fun _ => et_not (et_test (ev_call (S := lIsTab κ lk) (I, n) (ea_cons (ev_vint rfl) (ea_cons (ev_tix (i := 2) (ev_var rfl (tri E2)) ev_int rfl) (ea_cons (ev_vint rfl) ea_nil))) ⟨Ir.2, Ir.1⟩))).to rfl) fun H3 e3 => ?_
  have E3 := E2.trans e3
  refine s_nx ?_
  dsimp only
  refine s_ifF ((et_test (ev_neT κ (ev_call (S := lProd κ lk) (I, U) (ea_cons (ev_vint rfl) (ea_cons (ev_tix (i := 2) (ev_var rfl (tri E3)) ev_int rfl) (ea_cons (ev_tix (i := 1) (ev_var rfl (tri E3)) ev_int rfl) ea_nil))) ⟨Ine, t1, by omega, by omega, by omega, by omega, by rw [Unc]; exact Ur, by rw [t2]; exact Ir.1, al2⟩) (ev_call (S := lUnit κ lk) n (ea_cons (ev_vint rfl) (ea_cons (ev_vint rfl) ea_nil)) (by show n ≤ 1000; omega)))).to (by rw [pinv]; simp)) fun H4 e4 => ?_
  have E4 := E3.trans e4
  refine s_nx ?_
  dsimp only
  refine s_asg (ev_call (S := lProd κ lk) (U, blocks (f :: fs)) (ea_cons (ev_vint rfl) (ea_cons (ev_tix (i := 1) (ev_var rfl (tri E4)) ev_int rfl) (ea_cons (Ev.imp (ev_call (S := lBlk κ lk) (f :: fs) (ea_cons (ev_vint rfl) (ea_cons (ev_tix (i := 0) (ev_var rfl (tri E4)) ev_int rfl) ea_nil)) ⟨Sch, by omega⟩) fun v _ _ p => κ.famT.an (fun _ _ => rfl) p) ea_nil))) ⟨t1, Bne, by omega, by omega, by omega, by omega, by rw [Bnc]; exact Br, by rw [Bl]; exact Ur, al3⟩) fun dv H5 e5 hdv => ?_
  have E5 := E4.trans e5
  have hdv : (κ.T H4 (product U (blocks (f :: fs)))).p dv H5 := hdv
  refine s_ifF ((et_test (ev_neT κ (ev_call (S := lProd κ lk) (A, U) (ea_cons (ev_vint rfl) (ea_cons (ev_var rfl ((κ.T nilH A).mo htv E5)) (ea_cons (ev_tix (i := 1) (ev_var rfl (tri E5)) ev_int rfl) ea_nil))) ⟨hA, t1, by omega, by omega, by omega, by omega, by rw [Unc]; exact Ur, by rw [t2]; exact Ar, al4⟩) (ev_var rfl hdv))).to (by rw [pblk]; simp)) fun H6 e6 => ?_
  have E6 := E5.trans e6
  refine s_nx ?_
  dsimp only
  refine s_asg (ev_lcN fam_nat (fun x : List F => x.length) (ev_tix (i := 0) (ev_var rfl (tri E6)) ev_int rfl) (by omega) (fun _ => rfl) fun i x u H7 e7 hx hu => ev_len (ev_var rfl hu)) fun mv H7 e7 hmv => ?_
  have E7 := E6.trans e7
  obtain ⟨t', us, et, hS2t, ht, hrows⟩ := hU2
  cases et
  obtain ⟨x0, xs, y0, ys, eU, eus, hr0, _⟩ := paired_hd hrows (by omega)
  obtain ⟨d1, w1, ey, hS2d, hd1, hp1⟩ := hr0
  subst ey
  have wl := paired_len hp1
  have x0l : x0.length = n := Ur x0 (by rw [eU]; exact List.mem_cons_self ..)
  obtain ⟨b0, ws0, eb0, _, ha0, hp0⟩ := hf
  cases eb0
  have nd1 : d1 ≠ a0 := fun z => (dj1 a0 hS1a).1 (by rw [← z]; exact hS2d)
  have kn : ∀ {b : Addr} {o : HO} {G : Hp}, G b = some o → G b ≠ none := fun z => by rw [z]; intro z; cases z
  have hz7 : (AftP κ S1 S3 fa c t a0 sv fs cvs I H6 ((f :: fs).map fun x => x.length) mv).p .non H7 := ⟨E7 _ _ hfa, E7 _ _ hc, Paired.mapP hfs fun _ _ r => (LS _ _ _).mo r E7, (LS _ _ _).mo hI3 E7, hmv⟩
  have sd1 : Sta (AftP κ S1 S3 fa c t a0 sv fs cvs I H6 ((f :: fs).map fun x => x.length) mv) d1 := aft_sta κ (fun z => (dj1 c hS1c).1 (by rw [z]; exact hS2d)) (fun z => (dj1 d1 z.1).1 hS2d) (dj2 d1 hS2d) (kn (E6 _ _ hd1))
  have sa0 : Sta (AftP κ S1 S3 fa c t a0 sv fs cvs I H6 ((f :: fs).map fun x => x.length) mv) a0 := aft_sta κ nca (fun z => z.2 rfl) (dj1 a0 hS1a).2 (kn (E6 _ _ ha0))
  have fl : f.length ≤ 200 := Cll f (List.mem_cons_self ..)
  have w0l := paired_len hp0
  refine s_app (E7 _ _ hd1) (ev_ixV (i := 0) (ev_tix (G := nilH) (Ps := [isV (.ref c), isV (.ref t), isV sv]) (i := 1) (ev_var rfl ⟨fa, _, rfl, rfl, E7 _ _ hfa, _, _, rfl, rfl, _, _, rfl, rfl, _, _, rfl, rfl, rfl⟩) ev_int rfl) (E7 _ _ ht) ev_int (by rw [eus]; rfl)) (te := tC .non) (P := isV .non) ev_c (by omega) fun nv H8 e8 hnv => ?_
  have hd8 := e8 _ _ (E7 _ _ hd1)
  have hz9 := sd1 _ _ _ (w1 ++ [nv]) hd8 ((AftP κ S1 S3 fa c t a0 sv fs cvs I H6 ((f :: fs).map fun x => x.length) mv).mo hz7 e8)
  have ha9 : upd H8 d1 (.lst (w1 ++ [nv])) a0 = some (.lst ws0) := by rw [upd_ne (Ne.symm nd1)]; exact e8 _ _ (E7 _ _ ha0)
  have step1 : ∀ (P : Pr) (u : V), Sta P d1 → P.p u H → P.p u (upd H8 d1 (.lst (w1 ++ [nv]))) := fun P u hs hp => hs _ _ _ _ hd8 (P.mo hp (E7.trans e8))
  generalize upd H8 d1 (.lst (w1 ++ [nv])) = H9 at *
  refine s_app ha9 (ev_ixV (i := 0) (ev_tix (G := nilH) (Ps := [isV (.ref c), isV (.ref t), isV sv]) (i := 0) (ev_var rfl ⟨fa, _, rfl, rfl, hz9.1, _, _, rfl, rfl, _, _, rfl, rfl, _, _, rfl, rfl, rfl⟩) ev_int rfl) hz9.2.1 ev_int rfl) (te := tC .non) (P := isV .non) ev_c (by omega) fun nv2 H10 e10 hnv2 => ?_
  have ha10 := e10 _ _ ha9
  have hz11 := sa0 _ _ _ (ws0 ++ [nv2]) ha10 ((AftP κ S1 S3 fa c t a0 sv fs cvs I H6 ((f :: fs).map fun x => x.length) mv).mo hz9 e10)
  have step2 : ∀ (P : Pr) (u : V), Sta P a0 → P.p u H9 → P.p u (upd H10 a0 (.lst (ws0 ++ [nv2]))) := fun P u hs hp => hs _ _ _ _ ha10 (P.mo hp e10)
  generalize upd H10 a0 (.lst (ws0 ++ [nv2])) = H11 at *
  obtain ⟨z1, z2, z3, z4, z5⟩ := hz11
  have tr11 : (TR nilH [LR (orAny κ fun b => S1 b ∧ b ≠ a0) nilH (none :: fs.map some), anyP, κ.T nilH I]).p (.ref fa) H11 := ⟨fa, _, rfl, rfl, z1, _, _, rfl, ⟨c, _, rfl, rfl, z2, .cons trivial (paired_some κ z3)⟩, _, _, rfl, trivial, _, _, rfl, ls_T κ z4, rfl⟩
  have emany : (((none : Option (List F)) :: fs.map some).drop 1).map (fun o => (o.getD []).length) = fs.map fun x => x.length := by
    show (fs.map some).map _ = _
    rw [List.map_map]; rfl
  have cl1 : fs.length + 1 ≤ n := by have := Cl; rw [Ssum] at this; simpa using this
  refine s_ret ((ev_and (a := true) (b := true) (ev_call (S := lIsTab κ lk) (I, n) (ea_cons (ev_vint rfl) (ea_cons (ev_tix (i := 2) (ev_var rfl tr11) ev_int rfl) (ea_cons (ev_vint rfl) ea_nil))) ⟨Ir.2, Ir.1⟩) fun _ => ev_eqNs (xs := fs.map fun x => x.length) (Ev.to (ev_lcN fam_nat (fun o : Option (List F) => (o.getD []).length) (ev_from (n := 1) (ev_tix (i := 0) (ev_var rfl tr11) ev_int rfl) ev_int (by simp)) (by simp; omega) (fun _ => rfl) fun i x u H12 e12 hx hu => ?_) (by rw [emany])) (ev_from (xs := (f :: fs).map fun x => x.length) (n := 1) (ev_var rfl z5) ev_int (by simp))).to (P' := isB true) rfl) fun v9 H12 e12 h9 => ?_
  · have hxm := List.mem_of_getElem? hx
    obtain ⟨g, _, rfl⟩ := List.mem_map.mp hxm
    exact ev_len (ev_var rfl (ls_L κ hu))
  · cases (show v9 = .bl true from h9)
    exact kq H12 fun P u hs hp => P.mo (step2 P u (hs a0 (.inl hS1a)) (step1 P u (hs d1 (.inr hS2d)) hp)) e12
end
end Tf
set_option maxRecDepth 100000
set_option maxHeartbeats 4000000
namespace Tf
open PySem PySem.Spec PyProof.Rows L2
def prB (n : Nat) : Bool := (List.range 1001).all fun m => decide (m < 2) || decide (n % m ≠ 0)
theorem pr_of {n : Nat} (h : prB n = true) (h2 : 2 ≤ n) (hn : n ≤ 1000000) : Pr0 n := ⟨h2, fun m hm hmm hd => by
  have h1 : m ≤ 1000 := by
    rcases Nat.lt_or_ge 1000 m with z | z
    · exfalso
      have : 1001 * 1001 ≤ m * m := Nat.mul_le_mul z z
      omega
    · exact z
  unfold prB at h
  rw [List.all_eq_true] at h
  have := h m (List.mem_range.mpr (by omega))
  rw [Bool.or_eq_true, decide_eq_true_eq, decide_eq_true_eq] at this
  rcases this with z | z
  · omega
  · exact z (Nat.mod_eq_zero_of_dvd hd)⟩
theorem pr_big : Pr0 999983 := pr_of (by decide +kernel) (by decide) (by decide)
/-- the first prime from n on -/
noncomputable def nxt : Nat → Nat → Nat
  | 0, n => n
  | k + 1, n => if Pr0 n then n else nxt k (n + 1)
theorem nxt_pr : ∀ k n, n + k = 999983 → Pr0 (nxt k n) ∧ nxt k n < 1000000
  | 0, n, h => by
    have : n = 999983 := by omega
    subst this
    exact ⟨pr_big, by show 999983 < 1000000; decide⟩
  | k + 1, n, h => by
    unfold nxt
    split
    · rename_i hp; exact ⟨hp, by omega⟩
    · exact nxt_pr k (n + 1) (by omega)
noncomputable def primeBy (c : Int) : Nat :=
  if c % 3 = 0 then 0 else if c % 3 = 1 then ([2, 3, 5, 7, 11, 97] : List Nat).getD (c / 3 % 6).toNat 2 else nxt (999983 - (2 + c / 3 * 48271 % 999982).toNat) (2 + c / 3 * 48271 % 999982).toNat
theorem primeBy_ok (c : Int) : primeBy c = 0 ∨ (Pr0 (primeBy c) ∧ primeBy c < 1000000) := by
  unfold primeBy
  split
  · exact .inl rfl
  · split
    · refine .inr ?_
      have h1 := Int.emod_nonneg (c / 3) (show (6 : Int) ≠ 0 by decide)
      have h2 := Int.emod_lt_of_pos (c / 3) (show (0 : Int) < 6 by decide)
      generalize hj : (c / 3 % 6).toNat = j
      have hj6 : j < 6 := by omega
      have : ∀ j, j < 6 → prB (([2, 3, 5, 7, 11, 97] : List Nat).getD j 2) = true ∨ ([2, 3, 5, 7, 11, 97] : List Nat).getD j 2 ∈ ([2, 3, 5, 7, 11, 97] : List Nat) := fun j hj => .inr (by
        rcases j with _ | _ | _ | _ | _ | _ | j <;> first | omega | simp)
      have hm : ([2, 3, 5, 7, 11, 97] : List Nat).getD j 2 ∈ ([2, 3, 5, 7, 11, 97] : List Nat) := by
        rcases j with _ | _ | _ | _ | _ | _ | j <;> first | omega | simp
      generalize ([2, 3, 5, 7, 11, 97] : List Nat).getD j 2 = p at hm
      have hp : ∀ q ∈ ([2, 3, 5, 7, 11, 97] : List Nat), Pr0 q ∧ q < 1000000 := fun q hq => by
        have : ∀ q ∈ ([2, 3, 5, 7, 11, 97] : List Nat), ((List.range 10).all fun m => decide (m < 2) || decide (q % m ≠ 0) || decide (q < m * m)) = true ∧ 2 ≤ q ∧ q < 100 := by decide
        obtain ⟨z1, z2, z3⟩ := this q hq
        refine ⟨⟨z2, fun m hm hmm hd => ?_⟩, by omega⟩
        have hm10 : m < 10 := by
          rcases Nat.lt_or_ge m 10 with z | z
          · exact z
          · exfalso
            have : 10 * 10 ≤ m * m := Nat.mul_le_mul z z
            omega
        rw [List.all_eq_true] at z1
        have := z1 m (List.mem_range.mpr hm10)
        simp only [Bool.or_eq_true, decide_eq_true_eq] at this
        rcases this with (z | z) | z
        · omega
        · exact z (Nat.mod_eq_zero_of_dvd hd)
        · omega
      exact hp p hm
    · refine .inr (nxt_pr _ _ ?_)
      have h1 := Int.emod_nonneg (c / 3 * 48271) (show (999982 : Int) ≠ 0 by decide)
      have h2 := Int.emod_lt_of_pos (c / 3 * 48271) (show (0 : Int) < 999982 by decide)
      omega
def sizeOf (q : Nat) (c : Int) : Nat := if q = 0 then ([1, 2, 2, 3] : List Nat).getD (c % 4).toNat 1 else ([1, 2, 3, 4, 2, 3, 5, 7] : List Nat).getD (c % 8).toNat 1
theorem sizeOf_ok (q : Nat) (c : Int) : 1 ≤ sizeOf q c ∧ sizeOf q c ≤ 7 ∧ (q = 0 → sizeOf q c ≤ 3) := by
  unfold sizeOf
  split
  · have h2 := Int.emod_lt_of_pos c (show (0 : Int) < 4 by decide)
    have h1 := Int.emod_nonneg c (show (4 : Int) ≠ 0 by decide)
    generalize hj : (c % 4).toNat = j
    have : j < 4 := by omega
    rcases j with _ | _ | _ | _ | j <;> first | omega | simp
  · have h2 := Int.emod_lt_of_pos c (show (0 : Int) < 8 by decide)
    have h1 := Int.emod_nonneg c (show (8 : Int) ≠ 0 by decide)
    rename_i hq
    generalize hj : (c % 8).toNat = j
    have : j < 8 := by omega
    rcases j with _ | _ | _ | _ | _ | _ | _ | _ | j <;> first | omega | simp [hq]
section
variable {K : PySem.W.Frag} {σ : L2.St} {H : Hp} {ta tb : TE}
/-- a number out of a written list -/
theorem ev_pick {xs : List Int} {i : Nat} {t : TA} (h : EvA t σ H (xs.map fun n => isI n)) (hi : Ev tb σ H (isI (i : Nat))) (hl : i < xs.length) (hs : xs.length ≤ 1000) : Ev (tOp (rIxL K) (tLst t) tb) σ H (isI (xs.getD i 0)) :=
  ev_ix (R := fun n : Int => isI n) (xs := xs) (i := i) (ev_lst h hs) hi (by rw [List.getD_eq_getElem?_getD, List.getElem?_eq_getElem hl]; rfl)
end
section
variable {P : Program} {w : World} {K : PySem.W.Frag} {mg : Str → Option Value} {base : Heap} (T : Txt K mg)
include T
/-! _law_is_prime, _law_prime, _law_prime_by -/
omit T in
noncomputable def lPr : Spc where
  ι := Nat
  pre := fun n => n ≤ 1000000 ∧ 2 ≤ n
  args := fun n => [isI (n : Nat)]
  post := fun n _ => isB (decide (Pr0 n))
  an := fun _ h => h
theorem ok_L_is_prime : Ok P w K mg base 1 ("_law_is_prime", none) ["_law_number"] lPr := by
  refine T.d_L_is_prime.ok sc_L_is_prime (fun _ => rfl) fun cdv A outer s H vs Q E (n : Nat) hr ⟨hn, hb⟩ ha k => ?_
  obtain ⟨_, _, rfl, rfl, rfl⟩ := ha
  refine ⟨_, (pss_cons (ps_set (i := 1) sc_L_is_prime.nd rfl (Or.inl rfl) pe_int)
      (pss_cons (ps_while PassesOwn.never (pt_cmpR op_le (pe_op op_mulW (pv 1) (pv 1)) (pv 0) (nomark _)) (pss_cons (ps_if (pt_cmpR op_eq (pe_op op_modN (pv 0) (pv 1)) pe_int (nomark _)) (pss_one (ps_ret pe_bl)) pss_nil)
      (pss_one (ps_set (i := 1) sc_L_is_prime.nd rfl (Or.inl rfl) (pe_op op_add (pv 1) pe_int)))))
      (pss_one (ps_ret (pe_cmpR op_gt (pv 0) pe_int (nomark _)))))), ?_⟩
  refine s_asg (te := tC (.int 2)) (P := isI 2) (i := 1) ev_int fun v H2 e2 h2 => ?_
  cases (show v = .int 2 from h2)
  refine s_while (fun m σ H' => Same H H' ∧ ∃ q : Nat, σ = [some (.int (n : Nat)), some (.int (q : Nat))] ∧ 2 ≤ q ∧ q + m = n + 1 ∧ ∀ d, 2 ≤ d → d < q → d * d ≤ n → ¬ d ∣ n) (n - 1) ⟨e2, 2, rfl, Nat.le_refl _, by omega, fun d h1 h2 => by omega⟩ ?_
  rintro m σ' H' ⟨e3, q, rfl, hq, hm, hd⟩
  have hql : q ≤ 1000001 := by omega
  have hsq : ((q : Nat) : Int) * (q : Nat) = ((q * q : Nat) : Int) := by rw [Int.natCast_mul]
  refine ⟨decide (q * q ≤ n), et_test (ev_opB (g := fun i j => decide (i ≤ j)) (ev_opC (g := fun i j => i * j) (ev_vint rfl) (ev_vint rfl) (mulw (p400 (by rw [Int.natAbs_natCast]; omega)) (p400 (by rw [Int.natAbs_natCast]; omega)))) (ev_vint rfl)) |>.to (by rw [hsq]; simp only [Int.ofNat_le]), fun hb H4 e4 => ?_, fun hb H4 e4 => ?_⟩
  · have hb : q * q ≤ n := of_decide_eq_true hb
    have hqn : q < n := by
      have : q * 2 ≤ q * q := Nat.mul_le_mul_left q hq
      omega
    refine ⟨fun σ H' => Same H H' ∧ ∃ q : Nat, σ = [some (.int (n : Nat)), some (.int (q : Nat))] ∧ 2 ≤ q ∧ q + (m - 1) = n + 1 ∧ ∀ d, 2 ≤ d → d < q → d * d ≤ n → ¬ d ∣ n, fun σ2 H2 h => ⟨m - 1, by omega, h⟩, ?_⟩
    have hmod : ((n : Nat) : Int).fmod (q : Nat) = ((n % q : Nat) : Int) := by rw [Int.fmod_eq_emod_of_nonneg _ (by omega), Int.natCast_emod]
    refine s_if (et_test (ev_eqI (ev_opC (g := fun i j => i.fmod j) (ev_vint rfl) (ev_vint rfl) (show ((q : Nat) : Int) ≠ 0 by omega)) ev_int)) (fun hz H5 e5 => ?_) (fun hz H5 e5 => ?_)
    · have hz := of_decide_eq_true hz
      rw [hmod] at hz
      refine s_ret (σ := [some (.int (n : Nat)), some (.int (q : Nat))]) ev_c fun v H6 e6 h => k v H6 (e3.trans (e4.trans (e5.trans e6))) ?_
      show v = .bl _
      rw [decide_eq_false (fun h : Pr0 n => h.2 q hq hb (Nat.dvd_of_mod_eq_zero (by omega)))]; exact h
    · have hz := of_decide_eq_false hz
      rw [hmod] at hz
      refine s_nx ?_
      dsimp only
      have ez : ((q : Nat) : Int) + 1 = ((q + 1 : Nat) : Int) := by omega
      refine s_asg ((ev_opI (g := fun i j => i + j) (ev_vint rfl) ev_int).to (congrArg isI ez)) fun v6 H6 e6 h6 => ?_
      cases (show v6 = .int ((q + 1 : Nat) : Int) from h6)
      refine ⟨e3.trans (e4.trans (e5.trans e6)), q + 1, rfl, by omega, by omega, fun d h1 h2 h3 h4 => ?_⟩
      rcases Nat.lt_or_ge d q with z | z
      · exact hd d h1 z h3 h4
      · obtain rfl : d = q := by omega
        exact hz (by rw [Nat.mod_eq_zero_of_dvd h4]; rfl)
  · have hb : ¬ q * q ≤ n := of_decide_eq_false hb
    refine s_ret ((ev_opB (g := fun i j => decide (j < i)) (ev_vint rfl) ev_int).to (P' := isB true) (by congr 1; rw [decide_eq_true_eq]; omega)) fun v H6 e6 h => k v H6 (e3.trans (e4.trans e6)) ?_
    show v = .bl _
    rw [decide_eq_true (show Pr0 n from ⟨by omega, fun d h1 h2 h3 => by
      rcases Nat.lt_or_ge d q with z | z
      · exact hd d h1 z h2 h3
      · exact hb (Nat.le_trans (Nat.mul_le_mul z z) h2)⟩)]
    exact h
omit T in
noncomputable def lPrime : Spc where
  ι := Nat
  pre := fun n => 2 ≤ n ∧ n ≤ 999983
  args := fun n => [isI (n : Nat)]
  post := fun n _ => isI (nxt (999983 - n) n : Nat)
  an := fun _ h => h
theorem ok_L_prime : Ok P w K mg base 2 ("_law_prime", none) ["_law_number"] lPrime := by
  refine T.d_L_prime.ok sc_L_prime (fun _ => rfl) fun cdv A outer s H vs Q E (n : Nat) hr ⟨hn2, hn⟩ ha k => ?_
  obtain ⟨_, _, rfl, rfl, rfl⟩ := ha
  have hr_L_is_prime : Room 1 _ := hr
  have G_L_is_prime := ok_L_is_prime (P := P) (w := w) (base := base) T
  refine ⟨_, (pss_cons (ps_while PassesOwn.never (pt_not (pt_val (pe_call G_L_is_prime hr_L_is_prime rfl T.g_L_is_prime T.d_L_is_prime.fn.kp T.d_L_is_prime.bd .nil pass0 (pa_cons (pv 0) pa_nil)))) (pss_one (ps_set (i := 0) sc_L_prime.nd rfl (Or.inl rfl) (pe_op op_add (pv 0) pe_int))))
      (pss_one (ps_ret (pv 0)))), ?_⟩
  refine s_while (fun m σ H' => Same H H' ∧ ∃ q : Nat, σ = [some (.int (q : Nat))] ∧ 2 ≤ q ∧ q + m = 999983 ∧ nxt m q = nxt (999983 - n) n) (999983 - n) ⟨Same.refl _, n, rfl, hn2, by omega, rfl⟩ ?_
  rintro m σ' H' ⟨e1, q, rfl, hq2, hqm, hnx⟩
  refine ⟨!decide (Pr0 q), et_not (et_test (ev_call (S := lPr) q (ea_cons (ev_vint rfl) ea_nil) ⟨by omega, hq2⟩)), fun hb H2 e2 => ?_, fun hb H2 e2 => ?_⟩
  · have hb : ¬ Pr0 q := by simpa using hb
    obtain ⟨m, rfl⟩ : ∃ j, m = j + 1 := by
      cases m with
      | zero => exfalso; have : q = 999983 := by omega
                rw [this] at hb; exact hb pr_big
      | succ j => exact ⟨j, rfl⟩
    have ez : ((q : Nat) : Int) + 1 = ((q + 1 : Nat) : Int) := by omega
    have hnx2 : nxt m (q + 1) = nxt (999983 - n) n := by
      rw [← hnx]
      conv => rhs; unfold nxt
      exact (if_neg hb).symm
    refine ⟨fun σ H' => Same H H' ∧ σ = [some (.int ((q + 1 : Nat) : Int))], fun σ2 H3 ⟨s, e⟩ => ⟨m, Nat.lt_succ_self _, s, q + 1, e, by omega, by omega, hnx2⟩, ?_⟩
    refine s_asg ((ev_opI (g := fun i j => i + j) (ev_vint rfl) ev_int).to (congrArg isI ez)) fun v6 H6 e6 h6 => ?_
    cases (show v6 = .int ((q + 1 : Nat) : Int) from h6)
    exact ⟨e1.trans (e2.trans e6), rfl⟩
  · have hb : Pr0 q := by simpa using hb
    dsimp only
    refine s_ret (te := tVar 0) (P := isI (q : Nat)) (ev_vint rfl) fun v3 H3 e3 h3 => k v3 H3 (e1.trans (e2.trans e3)) ?_
    have : nxt (999983 - n) n = q := by
      rw [← hnx]
      cases m with
      | zero => rfl
      | succ m => unfold nxt; rw [if_pos hb]
    show v3 = .int (nxt (999983 - n) n : Nat)
    rw [this]; exact h3
omit T in
noncomputable def lPrimeBy : Spc where
  ι := Int
  pre := fun _ => True
  args := fun c => [isI c]
  post := fun c _ => isI (primeBy c : Nat)
  an := fun _ h => h
theorem ok_L_prime_by : Ok P w K mg base 3 ("_law_prime_by", none) ["_law_cell"] lPrimeBy := by
  refine T.d_L_prime_by.ok sc_L_prime_by (fun _ => rfl) fun cdv A outer s H vs Q E (c : Int) hr _ ha k => ?_
  obtain ⟨_, _, rfl, rfl, rfl⟩ := ha
  have hr_L_prime : Room 2 _ := hr
  have G_L_prime := ok_L_prime (P := P) (w := w) (base := base) T
  refine ⟨_, (pss_cons (ps_if (pt_cmpR op_eq (pe_op op_mod (pv 0) pe_int) pe_int (nomark _)) (pss_one (ps_ret pe_int)) pss_nil)
      (pss_cons (ps_if (pt_cmpR op_eq (pe_op op_mod (pv 0) pe_int) pe_int (nomark _)) (pss_one (ps_ret (pe_ix (ixL K) (pe_lst (pa_cons pe_int (pa_cons pe_int (pa_cons pe_int (pa_cons pe_int (pa_cons pe_int (pa_cons pe_int pa_nil))))))) (pe_op op_mod (pe_op op_fdiv (pv 0) pe_int) pe_int) (fun _ _ => rfl)))) pss_nil)
      (pss_one (ps_ret (pe_call G_L_prime hr_L_prime rfl T.g_L_prime T.d_L_prime.fn.kp T.d_L_prime.bd .nil pass0 (pa_cons (pe_op op_add pe_int (pe_op op_mod (pe_op op_mul (pe_op op_fdiv (pv 0) pe_int) pe_int) pe_int)) pa_nil)))))), ?_⟩
  refine s_if (et_test (ev_eqI (ev_opC (g := fun i j => i % j) (ev_vint rfl) ev_int (show (0 : Int) < 3 by decide)) ev_int)) (fun hb H1 e1 => ?_) (fun hb H1 e1 => ?_)
  · have hb := of_decide_eq_true hb
    refine s_ret (σ := [some (.int c)]) (te := tC (.int 0)) (P := isI 0) ev_int fun v H2 e2 h => k v H2 (e1.trans e2) ?_
    show v = .int (primeBy c : Nat)
    unfold primeBy
    rw [if_pos hb]; exact h
  · have hb := of_decide_eq_false hb
    refine s_nx ?_
    dsimp only
    refine s_if (et_test (ev_eqI (ev_opC (g := fun i j => i % j) (ev_vint rfl) ev_int (show (0 : Int) < 3 by decide)) ev_int)) (fun hb1 H2 e2 => ?_) (fun hb1 H2 e2 => ?_)
    · have hb1 := of_decide_eq_true hb1
      have h1 := Int.emod_nonneg (c / 3) (show (6 : Int) ≠ 0 by decide)
      have h2 := Int.emod_lt_of_pos (c / 3) (show (0 : Int) < 6 by decide)
      have ei : c / 3 % 6 = (((c / 3 % 6).toNat : Nat) : Int) := by omega
      refine s_ret (ev_pick (xs := [2, 3, 5, 7, 11, 97]) (i := (c / 3 % 6).toNat) (ea_cons ev_int (ea_cons ev_int (ea_cons ev_int (ea_cons ev_int (ea_cons ev_int (ea_cons ev_int ea_nil)))))) ((ev_opC (g := fun i j => i % j) (ev_opC (g := fun i j => i / j) (ev_vint rfl) ev_int ⟨by decide, by decide⟩) ev_int (show (0 : Int) < 6 by decide)).to (congrArg isI ei)) (by show _ < 6; omega) (by decide)) fun v H3 e3 h => k v H3 (e1.trans (e2.trans e3)) ?_
      have e : ((primeBy c : Nat) : Int) = ([2, 3, 5, 7, 11, 97] : List Int).getD (c / 3 % 6).toNat 0 := by
        unfold primeBy
        rw [if_neg hb, if_pos hb1]
        generalize hj : (c / 3 % 6).toNat = j
        have : j < 6 := by omega
        rcases j with _ | _ | _ | _ | _ | _ | j <;> first | omega | rfl
      show v = .int (primeBy c : Nat)
      rw [e]; exact h
    · have hb1 := of_decide_eq_false hb1
      have h1 := Int.emod_nonneg (c / 3 * 48271) (show (999982 : Int) ≠ 0 by decide)
      have h2 := Int.emod_lt_of_pos (c / 3 * 48271) (show (0 : Int) < 999982 by decide)
      have ei : 2 + c / 3 * 48271 % 999982 = (((2 + c / 3 * 48271 % 999982).toNat : Nat) : Int) := by omega
      refine s_nx ?_
      dsimp only
      refine s_ret (ev_call (S := lPrime) (2 + c / 3 * 48271 % 999982).toNat (ea_cons ((ev_opI (g := fun i j => i + j) ev_int (ev_opC (g := fun i j => i % j) (ev_opC (g := fun i j => i * j) (ev_opC (g := fun i j => i / j) (ev_vint rfl) ev_int ⟨by decide, by decide⟩) ev_int (.inr ⟨by decide, by decide⟩)) ev_int (show (0 : Int) < 999982 by decide))).to (congrArg isI ei)) ea_nil) ⟨by omega, by omega⟩) fun v H3 e3 h => k v H3 (e1.trans (e2.trans e3)) ?_
      show v = .int (primeBy c : Nat)
      unfold primeBy
      rw [if_neg hb, if_neg hb1]; exact h
/-! _law_cell_at, _law_size -/
omit T in
abbrev LI (G : Hp) (ns : List Int) : Pr := LR (fun n : Int => isI n) G ns
omit T in
/-- whole numbers that are only read -/
def SQ (K : PySem.W.Frag) (ns : List Int) : Pr where
  p := fun v H => ∃ a, v = .ref a ∧ SqL K H a (ns.map V.int)
  mo := fun ⟨a, e, h⟩ s => ⟨a, e, by
    rcases h with h | h
    · rcases h with h | ⟨o, h⟩
      · exact .inl (.inl (s _ _ h))
      · exact .inl (.inr ⟨o, s _ _ h⟩)
    · exact .inr h⟩
omit T in
theorem ints_vals : ∀ {ns : List Int} {vs : List V} {H : Hp}, Paired (fun (x : Int) u => (isI x).p u H) ns vs → vs = ns.map V.int
  | [], _, _, .nil => rfl
  | n :: ns, _, _, .cons a t => by rw [show _ = V.int n from a, ints_vals t]; rfl
omit T in
theorem ints_pair (H : Hp) : ∀ ns : List Int, Paired (fun (x : Int) u => (isI x).p u H) ns (ns.map V.int)
  | [] => .nil
  | n :: ns => .cons rfl (ints_pair H ns)
omit T in
theorem sq_of {G H : Hp} {ns : List Int} {v : V} (h : (LI G ns).p v H) : (SQ K ns).p v H := by
  obtain ⟨a, vs, e, _, ha, hp⟩ := h
  exact ⟨a, e, by rw [← ints_vals hp]; exact SqL.of ha⟩
section
variable {σ : L2.St} {H : Hp} {ta tb : TE}
omit T in
theorem ev_lenS {ns : List Int} (h : Ev ta σ H (SQ K ns)) : Ev (tCB (fun vs H Q => ∃ p ys, vs = [.ref p] ∧ (SqL K H p ys ∨ SqT K H p ys) ∧ Q (.int ys.length) H) (tCons ta tNil)) σ H (isI (ns.length : Nat)) := fun H1 s Q q =>
  h H1 s _ fun v H2 s2 ⟨a, e, ha⟩ => ⟨a, _, by rw [e], .inl ha, q _ H2 s2 (show V.int _ = V.int _ by rw [List.length_map])⟩
omit T in
theorem ev_ixS {ns : List Int} {i : Nat} {x : Int} (h : Ev ta σ H (SQ K ns)) (hi : Ev tb σ H (isI (i : Nat))) (hx : ns[i]? = some x) : Ev (tOp (rIxL K) ta tb) σ H (isI x) :=
  ev_op h hi fun v y H1 _ ⟨a, e, ha⟩ ey Q q => ⟨a, _, i, .int x, e, ey, ha, atI_nat (by rw [List.getElem?_map, hx]; rfl), q _ H1 (Same.refl H1) rfl⟩
end
omit T in
def lCell (K : PySem.W.Frag) : Spc where
  ι := List Int × Nat
  pre := fun _ => True
  args := fun x => [SQ K x.1, isI (x.2 : Nat)]
  post := fun x _ => isI (x.1.getD x.2 0)
  an := fun _ h => h
theorem ok_L_cell_at : Ok P w K mg base 1 ("_law_cell_at", none) ["_law_cells", "_law_k"] (lCell K) := by
  refine T.d_L_cell_at.ok sc_L_cell_at (fun _ => rfl) fun cdv A outer s H vs Q E ⟨ns, j⟩ hr _ ha k => ?_
  obtain ⟨nv, _, rfl, hn, _, _, rfl, rfl, rfl⟩ := ha
  have hn : (SQ K ns).p nv H := hn
  refine ⟨_, (pss_cons (ps_if (pt_cmpR op_lt (pv 1) (pe_callB (lenK K) (by rfl) T.free_len PySem.boot_len (pa_cons (pv 0) pa_nil)) (nomark _)) (pss_one (ps_ret (pe_ix (ixL K) (pv 0) (pv 1) (fun _ _ => rfl)))) pss_nil)
      (pss_one (ps_ret pe_int))), ?_⟩
  refine s_if ((et_test (ev_opB (g := fun i j => decide (i < j)) (ev_vint rfl) (ev_lenS (ev_var rfl hn)))).to (b' := decide (j < ns.length)) (by rw [decide_eq_decide]; omega)) (fun hb H1 e1 => ?_) (fun hb H1 e1 => ?_)
  · have hb : j < ns.length := of_decide_eq_true hb
    exact s_ret (ev_ixS (i := j) (ev_var rfl ((SQ K ns).mo hn e1)) (ev_vint rfl) (by rw [List.getD_eq_getElem?_getD, List.getElem?_eq_getElem hb]; rfl)) fun v H3 e3 h => k v H3 (e1.trans e3) h
  · have hb : ¬ j < ns.length := of_decide_eq_false hb
    refine s_nx ?_
    dsimp only
    refine s_ret (te := tC (.int 0)) (P := isI 0) ev_int fun v H3 e3 h => k v H3 (e1.trans e3) ?_
    show v = .int (ns.getD j 0)
    rw [List.getD_eq_getElem?_getD, List.getElem?_eq_none (by omega)]; exact h
omit T in
def lSize : Spc where
  ι := Nat × Int
  pre := fun _ => True
  args := fun x => [isI (x.1 : Nat), isI x.2]
  post := fun x _ => isI (sizeOf x.1 x.2 : Nat)
  an := fun _ h => h
theorem ok_L_size : Ok P w K mg base 1 ("_law_size", none) ["_law_prime_here", "_law_cell"] lSize := by
  refine T.d_L_size.ok sc_L_size (fun _ => rfl) fun cdv A outer s H vs Q E ⟨q, c⟩ hr _ ha k => ?_
  obtain ⟨_, _, rfl, rfl, _, _, rfl, rfl, rfl⟩ := ha
  refine ⟨_, (pss_cons (ps_if (pt_cmpR op_eq (pv 0) pe_int (nomark _)) (pss_one (ps_ret (pe_ix (ixL K) (pe_lst (pa_cons pe_int (pa_cons pe_int (pa_cons pe_int (pa_cons pe_int pa_nil))))) (pe_op op_mod (pv 1) pe_int) (fun _ _ => rfl)))) pss_nil)
      (pss_one (ps_ret (pe_ix (ixL K) (pe_lst (pa_cons pe_int (pa_cons pe_int (pa_cons pe_int (pa_cons pe_int (pa_cons pe_int (pa_cons pe_int (pa_cons pe_int (pa_cons pe_int pa_nil))))))))) (pe_op op_mod (pv 1) pe_int) (fun _ _ => rfl))))), ?_⟩
  refine s_if ((et_test (ev_eqI (ev_vint rfl) ev_int)).to (b' := decide (q = 0)) (by rw [decide_eq_decide]; omega)) (fun hb H1 e1 => ?_) (fun hb H1 e1 => ?_)
  · have hb : q = 0 := of_decide_eq_true hb
    have h1 := Int.emod_nonneg c (show (4 : Int) ≠ 0 by decide)
    have h2 := Int.emod_lt_of_pos c (show (0 : Int) < 4 by decide)
    have ei : c % 4 = (((c % 4).toNat : Nat) : Int) := by omega
    refine s_ret (ev_pick (xs := [1, 2, 2, 3]) (i := (c % 4).toNat) (ea_cons ev_int (ea_cons ev_int (ea_cons ev_int (ea_cons ev_int ea_nil)))) ((ev_opC (g := fun i j => i % j) (i := c) (j := 4) (ev_vint rfl) ev_int (show (0 : Int) < 4 by decide)).to (congrArg isI ei)) (by show _ < 4; omega) (by decide)) fun v H3 e3 h => k v H3 (e1.trans e3) ?_
    have e : ((sizeOf q c : Nat) : Int) = ([1, 2, 2, 3] : List Int).getD (c % 4).toNat 0 := by
      unfold sizeOf
      rw [if_pos hb]
      generalize hj : (c % 4).toNat = j
      have : j < 4 := by omega
      rcases j with _ | _ | _ | _ | j <;> first | omega | rfl
    show v = .int (sizeOf q c : Nat)
    rw [e]; exact h
  · have hb : ¬ q = 0 := of_decide_eq_false hb
    have h1 := Int.emod_nonneg c (show (8 : Int) ≠ 0 by decide)
    have h2 := Int.emod_lt_of_pos c (show (0 : Int) < 8 by decide)
    have ei : c % 8 = (((c % 8).toNat : Nat) : Int) := by omega
    refine s_nx ?_
    dsimp only
    refine s_ret (ev_pick (xs := [1, 2, 3, 4, 2, 3, 5, 7]) (i := (c % 8).toNat) (ea_cons ev_int (ea_cons ev_int (ea_cons ev_int (ea_cons ev_int (ea_cons ev_int (ea_cons ev_int (ea_cons ev_int (ea_cons ev_int ea_nil)))))))) ((ev_opC (g := fun i j => i % j) (i := c) (j := 8) (ev_vint rfl) ev_int (show (0 : Int) < 8 by decide)).to (congrArg isI ei)) (by show _ < 8; omega) (by decide)) fun v H3 e3 h => k v H3 (e1.trans e3) ?_
    have e : ((sizeOf q c : Nat) : Int) = ([1, 2, 3, 4, 2, 3, 5, 7] : List Int).getD (c % 8).toNat 0 := by
      unfold sizeOf
      rw [if_neg hb]
      generalize hj : (c % 8).toNat = j
      have : j < 8 := by omega
      rcases j with _ | _ | _ | _ | _ | _ | _ | _ | j <;> first | omega | rfl
    show v = .int (sizeOf q c : Nat)
    rw [e]; exact h
end
section
variable {P : Program} {w : World} {K : PySem.W.Frag} {mg : Str → Option Value} {base : Heap} {F : Type} [Lean.Grind.Field F] [DecidableEq F] (κ : Kd F P w K mg base) (lk : LK κ) (T : Txt K mg)
include T
/-! _law_rows_by -/
omit T in
def rowsBy (dr : Int → F) (cells : List Int) (p r c : Nat) : List (List F) := (List.range r).map fun i => (List.range c).map fun j => dr (cells.getD (p + c * i + j) 0)
omit [Lean.Grind.Field F] [DecidableEq F] T in
theorem rowsBy_rect (dr : Int → F) (cells : List Int) (p r c : Nat) : (∀ x ∈ rowsBy dr cells p r c, x.length = c) ∧ (rowsBy dr cells p r c).length = r := by
  refine ⟨fun x hx => ?_, by simp [rowsBy]⟩
  obtain ⟨i, _, rfl⟩ := List.mem_map.mp hx
  simp
def lRows : Spc where
  ι := List Int × Nat × Nat × Nat
  pre := fun ⟨ns, p, r, c⟩ => p ≤ 100000 ∧ r ≤ 100 ∧ c ≤ 100
  args := fun ⟨ns, p, r, c⟩ => [isI (lk.q : Nat), LI nilH ns, isI (p : Nat), isI (r : Nat), isI (c : Nat)]
  post := fun ⟨ns, p, r, c⟩ G => κ.T G (rowsBy lk.dr ns p r c)
  an := fun {i _ _ _ _} e h => by obtain ⟨a, b, c, d⟩ := i; exact κ.famT.an e h
-- 0 _law_prime_here, 1 _law_cells, 2 _law_at, 3 _law_rows, 4 _law_columns, 5 _law_told, 6 _law_i, 7 _law_j
theorem ok_L_rows_by : Ok P w K mg base 41 ("_law_rows_by", none) ["_law_prime_here", "_law_cells", "_law_at", "_law_rows", "_law_columns"] (lRows κ lk) := by
  refine T.d_L_rows_by.ok sc_L_rows_by (fun _ => rfl) fun cdv A outer s H vs Q E ⟨ns, p, r, c⟩ hr ⟨hp, hrr, hc⟩ ha k => ?_
  obtain ⟨_, _, rfl, rfl, nv, _, rfl, hn, _, _, rfl, rfl, _, _, rfl, rfl, _, _, rfl, rfl, rfl⟩ := ha
  have hr_L_drawn : Room 40 _ := hr
  have hr_L_cell_at : Room 1 _ := hr.mono (by decide)
  have G_L_drawn := lk.drawn
  have G_L_cell_at := ok_L_cell_at (P := P) (w := w) (base := base) T
  have hn : (LI nilH ns).p nv H := hn
  have hp : p ≤ 100000 := hp
  have hrr : r ≤ 100 := hrr
  have hc : c ≤ 100 := hc
  refine ⟨_, (pss_cons (ps_set (i := 5) sc_L_rows_by.nd rfl (Or.inl rfl) (pe_lst pa_nil))
      (pss_cons (ps_for PassesOwn.never rfl (pi_range1 (by rfl) T.free_range (pa_cons (pv 3) pa_nil)) (pg_name (i := 6) sc_L_rows_by.nd rfl (Or.inr rfl)) (pss_one (ps_expr (pe_bm PySem.F.plainAttrs_list PySem.F.slot_list_append PySem.F.type_list_append mt_append (pv 5) (pa_cons (pe_lc (own := [("_law_j", 7)]) rfl sc_L_rows_by.nd (pi_range1 (by rfl) T.free_range (pa_cons (pv 4) pa_nil)) (blkOk_by (own := [("_law_j", 7)]) (N := ["_law_prime_here", "_law_cells", "_law_at", "_law_rows", "_law_columns", "_law_told", "_law_i", "_law_j"]) (sc := defScope s_L_rows_by) (by decide +kernel)) (fun _ _ _ _ _ => (pg_name (i := 7) sc_L_rows_by.nd rfl (Or.inl rfl))) (fun _ _ _ _ _ => pts_nil) (fun _ _ _ _ _ => (pe_call G_L_drawn hr_L_drawn rfl T.g_L_drawn T.d_L_drawn.fn.kp T.d_L_drawn.bd .nil pass0 (pa_cons (pv 0) (pa_cons (pe_call G_L_cell_at hr_L_cell_at rfl T.g_L_cell_at T.d_L_cell_at.fn.kp T.d_L_cell_at.bd .nil pass0 (pa_cons (pv 1) (pa_cons (pe_op op_add (pe_op op_add (pv 2) (pe_op op_mulW (pv 4) (pv 6))) (pv 7)) pa_nil))) pa_nil))))) pa_nil)))))
      (pss_one (ps_ret (pv 5))))), ?_⟩
  refine s_asg (ev_nilL (R := κ.L nilH)) fun v3 H3 e3 h3 => ?_
  obtain ⟨l, ls, rfl, hlH, hl3, hp3⟩ := h3
  have kn : (upd H l (.lst [])) l ≠ none := kn_upd
  refine s_forR (n := r) (ea_cons (ev_vint rfl) ea_nil) (by omega)
    (fun i σ H' => Same H H' ∧ ∃ a ws, σ = [some (.int (lk.q : Nat)), some nv, some (.int (p : Nat)), some (.int (r : Nat)), some (.int (c : Nat)), some (.ref l), a, none] ∧ H' l = some (.lst ws) ∧ Paired (fun x u => (κ.L (upd H l (.lst [])) x).p u H') ((rowsBy lk.dr ns p r c).take i) ws)
    (fun H4 e4 => ⟨e3.trans e4, none, ls, rfl, e4 _ _ hl3, by cases hp3; exact .nil⟩) ?_ ?_
  · rintro i σ' H' hi ⟨e4, a, ws, rfl, hl4, hp4⟩
    have wl := paired_len hp4
    rw [List.length_take, (rowsBy_rect lk.dr ns p r c).2] at wl
    refine s_app hl4 (ev_var rfl rfl) (ev_lcR κ.fam (fun j => lk.dr (ns.getD (p + c * i + j) 0)) (n := c) (ea_cons (ev_vint rfl) ea_nil) (by omega) (fun _ => rfl) fun j H5 e5 hj => ?_) (by omega) fun v7 H7 e7 h7 => ?_
    · have ep : ((p : Nat) : Int) + ((c : Nat) : Int) * (i : Nat) + (j : Nat) = ((p + c * i + j : Nat) : Int) := by rw [Int.natCast_add, Int.natCast_add, Int.natCast_mul]
      exact ev_call (S := lDrawn κ lk.q lk.dr) (ns.getD (p + c * i + j) 0) (ea_cons (ev_vint rfl) (ea_cons (ev_call (S := lCell K) (ns, p + c * i + j) (ea_cons (ev_var rfl (sq_of ((LI nilH ns).mo hn (e4.trans e5)))) (ea_cons ((ev_opI (g := fun i j => i + j) (ev_opI (g := fun i j => i + j) (ev_vint rfl) (ev_opC (g := fun i j => i * j) (ev_vint rfl) (ev_vint rfl) (mulw (p400 (by rw [Int.natAbs_natCast]; omega)) (p400 (by rw [Int.natAbs_natCast]; omega))))) (ev_vint rfl)).to (congrArg isI ep)) ea_nil)) trivial) ea_nil)) trivial
    · have hl7 := e7 _ _ hl4
      have hrow : (rowsBy lk.dr ns p r c)[i]? = some ((List.range c).map fun j => lk.dr (ns.getD (p + c * i + j) 0)) := by
        unfold rowsBy
        rw [List.getElem?_map, List.getElem?_range hi]; rfl
      refine ⟨same_mut (e4.trans e7) hlH, _, _, rfl, upd_same, ?_⟩
      rw [List.take_succ, hrow]
      exact psnoc (R := κ.L (upd H l (.lst []))) (psta (R := κ.L (upd H l (.lst []))) (fun x => κ.famL.st kn) hl7 (pmo (R := κ.L _) hp4 e7)) (κ.famL.st kn _ _ _ _ hl7 (κ.famL.an (fr_upd e4 hl4) h7))
  · rintro σ' H' ⟨e4, a, ws, rfl, hl4, hp4⟩
    rw [List.take_of_length_le (by rw [(rowsBy_rect lk.dr ns p r c).2]; exact Nat.le_refl _)] at hp4
    exact s_ret (P := κ.T H (rowsBy lk.dr ns p r c)) (ev_var rfl ⟨l, ws, rfl, hlH, hl4, Paired.mapP hp4 fun x u r => κ.famL.an (fr_of_upd hlH) r⟩) fun v9 H9 e9 h9 => k v9 H9 (e4.trans e9) h9
end
end Tf
set_option maxRecDepth 100000
set_option maxHeartbeats 4000000
namespace Tf
open PySem PySem.Spec PyProof.Rows L2
section
variable {K : PySem.W.Frag} {σ : L2.St} {H : Hp} {ta te : TE} {D : Ends} {tu tw : TS}
/-- xs[:n], n any -/
theorem ev_to2 {α : Type} {R : α → Pr} {G : Hp} {xs : List α} {n : Nat} (h : Ev te σ H (LR R G xs)) (hn : Ev ta σ H (isI (n : Nat))) : Ev (tSl (rSlL K) te tNoPart (tPart ta)) σ H (LR R H (xs.take n)) := fun H1 s Q q =>
  h H1 s _ fun v H2 s2 ⟨a, vs, e, _, ha, hp⟩ => hn H2 (s.trans s2) _ fun x H3 s3 ex => ⟨n, ex, a, vs, e, SqL.of (s3 _ _ ha), fun p hp' => by
    have e2 : cutV vs none (some (n : Int)) = vs.take n := by
      unfold cutV
      rw [HT.sIx_none, HT.sIx_nat, List.drop_zero]
      simp only [Nat.sub_zero]
      rcases Nat.le_total n vs.length with z | z
      · rw [Nat.min_eq_left z]
      · rw [Nat.min_eq_right z, List.take_length, List.take_of_length_le z]
    rw [e2]
    exact q _ _ ((s2.trans s3).trans (same_new hp')) ⟨p, vs.take n, rfl, Same.free ((s.trans s2).trans s3) hp', upd_same, paired_take n (Paired.mapP hp fun _ _ r => (R _).mo r (s3.trans (same_new hp')))⟩⟩
/-- .. of numbers that are only read -/
theorem ev_to2S {ns : List Int} {n : Nat} (h : Ev te σ H (SQ K ns)) (hn : Ev ta σ H (isI (n : Nat))) : Ev (tSl (rSlL K) te tNoPart (tPart ta)) σ H (LR (fun n : Int => isI n) H (ns.take n)) := fun H1 s Q q =>
  h H1 s _ fun v H2 s2 pv => hn H2 (s.trans s2) _ fun x H3 s3 ex => by
    obtain ⟨a, e, ha⟩ := (SQ K ns).mo pv s3
    refine ⟨n, ex, a, ns.map V.int, e, ha, fun p hp' => ?_⟩
    have e2 : cutV (ns.map V.int) none (some (n : Int)) = (ns.take n).map V.int := by
      unfold cutV
      rw [HT.sIx_none, HT.sIx_nat, List.drop_zero, List.map_take]
      simp only [Nat.sub_zero]
      rcases Nat.le_total n (ns.map V.int).length with z | z
      · rw [Nat.min_eq_left z]
      · rw [Nat.min_eq_right z, List.take_length, List.take_of_length_le z]
    rw [e2]
    exact q _ _ ((s2.trans s3).trans (same_new hp')) ⟨p, (ns.take n).map V.int, rfl, Same.free ((s.trans s2).trans s3) hp', upd_same, ints_pair _ _⟩
/-- if not f(..): .. , a call that tells True and may change what stands -/
theorem s_ifCall {t : TA} {Ps : List Pr} {sp : Sp} {E : XK} (h : EvA t σ H Ps) (k : ∀ vs H1, Same H H1 → AllP Ps vs H1 → sp vs H1 (fun v H2 => ∃ b, v = .bl b ∧ (if (!b) = true then tu D σ H2 else tw D σ H2)) E) : tIfS (tNot (tTest (tCall sp [] E t))) tu tw D σ H :=
  h H (Same.refl H) _ fun vs H1 s p => by
    show sp (vs ++ []) H1 _ E
    rw [List.append_nil]
    exact k vs H1 s p
end
section
variable {P : Program} {w : World} {K : PySem.W.Frag} {mg : Str → Option Value} {base : Heap} {F : Type} [Lean.Grind.Field F] [DecidableEq F] (κ : Kd F P w K mg base) (lk : LK κ) (T : Txt K mg)
structure EntRec (F : Type) where
  S : Addr → Prop
  A : List (List F)
  vt : V
  vh : V
/-- a table and its frame, all at places of S -/
def EP (S : Addr → Prop) (A : List (List F)) (vt : V) : Pr where
  p := fun vh H => (LS (LS κ.rep S) S A).p vt H ∧ ∃ S1 S2 S3 : Addr → Prop, (∀ a, S1 a → S a) ∧ (∀ a, S2 a → S a) ∧ (∀ a, S3 a → S a) ∧ (∀ a, S1 a → ¬ S2 a ∧ ¬ S3 a) ∧ (∀ a, S2 a → ¬ S3 a) ∧
    (FRS κ S1 S2 S3 (parts A.length A).1 (frameTurn A) (inverse (frameTurn A))).p vh H
  mo := fun ⟨a, S1, S2, S3, b, c, d, e, f, g⟩ s => ⟨(LS _ _ _).mo a s, S1, S2, S3, b, c, d, e, f, (FRS κ _ _ _ _ _ _).mo g s⟩
theorem frs_sta {S1 S2 S3 : Addr → Prop} {C U I : List (List F)} {d : Addr} (h1 : ¬ S1 d) (h2 : ¬ S2 d) (h3 : ¬ S3 d) : Sta (FRS κ S1 S2 S3 C U I) d := fun v H o o' e ⟨a, c, t, sv, ea, h, hc, ⟨a0, f, fs, vs, e1, e2, na, e3, e4, e5⟩, p2, p3⟩ =>
  ⟨a, c, t, sv, ea, by rw [upd_ne (ne_of h e (by intro z; cases z))]; exact h, hc, ⟨a0, f, fs, vs, e1, by rw [upd_ne (fun z => h1 (by rw [← z]; exact hc))]; exact e2, na, e3, by
    obtain ⟨b, us, eb, _, hb, hq⟩ := e4
    cases eb
    exact ⟨a0, us, rfl, rfl, by rw [upd_ne (fun z => h1 (by rw [← z]; exact e3))]; exact hb, psta (R := κ.rep) (fun x => κ.rep_sta x d) e hq⟩, Paired.mapP e5 fun x u r => sta_LS (fun z => h1 z.1) (fun x => κ.rep_sta x d) u H o o' e r⟩,
    sta_LS h2 (fun x => sta_LS h2 fun x => κ.rep_sta x d) _ H o o' e p2, sta_LS h3 (fun x => sta_LS h3 fun x => κ.rep_sta x d) _ H o o' e p3⟩
theorem ep_sta {S : Addr → Prop} {A : List (List F)} {vt : V} {d : Addr} (h : ¬ S d) : Sta (EP κ S A vt) d := fun v H o o' e ⟨a, S1, S2, S3, b1, b2, b3, c1, c2, g⟩ =>
  ⟨sta_LS h (fun x => sta_LS h fun x => κ.rep_sta x d) _ H o o' e a, S1, S2, S3, b1, b2, b3, c1, c2, frs_sta κ (fun z => h (b1 d z)) (fun z => h (b2 d z)) (fun z => h (b3 d z)) v H o o' e g⟩
structure Ents (B0 H : Hp) (lt lh : Addr) (Es : List (EntRec F)) : Prop where
  hT : H lt = some (.lst (Es.map fun e => e.vt))
  hH : H lh = some (.lst (Es.map fun e => e.vh))
  each : ∀ e ∈ Es, (EP κ e.S e.A e.vt).p e.vh H ∧ RightOk κ e.A e.A.length ∧ ∀ d, e.S d → H d ≠ none ∧ B0 d = none
  dis : Es.Pairwise fun e e' => ∀ d, e.S d → ¬ e'.S d
  kb : ∀ d, H d = none → B0 d = none
def lKind (q : Nat) : Spc where
  ι := Unit
  pre := fun _ => True
  args := fun _ => [isI (q : Nat)]
  post := fun _ _ => κ.obj
  an := fun _ h => h
noncomputable def spLaw : Sp := fun vs H Q _ => ∃ (ns : List Int) (nv : V), vs = [nv] ∧ (SQ K ns).p nv H ∧ primeBy (ns.getD 0 0) = lk.q ∧ ∀ H', Q (.bl true) H'
include T
-- 0 _law_script, 1 _law_prime_here, 2 _law_kind_here, 3 _law_cells, 4 _law_at, 5 _law_tables, 6 _law_held, 7 _law_size_here, 8 _law_table, 9 _law_handed, 10 _law_row, 11 _law_k
theorem ok_law (hK : Ok P w K mg base 40 ("_law_kind", none) ["_law_prime_here"] (lKind κ lk.q)) (hG : ∀ (cells : List Int) (at_ : Nat) (c : Int), κ.Al (frameT (rowsBy lk.dr cells at_ (sizeOf lk.q c) (sizeOf lk.q c))) ∧ RightOk κ (rowsBy lk.dr cells at_ (sizeOf lk.q c) (sizeOf lk.q c)) (sizeOf lk.q c)) :
    FnOk P w K mg base CX0 60 (He.fAd K ("law", none)) (fdAt K (He.fAd K ("law", none))) ["_law_script"] (spLaw κ lk) := by
  refine T.d_law.fn.ok (k := 59) sc_law (fun vs H Q E ⟨ns, nv, e, _⟩ => by rw [e]; rfl) fun cdv A0 outer s H vs Q E hr ⟨ns, nv, e, hn, hq, kq⟩ => ?_
  subst e
  have hr_L_prime_by : Room 3 _ := hr.mono (by decide)
  have hr_L_cell_at : Room 1 _ := hr.mono (by decide)
  have hr_L_kind : Room 40 _ := hr.mono (by decide)
  have hr_L_size : Room 1 _ := hr.mono (by decide)
  have hr_L_rows_by : Room 41 _ := hr.mono (by decide)
  have hr_frame : Room 57 _ := hr.mono (by decide)
  have hr_L_right : Room 45 _ := hr.mono (by decide)
  have G_L_prime_by := ok_L_prime_by (P := P) (w := w) (base := base) T
  have G_L_cell_at := ok_L_cell_at (P := P) (w := w) (base := base) T
  have G_L_kind := hK
  have G_L_size := ok_L_size (P := P) (w := w) (base := base) T
  have G_L_rows_by := ok_L_rows_by κ lk T
  have G_frame := ok_frame κ T
  have G_L_right := ok_L_right κ lk T
  have hu := hr.units
  refine ⟨_, PSs.nox ((pss_cons (ps_set (i := 1) sc_law.nd rfl (Or.inl rfl) (pe_call G_L_prime_by hr_L_prime_by rfl T.g_L_prime_by T.d_L_prime_by.fn.kp T.d_L_prime_by.bd .nil pass0 (pa_cons (pe_call G_L_cell_at hr_L_cell_at rfl T.g_L_cell_at T.d_L_cell_at.fn.kp T.d_L_cell_at.bd .nil pass0 (pa_cons (pv 0) (pa_cons pe_int pa_nil))) pa_nil)))
      (pss_cons (ps_set (i := 2) sc_law.nd rfl (Or.inl rfl) (pe_call G_L_kind hr_L_kind rfl T.g_L_kind T.d_L_kind.fn.kp T.d_L_kind.bd .nil pass0 (pa_cons (pv 1) pa_nil)))
      (pss_cons (ps_set (i := 3) sc_law.nd rfl (Or.inl rfl) (pe_slice (slL K) (pv 0) po_none (po_some (pe_ix (ixL K) (pe_lst (pa_cons pe_int (pa_cons pe_int pa_nil))) (pe_callTy call_int1 (by rfl) T.free_int (by decide +kernel) (pa_cons (pe_cmpR op_eq (pv 1) pe_int (nomark _)) pa_nil)) (fun _ _ => rfl)))))
      (pss_cons (ps_set (i := 4) sc_law.nd rfl (Or.inl rfl) pe_int)
      (pss_cons (ps_set (i := 5) sc_law.nd rfl (Or.inl rfl) (pe_lst pa_nil))
      (pss_cons (ps_set (i := 6) sc_law.nd rfl (Or.inl rfl) (pe_lst pa_nil))
      (pss_cons (ps_while PassesOwn.never (PW.pt (pw_or (pt_cmpR op_eq (pv 4) pe_int (nomark _)) (pw_or1 (pt_cmpR op_lt (pv 4) (pe_callB (lenK K) (by rfl) T.free_len PySem.boot_len (pa_cons (pv 3) pa_nil)) (nomark _))))) (pss_cons (ps_set (i := 7) sc_law.nd rfl (Or.inl rfl) (pe_call G_L_size hr_L_size rfl T.g_L_size T.d_L_size.fn.kp T.d_L_size.bd .nil pass0 (pa_cons (pv 1) (pa_cons (pe_call G_L_cell_at hr_L_cell_at rfl T.g_L_cell_at T.d_L_cell_at.fn.kp T.d_L_cell_at.bd .nil pass0 (pa_cons (pv 3) (pa_cons (pv 4) pa_nil))) pa_nil))))
      (pss_cons (ps_set (i := 8) sc_law.nd rfl (Or.inl rfl) (pe_call G_L_rows_by hr_L_rows_by rfl T.g_L_rows_by T.d_L_rows_by.fn.kp T.d_L_rows_by.bd .nil pass0 (pa_cons (pv 1) (pa_cons (pv 3) (pa_cons (pe_op op_add (pv 4) pe_int) (pa_cons (pv 7) (pa_cons (pv 7) pa_nil)))))))
      (pss_cons (ps_set (i := 4) sc_law.nd rfl (Or.inl rfl) (pe_op op_add (pe_op op_add (pv 4) pe_int) (pe_op op_mulW (pv 7) (pv 7))))
      (pss_cons (ps_setLc (i := 9) (own := [("_law_row", 10)]) rfl sc_law.nd rfl rfl (sw_true rfl rfl rfl (by decide +kernel)) (pi_listK K rfl (pv 8)) (blkOk_by (own := [("_law_row", 10)]) (N := ["_law_script", "_law_prime_here", "_law_kind_here", "_law_cells", "_law_at", "_law_tables", "_law_held", "_law_size_here", "_law_table", "_law_handed", "_law_row", "_law_k"]) (sc := defScope s_law) (by decide +kernel)) (fun _ _ _ _ _ => (pg_name (i := 10) sc_law.nd rfl (Or.inl rfl))) (fun _ _ _ _ _ => pts_nil) (fun _ _ _ _ _ => (pe_callTy (listK K) (by rfl) T.free_list (by decide +kernel) (pa_cons (pv 10) pa_nil))))
      (pss_cons (ps_expr (pe_bm PySem.F.plainAttrs_list PySem.F.slot_list_append PySem.F.type_list_append mt_append (pv 6) (pa_cons (pe_call G_frame hr_frame rfl T.g_frame T.d_frame.fn.kp T.d_frame.bd .nil pass0 (pa_cons (pv 2) (pa_cons (pv 9) pa_nil))) pa_nil)))
      (pss_cons (ps_expr (pe_bm PySem.F.plainAttrs_list PySem.F.slot_list_append PySem.F.type_list_append mt_append (pv 5) (pa_cons (pv 8) pa_nil)))
      (pss_one (ps_if (pt_cmpR (neDK K hu) (pv 9) (pv 8) (nomark _)) (pss_one (ps_ret pe_bl)) pss_nil)))))))))
      (pss_cons (ps_for PassesOwn.never rfl (pi_range1 (by rfl) T.free_range (pa_cons (pe_callB (lenK K) (by rfl) T.free_len PySem.boot_len (pa_cons (pv 6) pa_nil)) pa_nil)) (pg_name (i := 11) sc_law.nd rfl (Or.inl rfl)) (pss_one (ps_if (pt_not (pt_val (pe_call G_L_right hr_L_right rfl T.g_L_right T.d_L_right.fn.kp T.d_L_right.bd .nil pass0 (pa_cons (pv 2) (pa_cons (pv 1) (pa_cons (pe_ix (ixL K) (pv 5) (pv 11) (fun _ _ => rfl)) (pa_cons (pe_ix (ixL K) (pv 6) (pv 11) (fun _ _ => rfl)) pa_nil))))))) (pss_one (ps_ret pe_bl)) pss_nil)))
      (pss_one (ps_ret pe_bl))))))))))), ?_⟩
  refine s_asg (ev_call (S := lPrimeBy) (ns.getD 0 0) (ea_cons (ev_call (S := lCell K) (ns, 0) (ea_cons (ev_var rfl hn) (ea_cons ev_int ea_nil)) trivial) ea_nil) trivial) fun pv H1 e1 hp => ?_
  have hp : pv = .int (primeBy (ns.getD 0 0) : Nat) := hp
  rw [hq] at hp
  subst hp
  refine s_asg (ev_call (S := lKind κ lk.q) () (ea_cons (ev_vint rfl) ea_nil) trivial) fun kv H2 e2 hk => ?_
  have hk : κ.obj.p kv H2 := hk
  have E2 := e1.trans e2
  obtain ⟨bnd, hbnd⟩ : ∃ b : Nat, b = if lk.q = 0 then 20 else 63 := ⟨_, rfl⟩
  refine s_asg (ev_to2S (n := bnd) (ev_var rfl ((SQ K ns).mo hn E2)) (Ev.to (ev_pick (xs := [63, 20]) (i := if lk.q = 0 then 1 else 0) (ea_cons ev_int (ea_cons ev_int ea_nil)) (Ev.to (ev_intB (ev_eqI (ev_vint (n := (lk.q : Nat)) rfl) ev_int)) ?_) (by split <;> decide) (by decide)) ?_)) fun cv_ H3 e3 hcv => ?_
  · by_cases h : lk.q = 0
    · simp [h]
    · have : ¬ ((lk.q : Nat) : Int) = 0 := by omega
      simp [h, this]
  · rw [hbnd]
    split <;> rfl
  have hcv : (LI nilH (ns.take bnd)).p cv_ H3 := lr_low hcv (fun _ _ => rfl) fun _ _ r => r
  have hcl : (ns.take bnd).length ≤ 63 := by rw [List.length_take, hbnd]; split <;> omega
  generalize hcells : ns.take bnd = cells at *
  have E3 := E2.trans e3
  dsimp only
  refine s_asg (te := tC (.int 1)) (P := isI 1) (i := 4) ev_int fun v4 H4 e4 h4 => ?_
  cases (show v4 = .int 1 from h4)
  refine s_asg (ev_nilL (R := κ.rep)) fun v5 H5 e5 h5 => ?_
  obtain ⟨lt, ls, rfl, hltH, hlt5, hlp⟩ := h5
  cases hlp
  refine s_asg (ev_nilL (R := κ.rep)) fun v6 H6 e6 h6 => ?_
  obtain ⟨lh, ls, rfl, hlhH, hlh6, hlp⟩ := h6
  cases hlp
  have hlt6 := e6 _ _ hlt5
  have nlt : lt ≠ lh := fun z => by rw [z] at hlt5; rw [hlt5] at hlhH; cases hlhH
  have E36 : Same H3 H6 := e4.trans (e5.trans e6)
  have hk6 := κ.obj.mo hk (e3.trans E36)
  have hcv6 := (LI nilH cells).mo hcv E36
  have kn : ∀ {b : Addr} {o : HO} {G : Hp}, G b = some o → G b ≠ none := fun z => by rw [z]; intro z; cases z
  refine s_while (fun m σ H' => ∃ (p : Nat) (Es : List (EntRec F)) (a b c : Option V), m = 200 - p ∧ 1 ≤ p ∧ p ≤ 150 ∧ Es.length + 1 ≤ p ∧ σ = [some nv, some (.int (lk.q : Nat)), some kv, some cv_, some (.int (p : Nat)), some (.ref lt), some (.ref lh), a, b, c, none, none] ∧ Ents κ H6 H' lt lh Es ∧ κ.obj.p kv H' ∧ (LI nilH cells).p cv_ H') 199
    ⟨1, [], none, none, none, rfl, Nat.le_refl _, by decide, Nat.le_refl _, rfl, ⟨hlt6, hlh6, fun e h => (by cases h), .nil, fun _ z => z⟩, hk6, hcv6⟩ ?_
  rintro m σ' H7 ⟨p, Es, a, b, c, rfl, hp1, hp2, hEl, rfl, hE, hk7, hcv7⟩
  refine ⟨decide (p = 1) || decide (p < cells.length), et_or ((et_test (ev_eqI (ev_vint rfl) ev_int)).to (by rw [decide_eq_decide]; omega)) fun _ => (et_test (ev_opB (g := fun i j => decide (i < j)) (ev_vint rfl) (ev_len (ev_var rfl hcv7)))).to (by rw [decide_eq_decide]; omega), fun hb H8 e8 => ?_, fun hb H8 e8 => ?_⟩
  · simp only [Bool.or_eq_true, decide_eq_true_eq] at hb
    have hp63 : p ≤ 62 := by omega
    refine ⟨fun σ H' => ∃ (p' : Nat) (Es : List (EntRec F)) (a b c : Option V), p < p' ∧ p' ≤ 150 ∧ Es.length + 1 ≤ p' ∧ σ = [some nv, some (.int (lk.q : Nat)), some kv, some cv_, some (.int (p' : Nat)), some (.ref lt), some (.ref lh), a, b, c, none, none] ∧ Ents κ H6 H' lt lh Es ∧ κ.obj.p kv H' ∧ (LI nilH cells).p cv_ H', fun σ2 H2 ⟨p', Es', a, b, c, q1, q2, q3, q4, q5, q6, q7⟩ => ⟨200 - p', by omega, p', Es', a, b, c, rfl, by omega, q2, q3, q4, q5, q6, q7⟩, ?_⟩
    have hcv8 := (LI nilH cells).mo hcv7 e8
    have hk8 := κ.obj.mo hk7 e8
    refine s_asg (ev_call (S := lSize) (lk.q, cells.getD p 0) (ea_cons (ev_vint rfl) (ea_cons (ev_call (S := lCell K) (cells, p) (ea_cons (ev_var rfl (sq_of hcv8)) (ea_cons (ev_vint (n := ((p : Nat) : Int)) rfl) ea_nil)) trivial) ea_nil)) trivial) fun zv H9 e9 hz => ?_
    cases (show zv = .int (sizeOf lk.q (cells.getD p 0) : Nat) from hz)
    obtain ⟨hal, hro⟩ := hG cells (p + 1) (cells.getD p 0)
    obtain ⟨z1, z2, _⟩ := sizeOf_ok lk.q (cells.getD p 0)
    generalize hn' : sizeOf lk.q (cells.getD p 0) = n at *
    have ep1 : ((p : Nat) : Int) + 1 = ((p + 1 : Nat) : Int) := by omega
    have hcv9 := (LI nilH cells).mo hcv8 e9
    refine s_asg (ev_call (S := lRows κ lk) (cells, p + 1, n, n) (ea_cons (ev_vint rfl) (ea_cons (ev_var rfl hcv9) (ea_cons ((ev_opI (g := fun i j => i + j) (ev_vint rfl) ev_int).to (congrArg isI ep1)) (ea_cons (ev_vint rfl) (ea_cons (ev_vint rfl) ea_nil))))) ⟨by omega, by omega, by omega⟩) fun tv H10 e10 ht => ?_
    have ht : (κ.T H9 (rowsBy lk.dr cells (p + 1) n n)).p tv H10 := ht
    obtain ⟨fok, _⟩ := turn_ok hro.r hro.l hro.n0 hro.n7
    generalize hA : rowsBy lk.dr cells (p + 1) n n = A at *
    have hAl := hro.l
    have nn : n * n ≤ 49 := Nat.mul_le_mul z2 z2
    have epn : ((p : Nat) : Int) + 1 + ((n : Nat) : Int) * (n : Nat) = ((p + 1 + n * n : Nat) : Int) := by rw [Int.natCast_add, Int.natCast_add, Int.natCast_mul]; rfl
    refine s_asg ((ev_opI (g := fun i j => i + j) (ev_opI (g := fun i j => i + j) (ev_vint rfl) ev_int) (ev_opC (g := fun i j => i * j) (ev_vint rfl) (ev_vint rfl) (mulw (p400 (by rw [Int.natAbs_natCast]; omega)) (p400 (by rw [Int.natAbs_natCast]; omega))))).to (congrArg isI epn)) fun v11 H11 e11 h11 => ?_
    cases (show v11 = .int ((p + 1 + n * n : Nat) : Int) from h11)
    have ht11 := (κ.T H9 A).mo ht e11
    refine s_asg (Ev.to (ev_lcN κ.famL (fun x : List F => x) (ev_var rfl ht11) (by omega) (fun _ => rfl) fun i x u H12 e12 hx hu => ev_list (ev_var rfl hu)) (by rw [List.map_id'])) fun hv H12 e12 hh => ?_
    have hh : (κ.T H11 A).p hv H12 := hh
    have E712 : Same H7 H12 := e8.trans (e9.trans (e10.trans (e11.trans e12)))
    have hEl2 : Es.length ≤ 100 := by omega
    refine s_app (E712 _ _ hE.hH) (ev_var rfl rfl) (ev_call (S := sFrame κ) A (ea_cons (ev_var rfl (κ.obj.mo hk8 (e9.trans (e10.trans (e11.trans e12))))) (ea_cons (ev_var rfl (κ.famT.an (fun _ _ => rfl) hh)) ea_nil)) ⟨fok, hal⟩) (by rw [List.length_map]; omega) fun fv H13 e13 hf => ?_
    have hf : (FR κ H12 A).p fv H13 := hf
    have E713 := E712.trans e13
    have hh13 := E713 _ _ hE.hH
    have ht13 := E713 _ _ hE.hT
    -- the new entry
    have hEP : (EP κ (fun d => H7 d = none ∧ H13 d ≠ none) A tv).p fv H13 := by
      obtain ⟨G1, G2, G3, m1, m2, m3, m4, hfr⟩ := hf
      have g0 : ∀ d, H12 d = none → H7 d = none := fun d z => Same.free E712 z
      have htt := (LS _ _ _).mo (ls_imp (ls_of ht11) (fun d z => z) fun x u r => ls_of r) (e12.trans e13)
      refine ⟨ls_imp htt (fun d ⟨w1, w2⟩ => ⟨Same.free (e8.trans e9) w1, fun w3 => w2 (Same.free (e12.trans e13) w3)⟩) fun x u r => ls_imp r (fun d ⟨w1, w2⟩ => ⟨Same.free (e8.trans e9) w1, fun w3 => w2 (Same.free (e12.trans e13) w3)⟩) fun _ _ r => r, _, _, _, ?_, ?_, ?_, ?_, ?_, hfr⟩
      · exact fun d ⟨w1, w2⟩ => ⟨g0 d w1, fun w3 => w2 (m2 d (m3 d (m4 d w3)))⟩
      · exact fun d ⟨w1, w2⟩ => ⟨g0 d (m1 d w1), fun w3 => w2 (m3 d (m4 d w3))⟩
      · exact fun d ⟨w1, w2⟩ => ⟨g0 d (m1 d (m2 d w1)), fun w3 => w2 (m4 d w3)⟩
      · exact fun d ⟨w1, w2⟩ => ⟨fun w3 => w2 w3.1, fun w3 => w2 (m2 d w3.1)⟩
      · exact fun d ⟨w1, w2⟩ w3 => w2 w3.1
    have nS1 : ¬ (H7 lh = none ∧ H13 lh ≠ none) := fun z => kn hE.hH z.1
    have nS2 : ¬ (H7 lt = none ∧ H13 lt ≠ none) := fun z => kn hE.hT z.1
    have old : ∀ {l : Addr} {o : HO}, H6 l = some o → ∀ e ∈ Es, ¬ e.S l := fun hl e he z => by
      have := ((hE.each e he).2.2 _ z).2
      rw [hl] at this; cases this
    -- after the first append
    have hEP2 := ep_sta κ nS1 _ _ _ ((Es.map fun e => e.vh) ++ [fv]) hh13 hEP
    have hEs2 : ∀ e ∈ Es, (EP κ e.S e.A e.vt).p e.vh (upd H13 lh (.lst ((Es.map fun e => e.vh) ++ [fv]))) := fun e he => ep_sta κ (old hlh6 e he) _ _ _ _ hh13 ((EP κ _ _ _).mo (hE.each e he).1 E713)
    have ht2 : upd H13 lh (.lst ((Es.map fun e => e.vh) ++ [fv])) lt = some (.lst (Es.map fun e => e.vt)) := by rw [upd_ne nlt]; exact ht13
    have hk2' := κ.obj_sta lh _ _ _ ((Es.map fun e => e.vh) ++ [fv]) hh13 (κ.obj.mo hk7 E713)
    have hcv2 := (sta_L (R := fun n : Int => isI n) (G := upd nilH lh (.lst [])) (xs := cells) kn_upd fun _ => sta_I) cv_ _ _ ((Es.map fun e => e.vh) ++ [fv]) hh13 (by
      obtain ⟨a, us, ea, _, ha, hq⟩ := (LI nilH cells).mo hcv7 E713
      have : a ≠ lh := fun z => by
        obtain ⟨a', us', ea', _, ha', _⟩ := hcv
        rw [ea] at ea'
        cases ea'
        rw [z] at ha'
        have := (e4.trans e5) _ _ ha'
        rw [hlhH] at this; cases this
      exact ⟨a, us, ea, by rw [upd_ne this]; rfl, ha, hq⟩)
    have htv2 : (κ.T H9 A).p tv (upd H13 lh (.lst ((Es.map fun e => e.vh) ++ [fv]))) := κ.famT.st (kn ((e8.trans e9) _ _ hE.hH)) _ _ _ _ hh13 ((κ.T H9 A).mo ht11 (e12.trans e13))
    have hhv2 : (κ.T H11 A).p hv (upd H13 lh (.lst ((Es.map fun e => e.vh) ++ [fv]))) := κ.famT.st (kn ((e8.trans (e9.trans (e10.trans e11))) _ _ hE.hH)) _ _ _ _ hh13 ((κ.T H11 A).mo hh e13)
    have kno2 : ∀ d, H13 d ≠ none → upd H13 lh (.lst ((Es.map fun e => e.vh) ++ [fv])) d ≠ none := fun d z => by
      by_cases ed : d = lh
      · rw [ed, upd_same]; intro w; cases w
      · rw [upd_ne ed]; exact z
    have hlh2 : upd H13 lh (.lst ((Es.map fun e => e.vh) ++ [fv])) lh = some (.lst ((Es.map fun e => e.vh) ++ [fv])) := upd_same
    generalize hH14 : upd H13 lh (.lst ((Es.map fun e => e.vh) ++ [fv])) = H14 at *
    refine s_app ht2 (ev_var rfl rfl) (ev_var (P := isV tv) rfl rfl) (by rw [List.length_map]; omega) fun tv' H15 e15 htv' => ?_
    cases (show tv' = tv from htv')
    have ht15 := e15 _ _ ht2
    have hE3 : ∀ e ∈ Es, (EP κ e.S e.A e.vt).p e.vh (upd H15 lt (.lst ((Es.map fun e => e.vt) ++ [tv]))) := fun e he => ep_sta κ (old hlt6 e he) _ _ _ _ ht15 ((EP κ _ _ _).mo (hEs2 e he) e15)
    have hEP3 := ep_sta κ nS2 _ _ _ ((Es.map fun e => e.vt) ++ [tv]) ht15 ((EP κ _ _ _).mo hEP2 e15)
    have hlh3 : upd H15 lt (.lst ((Es.map fun e => e.vt) ++ [tv])) lh = some (.lst ((Es.map fun e => e.vh) ++ [fv])) := by rw [upd_ne (Ne.symm nlt)]; exact e15 _ _ hlh2
    have hlt3 : upd H15 lt (.lst ((Es.map fun e => e.vt) ++ [tv])) lt = some (.lst ((Es.map fun e => e.vt) ++ [tv])) := upd_same
    have hk3' := κ.obj_sta lt _ _ _ ((Es.map fun e => e.vt) ++ [tv]) ht15 (κ.obj.mo hk2' e15)
    have hcv3 := (sta_L (R := fun n : Int => isI n) (G := upd nilH lt (.lst [])) (xs := cells) kn_upd fun _ => sta_I) cv_ _ _ ((Es.map fun e => e.vt) ++ [tv]) ht15 (by
      obtain ⟨a, us, ea, _, ha, hq⟩ := (LR _ _ _).mo hcv2 e15
      have : a ≠ lt := fun z => by
        obtain ⟨a', us', ea', _, ha', _⟩ := hcv
        rw [ea] at ea'
        cases ea'
        rw [z] at ha'
        have := e4 _ _ ha'
        rw [hltH] at this; cases this
      exact ⟨a, us, ea, by rw [upd_ne this]; rfl, ha, hq⟩)
    have htv3 : (κ.T H9 A).p tv (upd H15 lt (.lst ((Es.map fun e => e.vt) ++ [tv]))) := κ.famT.st (kn ((e8.trans e9) _ _ hE.hT)) _ _ _ _ ht15 ((κ.T H9 A).mo htv2 e15)
    have hhv3 : (κ.T H11 A).p hv (upd H15 lt (.lst ((Es.map fun e => e.vt) ++ [tv]))) := κ.famT.st (kn ((e8.trans (e9.trans (e10.trans e11))) _ _ hE.hT)) _ _ _ _ ht15 ((κ.T H11 A).mo hhv2 e15)
    have kno3 : ∀ d, H13 d ≠ none → upd H15 lt (.lst ((Es.map fun e => e.vt) ++ [tv])) d ≠ none := fun d z => by
      by_cases ed : d = lt
      · rw [ed, upd_same]; intro w; cases w
      · rw [upd_ne ed]
        intro w
        exact kno2 d z (Same.free e15 w)
    generalize upd H15 lt (.lst ((Es.map fun e => e.vt) ++ [tv])) = H16 at *
    refine s_ifF ((et_test (ev_neT κ (ev_var rfl hhv3) (ev_var rfl htv3))).to (by simp)) fun H17 e17 => ?_
    have hcv4 : (LI nilH cells).p cv_ H16 := by
      obtain ⟨a, us, ea, _, ha, hq⟩ := hcv3
      exact ⟨a, us, ea, rfl, ha, hq⟩
    refine ⟨p + 1 + n * n, Es ++ [⟨fun d => H7 d = none ∧ H13 d ≠ none, A, tv, fv⟩], _, _, _, by omega, by omega, by rw [List.length_append, List.length_singleton]; have := Nat.mul_le_mul z1 z1; omega, rfl, ?_, κ.obj.mo hk3' e17, (LI nilH cells).mo hcv4 e17⟩
    refine ⟨by rw [List.map_append]; exact e17 _ _ hlt3, by rw [List.map_append]; exact e17 _ _ hlh3, fun e he => ?_, ?_, fun d hd => hE.kb d (Same.free E713 (Classical.byContradiction fun z => kno3 d z (Same.free e17 hd)))⟩
    · rcases List.mem_append.mp he with z | z
      · obtain ⟨w1, w2, w3⟩ := hE.each e z
        exact ⟨(EP κ _ _ _).mo (hE3 e z) e17, w2, fun d hd => ⟨fun w => kno3 d (fun w' => (w3 d hd).1 (Same.free E713 w')) (Same.free e17 w), (w3 d hd).2⟩⟩
      · rw [List.mem_singleton] at z
        subst z
        exact ⟨(EP κ _ _ _).mo hEP3 e17, by rw [hAl]; exact hro, fun d hd => ⟨fun w => kno3 d hd.2 (Same.free e17 w), hE.kb d hd.1⟩⟩
    · rw [List.pairwise_append]
      refine ⟨hE.dis, List.pairwise_singleton _ _, fun e he e' he' d hd => ?_⟩
      rw [List.mem_singleton] at he'
      subst he'
      exact fun z => ((hE.each e he).2.2 d hd).1 z.1
  · have hEl2 : Es.length ≤ 200 := by omega
    have hh8 := e8 _ _ hE.hH
    refine s_nx ?_
    dsimp only
    refine s_forR (n := Es.length) (ea_cons (Ev.to (ev_len (R := fun _ : V => anyP) (G := nilH) (xs := Es.map fun e => e.vh) (ev_var rfl ⟨lh, _, rfl, rfl, hh8, paired_of (by simp) fun _ _ _ _ _ => trivial⟩)) (by rw [List.length_map])) ea_nil) (by omega)
      (fun i σ H' => ∃ d, σ = [some nv, some (.int (lk.q : Nat)), some kv, some cv_, some (.int (p : Nat)), some (.ref lt), some (.ref lh), a, b, c, none, d] ∧ H' lt = some (.lst (Es.map fun e => e.vt)) ∧ H' lh = some (.lst (Es.map fun e => e.vh)) ∧ ∀ j e, i ≤ j → Es[j]? = some e → (EP κ e.S e.A e.vt).p e.vh H')
      (fun H9 e9 => ⟨none, rfl, (e8.trans e9) _ _ hE.hT, (e8.trans e9) _ _ hE.hH, fun j e _ he => (EP κ _ _ _).mo (hE.each e (List.mem_of_getElem? he)).1 (e8.trans e9)⟩) ?_ ?_
    · rintro i σ' H9 hi ⟨d, rfl, ht9, hh9, hep⟩
      obtain ⟨e, he⟩ : ∃ e, Es[i]? = some e := ⟨_, List.getElem?_eq_getElem hi⟩
      obtain ⟨w1, w2, w3⟩ := hE.each e (List.mem_of_getElem? he)
      refine s_ifCall (Ps := [anyP, isI (lk.q : Nat), isV e.vt, isV e.vh]) (ea_cons (ev_var rfl trivial) (ea_cons (ev_vint rfl) (ea_cons (ev_ixV (i := i) (ev_var rfl rfl) ht9 (ev_vint rfl) (by rw [List.getElem?_map, he]; rfl)) (ea_cons (ev_ixV (i := i) (ev_var rfl rfl) hh9 (ev_vint rfl) (by rw [List.getElem?_map, he]; rfl)) ea_nil)))) fun vs H10 e10 ⟨v1, r1, q1, _, v2, r2, q2, p2, v3, r3, q3, p3, v4, r4, q4, p4, q5⟩ => ?_
      cases (show v2 = .int (lk.q : Nat) from p2)
      cases (show v3 = e.vt from p3)
      cases (show v4 = e.vh from p4)
      have ev : vs = [v1, .int (lk.q : Nat), e.vt, e.vh] := by rw [q1, q2, q3, q4, show r4 = [] from q5]
      obtain ⟨ptt, S1, S2, S3, b1, b2, b3, c1, c2, pfr⟩ := (EP κ _ _ _).mo (hep i e (Nat.le_refl _) he) e10
      have nb : ∀ {l : Addr} {o : HO}, H6 l = some o → ∀ d, S1 d ∨ S2 d → l ≠ d := fun hl d hd z => by
        have := (w3 d (by rcases hd with h | h; exact b1 d h; exact b2 d h)).2
        rw [← z, hl] at this; cases this
      refine ⟨e.A, S1, S2, S3, v1, e.vt, e.vh, ev, w2, ls_T κ ptt, pfr, c1, c2, fun H11 hst => ⟨true, rfl, ?_⟩⟩
      rw [if_neg (by simp)]
      have stl : ∀ {l : Addr} {o : HO} {xs : List V}, H6 l = some o → H10 l = some (.lst xs) → H11 l = some (.lst xs) := fun {l o xs} hl hx => by
        have := hst ⟨fun _ H => H l = some (.lst xs), fun h s => s _ _ h⟩ .non (fun d hd v H o o' _ h => by
          show upd H d (.lst o') l = _
          rw [upd_ne (nb hl d hd)]; exact h) hx
        exact this
      refine ⟨_, rfl, stl hlt6 (e10 _ _ ht9), stl hlh6 (e10 _ _ hh9), fun j e' hj he' => hst (EP κ e'.S e'.A e'.vt) e'.vh (fun d hd => ep_sta κ fun z => ?_) ((EP κ _ _ _).mo (hep j e' (by omega) he') e10)⟩
      obtain ⟨x1, x2⟩ := List.getElem?_eq_some_iff.mp he
      obtain ⟨y1, y2⟩ := List.getElem?_eq_some_iff.mp he'
      have := List.pairwise_iff_getElem.mp hE.dis i j x1 y1 (by omega)
      rw [x2, y2] at this
      exact this d (by rcases hd with h | h; exact b1 d h; exact b2 d h) z
    · rintro σ' H9 ⟨d, rfl, ht9, hh9, hep⟩
      dsimp only
      exact s_ret (te := tC (.bl true)) (P := isV (.bl true)) ev_c fun v9 H10 e10 h9 => by
        cases (show v9 = .bl true from h9)
        exact kq H10
end
end Tf
set_option maxRecDepth 100000
set_option maxHeartbeats 4000000
namespace Tf
open PySem PySem.Spec PyProof.Rows L2
section
variable {P : Program} {w : World} {K : PySem.W.Frag} {mg : Str → Option Value} {base : Heap} (T : Txt K mg) (p : Nat) [hP : PrimeP p]
include T
theorem ok_L_whole : Ok P w K mg base 1 ("_law_whole", none) ["_law_found"] sWhole := by
  refine T.d_L_whole.ok sc_L_whole (fun _ => rfl) fun cdv A outer s H vs Q E (n : Int) hr _ ha k => ?_
  obtain ⟨_, _, rfl, rfl, rfl⟩ := ha
  refine ⟨_, (pss_one (ps_ret (pe_and (pe_callB (isiK K) (by rfl) T.free_isinstance (by decide +kernel) (pa_cons (pv 0) (pa_cons (pe_bltn (v := .ty "int") (by rfl) T.free_int (by decide +kernel) rfl) pa_nil))) (pe_one (pe_not (pe_callB (isiK K) (by rfl) T.free_isinstance (by decide +kernel) (pa_cons (pv 0) (pa_cons (pe_bltn (v := .ty "bool") (by rfl) T.free_bool (by decide +kernel) rfl) pa_nil)))))))), ?_⟩
  exact s_ret ((ev_and (a := true) (b := true) (ev_isi (t := .type "int") (ev_vint (n := n) rfl) (fun v H1 e => by rw [show v = .int n from e]; exact .base (.int n)) rfl) fun _ => (ev_not (a := false) (ev_isi (t := .type "int") (ev_vint (n := n) rfl) (fun v H1 e => by rw [show v = .int n from e]; exact .base (.int n)) rfl)).to rfl).to rfl) fun v H1 e1 h => k v H1 e1 h
theorem okr_make : Ok P w K mg base 1 ("_law_make", none) ["_law_prime_here", "_law_number"] (lMake (kdRests (P := P) (w := w) (base := base) T p) p) := by
  refine T.d_L_make.ok sc_L_make (fun _ => rfl) fun cdv A outer s H vs Q E (n : Int) hr hn ha k => ?_
  obtain ⟨_, _, rfl, rfl, _, _, rfl, rfl, rfl⟩ := ha
  have h2 := p2 (p := p)
  refine ⟨_, (pss_cons (ps_if (pt_cmpR op_eq (pv 0) pe_int (nomark _)) (pss_one (ps_ret (pe_tup (pa_cons (pv 1) (pa_cons pe_int pa_nil))))) pss_nil)
      (pss_one (ps_ret (pe_op op_modN (pv 1) (pv 0))))), ?_⟩
  refine s_ifF ((et_test (ev_eqI (ev_vint rfl) ev_int)).to (by rw [decide_eq_false_iff_not]; omega)) fun H1 e1 => ?_
  refine s_nx ?_
  dsimp only
  refine s_ret (ev_opC (g := fun i j => i.fmod j) (ev_vint rfl) (ev_vint rfl) (show ((p : Nat) : Int) ≠ 0 by omega)) fun v H2 e2 h => k v H2 (e1.trans e2) ?_
  show v = .int (zv (ofI n : Zp p) : Nat)
  rw [← zv_ofI hn]; exact h
theorem okr_plus : Ok P w K mg base 1 ("_law_plus", none) ["_law_prime_here", "_law_one", "_law_other"] (lOp (kdRests (P := P) (w := w) (base := base) T p) p fun a b => a + b) := by
  refine T.d_L_plus.ok sc_L_plus (fun _ => rfl) fun cdv A outer s H vs Q E ⟨x, y⟩ hr hn ha k => ?_
  obtain ⟨_, _, rfl, rfl, _, _, rfl, rfl, _, _, rfl, rfl, rfl⟩ := ha
  have h2 := p2 (p := p)
  refine ⟨_, (pss_cons (ps_if (pt_cmpR op_eq (pv 0) pe_int (nomark _)) (pss_one ps_never) pss_nil)
      (pss_one (ps_ret (pe_op op_modN (pe_op op_add (pv 1) (pv 2)) (pv 0))))), ?_⟩
  refine s_ifF ((et_test (ev_eqI (ev_vint rfl) ev_int)).to (by rw [decide_eq_false_iff_not]; omega)) fun H1 e1 => ?_
  refine s_nx ?_
  dsimp only
  refine s_ret (ev_opC (g := fun i j => i.fmod j) (ev_opI (g := fun i j => i + j) (ev_vint rfl) (ev_vint rfl)) (ev_vint rfl) (show ((p : Nat) : Int) ≠ 0 by omega)) fun v H2 e2 h => k v H2 (e1.trans e2) ?_
  have e : ((zv x : Int) + (zv y : Int)).fmod (p : Int) = (zv (x + y) : Int) := by rw [zv_add, Int.fmod_eq_emod_of_nonneg _ (by omega), Int.natCast_emod, Int.natCast_add]
  show v = .int (zv (x + y) : Nat)
  rw [← e]; exact h
theorem okr_times : Ok P w K mg base 1 ("_law_times", none) ["_law_prime_here", "_law_one", "_law_other"] (lOp (kdRests (P := P) (w := w) (base := base) T p) p fun a b => a * b) := by
  refine T.d_L_times.ok sc_L_times (fun _ => rfl) fun cdv A outer s H vs Q E ⟨x, y⟩ hr hn ha k => ?_
  obtain ⟨_, _, rfl, rfl, _, _, rfl, rfl, _, _, rfl, rfl, rfl⟩ := ha
  have h2 := p2 (p := p)
  have hp := hP.lt
  have hx := zv_lt x
  have hy := zv_lt y
  refine ⟨_, (pss_cons (ps_if (pt_cmpR op_eq (pv 0) pe_int (nomark _)) (pss_one ps_never) pss_nil)
      (pss_one (ps_ret (pe_op op_modN (pe_op op_mulW (pv 1) (pv 2)) (pv 0))))), ?_⟩
  refine s_ifF ((et_test (ev_eqI (ev_vint rfl) ev_int)).to (by rw [decide_eq_false_iff_not]; omega)) fun H1 e1 => ?_
  refine s_nx ?_
  dsimp only
  refine s_ret (ev_opC (g := fun i j => i.fmod j) (ev_opC (g := fun i j => i * j) (ev_vint rfl) (ev_vint rfl) (mulw (p400 (by rw [Int.natAbs_natCast]; show zv x ≤ _; omega)) (p400 (by rw [Int.natAbs_natCast]; show zv y ≤ _; omega)))) (ev_vint rfl) (show ((p : Nat) : Int) ≠ 0 by omega)) fun v H2 e2 h => k v H2 (e1.trans e2) ?_
  have e : ((zv x : Int) * (zv y : Int)).fmod (p : Int) = (zv (x * y) : Int) := by rw [zv_mul, Int.fmod_eq_emod_of_nonneg _ (by omega), Int.natCast_emod, Int.natCast_mul]
  show v = .int (zv (x * y) : Nat)
  rw [← e]; exact h
theorem okr_isn : Ok P w K mg base 2 ("_law_is_number", none) ["_law_prime_here", "_law_found"] (lIs (kdRests (P := P) (w := w) (base := base) T p) p) := by
  refine T.d_L_is_number.ok sc_L_is_number (fun _ => rfl) fun cdv A outer s H vs Q E (x : Zp p) hr _ ha k => ?_
  obtain ⟨_, _, rfl, rfl, _, _, rfl, rfl, rfl⟩ := ha
  have h2 := p2 (p := p)
  have hx := zv_lt x
  have hr_L_whole : Room 1 _ := hr
  have G_L_whole := ok_L_whole (P := P) (w := w) (base := base) T
  refine ⟨_, (pss_cons (ps_if (pt_cmpR op_gt (pv 0) pe_int (nomark _)) (pss_one (ps_ret (pe_and (pe_call G_L_whole hr_L_whole rfl T.g_L_whole T.d_L_whole.fn.kp T.d_L_whole.bd .nil pass0 (pa_cons (pv 1) pa_nil)) (pe_one (pe_chain op_le op_lt pe_int (pv 1) (pv 0)))))) pss_nil)
      pss_never), ?_⟩
  refine s_ifT ((et_test (ev_opB (g := fun i j => decide (j < i)) (ev_vint rfl) ev_int)).to (by rw [decide_eq_true_eq]; omega)) fun H1 e1 => ?_
  refine s_ret ((ev_and (a := true) (b := true) (ev_call (S := sWhole) ((zv x : Nat) : Int) (ea_cons (ev_vint rfl) ea_nil) trivial) fun _ => (ev_chain (f := fun i j => decide (i ≤ j)) (g := fun i j => decide (i < j)) ev_int (ev_vint rfl) (ev_vint rfl)).to (by congr 1; simp; omega)).to (P' := isB true) rfl) fun v H2 e2 h => k v H2 (e1.trans e2) h
/-- a drawn rest -/
def drR (n : Int) : Zp p :=
  haveI : NeZero p := ⟨by have := p2 (p := p); omega⟩
  (⟨([0, 1, (p : Int) - 1, n / 4 % p].getD (n % 4).toNat 0).toNat % p, Nat.mod_lt _ (by have := p2 (p := p); omega)⟩ : Fin p)
theorem okr_drawn : Ok P w K mg base 1 ("_law_drawn", none) ["_law_prime_here", "_law_number"] (lDrawn (kdRests (P := P) (w := w) (base := base) T p) p (drR p)) := by
  refine T.d_L_drawn.ok sc_L_drawn (fun _ => rfl) fun cdv A outer s H vs Q E (n : Int) hr _ ha k => ?_
  obtain ⟨_, _, rfl, rfl, _, _, rfl, rfl, rfl⟩ := ha
  have h2 := p2 (p := p)
  refine ⟨_, (pss_cons (ps_if (pt_cmpR op_gt (pv 0) pe_int (nomark _)) (pss_one (ps_ret (pe_ix (ixL K) (pe_lst (pa_cons pe_int (pa_cons pe_int (pa_cons (pe_op op_sub (pv 0) pe_int) (pa_cons (pe_op op_mod (pe_op op_fdiv (pv 1) pe_int) (pv 0)) pa_nil))))) (pe_op op_mod (pv 1) pe_int) (fun _ _ => rfl)))) pss_nil)
      pss_never), ?_⟩
  have h1 := Int.emod_nonneg n (show (4 : Int) ≠ 0 by decide)
  have h3 := Int.emod_lt_of_pos n (show (0 : Int) < 4 by decide)
  have ei : n % 4 = (((n % 4).toNat : Nat) : Int) := by omega
  refine s_ifT ((et_test (ev_opB (g := fun i j => decide (j < i)) (ev_vint rfl) ev_int)).to (by rw [decide_eq_true_eq]; omega)) fun H1 e1 => ?_
  refine s_ret (ev_pick (xs := [0, 1, (p : Int) - 1, n / 4 % p]) (i := (n % 4).toNat) (ea_cons ev_int (ea_cons ev_int (ea_cons (ev_opI (g := fun i j => i - j) (ev_vint rfl) ev_int) (ea_cons (ev_opC (g := fun i j => i % j) (ev_opC (g := fun i j => i / j) (ev_vint rfl) ev_int ⟨by decide, by decide⟩) (ev_vint rfl) (show (0 : Int) < (p : Nat) by omega)) ea_nil)))) ((ev_opC (g := fun i j => i % j) (i := n) (j := 4) (ev_vint rfl) ev_int (show (0 : Int) < 4 by decide)).to (congrArg isI ei)) (by show _ < 4; omega) (by show 4 ≤ 1000; decide)) fun v H2 e2 h => k v H2 (e1.trans e2) ?_
  have e : ((zv (drR p n) : Nat) : Int) = ([0, 1, (p : Int) - 1, n / 4 % p] : List Int).getD (n % 4).toNat 0 := by
    show (((([0, 1, (p : Int) - 1, n / 4 % p] : List Int).getD (n % 4).toNat 0).toNat % p : Nat) : Int) = _
    generalize hj : (n % 4).toNat = j
    have hj4 : j < 4 := by omega
    have hb : 0 ≤ ([0, 1, (p : Int) - 1, n / 4 % p] : List Int).getD j 0 ∧ ([0, 1, (p : Int) - 1, n / 4 % p] : List Int).getD j 0 < p := by
      have q1 := Int.emod_nonneg (n / 4) (show (p : Int) ≠ 0 by omega)
      have q2 := Int.emod_lt_of_pos (n / 4) (show (0 : Int) < p by omega)
      rcases j with _ | _ | _ | _ | j
      · exact ⟨Int.le_refl 0, by show (0 : Int) < p; omega⟩
      · exact ⟨by show (0 : Int) ≤ 1; omega, by show (1 : Int) < p; omega⟩
      · exact ⟨by show (0 : Int) ≤ p - 1; omega, by show (p : Int) - 1 < p; omega⟩
      · exact ⟨q1, q2⟩
      · omega
    rw [Int.natCast_emod, Int.toNat_of_nonneg hb.1, Int.emod_eq_of_lt hb.1 hb.2]
  show v = .int (zv (drR p n) : Nat)
  rw [e]; exact h
def lkRests : LK (kdRests (P := P) (w := w) (base := base) T p) where
  q := p
  make := (okr_make T p).mono (by decide)
  plus := (okr_plus T p).mono (by decide)
  times := (okr_times T p).mono (by decide)
  isn := (okr_isn T p).mono (by decide)
  dr := drR p
  drawn := (okr_drawn T p).mono (by decide)
theorem okr_kind : Ok P w K mg base 4 ("_law_kind", none) ["_law_prime_here"] (lKind (kdRests (P := P) (w := w) (base := base) T p) p) := by
  refine T.d_L_kind.ok sc_L_kind (fun _ => rfl) fun cdv A outer s H vs Q E i hr _ ha k => ?_
  obtain ⟨_, _, rfl, rfl, rfl⟩ := ha
  have h2 := p2 (p := p)
  have hr_Rests_init : Room 3 _ := hr
  have G_Rests_init := ok_Rests_init (P := P) (w := w) (base := base) T
  refine ⟨_, (pss_cons (ps_if (pt_cmpR op_eq (pv 0) pe_int (nomark _)) (pss_one ps_never) pss_nil)
      (pss_one (ps_ret (pe_make T.mkr_Rests G_Rests_init hr_Rests_init rfl T.g_Rests T.d_Rests_init.bd .nil pass0 (pa_cons (pv 0) pa_nil))))), ?_⟩
  refine s_ifF ((et_test (ev_eqI (ev_vint rfl) ev_int)).to (by rw [decide_eq_false_iff_not]; omega)) fun H1 e1 => ?_
  refine s_nx ?_
  dsimp only
  exact s_ret (ev_Rests (p := p) (ea_cons (ev_vint rfl) ea_nil) hP.pr hP.lt) fun v H2 e2 h => k v H2 (e1.trans e2) h
omit T in
theorem al_all (κ' : @Kd (Zp p) (zpF p) inferInstance P w K mg base) (h : ∀ x, κ'.Sm x) (l : List (Zp p)) : κ'.Al l := fun z _ => h z
/-- the law over the rests of p -/
theorem ok_law_rests : FnOk P w K mg base CX0 60 (He.fAd K ("law", none)) (fdAt K (He.fAd K ("law", none))) ["_law_script"] (spLaw (kdRests (P := P) (w := w) (base := base) T p) (lkRests T p)) :=
  ok_law (kdRests T p) (lkRests T p) T ((okr_kind T p).mono (by decide)) fun cells at_ c => by
    have hs : ∀ x, (kdRests (P := P) (w := w) (base := base) T p).Sm x := fun _ => trivial
    obtain ⟨a, b⟩ := rowsBy_rect (drR p) cells at_ (sizeOf p c) (sizeOf p c)
    obtain ⟨z1, z2, _⟩ := sizeOf_ok p c
    exact ⟨al_all p _ hs _, ⟨a, b, z1, z2, al_all p _ hs _, al_all p _ hs _, al_all p _ hs _, al_all p _ hs _⟩⟩
end
end Tf
set_option maxRecDepth 100000
set_option maxHeartbeats 4000000
namespace Tf
open PySem PySem.Spec PyProof.Rows L2
/-- // by any divisor, where there is room for a great one -/
theorem op_fdivP {X : Cx} (hN : X.base.NoSeer) (ht : X.prog.given.tree = none) (hr : Room 32 X.A) (hst : X.stack = X.env :: X.outer) (hg : X.env.scope.isGenerator = false) (hc : X.env.scope.isCoroutine = false) :
    OpR X (binaryOp .FloorDiv) (rI (fun _ j => j ≠ 0) fun i j => .int (i.fdiv j)) := by
  intro pins s σ H x y v u Q I rx ry h
  obtain ⟨i, j, rfl, rfl, hj, q⟩ := h
  obtain ⟨t, rfl⟩ := rx
  obtain ⟨t', rfl⟩ := ry
  have hd : X.A.depth + Builtin.pylongFrames < recursionLimit := by
    have := hr.dp
    show X.A.depth + 100 < recursionLimit
    omega
  have hfr : X.A.frames = some (X.env :: X.outer) := by rw [I.ok.frames, hst]
  have hs : SeerAt (model X.prog X.w) X.A s.heap := PySem.SeerAt.of (hN.keeps I.bk) ht hfr hg hc I.ok.blt I.ok.glob
  exact floordiv_int hj ⟨.int (i.fdiv j), H, I.tok _, ⟨_, rfl⟩, q⟩ (.inr (PySem.PylongRoom.of I.nolimit hd hs))
end Tf
set_option maxRecDepth 100000
set_option maxHeartbeats 4000000
namespace Tf
open PySem PySem.Spec PyProof.Rows L2
/-- the bits that a fraction's parts may have -/
def LB : Nat := 67000000
structure SmF (x : Rat) : Prop where
  n : x.num.natAbs < 2 ^ LB
  d : x.den < 2 ^ LB
theorem smF_mul {a b : Int} (ha : a.natAbs < 2 ^ LB) (hb : b.natAbs < 2 ^ LB) : CMulX a b := mulx_ok ha hb (by unfold LB; omega)
section
theorem fdiv_exact {g k : Int} (h : g ≠ 0) : (g * k).fdiv g = k := Int.mul_fdiv_cancel_left k h
theorem fdiv_exactN {g k : Int} (h : g ≠ 0) : (g * k).fdiv (-g) = -k := by
  have : g * k = (-g) * (-k) := by rw [Int.neg_mul_neg]
  rw [this]
  exact fdiv_exact (by omega)
theorem div_num {top bottom : Int} (hb : bottom ≠ 0) : top.fdiv (if bottom < 0 then -(Int.gcd top bottom : Int) else (Int.gcd top bottom : Int)) = (Rat.divInt top bottom).num := by
  rw [Rat.num_divInt]
  have hg : (Int.gcd top bottom : Int) ≠ 0 := by
    have := Int.gcd_pos_of_ne_zero_right top hb
    omega
  obtain ⟨k, hk⟩ : (Int.gcd top bottom : Int) ∣ top := Int.gcd_dvd_left ..
  rw [Int.gcd_comm bottom top]
  generalize hgg : (Int.gcd top bottom : Int) = g at *
  by_cases h : bottom < 0
  · rw [if_pos h, Int.sign_eq_neg_one_of_neg h, hk, fdiv_exactN hg]
    have : -1 * (g * k) = g * (-k) := by grind
    rw [this, Int.mul_ediv_cancel_left _ hg]
  · rw [if_neg h, Int.sign_eq_one_of_pos (by omega), hk, fdiv_exact hg, Int.one_mul, Int.mul_ediv_cancel_left _ hg]
theorem div_den {top bottom : Int} (hb : bottom ≠ 0) : bottom.fdiv (if bottom < 0 then -(Int.gcd top bottom : Int) else (Int.gcd top bottom : Int)) = ((Rat.divInt top bottom).den : Int) := by
  rw [Rat.den_divInt, if_neg hb]
  have hg : 0 < (Int.gcd top bottom : Int) := by
    have := Int.gcd_pos_of_ne_zero_right top hb
    omega
  obtain ⟨k, hk⟩ : (Int.gcd top bottom : Int) ∣ bottom := Int.gcd_dvd_right ..
  rw [Int.gcd_comm bottom top]
  have hgn : 0 < Int.gcd top bottom := by omega
  generalize Int.gcd top bottom = g at *
  have hbn : bottom.natAbs = g * k.natAbs := by rw [hk, Int.natAbs_mul, Int.natAbs_natCast]
  rw [hbn, Nat.mul_div_cancel_left _ hgn]
  have hsg : bottom < 0 ↔ k < 0 := by
    rw [hk]
    constructor
    · intro h
      rcases Int.lt_or_le k 0 with z | z
      · exact z
      · have := Int.mul_nonneg (Int.le_of_lt hg) z; omega
    · intro h
      have := Int.mul_neg_of_pos_of_neg hg h; omega
  by_cases h : bottom < 0
  · rw [if_pos h, hk, fdiv_exactN (by omega)]
    have := hsg.mp h
    omega
  · rw [if_neg h, hk, fdiv_exact (by omega)]
    have : ¬ k < 0 := fun z => h (hsg.mpr z)
    omega
end
section
variable {P : Program} {w : World} {K : PySem.W.Frag} {mg : Str → Option Value} {base : Heap}
/-- a fraction: its parts, reduced -/
def fR (x : Rat) : Pr where
  p := fun v H => SmF x ∧ ∃ a, v = .ref a ∧ H a = some (.tup [.int x.num, .int (x.den : Nat)])
  mo := fun ⟨a, b, e, h⟩ s => ⟨a, b, e, s _ _ h⟩
theorem fR_tr {x : Rat} {v : V} {H : Hp} (h : (fR x).p v H) : (TR nilH [isI x.num, isI (x.den : Nat)]).p v H := by
  obtain ⟨_, a, e, h⟩ := h
  exact ⟨a, _, e, rfl, h, _, _, rfl, rfl, _, _, rfl, rfl, rfl⟩
def FO : Pr where
  p := fun v H => ∃ a dx, v = .ref a ∧ H a = some (.ins (He.ga K "Fractions") dx [])
  mo := fun ⟨a, dx, e, h⟩ s => ⟨a, dx, e, s _ _ h⟩
theorem fo_at (m : Str) : ObjOf K (He.ga K "Fractions") m (FO (K := K)) := ⟨fun ⟨a, dx, e, h1⟩ => ⟨a, dx, _, e, h1, rfl⟩⟩
def fNum : Spc where
  ι := Int × Int
  pre := fun x => x.2 ≠ 0 ∧ SmF (Rat.divInt x.1 x.2)
  args := fun x => [FO (K := K), isI x.1, isI x.2]
  post := fun x _ => fR (Rat.divInt x.1 x.2)
  an := fun _ h => h
theorem one_LB : 1 < 2 ^ LB := Nat.one_lt_two_pow (by unfold LB; decide)
variable (T : Txt K mg) (hN : base.NoSeer) (ht : P.given.tree = none)
include T hN ht
-- 0 self, 1 top, 2 bottom, 3 by
theorem ok_F_number : Ok P w K mg base 33 ("Fractions", some "number") ["self", "top", "bottom"] (fNum (K := K)) := by
  refine ok_of T.d_Fractions_number.fn sc_Fractions_number (fun _ => rfl) fun cdv A outer s H vs Q E ⟨t, b⟩ hr ⟨hb, hs⟩ ha k => ?_
  obtain ⟨ov, _, rfl, ho, _, _, rfl, rfl, _, _, rfl, rfl, rfl⟩ := ha
  have hrP : Room 32 _ := hr
  have hr_divisor : Room 1 _ := hr.mono (by decide)
  have G_divisor := ok_divisor (P := P) (w := w) (base := base) T
  have hb : b ≠ 0 := hb
  have en := div_num (top := t) hb
  have ed := div_den (top := t) hb
  have hg : (Int.gcd t b : Int) ≠ 0 := by
    have := Int.gcd_pos_of_ne_zero_right t hb
    omega
  refine ⟨_, (pss_cons (ps_if (pt_cmpR op_eq (pv 2) pe_int (nomark _)) pss_never pss_nil)
      (pss_cons (ps_set (i := 3) sc_Fractions_number.nd rfl (Or.inl rfl) (pe_call G_divisor hr_divisor rfl T.g_divisor T.d_divisor.fn.kp T.d_divisor.bd .nil pass0 (pa_cons (pv 1) (pa_cons (pv 2) pa_nil))))
      (pss_cons (ps_if (pt_cmpR op_lt (pv 2) pe_int (nomark _)) (pss_one (ps_set (i := 3) sc_Fractions_number.nd rfl (Or.inl rfl) (pe_un un_neg (pv 3)))) pss_nil)
      (pss_one (ps_ret (pe_tup (pa_cons (pe_op (op_fdivP hN ht hrP rfl rfl rfl) (pv 1) (pv 3)) (pa_cons (pe_op (op_fdivP hN ht hrP rfl rfl rfl) (pv 2) (pv 3)) pa_nil)))))))), ?_⟩
  refine s_ifF ((et_test (ev_eqI (ev_vint rfl) ev_int)).to (by rw [decide_eq_false_iff_not]; exact hb)) fun H1 e1 => ?_
  refine s_asg (ev_call (S := sDvr) (t, b) (ea_cons (ev_vint rfl) (ea_cons (ev_vint rfl) ea_nil)) trivial) fun gv H2 e2 h2 => ?_
  cases (show gv = .int (Int.gcd t b : Nat) from h2)
  refine s_if (et_test (ev_opB (g := fun i j => decide (i < j)) (ev_vint rfl) ev_int)) (fun hbb H3 e3 => ?_) (fun hbb H3 e3 => ?_)
  · have hbb := of_decide_eq_true hbb
    rw [if_pos hbb] at en ed
    refine s_asg (ev_neg (ev_vint rfl)) fun v4 H4 e4 h4 => ?_
    cases (show v4 = .int (-(Int.gcd t b : Nat)) from h4)
    dsimp only
    refine s_ret (ev_tup (Ps := [isI (Rat.divInt t b).num, isI ((Rat.divInt t b).den : Nat)]) (ea_cons ((ev_opC (g := fun i j => i.fdiv j) (i := t) (j := -(Int.gcd t b : Int)) (ev_vint rfl) (ev_vint rfl) (show -(Int.gcd t b : Int) ≠ 0 by omega)).to (congrArg isI en)) (ea_cons ((ev_opC (g := fun i j => i.fdiv j) (i := b) (j := -(Int.gcd t b : Int)) (ev_vint rfl) (ev_vint rfl) (show -(Int.gcd t b : Int) ≠ 0 by omega)).to (congrArg isI ed)) ea_nil))) fun v5 H5 e5 h5 => k v5 H5 (e1.trans (e2.trans (e3.trans (e4.trans e5)))) ?_
    obtain ⟨a, us, e, _, h, v1, r1, q1, p1, v2, r2, q2, p2, q3⟩ := h5
    cases (show v1 = .int _ from p1)
    cases (show v2 = .int _ from p2)
    exact ⟨hs, a, e, by rw [h, q1, q2, show r2 = [] from q3]⟩
  · have hbb := of_decide_eq_false hbb
    rw [if_neg hbb] at en ed
    refine s_nx ?_
    dsimp only
    refine s_ret (ev_tup (Ps := [isI (Rat.divInt t b).num, isI ((Rat.divInt t b).den : Nat)]) (ea_cons ((ev_opC (g := fun i j => i.fdiv j) (i := t) (j := (Int.gcd t b : Int)) (ev_vint rfl) (ev_vint rfl) hg).to (congrArg isI en)) (ea_cons ((ev_opC (g := fun i j => i.fdiv j) (i := b) (j := (Int.gcd t b : Int)) (ev_vint rfl) (ev_vint rfl) hg).to (congrArg isI ed)) ea_nil))) fun v5 H5 e5 h5 => k v5 H5 (e1.trans (e2.trans (e3.trans e5))) ?_
    obtain ⟨a, us, e, _, h, v1, r1, q1, p1, v2, r2, q2, p2, q3⟩ := h5
    cases (show v1 = .int _ from p1)
    cases (show v2 = .int _ from p2)
    exact ⟨hs, a, e, by rw [h, q1, q2, show r2 = [] from q3]⟩
end
end Tf
set_option maxRecDepth 100000
set_option maxHeartbeats 4000000
namespace Tf
open PySem PySem.Spec PyProof.Rows L2
section
theorem rat_add (x y : Rat) : Rat.divInt (x.num * y.den + y.num * x.den) (x.den * y.den) = x + y := by
  have hx : ((x.den : Nat) : Int) ≠ 0 := by have := x.den_nz; omega
  have hy : ((y.den : Nat) : Int) ≠ 0 := by have := y.den_nz; omega
  rw [← Rat.divInt_add_divInt _ _ hx hy, Rat.num_divInt_den, Rat.num_divInt_den]
theorem rat_mul (x y : Rat) : Rat.divInt (x.num * y.num) (x.den * y.den) = x * y := by
  rw [← Rat.divInt_mul_divInt, Rat.num_divInt_den, Rat.num_divInt_den]
theorem rat_den (x y : Rat) : ((x.den : Nat) : Int) * (y.den : Nat) ≠ 0 := by
  have hx := x.den_nz
  have hy := y.den_nz
  exact Int.mul_ne_zero (by omega) (by omega)
theorem rat_of (n : Int) : Rat.divInt n 1 = (n : Rat) := by
  apply Rat.ext
  · rw [Rat.num_divInt]; simp
  · rw [Rat.den_divInt]; simp
theorem rat_ofI {n : Int} (hn : n = 0 ∨ n = 1 ∨ n = -1) : Rat.divInt n 1 = ofI n := by
  rcases hn with rfl | rfl | rfl <;> decide +kernel
theorem smF_neg {x : Rat} (h : SmF x) : SmF (0 - x) := by
  have e : 0 - x = -x := by grind
  rw [e]
  exact ⟨by rw [Rat.neg_num, Int.natAbs_neg]; exact h.n, by rw [Rat.neg_den]; exact h.d⟩
theorem smF_inv {x : Rat} (h : SmF x) : SmF x⁻¹ := by
  refine ⟨?_, ?_⟩
  · rw [Rat.num_inv, Int.natAbs_mul, Int.natAbs_natCast]
    have : x.num.sign.natAbs ≤ 1 := by
      rcases Int.lt_trichotomy x.num 0 with z | z | z
      · rw [Int.sign_eq_neg_one_of_neg z]; decide
      · rw [z]; decide
      · rw [Int.sign_eq_one_of_pos z]; decide
    calc x.num.sign.natAbs * x.den ≤ 1 * x.den := Nat.mul_le_mul_right _ this
      _ = x.den := Nat.one_mul _
      _ < 2 ^ LB := h.d
  · rw [Rat.den_inv]
    split
    · exact one_LB
    · exact h.n
theorem smF_0 : SmF 0 := ⟨Nat.lt_trans (by decide : 0 < 1) one_LB, one_LB⟩
theorem smF_1 : SmF 1 := ⟨one_LB, one_LB⟩
end
section
variable {P : Program} {w : World} {K : PySem.W.Frag} {mg : Str → Option Value} {base : Heap} (T : Txt K mg) (hN : base.NoSeer) (ht : P.given.tree = none)
/-- number(a, b) of the fractions -/
structure Mf (P : Program) (w : World) (K : PySem.W.Frag) (mg : Str → Option Value) (base : Heap) (k : Nat) : Prop where
  cls : Cls K (He.ga K "Fractions")
  m_number : Meth K (He.ga K "Fractions") "number" (He.ma K (He.ga K "Fractions") "number")
  b_number0 : Binds K (fdAt K (He.ma K (He.ga K "Fractions") "number")) ["self", "top", "bottom"] []
  number : FnOk P w K mg base CX0 k (He.ma K (He.ga K "Fractions") "number") (fdAt K (He.ma K (He.ga K "Fractions") "number")) ["self", "top", "bottom"] (fNum (K := K)).sp
include T hN ht
theorem mf : Mf P w K mg base 33 := ⟨T.cls_Fractions, T.m_Fractions_number, T.d_Fractions_number.bd, ok_F_number T hN ht⟩
abbrev fS2 (op : Rat → Rat → Rat) : Spc := s2 SmF fR (FO (K := K)) op
theorem ok_F_plus : Ok P w K mg base 34 ("Fractions", some "plus") ["self", "one", "other"] (fS2 (K := K) fun a b => a + b) := by
  refine T.d_Fractions_plus.ok sc_Fractions_plus (fun _ => rfl) fun cdv A outer s H vs Q E ⟨x, y⟩ hr hs ha k => ?_
  obtain ⟨ov, _, rfl, ho, xv, _, rfl, hx, yv, _, rfl, hy, rfl⟩ := ha
  have hr_π : Room 33 _ := hr
  have π := mf (w := w) T hN ht
  have hx : (fR x).p xv H := hx
  have hy : (fR y).p yv H := hy
  have hs : SmF (x + y) := hs
  have sx := hx.1
  have sy := hy.1
  have dn : ∀ z : Rat, SmF z → ((z.den : Nat) : Int).natAbs < 2 ^ LB := fun z h => by rw [Int.natAbs_natCast]; exact h.d
  have tx := fR_tr hx
  have ty := fR_tr hy
  refine ⟨_, (pss_one (ps_ret (pe_meth (pv 0) π.cls π.m_number π.number hr_π π.b_number0 .nil pass0 (pa_cons (pe_op op_add (pe_op op_mulX (pe_ix (ixT K) (pv 1) pe_int (fun _ _ => rfl)) (pe_ix (ixT K) (pv 2) pe_int (fun _ _ => rfl))) (pe_op op_mulX (pe_ix (ixT K) (pv 2) pe_int (fun _ _ => rfl)) (pe_ix (ixT K) (pv 1) pe_int (fun _ _ => rfl)))) (pa_cons (pe_op op_mulX (pe_ix (ixT K) (pv 1) pe_int (fun _ _ => rfl)) (pe_ix (ixT K) (pv 2) pe_int (fun _ _ => rfl))) pa_nil))))), ?_⟩
  refine s_ret (ev_meth (S := fNum (K := K)) (x.num * y.den + y.num * x.den, (x.den : Int) * y.den) (fo_at "number") (ev_var rfl ho) (ea_cons (ev_opI (g := fun i j => i + j) (ev_opC (g := fun i j => i * j) (ev_tix (i := 0) (ev_var rfl tx) ev_int rfl) (ev_tix (i := 1) (ev_var rfl ty) ev_int rfl) (smF_mul sx.n (dn _ sy))) (ev_opC (g := fun i j => i * j) (ev_tix (i := 0) (ev_var rfl ty) ev_int rfl) (ev_tix (i := 1) (ev_var rfl tx) ev_int rfl) (smF_mul sy.n (dn _ sx)))) (ea_cons (ev_opC (g := fun i j => i * j) (ev_tix (i := 1) (ev_var rfl tx) ev_int rfl) (ev_tix (i := 1) (ev_var rfl ty) ev_int rfl) (smF_mul (dn _ sx) (dn _ sy))) ea_nil)) ⟨rat_den x y, by show SmF (Rat.divInt _ _); rw [rat_add]; exact hs⟩) fun v H1 e1 h => k v H1 e1 ?_
  have h : (fR (Rat.divInt (x.num * y.den + y.num * x.den) ((x.den : Int) * y.den))).p v H1 := h
  rw [rat_add] at h
  exact h
theorem ok_F_times : Ok P w K mg base 34 ("Fractions", some "times") ["self", "one", "other"] (fS2 (K := K) fun a b => a * b) := by
  refine T.d_Fractions_times.ok sc_Fractions_times (fun _ => rfl) fun cdv A outer s H vs Q E ⟨x, y⟩ hr hs ha k => ?_
  obtain ⟨ov, _, rfl, ho, xv, _, rfl, hx, yv, _, rfl, hy, rfl⟩ := ha
  have hr_π : Room 33 _ := hr
  have π := mf (w := w) T hN ht
  have hx : (fR x).p xv H := hx
  have hy : (fR y).p yv H := hy
  have hs : SmF (x * y) := hs
  have sx := hx.1
  have sy := hy.1
  have dn : ∀ z : Rat, SmF z → ((z.den : Nat) : Int).natAbs < 2 ^ LB := fun z h => by rw [Int.natAbs_natCast]; exact h.d
  have tx := fR_tr hx
  have ty := fR_tr hy
  refine ⟨_, (pss_one (ps_ret (pe_meth (pv 0) π.cls π.m_number π.number hr_π π.b_number0 .nil pass0 (pa_cons (pe_op op_mulX (pe_ix (ixT K) (pv 1) pe_int (fun _ _ => rfl)) (pe_ix (ixT K) (pv 2) pe_int (fun _ _ => rfl))) (pa_cons (pe_op op_mulX (pe_ix (ixT K) (pv 1) pe_int (fun _ _ => rfl)) (pe_ix (ixT K) (pv 2) pe_int (fun _ _ => rfl))) pa_nil))))), ?_⟩
  refine s_ret (ev_meth (S := fNum (K := K)) (x.num * y.num, (x.den : Int) * y.den) (fo_at "number") (ev_var rfl ho) (ea_cons (ev_opC (g := fun i j => i * j) (ev_tix (i := 0) (ev_var rfl tx) ev_int rfl) (ev_tix (i := 0) (ev_var rfl ty) ev_int rfl) (smF_mul sx.n sy.n)) (ea_cons (ev_opC (g := fun i j => i * j) (ev_tix (i := 1) (ev_var rfl tx) ev_int rfl) (ev_tix (i := 1) (ev_var rfl ty) ev_int rfl) (smF_mul (dn _ sx) (dn _ sy))) ea_nil)) ⟨rat_den x y, by show SmF (Rat.divInt _ _); rw [rat_mul]; exact hs⟩) fun v H1 e1 h => k v H1 e1 ?_
  have h : (fR (Rat.divInt (x.num * y.num) ((x.den : Int) * y.den))).p v H1 := h
  rw [rat_mul] at h
  exact h
theorem ok_F_back : Ok P w K mg base 34 ("Fractions", some "back") ["self", "one"] (sBack fR (FO (K := K))) := by
  refine T.d_Fractions_back.ok sc_Fractions_back (fun _ => rfl) fun cdv A outer s H vs Q E (x : Rat) hr hx0 ha k => ?_
  obtain ⟨ov, _, rfl, ho, xv, _, rfl, hx, rfl⟩ := ha
  have hr_π : Room 33 _ := hr
  have π := mf (w := w) T hN ht
  have hx : (fR x).p xv H := hx
  have hn : x.num ≠ 0 := fun e => hx0 (Rat.num_eq_zero.mp e)
  have tx := fR_tr hx
  refine ⟨_, (pss_one (ps_ret (pe_meth (pv 0) π.cls π.m_number π.number hr_π π.b_number0 .nil pass0 (pa_cons (pe_ix (ixT K) (pv 1) pe_int (fun _ _ => rfl)) (pa_cons (pe_ix (ixT K) (pv 1) pe_int (fun _ _ => rfl)) pa_nil))))), ?_⟩
  refine s_ret (ev_meth (S := fNum (K := K)) ((x.den : Int), x.num) (fo_at "number") (ev_var rfl ho) (ea_cons (ev_tix (i := 1) (ev_var rfl tx) ev_int rfl) (ea_cons (ev_tix (i := 0) (ev_var rfl tx) ev_int rfl) ea_nil)) ⟨hn, by show SmF (Rat.divInt _ _); rw [← Rat.inv_def]; exact smF_inv hx.1⟩) fun v H1 e1 h => k v H1 e1 ?_
  have h : (fR (Rat.divInt (x.den : Int) x.num)).p v H1 := h
  rw [← Rat.inv_def] at h
  exact h
end
end Tf
set_option maxRecDepth 100000
set_option maxHeartbeats 4000000
namespace Tf
/-! ### how many bits a fraction's parts have -/
section
structure Hb (h : Nat) (x : Rat) : Prop where
  n : x.num.natAbs ≤ 2 ^ h
  d : x.den ≤ 2 ^ h
theorem Hb.mono {a b : Nat} {x : Rat} (h : Hb a x) (k : a ≤ b) : Hb b x := ⟨Nat.le_trans h.n (Nat.pow_le_pow_right (by decide) k), Nat.le_trans h.d (Nat.pow_le_pow_right (by decide) k)⟩
theorem divInt_le {n d : Int} (hd : d ≠ 0) : (Rat.divInt n d).num.natAbs ≤ n.natAbs ∧ (Rat.divInt n d).den ≤ d.natAbs := by
  rw [Rat.num_divInt, Rat.den_divInt, if_neg hd]
  refine ⟨?_, Nat.div_le_self _ _⟩
  have hg : (Int.gcd d n : Int) ≠ 0 := by
    have := Int.gcd_pos_of_ne_zero_left n hd
    omega
  obtain ⟨k, hk⟩ : (Int.gcd d n : Int) ∣ n := Int.gcd_dvd_right ..
  have e : (d.sign * n / (Int.gcd d n : Int)) = d.sign * k := by
    conv => lhs; lhs; rw [hk]
    rw [show d.sign * ((Int.gcd d n : Int) * k) = (Int.gcd d n : Int) * (d.sign * k) by grind, Int.mul_ediv_cancel_left _ hg]
  rw [e, Int.natAbs_mul]
  have h1 : d.sign.natAbs ≤ 1 := by
    rcases Int.lt_trichotomy d 0 with z | z | z
    · rw [Int.sign_eq_neg_one_of_neg z]; decide
    · exact absurd z hd
    · rw [Int.sign_eq_one_of_pos z]; decide
  have h2 : k.natAbs ≤ n.natAbs := by
    conv => rhs; rw [hk]
    rw [Int.natAbs_mul]
    exact Nat.le_mul_of_pos_left _ (by omega)
  calc d.sign.natAbs * k.natAbs ≤ 1 * k.natAbs := Nat.mul_le_mul_right _ h1
    _ = k.natAbs := Nat.one_mul _
    _ ≤ _ := h2
theorem hb_divInt {n d : Int} {h : Nat} (hd : d ≠ 0) (h1 : n.natAbs ≤ 2 ^ h) (h2 : d.natAbs ≤ 2 ^ h) : Hb h (Rat.divInt n d) :=
  ⟨Nat.le_trans (divInt_le hd).1 h1, Nat.le_trans (divInt_le hd).2 h2⟩
theorem hb_add {a b : Nat} {x y : Rat} (hx : Hb a x) (hy : Hb b y) : Hb (a + b + 1) (x + y) := by
  rw [← rat_add]
  have m1 := Nat.mul_le_mul hx.n hy.d
  have m2 := Nat.mul_le_mul hy.n hx.d
  have m3 := Nat.mul_le_mul hx.d hy.d
  rw [← Nat.pow_add] at m1 m2 m3
  rw [Nat.add_comm b a] at m2
  refine hb_divInt (rat_den x y) ?_ ?_
  · refine Nat.le_trans (Int.natAbs_add_le _ _) ?_
    rw [Int.natAbs_mul, Int.natAbs_mul, Int.natAbs_natCast, Int.natAbs_natCast, Nat.pow_succ]
    omega
  · rw [Int.natAbs_mul, Int.natAbs_natCast, Int.natAbs_natCast, Nat.pow_succ]
    omega
theorem hb_mul {a b : Nat} {x y : Rat} (hx : Hb a x) (hy : Hb b y) : Hb (a + b) (x * y) := by
  rw [← rat_mul]
  have m1 := Nat.mul_le_mul hx.n hy.n
  have m3 := Nat.mul_le_mul hx.d hy.d
  rw [← Nat.pow_add] at m1 m3
  refine hb_divInt (rat_den x y) ?_ ?_
  · rw [Int.natAbs_mul]; exact m1
  · rw [Int.natAbs_mul, Int.natAbs_natCast, Int.natAbs_natCast]; exact m3
theorem hb_0 (h : Nat) : Hb h 0 := ⟨by show 0 ≤ _; exact Nat.zero_le _, by show 1 ≤ _; exact Nat.one_le_two_pow⟩
theorem hb_1 (h : Nat) : Hb h 1 := ⟨by show 1 ≤ _; exact Nat.one_le_two_pow, by show 1 ≤ _; exact Nat.one_le_two_pow⟩
theorem hb_neg {h : Nat} {x : Rat} (hx : Hb h x) : Hb h (0 - x) := by
  have e : 0 - x = -x := by grind
  rw [e]
  exact ⟨by rw [Rat.neg_num, Int.natAbs_neg]; exact hx.n, by rw [Rat.neg_den]; exact hx.d⟩
theorem hb_inv {h : Nat} {x : Rat} (hx : Hb h x) : Hb h x⁻¹ := by
  refine ⟨?_, ?_⟩
  · rw [Rat.num_inv, Int.natAbs_mul, Int.natAbs_natCast]
    have : x.num.sign.natAbs ≤ 1 := by
      rcases Int.lt_trichotomy x.num 0 with z | z | z
      · rw [Int.sign_eq_neg_one_of_neg z]; decide
      · rw [z]; decide
      · rw [Int.sign_eq_one_of_pos z]; decide
    calc x.num.sign.natAbs * x.den ≤ 1 * x.den := Nat.mul_le_mul_right _ this
      _ = x.den := Nat.one_mul _
      _ ≤ 2 ^ h := hx.d
  · rw [Rat.den_inv]
    split
    · exact Nat.one_le_two_pow
    · exact hx.n
theorem hb_sub {a b : Nat} {x y : Rat} (hx : Hb a x) (hy : Hb b y) : Hb (a + b + 1) (x - y) := by
  have e : x - y = x + (0 - y) := by grind
  rw [e]
  exact hb_add hx (hb_neg hy)
abbrev HL (h : Nat) (l : List Rat) : Prop := ∀ x ∈ l, Hb h x
/-- by rows -/
abbrev HW (h : Nat) (t : List (List Rat)) : Prop := ∀ r ∈ t, HL h r
theorem HL.mono {a b : Nat} {l : List Rat} (h : HL a l) (k : a ≤ b) : HL b l := fun x hx => (h x hx).mono k
theorem HW.mono {a b : Nat} {t : List (List Rat)} (h : HW a t) (k : a ≤ b) : HW b t := fun r hr => HL.mono (h r hr) k
theorem hl_nil (h : Nat) : HL h [] := fun x hx => by cases hx
theorem hl_cons {h : Nat} {x : Rat} {l : List Rat} (a : Hb h x) (b : HL h l) : HL h (x :: l) := fun y hy => by
  rcases List.mem_cons.mp hy with rfl | z
  · exact a
  · exact b y z
theorem hl_app {h : Nat} {l k : List Rat} (a : HL h l) (b : HL h k) : HL h (l ++ k) := fun y hy => by
  rcases List.mem_append.mp hy with z | z
  · exact a y z
  · exact b y z
theorem hl_map {α : Type} {h : Nat} {f : α → Rat} {l : List α} (a : ∀ x ∈ l, Hb h (f x)) : HL h (l.map f) := fun y hy => by
  obtain ⟨x, hx, rfl⟩ := List.mem_map.mp hy
  exact a x hx
theorem hl_flat {α : Type} {h : Nat} {f : α → List Rat} {l : List α} (a : ∀ x ∈ l, HL h (f x)) : HL h (l.flatMap f) := fun y hy => by
  obtain ⟨x, hx, hy⟩ := List.mem_flatMap.mp hy
  exact a x hx y hy
theorem hl_gt {h : Nat} {l : List Rat} (a : HL h l) (i : Nat) : Hb h (gt l i) := by
  by_cases z : i < l.length
  · rw [gt_get z]; exact a _ (List.getElem_mem z)
  · rw [gt_ge (by omega)]; exact hb_0 h
theorem hw_rw {h : Nat} {t : List (List Rat)} (a : HW h t) (i : Nat) : HL h (rw_ t i) := by
  by_cases z : i < t.length
  · exact a _ (rw_in z)
  · rw [rw_ge (by omega)]; exact hl_nil h
theorem hw_of {h : Nat} {t : List (List Rat)} (a : ∀ i, HL h (rw_ t i)) : HW h t := fun r hr => by
  obtain ⟨i, hi, rfl⟩ := List.getElem_of_mem hr
  rw [← rw_get hi]; exact a i
theorem hw_en {h : Nat} {t : List (List Rat)} (a : HW h t) (i j : Nat) : Hb h (gt (rw_ t i) j) := hl_gt (hw_rw a i) j
theorem hl_noughts (h n : Nat) : HL h (noughts n) := hl_map fun _ _ => hb_0 h
theorem hw_unit (h n : Nat) : HW h (unit n) := fun r hr => by
  obtain ⟨i, _, rfl⟩ := List.mem_map.mp hr
  exact hl_map fun j _ => by split; exact hb_1 h; exact hb_0 h
theorem hw_turned {h : Nat} {t : List (List Rat)} (a : HW h t) : HW h (turned t) := fun r hr => by
  obtain ⟨j, _, rfl⟩ := List.mem_map.mp hr
  exact hl_map fun r hr => hl_gt (a r hr) j
theorem hl_set {h : Nat} {l : List Rat} {i : Nat} {x : Rat} (a : HL h l) (b : Hb h x) : HL h (l.set i x) := fun y hy => by
  rcases List.mem_or_eq_of_mem_set hy with z | z
  · exact a y z
  · rw [z]; exact b
theorem hl_drop {h : Nat} {l : List Rat} (a : HL h l) : HL h l.dropLast := fun y hy => a y ((List.dropLast_sublist l).subset hy)
/-! images -/
theorem hb_dot {a b : Nat} : ∀ (xs ys : List Rat) (acc : Rat) (c : Nat), HL a xs → HL b ys → Hb c acc → HL (c + xs.length * (a + b + 1)) (dotT acc xs ys) ∧ Hb (c + xs.length * (a + b + 1)) (dotL acc xs ys)
  | x :: xs, y :: ys, acc, c, hx, hy, hc => by
    have x1 := hx x (List.mem_cons_self ..)
    have y1 := hy y (List.mem_cons_self ..)
    have p := hb_mul x1 y1
    have s := hb_add hc p
    obtain ⟨i1, i2⟩ := hb_dot xs ys (acc + x * y) (c + (a + b) + 1) (fun z hz => hx z (List.mem_cons_of_mem _ hz)) (fun z hz => hy z (List.mem_cons_of_mem _ hz)) s
    have e : c + (a + b) + 1 + xs.length * (a + b + 1) = c + (xs.length + 1) * (a + b + 1) := by rw [Nat.succ_mul]; omega
    rw [e] at i1 i2
    have l1 : a + b ≤ c + (xs.length + 1) * (a + b + 1) := by rw [Nat.succ_mul]; omega
    have l2 : c + (a + b) + 1 ≤ c + (xs.length + 1) * (a + b + 1) := by rw [Nat.succ_mul]; omega
    exact ⟨hl_cons (p.mono l1) (hl_cons (s.mono l2) i1), i2⟩
  | [], ys, acc, c, _, _, hc => ⟨by cases ys <;> exact hl_nil _, by cases ys <;> exact hc.mono (by omega)⟩
  | _ :: _, [], acc, c, _, _, hc => ⟨hl_nil _, hc.mono (by omega)⟩
theorem hb_image {a b n : Nat} {A : List (List Rat)} {v : List Rat} (hA : HW a A) (hr : ∀ r ∈ A, r.length ≤ n) (hv : HL b v) : HL (n * (a + b + 1)) (image A v) ∧ HL (n * (a + b + 1)) (imageT A v) := by
  have one : ∀ r ∈ A, HL (n * (a + b + 1)) (dotT 0 r v) ∧ Hb (n * (a + b + 1)) (dotL 0 r v) := fun r hr' => by
    obtain ⟨i1, i2⟩ := hb_dot r v 0 0 (hA r hr') hv (hb_0 0)
    have := Nat.mul_le_mul_right (a + b + 1) (hr r hr')
    exact ⟨i1.mono (by omega), i2.mono (by omega)⟩
  exact ⟨hl_map fun r hr' => (one r hr').2, hl_flat fun r hr' => (one r hr').1⟩
/-! turns -/
theorem done_app {F : Type} [Lean.Grind.Field F] : ∀ (us ws : List (Turn F)) (t : List (List F)), done t (us ++ ws) = done (done t us) ws
  | [], _, _ => rfl
  | u :: us, ws, t => done_app us ws (rowsBehind t u)
theorem doneT_app {F : Type} [Lean.Grind.Field F] : ∀ (us ws : List (Turn F)) (t : List (List F)), doneT t (us ++ ws) = doneT t us ++ doneT (done t us) ws
  | [], _, _ => rfl
  | u :: us, ws, t => by
    show rowsBehindT t u ++ doneT (rowsBehind t u) (us ++ ws) = (rowsBehindT t u ++ doneT (rowsBehind t u) us) ++ _
    rw [doneT_app us ws, List.append_assoc]
    rfl
theorem rw_set2 (t : List (List Rat)) (a : Nat) (r : List Rat) (i : Nat) : rw_ (t.set a r) i = rw_ t i ∨ (i = a ∧ rw_ (t.set a r) i = r) := by
  by_cases h : a < t.length
  · rw [rw_set h]
    split
    · rename_i e; exact .inr ⟨e, rfl⟩
    · exact .inl rfl
  · rw [List.set_eq_of_length_le (by omega)]; exact .inl rfl
theorem hb_addRow {p q k : Nat} {c : Rat} (hc : Hb k c) : ∀ (xs ys : List Rat), HL p xs → HL q ys → HL (p + (k + q) + 1) (addRow c xs ys) ∧ HL (p + (k + q) + 1) (addRowT c xs ys)
  | x :: xs, y :: ys, hx, hy => by
    obtain ⟨i1, i2⟩ := hb_addRow hc xs ys (fun z hz => hx z (List.mem_cons_of_mem _ hz)) (fun z hz => hy z (List.mem_cons_of_mem _ hz))
    have m := hb_mul hc (hy y (List.mem_cons_self ..))
    have s := hb_add (hx x (List.mem_cons_self ..)) m
    exact ⟨hl_cons s i1, hl_cons (m.mono (by omega)) (hl_cons s i2)⟩
  | [], ys, _, _ => by cases ys <;> exact ⟨hl_nil _, hl_nil _⟩
  | _ :: _, [], _, _ => ⟨hl_nil _, hl_nil _⟩
theorem hb_scale {m a : Nat} {c : Rat} {B : List (List Rat)} (hB : HW m B) (hc : Hb m c) : (∀ i, HL (if i = a then 2 * m else m) (rw_ (rowsBehind B (.scale a c)) i)) ∧ HL (2 * m) (rowsBehindT B (.scale a c)) := by
  have h1 : HL (2 * m) ((rw_ B a).map fun x => c * x) := hl_map fun x hx => (hb_mul hc (hw_rw hB a x hx)).mono (by omega)
  refine ⟨fun i => ?_, h1⟩
  show HL _ (rw_ (B.set a _) i)
  rcases rw_set2 B a ((rw_ B a).map fun x => c * x) i with e | ⟨e1, e⟩
  · rw [e]; exact HL.mono (hw_rw hB i) (by split <;> omega)
  · rw [e, if_pos e1]; exact h1
theorem hb_swap {m i j : Nat} {B : List (List Rat)} (hB : HW m B) : HW m (rowsBehind B (.swap i j)) := hw_of fun k => by
  show HL m (rw_ ((B.set i (rw_ B j)).set j (rw_ B i)) k)
  rcases rw_set2 (B.set i (rw_ B j)) j (rw_ B i) k with e | ⟨_, e⟩
  · rw [e]
    rcases rw_set2 B i (rw_ B j) k with e | ⟨_, e⟩
    · rw [e]; exact hw_rw hB k
    · rw [e]; exact hw_rw hB j
  · rw [e]; exact hw_rw hB i
theorem hb_lead {m a low c : Nat} {R B : List (List Rat)} (hB : HW m B) (hc : Hb m (gt (rw_ R low) c)) : (∀ i, HL (if i = a then 2 * m else m) (rw_ (done B (leadTurns R a low c)) i)) ∧ HL (2 * m) (doneT B (leadTurns R a low c)) := by
  unfold leadTurns
  split
  · obtain ⟨h1, h2⟩ := hb_scale (a := a) hB (hb_inv hc)
    exact ⟨h1, hl_app h2 (hl_nil _)⟩
  · obtain ⟨h1, h2⟩ := hb_scale (a := a) (hb_swap (i := a) (j := low) hB) (hb_inv hc)
    exact ⟨h1, hl_app (hl_nil _) (hl_app h2 (hl_nil _))⟩
theorem hb_clear {m a c : Nat} {R B : List (List Rat)} (hB : ∀ i, HL (if i = a then 2 * m else m) (rw_ B i)) (hc : ∀ i, i ≠ a → Hb m (gt (rw_ R i) c)) : ∀ n, (∀ i, HL (if i = a then 2 * m else if i < n then 4 * m + 1 else m) (rw_ (done B (clearTo R a c n)) i)) ∧ HL (4 * m + 1) (doneT B (clearTo R a c n))
  | 0 => ⟨fun i => by rw [if_neg (Nat.not_lt_zero i)]; exact hB i, hl_nil _⟩
  | n + 1 => by
    obtain ⟨i1, i2⟩ := hb_clear hB hc n
    show (∀ i, HL _ (rw_ (done B (clearTo R a c n ++ clearAt R a c n)) i)) ∧ HL _ (doneT B (clearTo R a c n ++ clearAt R a c n))
    rw [done_app, doneT_app]
    have keep : ∀ i, HL (if i = a then 2 * m else if i < n + 1 then 4 * m + 1 else m) (rw_ (done B (clearTo R a c n)) i) := fun i => by
      have := i1 i
      by_cases h : i = a
      · rw [if_pos h] at this ⊢; exact this
      · rw [if_neg h] at this ⊢
        exact HL.mono this (by split <;> split <;> omega)
    unfold clearAt
    split
    · exact ⟨keep, hl_app i2 (hl_nil _)⟩
    · rename_i hna
      split
      · exact ⟨keep, hl_app i2 (hl_nil _)⟩
      · generalize done B (clearTo R a c n) = C at *
        have ra := i1 a
        rw [if_pos rfl] at ra
        have rn := i1 n
        rw [if_neg hna, if_neg (Nat.lt_irrefl n)] at rn
        obtain ⟨j1, j2⟩ := hb_addRow (hb_neg (hc n hna)) (rw_ C n) (rw_ C a) rn ra
        refine ⟨fun i => ?_, hl_app i2 (hl_app (HL.mono j2 (by omega)) (hl_nil _))⟩
        show HL _ (rw_ (C.set n _) i)
        rcases rw_set2 C n (addRow (0 - gt (rw_ R n) c) (rw_ C n) (rw_ C a)) i with e | ⟨e1, e⟩
        · rw [e]; exact keep i
        · rw [e, e1, if_neg hna, if_pos (by omega)]; exact HL.mono j1 (by omega)
/-- turns that let m bits become at most m' -/
def Grow (m : Nat) (us : List (Turn Rat)) (m' : Nat) : Prop := ∀ B : List (List Rat), HW m B → HW m' (done B us) ∧ HL m' (doneT B us)
theorem Grow.app {a b c : Nat} {us ws : List (Turn Rat)} (h : Grow a us b) (k : Grow b ws c) (hbc : b ≤ c) : Grow a (us ++ ws) c := fun B hB => by
  obtain ⟨h1, h2⟩ := h B hB
  obtain ⟨k1, k2⟩ := k _ h1
  rw [done_app, doneT_app]
  exact ⟨k1, hl_app (h2.mono hbc) k2⟩
theorem grow_col {m a low c : Nat} {R : List (List Rat)} (hR : HW m R) : Grow m (leadTurns R a low c ++ clearTurns (done R (leadTurns R a low c)) a c) (4 * m + 1) := fun B hB => by
  have hc := hw_en hR low c
  obtain ⟨h1, h2⟩ := hb_lead (a := a) (c := c) (R := R) (low := low) hB hc
  obtain ⟨r1, _⟩ := hb_lead (a := a) (c := c) (R := R) (low := low) hR hc
  obtain ⟨k1, k2⟩ := hb_clear (R := done R (leadTurns R a low c)) (c := c) h1 (fun i hi => by
    have := r1 i
    rw [if_neg hi] at this
    exact hl_gt this c) (done R (leadTurns R a low c)).length
  rw [done_app, doneT_app]
  exact ⟨hw_of fun i => HL.mono (k1 i) (by split <;> (try split) <;> omega), hl_app (HL.mono h2 (by omega)) k2⟩
/-- the bits after so many leads -/
def gw : Nat → Nat → Nat
  | 0, m => m
  | l + 1, m => 4 * gw l m + 1
theorem gw_ge : ∀ l m, m ≤ gw l m
  | 0, m => Nat.le_refl _
  | l + 1, m => by have := gw_ge l m; show m ≤ 4 * gw l m + 1; omega
theorem gw_le {m : Nat} : ∀ {l k : Nat}, l ≤ k → gw l m ≤ gw k m
  | 0, k, _ => gw_ge k m
  | l + 1, 0, h => by omega
  | l + 1, k + 1, h => by have := gw_le (m := m) (show l ≤ k by omega); show 4 * gw l m + 1 ≤ 4 * gw k m + 1; omega
theorem steps_b {t : List (List Rat)} {m : Nat} (ht : HW m t) : ∀ k, (stepsTo t k).1 = done t (stepsTo t k).2.1 ∧ Grow m (stepsTo t k).2.1 (gw (stepsTo t k).2.2.length m) ∧ HL (gw (stepsTo t k).2.2.length m) (stepsToT t k) ∧ (stepsTo t k).2.2.length ≤ k
  | 0 => ⟨rfl, fun B hB => ⟨hB, hl_nil _⟩, hl_nil _, Nat.le_refl _⟩
  | k + 1 => by
    obtain ⟨i1, i2, i3, i4⟩ := steps_b ht k
    show (stepCol (stepsTo t k) k).1 = done t (stepCol (stepsTo t k) k).2.1 ∧ Grow m (stepCol (stepsTo t k) k).2.1 (gw (stepCol (stepsTo t k) k).2.2.length m) ∧ HL (gw (stepCol (stepsTo t k) k).2.2.length m) (stepsToT t k ++ stepColT (stepsTo t k) k) ∧ (stepCol (stepsTo t k) k).2.2.length ≤ k + 1
    generalize stepsToT t k = tr at *
    generalize hs : stepsTo t k = s at *
    obtain ⟨R, us, ls⟩ := s
    dsimp only at i1 i2 i3 i4
    cases hf : firstLow R ls.length k with
    | none =>
      have e1 : stepCol (R, us, ls) k = (R, us, ls) := by unfold stepCol; dsimp only; rw [hf]
      have e2 : stepColT (R, us, ls) k = [] := by unfold stepColT; dsimp only; rw [hf]
      rw [e1, e2]
      exact ⟨i1, i2, hl_app i3 (hl_nil _), by dsimp only; omega⟩
    | some low =>
      have e1 : stepCol (R, us, ls) k = (done (done R (leadTurns R ls.length low k)) (clearTurns (done R (leadTurns R ls.length low k)) ls.length k), us ++ leadTurns R ls.length low k ++ clearTurns (done R (leadTurns R ls.length low k)) ls.length k, ls ++ [k]) := by unfold stepCol; dsimp only; rw [hf]
      have e2 : stepColT (R, us, ls) k = doneT R (leadTurns R ls.length low k) ++ doneT (done R (leadTurns R ls.length low k)) (clearTurns (done R (leadTurns R ls.length low k)) ls.length k) := by unfold stepColT; dsimp only; rw [hf]
      have hR : HW (gw ls.length m) R := by rw [i1]; exact (i2 t ht).1
      have g := grow_col (a := ls.length) (low := low) (c := k) hR
      have el : (ls ++ [k]).length = ls.length + 1 := by simp
      have w : gw ls.length m ≤ 4 * gw ls.length m + 1 := by omega
      rw [e1, e2]
      dsimp only
      rw [el, List.append_assoc, ← doneT_app, done_app _ _ t, ← i1, done_app]
      exact ⟨rfl, i2.app g w, hl_app (HL.mono i3 w) (g R hR).2, by omega⟩
end
end Tf
set_option maxRecDepth 100000
set_option maxHeartbeats 4000000
namespace Tf
section
/-! solving -/
theorem steps_g {t : List (List Rat)} {m l : Nat} (ht : HW m t) (hl : (steps t).2.2.length ≤ l) : HW (gw l m) (steps t).1 ∧ Grow m (steps t).2.1 (gw l m) ∧ HL (gw l m) (stepsT t) := by
  obtain ⟨a, b, c, d⟩ := steps_b ht (ncols t)
  have g : gw (steps t).2.2.length m ≤ gw l m := gw_le hl
  have b' : Grow m (steps t).2.1 (gw l m) := fun B hB => ⟨HW.mono (b B hB).1 g, HL.mono (b B hB).2 g⟩
  refine ⟨?_, b', HL.mono c g⟩
  have a' : (steps t).1 = done t (steps t).2.1 := a
  rw [a']
  exact (b' t ht).1
theorem scGo_b {m : Nat} {right : List (List Rat)} (hr : HW m right) : ∀ (ls : List Nat) (k : Nat) (c : List Rat), HL m c → HL m (scGo right k ls c)
  | [], _, _, h => h
  | l :: ls, k, c, h => scGo_b hr ls (k + 1) _ (hl_set h (hw_en hr k 0))
theorem kcGo_b {m : Nat} {R : List (List Rat)} (hr : HW m R) (free : Nat) : ∀ (ls : List Nat) (k : Nat) (c : List Rat), HL m c → HL m (kcGo R free k ls c)
  | [], _, _, h => h
  | l :: ls, k, c, h => kcGo_b hr free ls (k + 1) _ (hl_set h (hb_neg (hw_en hr k free)))
theorem solved_b {t : List (List Rat)} {b : List Rat} {m l : Nat} (ht : HW m t) (hb : HL m b) (hl : (steps t).2.2.length ≤ l) : HL (2 * gw l m) (solvedT t b) ∧ ((solved t b).1 = true → HL (gw l m) (solved t b).2) := by
  obtain ⟨g1, g2, g3⟩ := steps_g ht hl
  have hb1 : HW m (b.map fun x => [x]) := fun r hr => by
    obtain ⟨x, hx, rfl⟩ := List.mem_map.mp hr
    exact hl_cons (hb x hx) (hl_nil _)
  obtain ⟨r1, r2⟩ := g2 _ hb1
  obtain ⟨u1, u2⟩ := g2 _ (hw_unit m t.length)
  have r1 : HW (gw l m) (rightOf t b) := r1
  unfold solvedT solved
  refine ⟨hl_app (hl_app (HL.mono g3 (by omega)) (HL.mono r2 (by omega))) ?_, ?_⟩
  · split
    · rename_i a ha
      refine hl_app (HL.mono u2 (by omega)) (hl_map fun x hx => (hb_mul (hb_inv (hw_en r1 a 0)) (hw_rw u1 a x hx)).mono (by omega))
    · exact hl_nil _
  · split
    · intro z; cases z
    · exact fun _ => scGo_b r1 _ _ _ (hl_noughts _ _)
theorem kernel_b {t : List (List Rat)} {m l : Nat} (ht : HW m t) (hl : (steps t).2.2.length ≤ l) : HW (gw l m) (kernel t) ∧ HL (gw l m) (stepsT t) := by
  obtain ⟨g1, g2, g3⟩ := steps_g ht hl
  refine ⟨fun r hr => ?_, g3⟩
  obtain ⟨j, _, rfl⟩ := List.mem_map.mp hr
  exact kcGo_b g1 _ _ _ _ (hl_set (hl_noughts _ _) (hb_1 _))
theorem inverse_b {t : List (List Rat)} {m l : Nat} (ht : HW m t) (hl : (steps t).2.2.length ≤ l) : HW (gw l m) (inverse t) ∧ HL (gw l m) (inverseT t) := by
  obtain ⟨g1, g2, g3⟩ := steps_g ht hl
  obtain ⟨u1, u2⟩ := g2 _ (hw_unit m t.length)
  exact ⟨u1, hl_app g3 u2⟩
/-! polynomials -/
theorem hl_sub {h : Nat} {l k : List Rat} (a : HL h l) (b : ∀ x ∈ k, x ∈ l) : HL h k := fun x hx => a x (b x hx)
theorem trim_sub : ∀ (f : List Rat) (x : Rat), x ∈ trim f → x ∈ f
  | [], x, h => h
  | a :: f, x, h => by
    have ih := trim_sub f x
    unfold trim at h
    split at h
    · split at h
      · cases h
      · rw [List.mem_singleton] at h; rw [h]; exact List.mem_cons_self ..
    · rename_i y ys e
      rcases List.mem_cons.mp h with z | z
      · rw [z]; exact List.mem_cons_self ..
      · exact List.mem_cons_of_mem _ (ih (by rw [e]; exact z))
theorem hl_trim {h : Nat} {l : List Rat} (a : HL h l) : HL h (trim l) := hl_sub a fun x hx => trim_sub l x hx
theorem hl_addL {a b : Nat} : ∀ (xs ys : List Rat), HL a xs → HL b ys → HL (a + b + 1) (addL xs ys)
  | x :: xs, y :: ys, hx, hy => hl_cons (hb_add (hx x (List.mem_cons_self ..)) (hy y (List.mem_cons_self ..))) (hl_addL xs ys (fun z hz => hx z (List.mem_cons_of_mem _ hz)) (fun z hz => hy z (List.mem_cons_of_mem _ hz)))
  | [], [], hx, _ => hl_nil _
  | x :: xs, [], hx, _ => HL.mono hx (by omega)
  | [], y :: ys, _, hy => HL.mono hy (by omega)
theorem pplus_b {a b : Nat} {f g : List Rat} (hf : HL a f) (hg : HL b g) : HL (a + b + 1) (pplus f g) ∧ HL (a + b + 1) (pplusT f g) := by
  have h1 := hl_addL f g hf hg
  have h2 : HL (a + b + 1) (addL g f) := HL.mono (hl_addL g f hg hf) (by omega)
  unfold pplus pplusT
  split
  · exact ⟨hl_trim h2, h2⟩
  · exact ⟨hl_trim h1, h1⟩
theorem gt_set2 (t : List Rat) (p : Nat) (x : Rat) (j : Nat) : gt (t.set p x) j = gt t j ∨ (j = p ∧ gt (t.set p x) j = x) := by
  by_cases h : p < t.length
  · rw [gt_set _ _ _ h]
    split
    · rename_i e; exact .inr ⟨e, rfl⟩
    · exact .inl rfl
  · rw [List.set_eq_of_length_le (by omega)]; exact .inl rfl
theorem hl_ofgt {h : Nat} {l : List Rat} (a : ∀ i, Hb h (gt l i)) : HL h l := fun x hx => by
  obtain ⟨i, hi, rfl⟩ := List.getElem_of_mem hx
  rw [← gt_get hi]; exact a i
theorem tpJ_b {c : Rat} {C G T : Nat} (hc : Hb C c) : ∀ (ys : List Rat) (p : Nat) (t : List Rat), HL G ys → (∀ j, Hb (if j < p then T + (C + G) + 1 else T) (gt t j)) → HL (T + (C + G) + 1) (tpJ c ys p t) ∧ HL (T + (C + G) + 1) (tpJT c ys p t)
  | [], p, t, _, h => ⟨hl_ofgt fun i => (h i).mono (by split <;> omega), hl_nil _⟩
  | y :: ys, p, t, hy, h => by
    have m := hb_mul hc (hy y (List.mem_cons_self ..))
    have hp := h p
    rw [if_neg (Nat.lt_irrefl p)] at hp
    have s := hb_add hp m
    obtain ⟨i1, i2⟩ := tpJ_b (T := T) hc ys (p + 1) (t.set p (gt t p + c * y)) (fun z hz => hy z (List.mem_cons_of_mem _ hz)) fun j => by
      rcases gt_set2 t p (gt t p + c * y) j with e | ⟨e1, e⟩
      · rw [e]; exact (h j).mono (by split <;> split <;> omega)
      · rw [e, if_pos (by omega)]; exact s
    exact ⟨i1, hl_cons (m.mono (by omega)) (hl_cons s i2)⟩
theorem tpI_b {g : List Rat} {F G : Nat} (hg : HL G g) : ∀ (xs : List Rat) (i : Nat) (t : List Rat) (T : Nat), HL F xs → HL T t → HL (T + xs.length * (F + G + 1)) (tpI g xs i t) ∧ HL (T + xs.length * (F + G + 1)) (tpIT g xs i t)
  | [], i, t, T, _, h => ⟨HL.mono h (by omega), hl_nil _⟩
  | x :: xs, i, t, T, hx, h => by
    obtain ⟨j1, j2⟩ := tpJ_b (T := T) (hx x (List.mem_cons_self ..)) g i t hg fun j => (hl_gt h j).mono (by split <;> omega)
    obtain ⟨i1, i2⟩ := tpI_b hg xs (i + 1) _ _ (fun z hz => hx z (List.mem_cons_of_mem _ hz)) j1
    have e : T + (F + G) + 1 + xs.length * (F + G + 1) = T + (xs.length + 1) * (F + G + 1) := by rw [Nat.succ_mul]; omega
    rw [e] at i1 i2
    exact ⟨i1, hl_app (HL.mono j2 (by rw [List.length_cons, Nat.succ_mul]; omega)) i2⟩
theorem ptimes_b {f g : List Rat} {F G n : Nat} (hf : HL F f) (hg : HL G g) (hn : f.length ≤ n) : HL (n * (F + G + 1)) (ptimes f g) ∧ HL (n * (F + G + 1)) (ptimesT f g) := by
  obtain ⟨a, b⟩ := tpI_b hg f 0 (noughts (f.length + g.length - 1)) 0 hf (hl_noughts _ _)
  have := Nat.mul_le_mul_right (F + G + 1) hn
  unfold ptimes ptimesT
  split
  · exact ⟨hl_nil _, hl_nil _⟩
  · exact ⟨hl_trim (HL.mono a (by omega)), HL.mono b (by omega)⟩
theorem hb_m1 (h : Nat) : Hb h (0 - 1) := hb_neg (hb_1 h)
theorem pnum_b {h : Nat} {c : Rat} (a : Hb h c) : HL h (pnum c) := hl_trim (hl_cons a (hl_nil _))
theorem pminus_b {f g : List Rat} {a b : Nat} (hf : HL a f) (hg : HL b g) : HL (a + b + 2) (pminus f g) ∧ HL (a + b + 2) (pminusT f g) := by
  obtain ⟨t1, t2⟩ := ptimes_b (n := 1) (pnum_b (hb_m1 0)) hg (pnum_len _)
  obtain ⟨p1, p2⟩ := pplus_b hf t1
  exact ⟨HL.mono p1 (by omega), hl_app (HL.mono t2 (by omega)) (HL.mono p2 (by omega))⟩
theorem dvK_b {c : Rat} {C G T : Nat} (hc : Hb C c) : ∀ (ys : List Rat) (p : Nat) (t : List Rat), HL G ys → (∀ j, Hb (if j < p then T + (C + G) + 1 else T) (gt t j)) → HL (T + (C + G) + 1) (dvK c ys p t) ∧ HL (T + (C + G) + 1) (dvKT c ys p t)
  | [], p, t, _, h => ⟨hl_ofgt fun i => (h i).mono (by split <;> omega), hl_nil _⟩
  | y :: ys, p, t, hy, h => by
    have m := hb_mul hc (hy y (List.mem_cons_self ..))
    have hp := h p
    rw [if_neg (Nat.lt_irrefl p)] at hp
    have s := hb_sub hp m
    obtain ⟨i1, i2⟩ := dvK_b (T := T) hc ys (p + 1) (t.set p (gt t p - c * y)) (fun z hz => hy z (List.mem_cons_of_mem _ hz)) fun j => by
      rcases gt_set2 t p (gt t p - c * y) j with e | ⟨e1, e⟩
      · rw [e]; exact (h j).mono (by split <;> split <;> omega)
      · rw [e, if_pos (by omega)]; exact s
    exact ⟨i1, hl_cons (m.mono (by omega)) (hl_cons s i2)⟩
theorem dvGo_b {g : List Rat} {by_ : Rat} {G Q : Nat} (hg : HL G g) (hb : Hb G by_) (h0 : 0 < g.length) : ∀ (n : Nat) (q r : List Rat) (R k : Nat), HL R r → HL Q q → k = r.length + 1 - g.length → (0 < k → 2 ^ (k - 1) * (R + 2 * G + 1) ≤ Q) →
    HL (2 ^ k * (R + 2 * G + 1)) (dvGoT by_ g n r) ∧ HL Q (dvGo by_ g n q r).1 ∧ HL (2 ^ k * (R + 2 * G + 1)) (dvGo by_ g n q r).2
  | 0, q, r, R, k, hr, hq, hk, hQ => by
    have := Nat.le_mul_of_pos_left (R + 2 * G + 1) (Nat.two_pow_pos k)
    exact ⟨hl_nil _, hq, HL.mono hr (by omega)⟩
  | n + 1, q, r, R, k, hr, hq, hk, hQ => by
    have l0 := Nat.le_mul_of_pos_left (R + 2 * G + 1) (Nat.two_pow_pos k)
    unfold dvGo dvGoT
    by_cases h : g.length ≤ r.length
    · rw [if_pos h, if_pos h]
      obtain ⟨j, rfl⟩ : ∃ j, k = j + 1 := ⟨r.length - g.length, by omega⟩
      have c1 : Hb (R + G) (lst r * by_) := hb_mul (hl_gt hr _) hb
      obtain ⟨d1, d2⟩ := dvK_b (T := R) c1 g (r.length - g.length) r hg fun j => (hl_gt hr j).mono (by split <;> omega)
      have d3 : HL (2 * R + 2 * G + 1) (dvK (lst r * by_) g (r.length - g.length) r).dropLast := HL.mono (hl_drop d1) (by omega)
      have hQ2 := hQ (by omega)
      rw [Nat.add_sub_cancel] at hQ2
      have l1 := Nat.le_mul_of_pos_left (R + 2 * G + 1) (Nat.two_pow_pos j)
      have q2 : HL Q (q ++ [lst r * by_]) := hl_app hq (hl_cons (c1.mono (by omega)) (hl_nil _))
      have e1 : 2 * R + 2 * G + 1 + 2 * G + 1 = 2 * (R + 2 * G + 1) := by omega
      have e2 : 2 ^ j * (2 * R + 2 * G + 1 + 2 * G + 1) = 2 ^ (j + 1) * (R + 2 * G + 1) := by rw [e1, Nat.pow_succ, Nat.mul_assoc]
      obtain ⟨i1, i2, i3⟩ := dvGo_b hg hb h0 n (q ++ [lst r * by_]) (dvK (lst r * by_) g (r.length - g.length) r).dropLast (2 * R + 2 * G + 1) j d3 q2 (by rw [List.length_dropLast, dvK_len]; omega) (fun hj => by
        obtain ⟨i, rfl⟩ : ∃ i, j = i + 1 := ⟨j - 1, by omega⟩
        rw [Nat.add_sub_cancel, e1, ← Nat.mul_assoc, ← Nat.pow_succ]
        exact hQ2)
      rw [e2] at i1 i3
      exact ⟨hl_app (hl_cons (c1.mono (by omega)) (HL.mono d2 (by rw [Nat.pow_succ, Nat.mul_right_comm]; omega))) i1, i2, i3⟩
    · rw [if_neg h, if_neg h]
      exact ⟨hl_nil _, hq, HL.mono hr (by omega)⟩
theorem divided_b {f g : List Rat} {R G Q k : Nat} (hf : HL R f) (hg : HL G g) (h0 : g ≠ []) (hk : k = f.length + 1 - g.length) (hQ : 0 < k → 2 ^ (k - 1) * (R + 2 * G + 1) ≤ Q) :
    HL (2 ^ k * (R + 2 * G + 1)) (dividedT f g) ∧ HL Q (divided f g).1 ∧ HL (2 ^ k * (R + 2 * G + 1)) (divided f g).2 := by
  obtain ⟨a, b, c⟩ := dvGo_b (Q := Q) hg (hb_inv (hl_gt hg _)) (List.length_pos_iff.mpr h0) (f.length + 1) [] f R k hf (hl_nil _) hk hQ
  exact ⟨a, hl_sub b fun x hx => List.mem_reverse.mp hx, hl_trim c⟩
end
end Tf
set_option maxRecDepth 100000
set_option maxHeartbeats 4000000
namespace Tf
section
/-! the common part -/
structure EuB (M : Nat) (e : Eu Rat) : Prop where
  d : HL M e.d
  r : HL M e.rest
  u : HL (2 * M) e.u
  v : HL (2 * M) e.v
  lo : HL (2 * M) e.low
  hi : HL (2 * M) e.high
theorem EuB.mono {a b : Nat} {e : Eu Rat} (h : EuB a e) (k : a ≤ b) : EuB b e := ⟨HL.mono h.d k, HL.mono h.r k, HL.mono h.u (by omega), HL.mono h.v (by omega), HL.mono h.lo (by omega), HL.mono h.hi (by omega)⟩
theorem eu_num {M s : Nat} (hM : 8 ≤ M) (hs : s ≤ 4) : 2 ^ s * (3 * M + 1) ≤ 4 * 2 ^ s * M ∧ s * (2 ^ (s - 1) * (3 * M + 1) + 2 * M + 1) + 2 * M + 2 ≤ 2 * (4 * 2 ^ s * M) ∧ M ≤ 4 * 2 ^ s * M := by
  have : s = 0 ∨ s = 1 ∨ s = 2 ∨ s = 3 ∨ s = 4 := by omega
  rcases this with rfl | rfl | rfl | rfl | rfl <;> simp only [Nat.reducePow, Nat.reduceSub] <;> omega
theorem euStep_b {e : Eu Rat} {M s : Nat} (h : EuB M e) (hM : 8 ≤ M) (hr : e.rest ≠ []) (hd : e.d.length ≤ 4) (hs : s = e.d.length + 1 - e.rest.length) : EuB (4 * 2 ^ s * M) (euStep e) ∧ HL (2 * (4 * 2 ^ s * M)) (euStepT e) := by
  have h0 := List.length_pos_iff.mpr hr
  obtain ⟨n1, n2, n3⟩ := eu_num hM (s := s) (by omega)
  have e3 : M + 2 * M + 1 = 3 * M + 1 := by omega
  obtain ⟨d1, d2, d3⟩ := divided_b (Q := 2 ^ (s - 1) * (3 * M + 1)) h.d h.r hr hs (by rw [e3]; exact fun _ => Nat.le_refl _)
  rw [e3] at d1 d3
  have ql := (divided_len (f := e.d) hr).2.2
  generalize 4 * 2 ^ s * M = M' at *
  generalize 2 ^ s * (3 * M + 1) = X at *
  obtain ⟨t1, t2⟩ := ptimes_b d2 h.lo (n := s) (by omega)
  obtain ⟨t3, t4⟩ := ptimes_b d2 h.hi (n := s) (by omega)
  generalize s * (2 ^ (s - 1) * (3 * M + 1) + 2 * M + 1) = Y at *
  obtain ⟨m1, m2⟩ := pminus_b h.u t1
  obtain ⟨m3, m4⟩ := pminus_b h.v t3
  refine ⟨⟨HL.mono h.r n3, HL.mono d3 n1, HL.mono h.lo (by omega), HL.mono h.hi (by omega), HL.mono m1 (by omega), HL.mono m3 (by omega)⟩, ?_⟩
  exact hl_app (hl_app (HL.mono d1 (by omega)) (hl_app (HL.mono t2 (by omega)) (HL.mono m2 (by omega)))) (hl_app (HL.mono t4 (by omega)) (HL.mono m4 (by omega)))
theorem euGo_b : ∀ (n : Nat) (e : Eu Rat) (M Φ : Nat), EuB M e → 8 ≤ M → e.d.length ≤ 4 → e.rest.length ≤ 4 → e.d.length + e.rest.length ≤ Φ → EuB (4 ^ n * 2 ^ Φ * M) (euGo n e) ∧ HL (2 * (4 ^ n * 2 ^ Φ * M)) (euGoT n e)
  | 0, e, M, Φ, h, _, _, _, _ => ⟨h.mono (by rw [Nat.pow_zero, Nat.one_mul]; exact Nat.le_mul_of_pos_left _ (Nat.two_pow_pos Φ)), hl_nil _⟩
  | n + 1, e, M, Φ, h, hM, h1, h2, h3 => by
    have hW : M ≤ 4 ^ (n + 1) * 2 ^ Φ * M := Nat.le_mul_of_pos_left _ (Nat.mul_pos (Nat.pow_pos (by decide)) (Nat.two_pow_pos Φ))
    unfold euGo euGoT
    by_cases hr : e.rest = []
    · rw [if_pos hr, if_pos hr]
      exact ⟨h.mono hW, hl_nil _⟩
    · rw [if_neg hr, if_neg hr]
      have h0 := List.length_pos_iff.mpr hr
      obtain ⟨s, hs⟩ : ∃ s, s = e.d.length + 1 - e.rest.length := ⟨_, rfl⟩
      obtain ⟨l1, l2, l3⟩ := divided_len (f := e.d) hr
      obtain ⟨b1, b2⟩ := euStep_b h hM hr h1 hs
      have hM2 : M ≤ 4 * 2 ^ s * M := (eu_num hM (s := s) (by omega)).2.2
      obtain ⟨i1, i2⟩ := euGo_b n (euStep e) (4 * 2 ^ s * M) (Φ - s) b1 (by omega) h2 (by show (divided e.d e.rest).2.length ≤ 4; omega) (by show e.rest.length + (divided e.d e.rest).2.length ≤ Φ - s; omega)
      have e1 : 4 ^ n * 2 ^ (Φ - s) * (4 * 2 ^ s * M) = 4 ^ (n + 1) * 2 ^ Φ * M := by
        have : 2 ^ Φ = 2 ^ (Φ - s) * 2 ^ s := by rw [← Nat.pow_add]; congr 1; omega
        rw [this, Nat.pow_succ]
        ac_rfl
      have e2 : 4 * 2 ^ s * M ≤ 4 ^ n * 2 ^ (Φ - s) * (4 * 2 ^ s * M) := Nat.le_mul_of_pos_left _ (Nat.mul_pos (Nat.pow_pos (by decide)) (Nat.two_pow_pos _))
      rw [e1] at i1 i2 e2
      exact ⟨i1, hl_app (HL.mono b2 (by omega)) i2⟩
theorem common_b {f g : List Rat} (hf : HL 56 f) (hg : HL 56 g) (lf : f.length ≤ 4) (lg : g.length ≤ 4) : HL 44040194 (commonT f g) := by
  have h0 : EuB 56 (eu0 f g) := ⟨hf, hg, pnum_b (hb_1 _), hl_nil _, hl_nil _, pnum_b (hb_1 _)⟩
  obtain ⟨a, b⟩ := euGo_b (g.length + 1) (eu0 f g) 56 8 h0 (by decide) lf lg (by show f.length + g.length ≤ 8; omega)
  have hw : 4 ^ (g.length + 1) * 2 ^ 8 * 56 ≤ 14680064 := by
    have := Nat.pow_le_pow_right (show 0 < 4 by decide) (show g.length + 1 ≤ 5 by omega)
    omega
  generalize 4 ^ (g.length + 1) * 2 ^ 8 * 56 = W at *
  unfold commonT
  dsimp only
  refine hl_app (HL.mono b (by omega)) ?_
  split
  · exact hl_nil _
  · have a : EuB W (euEnd f g) := a
    have i1 : HL W [(lst (euEnd f g).d)⁻¹] := hl_cons (hb_inv (hl_gt a.d _)) (hl_nil _)
    have l1 : [(lst (euEnd f g).d)⁻¹].length ≤ 1 := Nat.le_refl _
    exact hl_app (hl_app (HL.mono (ptimes_b i1 a.d l1).2 (by omega)) (HL.mono (ptimes_b i1 a.u l1).2 (by omega))) (HL.mono (ptimes_b i1 a.v l1).2 (by omega))
/-! ### common denominators -/
/-- times 12 so often it is a whole number of so many bits -/
def Dd (m b : Nat) (x : Rat) : Prop := ∃ z : Int, x * (12 : Rat) ^ m = (z : Rat) ∧ z.natAbs ≤ 2 ^ b
theorem rat_pow_add (a : Rat) (m : Nat) : ∀ n, a ^ (m + n) = a ^ m * a ^ n
  | 0 => by rw [Nat.add_zero, Rat.pow_zero, Rat.mul_one]
  | n + 1 => by rw [← Nat.add_assoc, Rat.pow_succ, rat_pow_add a m n, Rat.pow_succ, Rat.mul_assoc]
theorem rat_int_pow (n : Nat) : ((12 : Rat)) ^ n = (((12 : Int) ^ n : Int) : Rat) := (Rat.intCast_pow 12 n).symm
theorem Dd.up {m b : Nat} {x : Rat} (h : Dd m b x) (k : Nat) : Dd (m + k) (b + 4 * k) x := by
  obtain ⟨z, h1, h2⟩ := h
  refine ⟨z * 12 ^ k, ?_, ?_⟩
  · rw [rat_pow_add, ← Rat.mul_assoc, h1, rat_int_pow, Rat.intCast_mul]
  · rw [Int.natAbs_mul, Int.natAbs_pow, Nat.pow_add, Nat.pow_mul]
    exact Nat.mul_le_mul h2 (Nat.pow_le_pow_left (by decide) k)
theorem Dd.mono {m b c : Nat} {x : Rat} (h : Dd m b x) (k : b ≤ c) : Dd m c x := by
  obtain ⟨z, h1, h2⟩ := h
  exact ⟨z, h1, Nat.le_trans h2 (Nat.pow_le_pow_right (by decide) k)⟩
theorem Dd.to {m b m' b' : Nat} {x : Rat} (h : Dd m b x) (k1 : m ≤ m') (k2 : b + 4 * (m' - m) ≤ b') : Dd m' b' x := by
  have := h.up (m' - m)
  rw [show m + (m' - m) = m' by omega] at this
  exact this.mono k2
theorem Dd.add {m b c : Nat} {x y : Rat} (h : Dd m b x) (k : Dd m c y) (e : Nat) (hb : b ≤ e) (hc : c ≤ e) : Dd m (e + 1) (x + y) := by
  obtain ⟨z, h1, h2⟩ := h.mono hb
  obtain ⟨u, k1, k2⟩ := k.mono hc
  refine ⟨z + u, by rw [Rat.add_mul, h1, k1, Rat.intCast_add], ?_⟩
  have := Int.natAbs_add_le z u
  rw [Nat.pow_succ]; omega
theorem Dd.mul {m n b c : Nat} {x y : Rat} (h : Dd m b x) (k : Dd n c y) : Dd (m + n) (b + c) (x * y) := by
  obtain ⟨z, h1, h2⟩ := h
  obtain ⟨u, k1, k2⟩ := k
  refine ⟨z * u, ?_, ?_⟩
  · rw [rat_pow_add, Rat.intCast_mul, ← h1, ← k1]; grind
  · rw [Int.natAbs_mul, Nat.pow_add]; exact Nat.mul_le_mul h2 k2
theorem dd_0 (m b : Nat) : Dd m b 0 := ⟨0, by rw [Rat.zero_mul]; rfl, Nat.zero_le _⟩
theorem dd_1 {m b : Nat} (h : 4 * m ≤ b) : Dd m b 1 := by
  have : Dd 0 0 1 := ⟨1, by rw [Rat.pow_zero, Rat.mul_one]; rfl, by decide⟩
  exact this.to (Nat.zero_le _) (by omega)
theorem Dd.neg {m b : Nat} {x : Rat} (h : Dd m b x) : Dd m b (0 - x) := by
  obtain ⟨z, h1, h2⟩ := h
  refine ⟨-z, ?_, by rw [Int.natAbs_neg]; exact h2⟩
  rw [Rat.intCast_neg, ← h1]; grind
theorem Dd.hb {m b h : Nat} {x : Rat} (d : Dd m b x) (h1 : b ≤ h) (h2 : 4 * m ≤ h) : Hb h x := by
  obtain ⟨z, e, k⟩ := d
  have p : ((12 : Int) ^ m) ≠ 0 := by
    have := Int.pow_pos (n := 12) (m := m) (by decide)
    omega
  have ex : x = Rat.divInt z (12 ^ m) := by
    rw [Rat.divInt_eq_div, ← e, ← rat_int_pow, Rat.mul_div_cancel]
    rw [rat_int_pow]
    intro z
    rw [Rat.intCast_eq_zero_iff] at z
    exact p z
  rw [ex]
  refine hb_divInt p (Nat.le_trans k (Nat.pow_le_pow_right (by decide) h1)) ?_
  rw [Int.natAbs_pow]
  calc (12 : Int).natAbs ^ m ≤ 16 ^ m := Nat.pow_le_pow_left (by decide) m
    _ = 2 ^ (4 * m) := by rw [Nat.pow_mul]
    _ ≤ 2 ^ h := Nat.pow_le_pow_right (by decide) h2
end
end Tf
set_option maxRecDepth 100000
set_option maxHeartbeats 4000000
namespace Tf
section
abbrev DL (m b : Nat) (l : List Rat) : Prop := ∀ x ∈ l, Dd m b x
abbrev DW (m b : Nat) (t : List (List Rat)) : Prop := ∀ r ∈ t, DL m b r
theorem DL.to {m b m' b' : Nat} {l : List Rat} (h : DL m b l) (k1 : m ≤ m') (k2 : b + 4 * (m' - m) ≤ b') : DL m' b' l := fun x hx => (h x hx).to k1 k2
theorem DL.hl {m b h : Nat} {l : List Rat} (a : DL m b l) (h1 : b ≤ h) (h2 : 4 * m ≤ h) : HL h l := fun x hx => (a x hx).hb h1 h2
theorem dl_nil (m b : Nat) : DL m b [] := fun x hx => by cases hx
theorem dl_cons {m b : Nat} {x : Rat} {l : List Rat} (a : Dd m b x) (c : DL m b l) : DL m b (x :: l) := fun y hy => by
  rcases List.mem_cons.mp hy with rfl | z
  · exact a
  · exact c y z
theorem dl_app {m b : Nat} {l k : List Rat} (a : DL m b l) (c : DL m b k) : DL m b (l ++ k) := fun y hy => by
  rcases List.mem_append.mp hy with z | z
  · exact a y z
  · exact c y z
theorem dl_map {α : Type} {m b : Nat} {f : α → Rat} {l : List α} (a : ∀ x ∈ l, Dd m b (f x)) : DL m b (l.map f) := fun y hy => by
  obtain ⟨x, hx, rfl⟩ := List.mem_map.mp hy
  exact a x hx
theorem dl_flat {α : Type} {m b : Nat} {f : α → List Rat} {l : List α} (a : ∀ x ∈ l, DL m b (f x)) : DL m b (l.flatMap f) := fun y hy => by
  obtain ⟨x, hx, hy⟩ := List.mem_flatMap.mp hy
  exact a x hx y hy
theorem dl_gt {m b : Nat} {l : List Rat} (a : DL m b l) (i : Nat) : Dd m b (gt l i) := by
  by_cases z : i < l.length
  · rw [gt_get z]; exact a _ (List.getElem_mem z)
  · rw [gt_ge (by omega)]; exact dd_0 _ _
theorem dd_dot {α β m b : Nat} : ∀ (xs ys : List Rat) (acc : Rat) (c : Nat), DL α β xs → DL m b ys → Dd (α + m) c acc → β + b ≤ c → DL (α + m) (c + xs.length) (dotT acc xs ys) ∧ Dd (α + m) (c + xs.length) (dotL acc xs ys)
  | x :: xs, y :: ys, acc, c, hx, hy, hc, h => by
    have p := (hx x (List.mem_cons_self ..)).mul (hy y (List.mem_cons_self ..))
    have s := hc.add p c (Nat.le_refl _) h
    obtain ⟨i1, i2⟩ := dd_dot xs ys (acc + x * y) (c + 1) (fun z hz => hx z (List.mem_cons_of_mem _ hz)) (fun z hz => hy z (List.mem_cons_of_mem _ hz)) s (by omega)
    have e : c + 1 + xs.length = c + (xs.length + 1) := by omega
    rw [e] at i1 i2
    exact ⟨dl_cons (p.mono (by rw [List.length_cons]; omega)) (dl_cons (s.mono (by rw [List.length_cons]; omega)) i1), i2⟩
  | [], ys, acc, c, _, _, hc, _ => ⟨by cases ys <;> exact dl_nil _ _, by cases ys <;> exact hc⟩
  | _ :: _, [], acc, c, _, _, hc, _ => ⟨dl_nil _ _, hc.mono (by omega)⟩
theorem dd_image {α β m b : Nat} {A : List (List Rat)} {v : List Rat} (hA : DW α β A) (hr : ∀ r ∈ A, r.length ≤ 3) (hv : DL m b v) : DL (α + m) (β + b + 3) (image A v) ∧ DL (α + m) (β + b + 3) (imageT A v) := by
  have one : ∀ r ∈ A, DL (α + m) (β + b + 3) (dotT 0 r v) ∧ Dd (α + m) (β + b + 3) (dotL 0 r v) := fun r hr' => by
    obtain ⟨i1, i2⟩ := dd_dot r v 0 (β + b) (hA r hr') hv (dd_0 _ _) (Nat.le_refl _)
    have := hr r hr'
    exact ⟨i1.to (Nat.le_refl _) (by omega), i2.mono (by omega)⟩
  exact ⟨dl_map fun r hr' => (one r hr').2, dl_flat fun r hr' => (one r hr').1⟩
theorem pw_D {α β m b : Nat} {A : List (List Rat)} {v : List Rat} (hA : DW α β A) (hr : ∀ r ∈ A, r.length ≤ 3) (hv : DL m b v) (hab : 4 * α ≤ β + 4) : ∀ k, DL (m + α * k) (b + (β + 4) * k) (pw A v k) ∧ DL (m + α * k) (b + (β + 4) * k) (pwT A v k)
  | 0 => ⟨hv, dl_nil _ _⟩
  | k + 1 => by
    obtain ⟨i1, i2⟩ := pw_D hA hr hv hab k
    obtain ⟨j1, j2⟩ := dd_image hA hr i1
    have e1 : m + α * (k + 1) = α + (m + α * k) := by rw [Nat.mul_succ]; omega
    have e2 : b + (β + 4) * (k + 1) = β + (b + (β + 4) * k) + 4 := by rw [Nat.mul_succ]; omega
    rw [e1, e2]
    exact ⟨j1.to (Nat.le_refl _) (by omega), dl_app (i2.to (by omega) (by omega)) (j2.to (Nat.le_refl _) (by omega))⟩
theorem atCol_D {α β m b : Nat} {A : List (List Rat)} {v : List Rat} (hA : DW α β A) (hr : ∀ r ∈ A, r.length ≤ 3) (hv : DL m b v) (hab : 4 * α ≤ β + 4) : ∀ q : List Rat, DL 3 56 q → DL (m + 3 + α * q.length) (b + 56 + (β + 5) * q.length) (atCol A v q) ∧ DL (m + 3 + α * q.length) (b + 56 + (β + 5) * q.length) (atColT A v q)
  | [], _ => ⟨dl_map fun _ _ => dd_0 _ _, dl_nil _ _⟩
  | c :: q, hq => by
    obtain ⟨i1, i2⟩ := atCol_D hA hr hv hab q fun z hz => hq z (List.mem_cons_of_mem _ hz)
    obtain ⟨j1, j2⟩ := dd_image hA hr i1
    have hc := hq c (List.mem_cons_self ..)
    have e1 : m + 3 + α * (c :: q).length = α + (m + 3 + α * q.length) := by rw [List.length_cons, Nat.mul_succ]; omega
    have e2 : b + 56 + (β + 5) * (c :: q).length = β + (b + 56 + (β + 5) * q.length) + 4 + 1 := by rw [List.length_cons, Nat.mul_succ]; omega
    have e3 : 4 * (α * q.length) ≤ (β + 5) * q.length := by
      have := Nat.mul_le_mul_right q.length hab
      rw [Nat.mul_assoc] at this
      have e : (β + 5) * q.length = (β + 4) * q.length + q.length := by rw [← Nat.succ_mul]
      omega
    rw [e1, e2]
    have p : ∀ k, Dd (α + (m + 3 + α * q.length)) (β + (b + 56 + (β + 5) * q.length) + 4) (c * gt v k) := fun k => (hc.mul (dl_gt hv k)).to (by omega) (by omega)
    have s : ∀ k, Dd (α + (m + 3 + α * q.length)) (β + (b + 56 + (β + 5) * q.length) + 4 + 1) (gt (image A (atCol A v q)) k + c * gt v k) := fun k => ((dl_gt j1 k).add (p k) _ (by omega) (Nat.le_refl _))
    refine ⟨dl_map fun k _ => s k, dl_app (i2.to (by omega) (by omega)) (dl_app (j2.to (Nat.le_refl _) (by omega)) (dl_flat fun k _ => dl_cons ((p k).mono (by omega)) (dl_cons (s k) (dl_nil _ _))))⟩
/-! the least polynomial's divisors -/
def Gd (χ : List Rat) : Prop := ∀ g, Mon g → Dv (cv g) (cv χ) → DL 3 56 g ∧ HL 56 g ∧ g.length ≤ 4
theorem ptGoT_b {χ rest : List Rat} (hG : Gd χ) (hr : Mon rest) (dr : Dv (cv rest) (cv χ)) : ∀ (n : Nat) (one : List Rat), Mon one → Dv (cv one) (cv χ) → HL 44040194 (ptGoT rest n one)
  | 0, one, _, _ => hl_nil _
  | n + 1, one, ho, d => by
    obtain ⟨cm, c1, c2, _⟩ := common_spec ho hr.lz
    obtain ⟨_, o2, o3⟩ := hG one ho d
    obtain ⟨_, r2, r3⟩ := hG rest hr dr
    obtain ⟨_, k2, k3⟩ := hG _ cm (c1.trans d)
    obtain ⟨q1, q2, q3⟩ := div_mon ho cm c1
    unfold ptGoT
    refine hl_app (common_b o2 r2 o3 r3) ?_
    split
    · exact hl_nil _
    · have dd : Dv (cv (divided one (common one rest)).1) (cv one) := ⟨cv (common one rest), cv_po _, by rw [q2]; grind⟩
      obtain ⟨a, _, _⟩ := divided_b (Q := 2 ^ 4 * 169) (k := one.length + 1 - (common one rest).length) o2 k2 cm.ne rfl fun _ => by
        have := Nat.pow_le_pow_right (show 0 < 2 by decide) (show one.length + 1 - (common one rest).length - 1 ≤ 4 by omega)
        omega
      have cp := cm.pos
      have := Nat.pow_le_pow_right (show 0 < 2 by decide) (show one.length + 1 - (common one rest).length ≤ 4 by omega)
      exact hl_app (HL.mono a (by omega)) (ptGoT_b hG hr dr n _ q1 (dd.trans d))
theorem div_b56 {f g : List Rat} (hf : HL 56 f) (hg : HL 56 g) (lf : f.length ≤ 4) (h0 : g ≠ []) : HL 44040194 (dividedT f g) := by
  have gp := List.length_pos_iff.mpr h0
  obtain ⟨a, _, _⟩ := divided_b (Q := 2 ^ 4 * 169) (k := f.length + 1 - g.length) hf hg h0 rfl fun _ => by
    have := Nat.pow_le_pow_right (show 0 < 2 by decide) (show f.length + 1 - g.length - 1 ≤ 4 by omega)
    omega
  have := Nat.pow_le_pow_right (show 0 < 2 by decide) (show f.length + 1 - g.length ≤ 4 by omega)
  exact HL.mono a (by omega)
theorem parted_b {χ f g : List Rat} (hG : Gd χ) (hf : Mon f) (hg : Mon g) (df : Dv (cv f) (cv χ)) (dg : Dv (cv g) (cv χ)) (dj : Dv (cv (parted f g).1 * cv (parted f g).2) (cv χ)) : HL 44040194 (partedT f g) := by
  obtain ⟨_, f2, f3⟩ := hG f hf df
  obtain ⟨_, g2, g3⟩ := hG g hg dg
  have P := part_spec hf hg (by omega) (by omega)
  obtain ⟨cm, c1, c2, _⟩ := common_spec hf hg.lz
  obtain ⟨_, k2, k3⟩ := hG _ cm (c1.trans df)
  obtain ⟨rm, re, rl⟩ := div_mon hg cm c2
  have rm : Mon (ptRest f g) := rm
  have re : cv g = cv (ptRest f g) * cv (common f g) := re
  have rd : Dv (cv (ptRest f g)) (cv g) := ⟨cv (common f g), cv_po _, by rw [re]; grind⟩
  obtain ⟨_, r2, r3⟩ := hG _ rm (rd.trans dg)
  obtain ⟨wm, wl⟩ := mon_times hf rm
  have dw : Dv (cv (parted f g).1) (cv (ptimes f (ptRest f g))) := by
    rw [cv_ptimes]
    obtain ⟨e, pe, he⟩ := P.d1
    exact ⟨e * cv (ptRest f g), pe.mul (cv_po _), by rw [he]; grind⟩
  obtain ⟨tm, te, tl⟩ := div_mon wm P.m1 dw
  have te : cv (ptimes f (ptRest f g)) = cv (parted f g).2 * cv (parted f g).1 := te
  have dW : Dv (cv (ptimes f (ptRest f g))) (cv χ) := by
    rw [te]
    obtain ⟨e, pe, he⟩ := dj
    exact ⟨e, pe, by rw [he]; grind⟩
  obtain ⟨_, w2, w3⟩ := hG _ wm dW
  obtain ⟨_, o2, o3⟩ := hG _ P.m1 (P.d1.trans df)
  unfold partedT
  dsimp only
  exact hl_app (hl_app (hl_app (hl_app (common_b f2 g2 f3 g3) (div_b56 g2 k2 g3 cm.ne)) (HL.mono (ptimes_b f2 r2 f3).2 (by decide))) (ptGoT_b hG rm (rd.trans dg) _ _ hf df)) (div_b56 w2 o2 w3 P.m1.ne)
end
end Tf
set_option maxRecDepth 100000
set_option maxHeartbeats 4000000
namespace Tf
section
theorem dl_plusVec {m b B : Nat} {l r : List Rat} (hl : DL m b l) (hr : DL m b r) (h : b + 1 ≤ B) : DL m B (plusVec l r) := dl_map fun k _ => ((dl_gt hl k).add (dl_gt hr k) _ (Nat.le_refl _) (Nat.le_refl _)).mono h
variable {A : List (List Rat)} {n α β L : Nat} {χ : List Rat} (hA : Rect A n) (hn : A.length = n) (h0 : 0 < n) (h3 : n ≤ 3) (hD : DW α β A) (hab : 4 * α ≤ β + 4) (ha3 : α ≤ 3) (hb5 : β ≤ 56)
include hA hn h0 h3 hD hab ha3 hb5
theorem row3 : ∀ r ∈ A, r.length ≤ 3 := fun r hr => by rw [hA r hr]; exact h3
theorem joined_b {m b : Nat} {a c : List Rat × List Rat} (hG : Gd χ) (hL : χ.length ≤ L) (mχ : Mon χ) (ma : MinP (mul A n) (gt a.2) a.1) (mb : MinP (mul A n) (gt c.2) c.1) (la : a.2.length = n) (lb : c.2.length = n) (dj : Dv (cv (joined A a c).1) (cv χ)) (va : DL m b a.2) (vb : DL 0 0 c.2) (h4 : 4 * m ≤ b) (hbig : b + (57 + (β + 5) * L) ≤ 1000000 ∧ m + (3 + α * L) ≤ 10000) :
    HL 44040194 (joinedT A a c) ∧ DL (m + (3 + α * L)) (b + (57 + (β + 5) * L)) (joined A a c).2 := by
  have J := joined_spec hA hn h0 (by omega) ma mb la lb
  have r3 := row3 hA hn h0 h3 hD hab ha3 hb5
  have P := part_spec ma.mon mb.mon (by have := minp_len hA hn h0 la ma; omega) (by have := minp_len hA hn h0 lb mb; omega)
  have da := J.da.trans dj
  have db := J.db.trans dj
  have jp : (joined A a c).1 = ptimes (parted a.1 c.1).1 (parted a.1 c.1).2 := rfl
  have dj2 : Dv (cv (parted a.1 c.1).1 * cv (parted a.1 c.1).2) (cv χ) := by rw [← cv_ptimes, ← jp]; exact dj
  obtain ⟨_, a2, a3⟩ := hG a.1 ma.mon da
  obtain ⟨_, c2, c3⟩ := hG c.1 mb.mon db
  obtain ⟨_, p2, p3⟩ := hG _ P.m1 (P.d1.trans da)
  obtain ⟨_, s2, s3⟩ := hG _ P.m2 (P.d2.trans db)
  obtain ⟨qa, ea, _⟩ := div_mon ma.mon P.m1 P.d1
  obtain ⟨qb, eb, _⟩ := div_mon mb.mon P.m2 P.d2
  have dqa : Dv (cv (divided a.1 (parted a.1 c.1).1).1) (cv χ) := Dv.trans ⟨cv (parted a.1 c.1).1, cv_po _, by rw [ea]; grind⟩ da
  have dqb : Dv (cv (divided c.1 (parted a.1 c.1).2).1) (cv χ) := Dv.trans ⟨cv (parted a.1 c.1).2, cv_po _, by rw [eb]; grind⟩ db
  have lqa := dv_len qa mχ dqa
  have lqb := dv_len qb mχ dqb
  obtain ⟨l1, l2⟩ := atCol_D hD r3 va hab _ (hG _ qa dqa).1
  obtain ⟨r1, r2⟩ := atCol_D hD r3 vb hab _ (hG _ qb dqb).1
  have key : ∀ k, k ≤ L → α * k ≤ α * L ∧ (β + 5) * k + 4 * (α * L - α * k) ≤ (β + 5) * L := fun k hk => by
    have e1 : L = k + (L - k) := by omega
    have e2 : α * L = α * k + α * (L - k) := by conv => lhs; rw [e1, Nat.mul_add]
    have e3 : (β + 5) * L = (β + 5) * k + (β + 5) * (L - k) := by conv => lhs; rw [e1, Nat.mul_add]
    have e4 : 4 * (α * (L - k)) ≤ (β + 5) * (L - k) := by rw [← Nat.mul_assoc]; exact Nat.mul_le_mul_right _ (by omega)
    omega
  obtain ⟨ka1, ka2⟩ := key _ (show (divided a.1 (parted a.1 c.1).1).1.length ≤ L by omega)
  obtain ⟨kb1, kb2⟩ := key _ (show (divided c.1 (parted a.1 c.1).2).1.length ≤ L by omega)
  have l1 := l1.to (m' := m + (3 + α * L)) (b' := b + 56 + (β + 5) * L) (by omega) (by omega)
  have l2 := l2.to (m' := m + (3 + α * L)) (b' := b + 56 + (β + 5) * L) (by omega) (by omega)
  have r1 := r1.to (m' := m + (3 + α * L)) (b' := b + 56 + (β + 5) * L) (by omega) (by omega)
  have r2 := r2.to (m' := m + (3 + α * L)) (b' := b + 56 + (β + 5) * L) (by omega) (by omega)
  have w := dl_plusVec (B := b + (57 + (β + 5) * L)) l1 r1 (by omega)
  have ej : (joined A a c).2 = plusVec (atCol A a.2 (divided a.1 (parted a.1 c.1).1).1) (atCol A c.2 (divided c.1 (parted a.1 c.1).2).1) := by unfold joined; dsimp only
  rw [ej]
  refine ⟨?_, w⟩
  have et : joinedT A a c = partedT a.1 c.1 ++ dividedT a.1 (parted a.1 c.1).1 ++ atColT A a.2 (divided a.1 (parted a.1 c.1).1).1 ++ dividedT c.1 (parted a.1 c.1).2 ++ atColT A c.2 (divided c.1 (parted a.1 c.1).2).1 ++ ptimesT (parted a.1 c.1).1 (parted a.1 c.1).2 ++ plusVec (atCol A a.2 (divided a.1 (parted a.1 c.1).1).1) (atCol A c.2 (divided c.1 (parted a.1 c.1).2).1) := by unfold joinedT; dsimp only
  rw [et]
  exact hl_app (hl_app (hl_app (hl_app (hl_app (hl_app (parted_b hG ma.mon mb.mon da db dj2) (div_b56 a2 p2 a3 P.m1.ne)) (l2.hl (by omega) (by omega))) (div_b56 c2 s2 c3 P.m2.ne)) (r2.hl (by omega) (by omega))) (HL.mono (ptimes_b p2 s2 p3).2 (by decide))) (w.hl (by omega) (by omega))
theorem pw_b {v : List Rat} (hv : DL 0 0 v) : ∀ k, k ≤ 5 → HL 300 (pw A v k) ∧ HL 300 (pwT A v k) := fun k hk => by
  obtain ⟨a, b⟩ := pw_D hD (row3 hA hn h0 h3 hD hab ha3 hb5) hv hab k
  have e1 : α * k ≤ 3 * 5 := Nat.mul_le_mul ha3 hk
  have e2 : (β + 4) * k ≤ 60 * 5 := Nat.mul_le_mul (by omega) hk
  exact ⟨a.hl (by omega) (by omega), b.hl (by omega) (by omega)⟩
theorem loGoT_b {v : List Rat} (hv : DL 0 0 v) (hl : v.length = n) : ∀ fuel k, 0 < k → fuel + k ≤ 5 → HL 44040194 (loGoT A fuel (chained A v k) (pw A v k))
  | 0, _, _, _ => hl_nil _
  | fuel + 1, k, hk, hf => by
    obtain ⟨a, b, c, d⟩ := chain_t hA hn h0 hl hk
    have pb := pw_b hA hn h0 h3 hD hab ha3 hb5 hv
    have hc : HW 300 (turned (chained A v k)) := hw_turned fun r hr => by
      unfold chained at hr
      obtain ⟨j, hj, rfl⟩ := List.mem_map.mp hr
      exact (pb j (by have := List.mem_range.mp hj; omega)).1
    obtain ⟨s1, _⟩ := solved_b (l := 3) hc (pb k (by omega)).1 (by have := (steps_ok d).2.2.2; omega)
    unfold loGoT
    refine hl_app (HL.mono s1 (by decide)) ?_
    split
    · exact hl_nil _
    · have i := loGoT_b hv hl fuel (k + 1) (by omega) (by omega)
      rw [chained_succ] at i
      refine hl_app ?_ i
      have := (pb (k + 1) (by omega)).2
      exact HL.mono (fun x hx => this x (List.mem_append_right _ hx)) (by decide)
theorem leastOf_b {v : List Rat} (hv : DL 0 0 v) (hl : v.length = n) : HL 44040194 (leastOfT A v) := by
  have pb := pw_b hA hn h0 h3 hD hab ha3 hb5 hv
  unfold leastOfT
  split
  · exact hl_nil _
  · have := (pb 1 (by omega)).2
    exact hl_app (HL.mono this (by decide)) (loGoT_b hA hn h0 h3 hD hab ha3 hb5 hv hl (v.length + 1) 1 (by omega) (by omega))
theorem leastGo_b {μ ν : Nat} (eμ : μ = 3 + α * L) (eν : ν = 57 + (β + 5) * L) (hL : χ.length ≤ L) (hμ : 4 * μ ≤ ν) (hG : Gd χ) (mχ : Mon χ) : ∀ (cs : List (List Rat)) (t : List Rat × List Rat) (m b : Nat), (∀ c ∈ cs, c.length = n ∧ DL 0 0 c) → MinP (mul A n) (gt t.2) t.1 → t.2.length = n → Dv (cv (leastGo A cs t).1) (cv χ) → DL m b t.2 → 4 * m ≤ b → b + cs.length * ν ≤ 1000000 → m + cs.length * μ ≤ 10000 →
    HL 44040194 (leastGoT A cs t) ∧ DL (m + cs.length * μ) (b + cs.length * ν) (leastGo A cs t).2
  | [], t, m, b, _, _, _, _, ht, _, _, _ => ⟨hl_nil _, ht.to (by simp) (by simp)⟩
  | c :: cs, t, m, b, hc, mt, lt, hd, ht, h4, hb, hm => by
    obtain ⟨lc, dc⟩ := hc c (List.mem_cons_self ..)
    simp only [List.length_cons, Nat.add_mul, Nat.one_mul] at hb hm ⊢
    obtain ⟨lo1, lo2⟩ := leastOf_spec hA hn h0 lc
    have J := joined_spec hA hn h0 (by omega) (a := t) (b := (leastOf A c, c)) mt lo2 lt lc
    have k4 : 4 * (cs.length * μ) ≤ cs.length * ν := by
      have := Nat.mul_le_mul_left cs.length hμ
      rw [Nat.mul_left_comm] at this
      exact this
    have lb := leastOf_b hA hn h0 h3 hD hab ha3 hb5 dc lc
    unfold leastGo leastGoT
    unfold leastGo at hd
    have jb := fun d => joined_b (L := L) (a := t) (c := (leastOf A c, c)) hA hn h0 h3 hD hab ha3 hb5 hG hL mχ mt lo2 lt lc d ht dc h4 (by omega)
    rw [← eμ, ← eν] at jb
    by_cases h : A.length < (joined A t (leastOf A c, c)).1.length
    · rw [if_pos h] at hd ⊢
      rw [if_pos h]
      obtain ⟨j1, j2⟩ := jb hd
      exact ⟨hl_app (hl_app lb j1) (hl_nil _), j2.to (by omega) (by omega)⟩
    · rw [if_neg h] at hd ⊢
      rw [if_neg h]
      have sp := leastGo_spec hA hn h0 (by omega) cs (joined A t (leastOf A c, c)) (fun c hc2 => (hc c (List.mem_cons_of_mem _ hc2)).1) J.m J.l
      obtain ⟨j1, j2⟩ := jb (sp.2.2.2.2.trans hd)
      obtain ⟨i1, i2⟩ := leastGo_b eμ eν hL hμ hG mχ cs (joined A t (leastOf A c, c)) (m + μ) (b + ν) (fun c hc2 => hc c (List.mem_cons_of_mem _ hc2)) J.m J.l hd j2 (by omega) (by omega) (by omega)
      exact ⟨hl_app (hl_app lb j1) i1, i2.to (by omega) (by omega)⟩
/-- the least polynomial's way, and its column -/
theorem least_b {μ ν : Nat} (eμ : μ = 3 + α * L) (eν : ν = 57 + (β + 5) * L) (hL : n + 1 ≤ L) (hL4 : L ≤ 4) (hG : Gd (least A).1) : HL 44040194 (leastT A) ∧ DL (n * μ) (n * ν) (least A).2 := by
  have S := least_spec hA hn h0 (by omega)
  have L0 := lin_mul A n
  have e0 : gt (noughts A.length : List Rat) = fun _ => 0 := by funext i; exact gt_noughts _ i
  have m0 : MinP (mul A n) (gt (noughts A.length : List Rat)) [1] := by
    rw [e0]
    exact ⟨⟨by simp, rfl⟩, (act_lin L0 [1]).zero, fun h hl _ => by
      have : h = [] := List.length_eq_zero_iff.mp (by simp at hl; rw [hl]; rfl)
      rw [this, cv_nil]⟩
  have hμ : 4 * μ ≤ ν := by
    rw [eμ, eν]
    have : 4 * (α * L) ≤ (β + 5) * L := by rw [← Nat.mul_assoc]; exact Nat.mul_le_mul_right _ (by omega)
    omega
  have l1 : α * L ≤ 3 * 4 := Nat.mul_le_mul ha3 hL4
  have l2 : (β + 5) * L ≤ 61 * 4 := Nat.mul_le_mul (by omega) hL4
  have lu : (unit A.length : List (List Rat)).length = n := by rw [(unit_rect A.length).2, hn]
  have q1 : n * μ ≤ 3 * 15 := Nat.mul_le_mul h3 (by omega)
  have q2 : n * ν ≤ 3 * 301 := Nat.mul_le_mul h3 (by omega)
  obtain ⟨a, b⟩ := leastGo_b hA hn h0 h3 hD hab ha3 hb5 eμ eν (χ := (least A).1) (by have := S.l2; omega) hμ hG S.m.mon (unit A.length) ([1], noughts A.length) 0 0 (fun c hc => by
    refine ⟨by rw [(unit_rect A.length).1 c hc, hn], ?_⟩
    obtain ⟨i, _, rfl⟩ := List.mem_map.mp hc
    exact dl_map fun j _ => by split; exact dd_1 (Nat.le_refl _); exact dd_0 _ _) m0 (by simp [noughts, hn]) (Dv.refl _) (dl_map fun _ _ => dd_0 _ _) (Nat.le_refl _) (by rw [lu]; omega) (by rw [lu]; omega)
  rw [lu] at b
  exact ⟨a, b.to (by omega) (by omega)⟩
end
end Tf
set_option maxRecDepth 100000
set_option maxHeartbeats 4000000
namespace Tf
section
/-- a table of which all can be bounded -/
structure Good (A : List (List Rat)) (n : Nat) : Prop where
  r : Rect A n
  l : A.length = n
  n0 : 0 < n
  n3 : n ≤ 3
  e : DW 3 56 A
  e3 : n = 3 → DW 1 7 A
  g : Gd (least A).1
/-- the bits of a column and its images, by the size -/
def hN (n : Nat) : Nat := if n = 3 then 340 else 540
def aN (n : Nat) : Nat := if n = 3 then 7 else 56
def cB (n : Nat) : Nat := if n = 3 then 262290 else if n = 2 then 9186 else 540
theorem Good.a {A : List (List Rat)} {n : Nat} (h : Good A n) : HW (aN n) A := fun r hr => by
  unfold aN
  split
  · rename_i e; exact (h.e3 e r hr).hl (by decide) (by decide)
  · exact (h.e r hr).hl (by decide) (by decide)
theorem Good.least {A : List (List Rat)} {n : Nat} (h : Good A n) : HL 44040194 (leastT A) ∧ ∀ k, k + 1 ≤ n → HL (hN n) (pw A (least A).2 k) ∧ HL (hN n) (pwT A (least A).2 k) := by
  have h3 := h.n3
  by_cases e : n = 3
  · have d := h.e3 e
    obtain ⟨a, b⟩ := least_b (α := 1) (β := 7) (L := 4) h.r h.l h.n0 h3 d (by decide) (by decide) (by decide) rfl rfl (by omega) (by decide) h.g
    refine ⟨a, fun k hk => ?_⟩
    obtain ⟨p1, p2⟩ := pw_D d (row3 h.r h.l h.n0 h3 d (by decide) (by decide) (by decide)) b (by decide) k
    unfold hN
    rw [if_pos e]
    exact ⟨p1.hl (by omega) (by omega), p2.hl (by omega) (by omega)⟩
  · have d := h.e
    obtain ⟨a, b⟩ := least_b (α := 3) (β := 56) (L := 3) h.r h.l h.n0 h3 d (by decide) (by decide) (by decide) rfl rfl (by omega) (by decide) h.g
    refine ⟨a, fun k hk => ?_⟩
    obtain ⟨p1, p2⟩ := pw_D d (row3 h.r h.l h.n0 h3 d (by decide) (by decide) (by decide)) b (by decide) k
    unfold hN
    rw [if_neg e]
    exact ⟨p1.hl (by omega) (by omega), p2.hl (by omega) (by omega)⟩
theorem chained_b {A : List (List Rat)} {v : List Rat} {h d : Nat} (hp : ∀ k, k + 1 ≤ d → HL h (pw A v k)) : HW h (chained A v d) := fun r hr => by
  unfold chained at hr
  obtain ⟨k, hk, rfl⟩ := List.mem_map.mp hr
  exact hp k (by have := List.mem_range.mp hk; omega)
/-- what a split makes: the numbers of its bits -/
theorem split_b {A cs : List (List Rat)} {n d h a Y N κ : Nat} (hA : Rect A n) (hn : A.length = n) (h0 : 0 < n) (h3 : n ≤ 3) (ha : HW a A) (hc : HW h cs) (cr : Rect cs n) (cl : cs.length = d) (hf : (solved cs (wanted cs.length)).1 = true) (hY : gw d h ≤ Y) (hd : (d = 1 ∧ Y ≤ N) ∨ (d = 2 ∧ 3 * (a + Y + 1) ≤ N)) (hκ : gw d N ≤ κ) (big : κ ≤ 20000000) :
    HL 44040194 (besideT A cs) ∧ HW κ (beside A cs) := by
  have cne : cs ≠ [] := fun e => by rw [e] at cl; simp at cl; omega
  have cn : ncols cs = n := ncols_eq cr cne
  have hw : HL h (wanted cs.length) := hl_app (hl_noughts _ _) (hl_cons (hb_1 _) (hl_nil _))
  have gY : h ≤ gw d h := gw_ge d h
  have gN : N ≤ gw d N := gw_ge d N
  have lc : (steps cs).2.2.length ≤ d := by
    have := (steps_ok (t := cs) (by rw [cn]; exact cr)).2.2.2
    omega
  obtain ⟨s1, s2⟩ := solved_b hc hw lc
  have s2 := s2 hf
  have yl := solved_len hf
  rw [cn] at yl
  unfold beside besideT
  dsimp only
  generalize (solved cs (wanted cs.length)).2 = y at *
  have hne : A ≠ [] := fun e => by rw [e] at hn; simp at hn; omega
  obtain ⟨t1, t2, t3, t4⟩ := turned_rect hA hne h0
  have tA : HW a (turned A) := hw_turned ha
  have tr : ∀ r ∈ turned A, r.length ≤ 3 := fun r hr => by rw [turned_row r hr]; omega
  have NY : Y ≤ N := by rcases hd with h | h <;> omega
  have ch : HW N (chained (turned A) y cs.length) ∧ HL N (chainedT (turned A) y cs.length) := by
    have p0 : HL N (pw (turned A) y 0) := HL.mono s2 (by omega)
    rcases hd with ⟨e, _⟩ | ⟨e, h2⟩
    · rw [cl, e]
      exact ⟨chained_b fun k hk => by rw [show k = 0 by omega]; exact p0, hl_nil _⟩
    · rw [cl, e]
      obtain ⟨i1, i2⟩ := hb_image tA tr (HL.mono s2 hY)
      refine ⟨chained_b fun k hk => ?_, hl_app (hl_nil _) (HL.mono i2 h2)⟩
      rcases (show k = 0 ∨ k = 1 by omega) with rfl | rfl
      · exact p0
      · exact HL.mono i1 h2
  have Rr : Rect (chained (turned A) y cs.length) n := by
    have := chained_rect (A := turned A) (v := y) (by rw [yl, t2]) cs.length
    rw [t2] at this; exact this
  have Rl := chained_len (turned A) y cs.length
  have Rne : chained (turned A) y cs.length ≠ [] := fun e => by rw [e] at Rl; simp at Rl; omega
  have lr : (steps (chained (turned A) y cs.length)).2.2.length ≤ d := by
    have := (steps_ok (t := chained (turned A) y cs.length) (by rw [ncols_eq Rr Rne]; exact Rr)).2.2.2
    omega
  obtain ⟨k1, k2⟩ := kernel_b ch.1 lr
  exact ⟨hl_app (hl_app (HL.mono s1 (by omega)) (HL.mono ch.2 (by omega))) (HL.mono k2 (by omega)), HW.mono k1 hκ⟩
theorem within_b {A more : List (List Rat)} {n p a κ I : Nat} (h0 : 0 < n) (h3 : n ≤ 3) (hA : Rect A n) (ha : HW a A) (hm : HW κ more) (mr : Rect more n) (ml : more.length = p) (mne : more ≠ []) (hI : 3 * (a + κ + 1) ≤ I) (big : gw p I ≤ 20000000) :
    HL 44040194 (withinT A more) := by
  obtain ⟨t1, t2, t3, t4⟩ := turned_rect mr mne h0
  refine hl_flat fun c hc => ?_
  obtain ⟨i1, i2⟩ := hb_image (n := 3) ha (fun r hr => by rw [hA r hr]; exact h3) (hm c hc)
  have gI : I ≤ gw p I := gw_ge p I
  obtain ⟨s1, _⟩ := solved_b (l := p) (t := turned more) (b := image A c) (m := I) (hw_turned (HW.mono hm (by omega))) (HL.mono i1 hI) (by
    have := (steps_b (t := turned more) (hw_turned hm) (ncols (turned more))).2.2.2
    rw [t3, ml] at this
    have e : (steps (turned more)).2.2 = (stepsTo (turned more) p).2.2 := by unfold steps; rw [t3, ml]
    rw [e]; exact this)
  exact hl_app (HL.mono i2 (by omega)) (HL.mono s1 (by omega))
/-- the table within, of a least polynomial of degree 1 -/
theorem small_M {M : List (List Rat)} {p : Nat} (hM : Rect M p) (hl : M.length = p) (h0 : 0 < p) (h3 : p ≤ 2) (hG : Gd (least M).1) (h2 : (least M).1.length = 2) : Good M p := by
  have S := least_spec hM hl h0 (by omega)
  refine ⟨hM, hl, h0, by omega, fun r hr x hx => ?_, fun e => (by omega), hG⟩
  obtain ⟨i, hi, rfl⟩ := List.getElem_of_mem hr
  obtain ⟨j, hj, rfl⟩ := List.getElem_of_mem hx
  have hG := (hG _ S.m.mon (Dv.refl _)).1
  have mm := S.m.mon.m
  have z := S.z
  generalize (least M).1 = f at *
  obtain ⟨a, b, rfl⟩ : ∃ a b, f = [a, b] := by
    match f, h2 with
    | [a, b], _ => exact ⟨a, b, rfl⟩
  have hb : b = 1 := mm
  subst hb
  have hj2 : j < p := by rw [hM _ hr] at hj; exact hj
  have := congrFun (z (ev j) (fun k hk => by unfold ev; rw [if_neg (by omega)])) i
  have e0 : act (mul M p) [] (ev j) = fun _ => (0 : Rat) := rfl
  have e1 : act (mul M p) [1] (ev j) = ev j := by
    funext k
    show 1 * ev j k + mul M p (act (mul M p) [] (ev j)) k = ev j k
    rw [e0, mul_zero]; grind
  have e2 : act (mul M p) [a, 1] (ev j) i = a * ev j i + mul M p (act (mul M p) [1] (ev j)) i := rfl
  rw [e2, e1] at this
  have e3 : mul M p (ev j) i = M[i][j] := by
    have : mul M p (ev j) i = en M i j := by
      unfold mul
      rw [sm_one hj2 (fun k _ hk => by unfold ev; rw [if_neg hk]; exact f_mul_zero _)]
      unfold ev; rw [if_pos rfl]; exact f_mul_one _
    rw [this]
    unfold en
    rw [rw_get hi, gt_get hj]
  rw [e3] at this
  have da := hG a (List.mem_cons_self ..)
  unfold ev at this
  split at this
  · have : M[i][j] = 0 - a := by grind
    rw [this]; exact da.neg
  · have : M[i][j] = 0 := by grind
    rw [this]; exact dd_0 _ _
end
end Tf
set_option maxRecDepth 100000
set_option maxHeartbeats 4000000
namespace Tf
section
theorem within_sq {A more : List (List Rat)} {n p : Nat} (h0 : 0 < n) (mr : Rect more n) (ml : more.length = p) (mne : more ≠ []) (wok : ∀ c ∈ more, (solved (turned more) (image A c)).1 = true) : Rect (within A more) p ∧ (within A more).length = p := by
  obtain ⟨tm1, tm2, tm3, tm4⟩ := turned_rect mr mne h0
  have xr : Rect (more.map fun c => (solved (turned more) (image A c)).2) p := fun r hr => by
    obtain ⟨c, hc, rfl⟩ := List.mem_map.mp hr
    show (solved (turned more) (image A c)).2.length = p
    rw [solved_len (wok c hc), tm3, ml]
  have xne : (more.map fun c => (solved (turned more) (image A c)).2) ≠ [] := by simpa using mne
  have p0 : 0 < p := by rw [← ml]; exact List.length_pos_iff.mpr mne
  obtain ⟨M1, M2, M3, M4⟩ := turned_rect xr xne p0
  refine ⟨?_, M2⟩
  have : Rect (within A more) (ncols (within A more)) := M4
  have e : ncols (within A more) = p := by
    show ncols (turned _) = p
    rw [M3, List.length_map, ml]
  rwa [e] at this
theorem parts_head {F : Type} [Lean.Grind.Field F] [DecidableEq F] {k : Nat} (h : 0 < k) (M : List (List F)) : (parts k M).1.head? = some (least M).1 := by
  cases k with
  | zero => omega
  | succ k =>
    show (if _ then _ else _ : List (List F) × List (List F)).1.head? = _
    split <;> rfl
theorem parts_step {k : Nat} (ih : ∀ (n : Nat) (A : List (List Rat)), n ≤ k → Good A n → HL 44040194 (partsT k A) ∧ HW (cB n) (parts k A).2) {n : Nat} {A : List (List Rat)} (hk : n ≤ k + 1) (h : Good A n) : HL 44040194 (partsT (k + 1) A) ∧ HW (cB n) (parts (k + 1) A).2 := by
    have S := least_spec h.r h.l h.n0 (by have := h.n3; omega)
    have PS := parts_spec (k + 1) n A hk h.r h.l h.n0 (by have := h.n3; omega)
    obtain ⟨lb, pb⟩ := h.least
    have ha := h.a
    have h0 := h.n0
    have h3 := h.n3
    have hG := h.g
    have hl := h.l
    have hr := h.r
    have sl1 := S.l1
    have sl2 := S.l2
    have mf := S.m.mon
    obtain ⟨d, hd⟩ : ∃ d, (least A).1.length = d + 1 := ⟨(least A).1.length - 1, by omega⟩
    have hd1 : (least A).1.length - 1 = d := by omega
    have cl := chained_len A (least A).2 d
    have cw : HW (hN n) (chained A (least A).2 d) := chained_b fun j hj => (pb j (by omega)).1
    have ct : HL (hN n) (chainedT A (least A).2 d) := (pb (d - 1) (by omega)).2
    have nN : hN n ≤ 540 := by unfold hN; split <;> omega
    have ct := HL.mono ct (show hN n ≤ 44040194 by omega)
    by_cases hdn : d = n
    · have e1 : partsT (k + 1) A = leastT A ++ chainedT A (least A).2 d ++ [] := by
        show leastT A ++ chainedT A (least A).2 ((least A).1.length - 1) ++ (if _ then _ else _) = _
        rw [hd1, if_pos (by rw [cl, hdn, hl])]
      have e2 : parts (k + 1) A = ([(least A).1], chained A (least A).2 d) := by
        show (if _ then _ else _) = _
        rw [hd1, if_pos (by rw [cl, hdn, hl])]
      rw [e1, e2]
      refine ⟨hl_app (hl_app lb ct) (hl_nil _), HW.mono cw ?_⟩
      unfold cB hN
      split
      · omega
      · split <;> omega
    · have ne : ¬ (chained A (least A).2 d).length = A.length := by omega
      have e1 : partsT (k + 1) A = leastT A ++ chainedT A (least A).2 d ++ (besideT A (chained A (least A).2 d) ++ withinT A (beside A (chained A (least A).2 d)) ++ partsT k (within A (beside A (chained A (least A).2 d))) ++ (parts k (within A (beside A (chained A (least A).2 d)))).2.flatMap fun o => imageT (turned (beside A (chained A (least A).2 d))) o) := by
        show leastT A ++ chainedT A (least A).2 ((least A).1.length - 1) ++ (if _ then _ else _) = _
        rw [hd1, if_neg ne]
      have e2 : parts (k + 1) A = ((least A).1 :: (parts k (within A (beside A (chained A (least A).2 d)))).1, chained A (least A).2 d ++ (parts k (within A (beside A (chained A (least A).2 d)))).2.map fun o => image (turned (beside A (chained A (least A).2 d))) o) := by
        show (if _ then _ else _) = _
        rw [hd1, if_neg ne]
      obtain ⟨q1, q2, q3, q4, q5, q6, q7, q8⟩ := PS.ok
      have q8 := q8.resolve_left (by omega)
      dsimp only at q8
      rw [hd1] at q8
      obtain ⟨bok, mne, m15, mr, wok, iok, ol, _, _⟩ := q8
      have chn := PS.ch
      have psl := PS.l
      rw [e2] at chn psl
      dsimp only at chn psl
      rw [e1, e2]
      dsimp only
      rw [hl] at mr
      have cr : Rect (chained A (least A).2 d) n := by
        have := chained_rect (A := A) (v := (least A).2) (by rw [S.l, hl]) d
        rw [hl] at this; exact this
      generalize hcs : chained A (least A).2 d = cs at *
      generalize hmore : beside A cs = more at *
      obtain ⟨p, hp⟩ : ∃ p, more.length = p := ⟨_, rfl⟩
      have p0 : 0 < p := by rw [← hp]; exact List.length_pos_iff.mpr mne
      obtain ⟨Mr, Ml⟩ := within_sq h0 mr hp mne wok
      -- sizes
      have kl := PS.kl d hd (by omega)
      rw [hcs, hmore, hp] at kl
      have g1 := hG _ mf (Dv.refl _)
      have SM := least_spec Mr Ml p0 (by omega)
      -- the least polynomial within divides this one
      obtain ⟨_, _, hdv, _⟩ := chn
      have hh := parts_head (show 0 < k by omega) (within A more)
      have dM : Dv (cv (least (within A more)).1) (cv (least A).1) := hdv _ (by rw [hh]; rfl)
      have hGM : Gd (least (within A more)).1 := fun g mg dg => hG g mg (dg.trans dM)
      have lM := dv_len SM.m.mon mf dM
      have GM : Good (within A more) p := small_M Mr Ml p0 (by omega) hGM (by have := SM.l1; have := SM.l2; omega)
      obtain ⟨i1, i2⟩ := ih p (within A more) (by omega) GM
      -- what is beside
      obtain ⟨Y, N, κ, I, C, z1, z2, z3, z4, z5, z6, z7, z8⟩ : ∃ Y N κ I C, gw d (hN n) ≤ Y ∧ ((d = 1 ∧ Y ≤ N) ∨ (d = 2 ∧ 3 * (aN n + Y + 1) ≤ N)) ∧ gw d N ≤ κ ∧ κ ≤ 20000000 ∧ 3 * (aN n + κ + 1) ≤ I ∧ gw p I ≤ 20000000 ∧ p * (κ + cB p + 1) ≤ cB n ∧ hN n ≤ cB n := by
        have : (n = 2 ∧ d = 1 ∧ p = 1) ∨ (n = 3 ∧ d = 1 ∧ p = 2) ∨ (n = 3 ∧ d = 2 ∧ p = 1) := by omega
        rcases this with ⟨rfl, rfl, rfl⟩ | ⟨rfl, rfl, rfl⟩ | ⟨rfl, rfl, rfl⟩
        · exact ⟨2161, 2161, 8645, 26106, 0, by decide, .inl ⟨rfl, by decide⟩, by decide, by decide, by decide, by decide, by decide, by decide⟩
        · exact ⟨1361, 1361, 5445, 16359, 0, by decide, .inl ⟨rfl, by decide⟩, by decide, by decide, by decide, by decide, by decide, by decide⟩
        · exact ⟨5445, 16359, 261749, 785271, 0, by decide, .inr ⟨rfl, by decide⟩, by decide, by decide, by decide, by decide, by decide, by decide⟩
      obtain ⟨b1, b2⟩ := split_b hr hl h0 h3 ha cw cr cl bok z1 z2 z3 z4
      rw [hmore] at b2
      have wb := within_b h0 h3 hr ha b2 mr hp mne z5 z6
      have tm := hw_turned b2
      have trow : ∀ r ∈ turned more, r.length ≤ p := fun r hr => by rw [turned_row r hr]; omega
      have cBn : cB n ≤ 262290 := by unfold cB; split <;> (try split) <;> omega
      have im : ∀ o ∈ (parts k (within A more)).2, HL (cB n) (image (turned more) o) ∧ HL (cB n) (imageT (turned more) o) := fun o ho => by
        obtain ⟨j1, j2⟩ := hb_image tm trow (i2 o ho)
        exact ⟨HL.mono j1 z7, HL.mono j2 z7⟩
      refine ⟨hl_app (hl_app lb ct) (hl_app (hl_app (hl_app b1 wb) i1) (hl_flat fun o ho => HL.mono (im o ho).2 (by omega))), fun r hr => ?_⟩
      rcases List.mem_append.mp hr with z | z
      · exact HL.mono (cw r z) z8
      · obtain ⟨o, ho, rfl⟩ := List.mem_map.mp z
        exact (im o ho).1
theorem parts_b : ∀ (k n : Nat) (A : List (List Rat)), n ≤ k → Good A n → HL 44040194 (partsT k A) ∧ HW (cB n) (parts k A).2
  | 0, n, A, hk, h => by have := h.n0; omega
  | k + 1, n, A, hk, h => parts_step (parts_b k) hk h
end
end Tf
set_option maxRecDepth 100000
set_option maxHeartbeats 4000000
namespace Tf
section
/-! ### roots -/
theorem int_root {z : Rat} {T S D : Int} (h : z * z * z + T * (z * z) + S * z + D = 0) : ∃ k : Int, z = k ∧ k * k * k + T * (k * k) + S * k + D = 0 := by
  have hq : ((z.den : Nat) : Rat) ≠ 0 := fun e => z.den_nz (Rat.natCast_eq_zero_iff.mp e)
  have hz : z * ((z.den : Nat) : Rat) = ((z.num : Int) : Rat) := by
    have := Rat.num_divInt_den z
    rw [Rat.divInt_eq_div, Rat.intCast_natCast] at this
    conv => lhs; lhs; rw [← this]
    exact Rat.div_mul_cancel hq
  generalize hp : z.num = p at *
  generalize hd : z.den = q at *
  have e : ((p : Int) : Rat) * p * p + T * (p * p) * (q : Nat) + S * p * ((q : Nat) * (q : Nat)) + D * ((q : Nat) * (q : Nat) * (q : Nat)) = 0 := by
    rw [← hz]
    have : (z * (q : Nat)) * (z * (q : Nat)) * (z * (q : Nat)) + T * ((z * (q : Nat)) * (z * (q : Nat))) * (q : Nat) + S * (z * (q : Nat)) * ((q : Nat) * (q : Nat)) + D * ((q : Nat) * (q : Nat) * (q : Nat)) = (z * z * z + T * (z * z) + S * z + D) * ((q : Nat) * (q : Nat) * (q : Nat)) := by grind
    rw [this, h]; exact Rat.zero_mul _
  have e2 : p * p * p + T * (p * p) * (q : Nat) + S * p * ((q : Nat) * (q : Nat)) + D * ((q : Nat) * (q : Nat) * (q : Nat)) = 0 := by
    rw [← Rat.intCast_eq_zero_iff]
    simp only [Rat.intCast_add, Rat.intCast_mul, Rat.intCast_natCast]
    exact e
  have dv : ((q : Nat) : Int) ∣ p * p * p := ⟨-(T * (p * p) + S * p * (q : Nat) + D * ((q : Nat) * (q : Nat))), by grind⟩
  have dv2 : q ∣ p.natAbs * p.natAbs * p.natAbs := by
    have := Int.natAbs_dvd_natAbs.mpr dv
    rw [Int.natAbs_mul, Int.natAbs_mul, Int.natAbs_natCast] at this
    exact this
  have co : Nat.Coprime q p.natAbs := by
    have := z.reduced
    rw [hp, hd] at this
    exact this.symm
  have q1 : q = 1 := Nat.Coprime.eq_one_of_dvd ((co.mul_right co).mul_right co) dv2
  subst q1
  refine ⟨p, ?_, ?_⟩
  · rw [← hz]; grind
  · have := e2
    simp only [Int.natCast_one, Int.mul_one] at this
    exact this
theorem root_le {k T S D : Int} {t s d : Nat} (h : k * k * k + T * (k * k) + S * k + D = 0) (ht : T.natAbs ≤ t) (hs : S.natAbs ≤ s) (hd : D.natAbs ≤ d) : k.natAbs ≤ t + s + d := by
  have e : k * k * k = -(T * (k * k) + S * k + D) := by omega
  have e2 := congrArg Int.natAbs e
  rw [Int.natAbs_neg, Int.natAbs_mul, Int.natAbs_mul] at e2
  have l1 := Int.natAbs_add_le (T * (k * k) + S * k) D
  have l2 := Int.natAbs_add_le (T * (k * k)) (S * k)
  rw [Int.natAbs_mul, Int.natAbs_mul, Int.natAbs_mul] at l2
  generalize k.natAbs = a at *
  have m1 := Nat.mul_le_mul_right (a * a) ht
  have m2 := Nat.mul_le_mul_right a hs
  rcases Nat.lt_or_ge (t + s + d) a with z | z
  · exfalso
    have a1 : 1 ≤ a := by omega
    have aa : a ≤ a * a := Nat.le_mul_of_pos_left a a1
    have m3 : (t + s + d + 1) * (a * a) ≤ a * (a * a) := Nat.mul_le_mul_right _ z
    have m4 : s * a ≤ s * (a * a) := Nat.mul_le_mul_left s aa
    have m5 : d * 1 ≤ d * (a * a) := Nat.mul_le_mul_left d (by omega)
    have e3 : a * a * a = a * (a * a) := Nat.mul_assoc a a a
    rw [Nat.add_mul, Nat.add_mul, Nat.add_mul] at m3
    omega
  · exact z
theorem root_D {x c2 c1 c0 : Rat} (h : x * x * x + c2 * (x * x) + c1 * x + c0 = 0) (h2 : Dd 1 9 c2) (h1 : Dd 2 19 c1) (h0 : Dd 3 24 c0) : Dd 1 25 x := by
  obtain ⟨T, eT, bT⟩ := h2
  obtain ⟨S, eS, bS⟩ := h1
  obtain ⟨D, eD, bD⟩ := h0
  obtain ⟨k, ek, hk⟩ := int_root (z := x * 12) (T := T) (S := S) (D := D) (by
    rw [← eT, ← eS, ← eD]
    have : x * 12 * (x * 12) * (x * 12) + c2 * 12 ^ 1 * (x * 12 * (x * 12)) + c1 * 12 ^ 2 * (x * 12) + c0 * 12 ^ 3 = (x * x * x + c2 * (x * x) + c1 * x + c0) * 12 ^ 3 := by grind
    rw [this, h]; exact Rat.zero_mul _)
  refine ⟨k, by rw [Rat.pow_one]; exact ek, ?_⟩
  have := root_le hk bT bS bD
  omega
/-! ### the divisors of a monic polynomial of degree 3, 2, 1 -/
theorem mon_len2 {g : List Rat} (m : Mon g) (h : g.length = 2) : ∃ a, g = [a, 1] := by
  have := m.m
  match g, h with
  | [a, b], _ => exact ⟨a, by rw [show b = 1 from this]⟩
theorem mon_len3 {g : List Rat} (m : Mon g) (h : g.length = 3) : ∃ a b, g = [a, b, 1] := by
  have := m.m
  match g, h with
  | [a, b, c], _ => exact ⟨a, b, by rw [show c = 1 from this]⟩
theorem mon_len1 {g : List Rat} (m : Mon g) (h : g.length = 1) : g = [1] := by
  have := m.m
  match g, h with
  | [a], _ => rw [show a = 1 from this]
theorem dl_1 : DL 3 56 [1] := dl_cons (dd_1 (by decide)) (dl_nil _ _)
theorem gd_of {χ : List Rat} (h : ∀ g, Mon g → Dv (cv g) (cv χ) → DL 3 56 g ∧ g.length ≤ 4) : Gd χ := fun g m d => ⟨(h g m d).1, (h g m d).1.hl (by decide) (by decide), (h g m d).2⟩
theorem gd_3 {c0 c1 c2 : Rat} (h2 : Dd 1 9 c2) (h1 : Dd 2 19 c1) (h0 : Dd 3 24 c0) : Gd [c0, c1, c2, 1] := gd_of fun g m d => by
  have mc : Mon [c0, c1, c2, (1 : Rat)] := ⟨by simp, rfl⟩
  obtain ⟨mq, e, l⟩ := div_mon mc m d
  have gp := m.pos
  have qp := mq.pos
  generalize (divided [c0, c1, c2, (1 : Rat)] g).1 = q at *
  have l : q.length + g.length = 5 := l
  refine ⟨?_, by omega⟩
  have f0 : c0 = gt q 0 * gt g 0 := congrFun e 0
  have f1 : c1 = gt q 0 * gt g 1 + gt q 1 * gt g 0 := congrFun e 1
  have f2 : c2 = gt q 0 * gt g 2 + (gt q 1 * gt g 1 + gt q 2 * gt g 0) := congrFun e 2
  have : g.length = 1 ∨ g.length = 2 ∨ g.length = 3 ∨ g.length = 4 := by omega
  rcases this with z | z | z | z
  · rw [mon_len1 m z]; exact dl_1
  · obtain ⟨q0, q1, rfl⟩ := mon_len3 mq (by omega)
    obtain ⟨g0, rfl⟩ := mon_len2 m z
    have f0 : c0 = q0 * g0 := f0
    have f1 : c1 = q0 * 1 + q1 * g0 := f1
    have f2 : c2 = q0 * 0 + (q1 * 1 + 1 * g0) := f2
    have r : Dd 1 25 (0 - g0) := root_D (c2 := c2) (c1 := c1) (c0 := c0) (by rw [f0, f1, f2]; grind) h2 h1 h0
    have r := r.neg
    have e0 : 0 - (0 - g0) = g0 := by grind
    rw [e0] at r
    exact dl_cons (r.to (by decide) (by decide)) dl_1
  · obtain ⟨q0, rfl⟩ := mon_len2 mq (by omega)
    obtain ⟨g0, g1, rfl⟩ := mon_len3 m z
    have f0 : c0 = q0 * g0 := f0
    have f1 : c1 = q0 * g1 + 1 * g0 := f1
    have f2 : c2 = q0 * 1 + (1 * g1 + 0 * g0) := f2
    have r : Dd 1 25 (0 - q0) := root_D (c2 := c2) (c1 := c1) (c0 := c0) (by rw [f0, f1, f2]; grind) h2 h1 h0
    have e1 : g1 = c2 + (0 - q0) := by rw [f2]; grind
    have d1 : Dd 1 26 g1 := by rw [e1]; exact h2.add r 25 (by decide) (by decide)
    have e0 : g0 = c1 + (0 - q0) * g1 := by rw [f1]; grind
    have d0 : Dd 2 52 g0 := by rw [e0]; exact h1.add (r.mul d1) 51 (by decide) (by decide)
    exact dl_cons (d0.to (by decide) (by decide)) (dl_cons (d1.to (by decide) (by decide)) dl_1)
  · have e1 := mon_len1 mq (by omega)
    rw [e1, cv_one] at e
    have e2 : [c0, c1, c2, (1 : Rat)] = g := mon_inj mc m (by rw [e]; grind)
    rw [← e2]
    exact dl_cons (h0.to (by decide) (by decide)) (dl_cons (h1.to (by decide) (by decide)) (dl_cons (h2.to (by decide) (by decide)) dl_1))
theorem gd_2 {c1 c2 : Rat} (h2 : Dd 1 9 c2) (h1 : Dd 2 19 c1) : Gd [c1, c2, 1] := gd_of fun g m d => by
  have G := gd_3 h2 h1 (dd_0 3 24)
  have hd : Dv (cv g) (cv [0, c1, c2, (1 : Rat)]) := by
    refine d.trans ⟨psX, ?_, ?_⟩
    · have := cv_po ([0, 1] : List Rat)
      have e : cv ([0, 1] : List Rat) = psX := by
        rw [cv_cons, cv_one, ← ps_zero]; grind
      rw [e] at this; exact this
    · rw [cv_cons, ← ps_zero]; grind
  obtain ⟨a, _, b⟩ := G g m hd
  exact ⟨a, b⟩
theorem gd_1 {c2 : Rat} (h2 : Dd 1 9 c2) : Gd [c2, 1] := gd_of fun g m d => by
  have G := gd_2 h2 (dd_0 2 19)
  have hd : Dv (cv g) (cv [0, c2, (1 : Rat)]) := by
    refine d.trans ⟨psX, ?_, ?_⟩
    · have := cv_po ([0, 1] : List Rat)
      have e : cv ([0, 1] : List Rat) = psX := by
        rw [cv_cons, cv_one, ← ps_zero]; grind
      rw [e] at this; exact this
    · rw [cv_cons, ← ps_zero]; grind
  obtain ⟨a, _, b⟩ := G g m hd
  exact ⟨a, b⟩
theorem Gd.dv {χ f : List Rat} (h : Gd χ) (d : Dv (cv f) (cv χ)) : Gd f := fun g m e => h g m (e.trans d)
end
end Tf
set_option maxRecDepth 100000
set_option maxHeartbeats 4000000
namespace Tf
section
theorem ch_3 {A : List (List Rat)} (hA : Rect A 3) (hn : A.length = 3) : ∃ c0 c1 c2, (DW 1 7 A → Dd 1 9 c2 ∧ Dd 2 19 c1 ∧ Dd 3 24 c0) ∧ ∀ u, Sup 3 u → act (mul A 3) [c0, c1, c2, 1] u = fun _ => 0 := by
  refine ⟨0 - (en A 0 0 * (en A 1 1 * en A 2 2 - en A 1 2 * en A 2 1) - en A 0 1 * (en A 1 0 * en A 2 2 - en A 1 2 * en A 2 0) + en A 0 2 * (en A 1 0 * en A 2 1 - en A 1 1 * en A 2 0)), en A 0 0 * en A 1 1 - en A 0 1 * en A 1 0 + (en A 0 0 * en A 2 2 - en A 0 2 * en A 2 0) + (en A 1 1 * en A 2 2 - en A 1 2 * en A 2 1), 0 - (en A 0 0 + en A 1 1 + en A 2 2), fun hD => ?_, fun u hu => ?_⟩
  · have E : ∀ i j, Dd 1 7 (en A i j) := fun i j => by
      unfold en
      by_cases z : i < A.length
      · exact dl_gt (hD _ (rw_in z)) j
      · rw [rw_ge (by omega)]; exact dd_0 _ _
    have M : ∀ i j k l, Dd 2 14 (en A i j * en A k l) := fun i j k l => (E i j).mul (E k l)
    have sub : ∀ {m b e : Nat} {x y : Rat}, Dd m b x → Dd m b y → Dd m (b + 1) (x - y) := fun {m b e x y} hx hy => by
      have : x - y = x + (0 - y) := by grind
      rw [this]; exact hx.add hy.neg b (Nat.le_refl _) (Nat.le_refl _)
    have S : ∀ i j k l i' j' k' l', Dd 2 15 (en A i j * en A k l - en A i' j' * en A k' l') := fun i j k l i' j' k' l' => sub (e := 0) (M i j k l) (M i' j' k' l')
    refine ⟨(((E 0 0).add (E 1 1) 7 (by decide) (by decide)).add (E 2 2) 8 (by decide) (by decide)).neg, ?_, ?_⟩
    · exact ((((S 0 0 1 1 0 1 1 0).add (S 0 0 2 2 0 2 2 0) 15 (by decide) (by decide)).add (S 1 1 2 2 1 2 2 1) 16 (by decide) (by decide))).mono (by decide)
    · have P : ∀ i j a b c d a' b' c' d', Dd 3 22 (en A i j * (en A a b * en A c d - en A a' b' * en A c' d')) := fun i j a b c d a' b' c' d' => (E i j).mul (S a b c d a' b' c' d')
      exact (((sub (e := 0) (P 0 0 1 1 2 2 1 2 2 1) (P 0 1 1 0 2 2 1 2 2 0)).add (P 0 2 1 0 2 1 1 1 2 0) 23 (by decide) (by decide))).neg
  · have m3 : ∀ (x : Vc Rat) (i : Nat), mul A 3 x i = en A i 0 * x 0 + en A i 1 * x 1 + en A i 2 * x 2 := fun x i => by
      unfold mul; simp only [sm]; grind
    funext i
    rcases Nat.lt_or_ge i 3 with h | h
    · simp only [act, m3]
      rcases (show i = 0 ∨ i = 1 ∨ i = 2 by omega) with rfl | rfl | rfl
      all_goals
        generalize en A 0 0 = a
        generalize en A 0 1 = b
        generalize en A 0 2 = c
        generalize en A 1 0 = d
        generalize en A 1 1 = e
        generalize en A 1 2 = f
        generalize en A 2 0 = g
        generalize en A 2 1 = k
        generalize en A 2 2 = l
        generalize u 0 = x
        generalize u 1 = y
        generalize u 2 = z
        clear hu hA hn m3
        grind
    · have L := lin_mul A 3
      exact act_sup hA hn hu _ i h
theorem ch_2 {A : List (List Rat)} (hA : Rect A 2) (hn : A.length = 2) : ∃ c1 c2, (DW 1 7 A → Dd 1 9 c2 ∧ Dd 2 19 c1) ∧ ∀ u, Sup 2 u → act (mul A 2) [c1, c2, 1] u = fun _ => 0 := by
  refine ⟨en A 0 0 * en A 1 1 - en A 0 1 * en A 1 0, 0 - (en A 0 0 + en A 1 1), fun hD => ?_, fun u hu => ?_⟩
  · have E : ∀ i j, Dd 1 7 (en A i j) := fun i j => by
      unfold en
      by_cases z : i < A.length
      · exact dl_gt (hD _ (rw_in z)) j
      · rw [rw_ge (by omega)]; exact dd_0 _ _
    have M : ∀ i j k l, Dd 2 14 (en A i j * en A k l) := fun i j k l => (E i j).mul (E k l)
    have sub : ∀ {m b e : Nat} {x y : Rat}, Dd m b x → Dd m b y → Dd m (b + 1) (x - y) := fun {m b e x y} hx hy => by
      have : x - y = x + (0 - y) := by grind
      rw [this]; exact hx.add hy.neg b (Nat.le_refl _) (Nat.le_refl _)
    exact ⟨(((E 0 0).add (E 1 1) 7 (by decide) (by decide)).neg).mono (by decide), (sub (e := 0) (M 0 0 1 1) (M 0 1 1 0)).mono (by decide)⟩
  · have m3 : ∀ (x : Vc Rat) (i : Nat), mul A 2 x i = en A i 0 * x 0 + en A i 1 * x 1 := fun x i => by
      unfold mul; simp only [sm]; grind
    funext i
    rcases Nat.lt_or_ge i 2 with h | h
    · simp only [act, m3]
      rcases (show i = 0 ∨ i = 1 by omega) with rfl | rfl
      all_goals
        generalize en A 0 0 = a
        generalize en A 0 1 = b
        generalize en A 1 0 = d
        generalize en A 1 1 = e
        generalize u 0 = x
        generalize u 1 = y
        clear hu hA hn m3
        grind
    · exact act_sup hA hn hu _ i h
theorem ch_1 {A : List (List Rat)} (hA : Rect A 1) (hn : A.length = 1) : ∃ c2, (DW 1 7 A → Dd 1 9 c2) ∧ ∀ u, Sup 1 u → act (mul A 1) [c2, 1] u = fun _ => 0 := by
  refine ⟨0 - en A 0 0, fun hD => ?_, fun u hu => ?_⟩
  · have E : Dd 1 7 (en A 0 0) := by
      unfold en
      exact dl_gt (hD _ (rw_in (by omega))) 0
    exact E.neg.mono (by decide)
  · have m3 : ∀ (x : Vc Rat) (i : Nat), mul A 1 x i = en A i 0 * x 0 := fun x i => by
      unfold mul; simp only [sm]; grind
    funext i
    rcases Nat.lt_or_ge i 1 with h | h
    · simp only [act, m3]
      obtain rfl : i = 0 := by omega
      grind
    · exact act_sup hA hn hu _ i h
/-- a table of small fractions -/
theorem good_of {A : List (List Rat)} {n : Nat} (hA : Rect A n) (hn : A.length = n) (h0 : 0 < n) (h3 : n ≤ 3) (hD : DW 1 7 A) : Good A n := by
  have S := least_spec hA hn h0 (by omega)
  have L := lin_mul A n
  have ws : Sup n (gt (least A).2) := by have := S.l; rw [← this]; exact sup_gt _
  refine ⟨hA, hn, h0, h3, fun r hr => (hD r hr).to (by decide) (by decide), fun _ => hD, ?_⟩
  rcases (show n = 1 ∨ n = 2 ∨ n = 3 by omega) with rfl | rfl | rfl
  · obtain ⟨c2, b, z⟩ := ch_1 hA hn
    exact (gd_1 (b hD)).dv (S.m.dv L (z _ ws))
  · obtain ⟨c1, c2, b, z⟩ := ch_2 hA hn
    obtain ⟨b2, b1⟩ := b hD
    exact (gd_2 b2 b1).dv (S.m.dv L (z _ ws))
  · obtain ⟨c0, c1, c2, b, z⟩ := ch_3 hA hn
    obtain ⟨b2, b1, b0⟩ := b hD
    exact (gd_3 b2 b1 b0).dv (S.m.dv L (z _ ws))
end
end Tf
set_option maxRecDepth 100000
set_option maxHeartbeats 4000000
namespace Tf
section
theorem hw_set {h : Nat} {t : List (List Rat)} {i : Nat} {r : List Rat} (a : HW h t) (b : HL h r) : HW h (t.set i r) := fun y hy => by
  rcases List.mem_or_eq_of_mem_set hy with z | z
  · exact a y z
  · rw [z]; exact b
theorem hw_setEn {h : Nat} {t : List (List Rat)} {i j : Nat} {x : Rat} (a : HW h t) (b : Hb h x) : HW h (setEn t i j x) := hw_set a (hl_set (hw_rw a i) b)
theorem blkK_b {h : Nat} {f : List Rat} {p m : Nat} {t : List (List Rat)} (hf : HL h f) (ht : HW h t) : ∀ k, HW h (blkK f p m k t)
  | 0 => ht
  | k + 1 => by
    have ih := blkK_b (p := p) (m := m) hf ht k
    unfold blkK
    refine hw_setEn ?_ (hb_neg (hl_gt hf k))
    split
    · exact hw_setEn ih (hb_1 h)
    · exact ih
theorem blkF_b {h : Nat} : ∀ (fs : List (List Rat)) (p : Nat) (t : List (List Rat)), HW h fs → HW h t → HW h (blkF fs p t)
  | [], _, _, _, ht => ht
  | f :: fs, p, t, hf, ht => blkF_b fs _ _ (fun r hr => hf r (List.mem_cons_of_mem _ hr)) (blkK_b (hf f (List.mem_cons_self ..)) ht _)
theorem blocks_b {h : Nat} {ps : List (List Rat)} (hp : HW h ps) : HW h (blocks ps) := blkF_b ps 0 _ hp fun r hr => by
  obtain ⟨i, _, rfl⟩ := List.mem_map.mp hr
  exact hl_noughts _ _
theorem product_b {a b : Nat} {A B : List (List Rat)} (hA : HW a A) (hr : ∀ r ∈ A, r.length ≤ 3) (hB : HW b B) : HL (3 * (a + b + 1)) (productT A B) := by
  unfold productT
  exact hl_flat fun c hc => (hb_image hA hr (hw_turned hB c hc)).2
theorem chn_gd {χ : List Rat} (hG : Gd χ) : ∀ {ps : List (List Rat)}, Chn ps → (∀ f ∈ ps.head?, Dv (cv f) (cv χ)) → HW 56 ps ∧ HL 44040194 (chainT ps)
  | [], _, _ => ⟨fun r hr => (by cases hr), hl_nil _⟩
  | [f], ⟨m, _, _, _⟩, hd => ⟨fun r hr => by rw [List.mem_singleton] at hr; rw [hr]; exact (hG f m (hd f rfl)).2.1, hl_nil _⟩
  | f :: g :: fs, ⟨m, _, d, c⟩, hd => by
    have df := hd f rfl
    have dg := (d g rfl).trans df
    obtain ⟨i1, i2⟩ := chn_gd hG c (fun x hx => by cases hx; exact dg)
    have mg := c.1
    obtain ⟨_, f2, f3⟩ := hG f m df
    obtain ⟨_, g2, g3⟩ := hG g mg dg
    exact ⟨fun r hr => by
      rcases List.mem_cons.mp hr with z | z
      · rw [z]; exact f2
      · exact i1 r z, hl_app (div_b56 f2 g2 f3 mg.ne) i2⟩
/-- all numbers that the frame of a small table and its check reckon with -/
theorem frame_b {A : List (List Rat)} {n : Nat} (h : Good A n) : HL 51200000 (frameT A) ∧ HL 51200000 (chainT (parts n A).1) ∧ HL 51200000 (productT (inverse (turned (parts n A).2)) (turned (parts n A).2)) ∧ HL 51200000 (productT (turned (parts n A).2) (blocks (parts n A).1)) ∧ HL 51200000 (productT A (turned (parts n A).2)) := by
  obtain ⟨p1, p2⟩ := parts_b n n A (Nat.le_refl _) h
  have h3 := h.n3
  have h0 := h.n0
  obtain ⟨fok, PS⟩ := turn_ok h.r h.l h.n0 (by omega)
  have hs := fok.s
  have cBn : cB n ≤ 262290 := by unfold cB; split <;> (try split) <;> omega
  have p2 := HW.mono p2 cBn
  unfold frameT
  unfold frameTurn at hs ⊢
  have hl := h.l
  rw [hl] at hs ⊢
  have ne : (parts n A).2 ≠ [] := fun e => by have := PS.l; rw [e] at this; simp at this; omega
  obtain ⟨t1, t2, t3, t4⟩ := turned_rect PS.r ne h0
  have tr : ∀ r ∈ turned (parts n A).2, r.length ≤ 3 := fun r hr => by rw [turned_row r hr, PS.l]; exact h3
  have pw := hw_turned p2
  obtain ⟨ch1, ch2⟩ := chn_gd h.g PS.ch (fun f hf => by
    have := parts_head h0 A
    rw [this] at hf
    cases hf
    exact Dv.refl _)
  have bl := blocks_b ch1
  have ha : HW 56 A := HW.mono h.a (by unfold aN; split <;> omega)
  generalize (parts n A).1 = C at *
  generalize turned (parts n A).2 = U at *
  obtain ⟨i1, i2⟩ := inverse_b (l := 3) pw (by rw [hs]; exact h3)
  have e3 : gw 3 262290 = 16786581 := rfl
  rw [e3] at i1 i2
  have ir : ∀ r ∈ inverse U, r.length ≤ 3 := by
    have ok := (steps_ok (t := U) t4).2.1
    obtain ⟨u1, u2⟩ := unit_rect (F := Rat) U.length
    have := (done_rect (steps U).2.1 u1 (by rw [u2]; exact ok)).1
    intro r hr
    rw [this r hr, t2]; exact h3
  exact ⟨hl_app (HL.mono p1 (by decide)) (HL.mono i2 (by decide)), HL.mono ch2 (by decide), HL.mono (product_b i1 ir pw) (by decide), HL.mono (product_b pw tr bl) (by decide), HL.mono (product_b ha (fun r hr => by rw [h.r r hr]; exact h3) pw) (by decide)⟩
theorem smF_of {h : Nat} {x : Rat} (a : Hb h x) (hl : h < LB) : SmF x := ⟨Nat.lt_of_le_of_lt a.n (Nat.pow_lt_pow_right (by decide) hl), Nat.lt_of_le_of_lt a.d (Nat.pow_lt_pow_right (by decide) hl)⟩
theorem smF_all {l : List Rat} (a : HL 51200000 l) : ∀ z ∈ l, SmF z := fun z hz => smF_of (a z hz) (by unfold LB; decide)
end
end Tf
set_option maxRecDepth 100000
set_option maxHeartbeats 4000000
namespace Tf
open PySem PySem.Spec PyProof.Rows L2
def fdat (x : Rat) : PyData := .tuple [.int x.num, .int (x.den : Nat)]
theorem feqv (x y : Rat) : PyData.eqv (fdat x) (fdat y) = decide (x = y) := by
  unfold fdat
  simp only [PyData.eqv, PyData.eqvAll, Bool.and_true]
  by_cases h : x = y
  · subst h; simp
  · rw [decide_eq_false h]
    by_cases h1 : x.num = y.num
    · have h2 : ¬ ((x.den : Nat) : Int) = (y.den : Nat) := fun e => h (Rat.ext h1 (by omega))
      simp [h1, h2]
    · simp [h1]
theorem fshaped (x : Rat) : SeqAt.shaped (fdat x) = true := by
  unfold SeqAt.shaped fdat
  simp [PyData.canLay0, PyData.canLayAll0, PyData.depth, PyData.depthAll]
theorem fdp {K : PySem.W.Frag} {x : Rat} {v : V} {H : Hp} (h : (fR x).p v H) : Dp K H v (fdat x) := by
  obtain ⟨_, a, rfl, h⟩ := h
  exact .tup (SqT.of h) (.cons (.int _) (.cons (.int _) .nil))
theorem smF_ofI {n : Int} (hn : n = 0 ∨ n = 1 ∨ n = -1) : SmF (ofI n) := by
  rcases hn with rfl | rfl | rfl
  · exact smF_0
  · exact smF_1
  · exact smF_neg smF_1
section
variable {P : Program} {w : World} {K : PySem.W.Frag} {mg : Str → Option Value} {base : Heap} (T : Txt K mg) (hN : base.NoSeer) (ht : P.given.tree = none)
abbrev fnum : Spc := sNum SmF fR (FO (K := K))
include T hN ht
theorem ok_F_num : Ok P w K mg base 33 ("Fractions", some "number") ["self", "top", "bottom"] (fnum (K := K)) :=
  (ok_F_number T hN ht).imp fun vs H Q E ⟨(n : Int), hn, ha, k⟩ => ⟨(n, 1), ⟨show (1 : Int) ≠ 0 by decide, by show SmF (Rat.divInt n 1); rw [rat_ofI hn]; exact smF_ofI hn⟩, ha, fun v H' s p => k v H' s (by
    have p : (fR (Rat.divInt n 1)).p v H' := p
    rw [rat_ofI hn] at p
    exact p)⟩
theorem ms_F {k : Nat} (hk : 34 ≤ k) : Ms P w K mg base k (He.ga K "Fractions") (FO (K := K)) (fun _ => fR) (fun _ h => h) ofI (fun x y => SmF (x + y)) (fun x y => SmF (x * y)) (fun a b => a + b) fun a b => a * b :=
  ⟨T.cls_Fractions, fun {m} _ => fo_at m, T.m_Fractions_number, T.m_Fractions_plus, T.m_Fractions_times, T.d_Fractions_number.bd1, T.d_Fractions_plus.bd, T.d_Fractions_times.bd, (ok_F_num T hN ht).mono (by omega), (ok_F_plus T hN ht).mono hk, (ok_F_times T hN ht).mono hk⟩
theorem ok_F_nought : Ok P w K mg base 39 ("Fractions", some "is_nought") ["self", "one"] (sNou fR (FO (K := K))) := by
  refine FnOk.mono (j := 35) (T.d_Fractions_is_nought.ok (k := 34) sc_Kind_is_nought (fun _ => rfl) fun cdv A outer s H vs Q E (x : Rat) hr _ ha k => ?_) (by decide)
  obtain ⟨ov, _, rfl, ho, xv, _, rfl, hx, rfl⟩ := ha
  have hr_π : Room 34 _ := hr
  have hu := hr.units
  have π := ms_F (P := P) (w := w) (base := base) T hN ht (Nat.le_refl 34)
  obtain ⟨dsN, vN_π, bN_π⟩ := π.bd_number
  have hx : (fR x).p xv H := hx
  refine ⟨_, (pss_one (ps_ret (pe_cmpR (eqDK K hu) (pv 1) (pe_meth (pv 0) π.cls π.m_number π.number hr_π bN_π vN_π pass0 (pa_cons pe_int pa_nil)) (nomark _)))), ?_⟩
  refine s_ret (Ev.to (ev_eqD (A := fR x) (B := fR (ofI 0)) (da := fdat x) (db := fdat (ofI 0)) (ev_var rfl hx) (ev_meth1 (S := fnum (K := K)) (0 : Int) (fo_at "number") (ev_var rfl ho) (ea_cons ev_int ea_nil) (.inl rfl)) (fun v H h => fdp h) (fun v H h => fdp h) (fshaped _) (fshaped _)) ?_) fun v H1 e1 h => k v H1 e1 h
  rw [feqv]
  rfl
/-- the fractions as a kind -/
def kdF : Kd Rat P w K mg base where
  C := He.ga K "Fractions"
  Sm := SmF
  rep := fR
  obj := FO
  cls := T.cls_Fractions
  rep_sm := fun h => h.1
  rep_sta := fun x d v H o o' e ⟨s, a, ea, h⟩ => ⟨s, a, ea, by rw [upd_ne (ne_of h e (by intro z; cases z))]; exact h⟩
  obj_sta := fun d v H o o' e ⟨a, dx, ea, h⟩ => ⟨a, dx, ea, by rw [upd_ne (ne_of h e (by intro z; cases z))]; exact h⟩
  at_ := fun {m} _ => fo_at m
  sm0 := smF_0
  sm1 := smF_1
  sm_neg := smF_neg
  sm_inv := smF_inv
  m_number := T.m_Fractions_number
  m_plus := T.m_Fractions_plus
  m_times := T.m_Fractions_times
  m_minus := T.m_Fractions_minus
  m_back := T.m_Fractions_back
  m_nought := T.m_Fractions_is_nought
  b_number := T.d_Fractions_number.bd1
  b_number0 := T.d_Fractions_number.bd
  b_plus := T.d_Fractions_plus.bd
  b_times := T.d_Fractions_times.bd
  b_minus := T.d_Fractions_minus.bd
  b_back := T.d_Fractions_back.bd
  b_nought := T.d_Fractions_is_nought.bd
  number := (ok_F_num T hN ht).mono (by decide)
  plus := (ok_F_plus T hN ht).mono (by decide)
  times := (ok_F_times T hN ht).mono (by decide)
  minus := (ok_Kind_minus T.d_Fractions_minus (ms_F T hN ht (k := 39) (by decide))).imp fun vs H Q E q => sp_minus (pp := fun x y => SmF (x + y)) (pt := fun x y => SmF (x * y)) (fun x y _ hy hxy => by
    have e1 : ofI (-1) * y = 0 - y := by rw [ofIm]; grind
    have e2 : x + (0 - y) = x - y := by grind
    rw [e1, e2]
    exact ⟨smF_neg hy, hxy⟩) (fun {x v H} (h : (fR x).p v H) => h.1) q
  back := (ok_F_back T hN ht).mono (by decide)
  nought := (ok_F_nought T hN ht).mono (by decide)
  dat := fdat
  dat_ok := fdp
  dat_sh := fun x => ⟨rfl, by simp [fdat, PyData.depth, PyData.depthAll]⟩
  dat_eq := feqv
end
/-! Fractions() -/
def tMake0 (C : Addr) : TE := fun σ H Q => ∀ x dx, H x = none → H dx = none → dx ≠ x → Q (.ref x) (upd (upd H dx (.own x)) x (.ins C dx []))
section
variable {X : Cx} {C : Addr} {x : Str} {p pos : Pos}
theorem pe_makeO (hmk : PySem.W.makesIn X.K C = true) (hi : PySem.W.findIn X.K (.ref C) "__init__" = some (some (.builtin "object.__init__"))) (hk : PySem.W.keepIn X.K (.ref C) = true) (hg : Gl X x) (hm : X.mg x = some (.ref C))
    (hdb : (x == ("__debug__" : Str)) = false := by decide) : PE X (.Call (.Name x p) [] [] pos) (tMake0 C) := by
  refine ⟨fun pins s σ H Q I h => ?_⟩
  refine wpAny_Call_Name_kw (ld_glob I hg hm ?_ hdb)
  refine PySem.W.callWith_K0 I.kIn hk ?_
  have hq := h (s.heap.objs.size + 1) s.heap.objs.size (I.hok.fresh (Nat.le_succ _)) (I.hok.fresh (Nat.le_refl _)) (Nat.ne_of_lt (Nat.lt_succ_self _))
  have I2 := Inv.made (C := C) I
  have Y := PySem.W.makes_of (M := model X.prog X.w) I.kIn hmk
  have hx : ((s.heap.push PySem.W.emptyDict).push (PySem.W.instObj C s.heap.objs.size)).get? (s.heap.objs.size + 1) = some (PySem.W.instObj C s.heap.objs.size) := by
    have := Heap.get?_push_size (s.heap.push PySem.W.emptyDict) (o := PySem.W.instObj C s.heap.objs.size) rfl
    rwa [Heap.size_push] at this
  have t1 : PySem.W.Looks (model X.prog X.w) ((s.heap.push PySem.W.emptyDict).push (PySem.W.instObj C s.heap.objs.size)) (typeOf (.ref (s.heap.objs.size + 1))) (.ref C) := (PySem.W.Looks.ld hx).andThen .now
  have t2 : PySem.W.Looks (model X.prog X.w) ((s.heap.push PySem.W.emptyDict).push (PySem.W.instObj C s.heap.objs.size)) (isInstance (.ref (s.heap.objs.size + 1)) (.type "object")) true := t1.andThen (Y.top.keeps fun b o e => Heap.get?_push_of_some _ (Heap.get?_push_of_some _ e))
  refine wpAny_call (make_map0 I.kIn hmk hi (fun self => PySem.W.Looks.of_pure (PySem.W.oi_bind self)) ?_)
  refine PySem.codeAny_call_builtin PySem.W.oi_plain PySem.W.entry_oi (@PySem.W.check_slot (model X.prog X.w) _ _ _ "object.__init__" "object" "__init__" (.ref (s.heap.objs.size + 1)) [] [] _ PySem.W.oi_kind PySem.W.oi_split t2 (PySem.W.oi_args (.ref (s.heap.objs.size + 1))) ?_)
  rw [PySem.W.oi_run]
  exact wpAny_pure (And.intro rfl ⟨V.ref (s.heap.objs.size + 1), _, I2, rfl, hq⟩)
end
theorem ev_F0 {K : PySem.W.Frag} {σ : L2.St} {H : Hp} : Ev (tMake0 (He.ga K "Fractions")) σ H (FO (K := K)) := fun H1 s Q q x dx hx hdx hne => by
  have sA : Same H1 (upd H1 dx (.own x)) := same_new hdx
  have sB : Same H1 (upd (upd H1 dx (.own x)) x (.ins (He.ga K "Fractions") dx [])) := same_mut sA hx
  exact q _ _ sB ⟨x, dx, rfl, upd_same⟩
end Tf
set_option maxRecDepth 100000
set_option maxHeartbeats 4000000
namespace Tf
open PySem PySem.Spec PyProof.Rows L2
/-- a drawn fraction -/
def drF (n : Int) : Rat := if n % 3 = 0 then Rat.divInt (n / 3 % 3 - 1) 1 else Rat.divInt (n / 3 % 19 - 9) (1 + n / 57 % 4)
theorem dd_div {t b : Int} (ht : t.natAbs ≤ 9) (hb : b = 1 ∨ b = 2 ∨ b = 3 ∨ b = 4) : Dd 1 7 (Rat.divInt t b) := by
  have key : ∀ c : Int, b * c = 12 → c.natAbs ≤ 12 → Dd 1 7 (Rat.divInt t b) := fun c hc h12 => by
    refine ⟨t * c, ?_, ?_⟩
    · have hb0 : b ≠ 0 := fun e => by rw [e] at hc; omega
      have hb' : (b : Rat) ≠ 0 := fun e => hb0 (Rat.intCast_eq_zero_iff.mp e)
      have e12 : (12 : Rat) = (b : Rat) * (c : Rat) := by rw [← Rat.intCast_mul, hc]; rfl
      rw [Rat.divInt_eq_div, Rat.pow_one, e12, ← Rat.mul_assoc, Rat.div_mul_cancel hb', Rat.intCast_mul]
    · rw [Int.natAbs_mul]
      have := Nat.mul_le_mul ht h12
      omega
  rcases hb with rfl | rfl | rfl | rfl
  · exact key 12 rfl (by decide)
  · exact key 6 rfl (by decide)
  · exact key 4 rfl (by decide)
  · exact key 3 rfl (by decide)
theorem drF_cases (n : Int) : ∃ t b : Int, drF n = Rat.divInt t b ∧ t.natAbs ≤ 9 ∧ (b = 1 ∨ b = 2 ∨ b = 3 ∨ b = 4) := by
  unfold drF
  split
  · exact ⟨_, _, rfl, by omega, .inl rfl⟩
  · exact ⟨_, _, rfl, by omega, by omega⟩
theorem drF_dd (n : Int) : Dd 1 7 (drF n) := by
  obtain ⟨t, b, e, h1, h2⟩ := drF_cases n
  rw [e]; exact dd_div h1 h2
theorem smF_7 {x : Rat} (h : Dd 1 7 x) : SmF x := smF_of (h := 7) (h.hb (by decide) (by decide)) (by unfold LB; decide)
section
variable {P : Program} {w : World} {K : PySem.W.Frag} {mg : Str → Option Value} {base : Heap} (T : Txt K mg) (hN : base.NoSeer) (ht : P.given.tree = none)
include T
theorem ok_L_divisor : Ok P w K mg base 1 ("_law_divisor", none) ["_law_one", "_law_other"] sDvr := by
  refine T.d_L_divisor.ok sc_L_divisor (fun _ => rfl) fun cdv A outer s H vs Q E ⟨a, b⟩ hr _ ha k => ?_
  obtain ⟨_, _, rfl, rfl, _, _, rfl, rfl, rfl⟩ := ha
  refine ⟨_, (pss_cons (ps_while PassesOwn.never (pt_cmpR op_ne (pv 1) pe_int (nomark _)) (pss_one (ps_par (i := 0) (j := 1) (by rfl) sc_L_divisor.nd rfl rfl (by decide) rfl rfl (pa_cons (pv 1) (pa_cons (pe_op op_modN (pv 0) (pv 1)) pa_nil)) (by rfl))))
      (pss_one (ps_ret (pe_callB call_abs (by rfl) T.free_abs (by decide +kernel) (pa_cons (pv 0) pa_nil))))), ?_⟩
  refine s_while (fun n σ H' => Same H H' ∧ ∃ x y : Int, σ = [some (.int x), some (.int y)] ∧ Int.gcd x y = Int.gcd a b ∧ y.natAbs = n) b.natAbs ⟨Same.refl _, a, b, rfl, rfl, rfl⟩ ?_
  rintro n σ' H' ⟨e1, x, y, rfl, hg, hn⟩
  refine ⟨decide (y ≠ 0), et_test (ev_neq (ev_vint rfl) ev_int), fun hb H1 e2 => ?_, fun hb H1 e2 => ?_⟩
  · have hb : y ≠ 0 := of_decide_eq_true hb
    refine ⟨fun σ H' => Same H H' ∧ σ = [some (.int y), some (.int (x.fmod y))], fun σ2 H2 ⟨s, e⟩ => ⟨(x.fmod y).natAbs, by rw [← hn]; exact fmod_lt x hb, s, y, x.fmod y, e, by rw [gcd_fmod]; exact hg, rfl⟩, ?_⟩
    refine s_par (ea_cons (ev_vint rfl) (ea_cons (ev_opC (g := fun i j => i.fmod j) (ev_vint rfl) (ev_vint rfl) hb) ea_nil)) fun v w H2 e3 h1 h2 => ?_
    cases (show v = .int y from h1)
    cases (show w = .int (x.fmod y) from h2)
    exact ⟨e1.trans (e2.trans e3), rfl⟩
  · have hb : y = 0 := by simpa using hb
    subst hb
    refine s_ret (ev_abs (ev_vint rfl)) fun v H2 e3 h => k v H2 (e1.trans (e2.trans e3)) ?_
    have e : (if x < 0 then -x else x) = ((Int.gcd a b : Nat) : Int) := by rw [← hg, Int.gcd_zero_right]; split <;> omega
    show v = .int (Int.gcd a b : Nat)
    rw [← e]; exact h
include hN ht
def lFrac : Spc where
  ι := Int × Int
  pre := fun x => 0 < x.2 ∧ SmF (Rat.divInt x.1 x.2)
  args := fun x => [isI x.1, isI x.2]
  post := fun x _ => fR (Rat.divInt x.1 x.2)
  an := fun _ h => h
theorem ok_L_fraction : Ok P w K mg base 33 ("_law_fraction", none) ["_law_top", "_law_bottom"] lFrac := by
  refine T.d_L_fraction.ok sc_L_fraction (fun _ => rfl) fun cdv A outer s H vs Q E ⟨t, b⟩ hr ⟨hb, hs⟩ ha k => ?_
  obtain ⟨_, _, rfl, rfl, _, _, rfl, rfl, rfl⟩ := ha
  have hrP : Room 32 _ := hr
  have hr_L_divisor : Room 1 _ := hr.mono (by decide)
  have G_L_divisor := ok_L_divisor (P := P) (w := w) (base := base) T
  have hb : 0 < b := hb
  have hb0 : b ≠ 0 := by omega
  have en := div_num (top := t) hb0
  have ed := div_den (top := t) hb0
  rw [if_neg (by omega)] at en ed
  have hg : (Int.gcd t b : Int) ≠ 0 := by
    have := Int.gcd_pos_of_ne_zero_right t hb0
    omega
  refine ⟨_, (pss_cons (ps_set (i := 2) sc_L_fraction.nd rfl (Or.inl rfl) (pe_call G_L_divisor hr_L_divisor rfl T.g_L_divisor T.d_L_divisor.fn.kp T.d_L_divisor.bd .nil pass0 (pa_cons (pv 0) (pa_cons (pv 1) pa_nil))))
      (pss_one (ps_ret (pe_tup (pa_cons (pe_op (op_fdivP hN ht hrP rfl rfl rfl) (pv 0) (pv 2)) (pa_cons (pe_op (op_fdivP hN ht hrP rfl rfl rfl) (pv 1) (pv 2)) pa_nil)))))), ?_⟩
  refine s_asg (ev_call (S := sDvr) (t, b) (ea_cons (ev_vint rfl) (ea_cons (ev_vint rfl) ea_nil)) trivial) fun gv H2 e2 h2 => ?_
  cases (show gv = .int (Int.gcd t b : Nat) from h2)
  refine s_ret (ev_tup (Ps := [isI (Rat.divInt t b).num, isI ((Rat.divInt t b).den : Nat)]) (ea_cons ((ev_opC (g := fun i j => i.fdiv j) (i := t) (j := (Int.gcd t b : Int)) (ev_vint rfl) (ev_vint rfl) hg).to (congrArg isI en)) (ea_cons ((ev_opC (g := fun i j => i.fdiv j) (i := b) (j := (Int.gcd t b : Int)) (ev_vint rfl) (ev_vint rfl) hg).to (congrArg isI ed)) ea_nil))) fun v5 H5 e5 h5 => k v5 H5 (e2.trans e5) ?_
  obtain ⟨a, us, e, _, h, v1, r1, q1, p1, v2, r2, q2, p2, q3⟩ := h5
  cases (show v1 = .int _ from p1)
  cases (show v2 = .int _ from p2)
  exact ⟨hs, a, e, by rw [h, q1, q2, show r2 = [] from q3]⟩
theorem okf_make : Ok P w K mg base 1 ("_law_make", none) ["_law_prime_here", "_law_number"] (lMake (kdF (P := P) (w := w) (base := base) T hN ht) 0) := by
  refine T.d_L_make.ok sc_L_make (fun _ => rfl) fun cdv A outer s H vs Q E (n : Int) hr hn ha k => ?_
  obtain ⟨_, _, rfl, rfl, _, _, rfl, rfl, rfl⟩ := ha
  have hn : n = 0 ∨ n = 1 ∨ n = -1 := hn
  refine ⟨_, (pss_cons (ps_if (pt_cmpR op_eq (pv 0) pe_int (nomark _)) (pss_one (ps_ret (pe_tup (pa_cons (pv 1) (pa_cons pe_int pa_nil))))) pss_nil)
      (pss_one (ps_ret (pe_op op_modN (pv 1) (pv 0))))), ?_⟩
  refine s_ifT ((et_test (ev_eqI (i := 0) (ev_vint rfl) ev_int)).to (by decide)) fun H1 e1 => ?_
  refine s_ret (ev_tup (Ps := [isI n, isI 1]) (ea_cons (ev_vint rfl) (ea_cons ev_int ea_nil))) fun v5 H5 e5 h5 => k v5 H5 (e1.trans e5) ?_
  obtain ⟨a, us, e, _, h, v1, r1, q1, p1, v2, r2, q2, p2, q3⟩ := h5
  cases (show v1 = .int _ from p1)
  cases (show v2 = .int _ from p2)
  have d : (ofI n : Rat).num = n ∧ (ofI n : Rat).den = 1 := by rcases hn with rfl | rfl | rfl <;> decide +kernel
  show (fR (ofI n)).p v5 H5
  exact ⟨smF_ofI hn, a, e, by rw [h, q1, q2, show r2 = [] from q3, d.1, d.2]; rfl⟩
theorem okf_plus : Ok P w K mg base 34 ("_law_plus", none) ["_law_prime_here", "_law_one", "_law_other"] (lOp (kdF (P := P) (w := w) (base := base) T hN ht) 0 fun a b => a + b) := by
  refine T.d_L_plus.ok sc_L_plus (fun _ => rfl) fun cdv A outer s H vs Q E ⟨x, y⟩ hr hs ha k => ?_
  obtain ⟨_, _, rfl, rfl, xv, _, rfl, hx, yv, _, rfl, hy, rfl⟩ := ha
  have hr_L_fraction : Room 33 _ := hr
  have G_L_fraction := ok_L_fraction (P := P) (w := w) (base := base) T hN ht
  have hx : (fR x).p xv H := hx
  have hy : (fR y).p yv H := hy
  have hs : SmF (x + y) := hs
  have sx := hx.1
  have sy := hy.1
  have dn : ∀ z : Rat, SmF z → ((z.den : Nat) : Int).natAbs < 2 ^ LB := fun z h => by rw [Int.natAbs_natCast]; exact h.d
  refine ⟨_, (pss_cons (ps_if (pt_cmpR op_eq (pv 0) pe_int (nomark _)) (pss_one (ps_ret (pe_call G_L_fraction hr_L_fraction rfl T.g_L_fraction T.d_L_fraction.fn.kp T.d_L_fraction.bd .nil pass0 (pa_cons (pe_op op_add (pe_op op_mulX (pe_ix (ixT K) (pv 1) pe_int (fun _ _ => rfl)) (pe_ix (ixT K) (pv 2) pe_int (fun _ _ => rfl))) (pe_op op_mulX (pe_ix (ixT K) (pv 2) pe_int (fun _ _ => rfl)) (pe_ix (ixT K) (pv 1) pe_int (fun _ _ => rfl)))) (pa_cons (pe_op op_mulX (pe_ix (ixT K) (pv 1) pe_int (fun _ _ => rfl)) (pe_ix (ixT K) (pv 2) pe_int (fun _ _ => rfl))) pa_nil))))) pss_nil)
      pss_never), ?_⟩
  refine s_ifT ((et_test (ev_eqI (i := 0) (ev_vint rfl) ev_int)).to (by decide)) fun H1 e1 => ?_
  have tx := fR_tr ((fR x).mo hx e1)
  have ty := fR_tr ((fR y).mo hy e1)
  refine s_ret (ev_call (S := lFrac) (x.num * y.den + y.num * x.den, (x.den : Int) * y.den) (ea_cons (ev_opI (g := fun i j => i + j) (ev_opC (g := fun i j => i * j) (ev_tix (i := 0) (ev_var rfl tx) ev_int rfl) (ev_tix (i := 1) (ev_var rfl ty) ev_int rfl) (smF_mul sx.n (dn _ sy))) (ev_opC (g := fun i j => i * j) (ev_tix (i := 0) (ev_var rfl ty) ev_int rfl) (ev_tix (i := 1) (ev_var rfl tx) ev_int rfl) (smF_mul sy.n (dn _ sx)))) (ea_cons (ev_opC (g := fun i j => i * j) (ev_tix (i := 1) (ev_var rfl tx) ev_int rfl) (ev_tix (i := 1) (ev_var rfl ty) ev_int rfl) (smF_mul (dn _ sx) (dn _ sy))) ea_nil)) ⟨by have h1 := x.den_pos; have h2 := y.den_pos; exact Int.mul_pos (by omega) (by omega), by show SmF (Rat.divInt _ _); rw [rat_add]; exact hs⟩) fun v H2 e2 h => k v H2 (e1.trans e2) ?_
  have h : (fR (Rat.divInt (x.num * y.den + y.num * x.den) ((x.den : Int) * y.den))).p v H2 := h
  rw [rat_add] at h
  exact h
theorem okf_times : Ok P w K mg base 34 ("_law_times", none) ["_law_prime_here", "_law_one", "_law_other"] (lOp (kdF (P := P) (w := w) (base := base) T hN ht) 0 fun a b => a * b) := by
  refine T.d_L_times.ok sc_L_times (fun _ => rfl) fun cdv A outer s H vs Q E ⟨x, y⟩ hr hs ha k => ?_
  obtain ⟨_, _, rfl, rfl, xv, _, rfl, hx, yv, _, rfl, hy, rfl⟩ := ha
  have hr_L_fraction : Room 33 _ := hr
  have G_L_fraction := ok_L_fraction (P := P) (w := w) (base := base) T hN ht
  have hx : (fR x).p xv H := hx
  have hy : (fR y).p yv H := hy
  have hs : SmF (x * y) := hs
  have sx := hx.1
  have sy := hy.1
  have dn : ∀ z : Rat, SmF z → ((z.den : Nat) : Int).natAbs < 2 ^ LB := fun z h => by rw [Int.natAbs_natCast]; exact h.d
  refine ⟨_, (pss_cons (ps_if (pt_cmpR op_eq (pv 0) pe_int (nomark _)) (pss_one (ps_ret (pe_call G_L_fraction hr_L_fraction rfl T.g_L_fraction T.d_L_fraction.fn.kp T.d_L_fraction.bd .nil pass0 (pa_cons (pe_op op_mulX (pe_ix (ixT K) (pv 1) pe_int (fun _ _ => rfl)) (pe_ix (ixT K) (pv 2) pe_int (fun _ _ => rfl))) (pa_cons (pe_op op_mulX (pe_ix (ixT K) (pv 1) pe_int (fun _ _ => rfl)) (pe_ix (ixT K) (pv 2) pe_int (fun _ _ => rfl))) pa_nil))))) pss_nil)
      pss_never), ?_⟩
  refine s_ifT ((et_test (ev_eqI (i := 0) (ev_vint rfl) ev_int)).to (by decide)) fun H1 e1 => ?_
  have tx := fR_tr ((fR x).mo hx e1)
  have ty := fR_tr ((fR y).mo hy e1)
  refine s_ret (ev_call (S := lFrac) (x.num * y.num, (x.den : Int) * y.den) (ea_cons (ev_opC (g := fun i j => i * j) (ev_tix (i := 0) (ev_var rfl tx) ev_int rfl) (ev_tix (i := 0) (ev_var rfl ty) ev_int rfl) (smF_mul sx.n sy.n)) (ea_cons (ev_opC (g := fun i j => i * j) (ev_tix (i := 1) (ev_var rfl tx) ev_int rfl) (ev_tix (i := 1) (ev_var rfl ty) ev_int rfl) (smF_mul (dn _ sx) (dn _ sy))) ea_nil)) ⟨by have h1 := x.den_pos; have h2 := y.den_pos; exact Int.mul_pos (by omega) (by omega), by show SmF (Rat.divInt _ _); rw [rat_mul]; exact hs⟩) fun v H2 e2 h => k v H2 (e1.trans e2) ?_
  have h : (fR (Rat.divInt (x.num * y.num) ((x.den : Int) * y.den))).p v H2 := h
  rw [rat_mul] at h
  exact h
theorem okf_isn : Ok P w K mg base 2 ("_law_is_number", none) ["_law_prime_here", "_law_found"] (lIs (kdF (P := P) (w := w) (base := base) T hN ht) 0) := by
  refine T.d_L_is_number.ok sc_L_is_number (fun _ => rfl) fun cdv A outer s H vs Q E (x : Rat) hr _ ha k => ?_
  obtain ⟨_, _, rfl, rfl, xv, _, rfl, hx, rfl⟩ := ha
  have hr_L_whole : Room 1 _ := hr
  have G_L_whole := ok_L_whole (P := P) (w := w) (base := base) T
  have hr_L_divisor : Room 1 _ := hr
  have G_L_divisor := ok_L_divisor (P := P) (w := w) (base := base) T
  have hx : (fR x).p xv H := hx
  refine ⟨_, (pss_cons (ps_if (pt_cmpR op_gt (pv 0) pe_int (nomark _)) (pss_one (ps_ret (pe_and (pe_call G_L_whole hr_L_whole rfl T.g_L_whole T.d_L_whole.fn.kp T.d_L_whole.bd .nil pass0 (pa_cons (pv 1) pa_nil)) (pe_one (pe_chain op_le op_lt pe_int (pv 1) (pv 0)))))) pss_nil)
      (pss_cons (ps_if (PW.pt (pw_or (pt_not (pt_val (pe_callB (isiK K) (by rfl) T.free_isinstance (by decide +kernel) (pa_cons (pv 1) (pa_cons (pe_bltn (v := .ty "tuple") (by rfl) T.free_tuple (by decide +kernel) rfl) pa_nil))))) (pw_or (pt_cmpR op_ne (pe_callB (lenK K) (by rfl) T.free_len PySem.boot_len (pa_cons (pv 1) pa_nil)) pe_int (nomark _)) (pw_or (pt_not (pt_val (pe_call G_L_whole hr_L_whole rfl T.g_L_whole T.d_L_whole.fn.kp T.d_L_whole.bd .nil pass0 (pa_cons (pe_ix (ixT K) (pv 1) pe_int (fun _ _ => rfl)) pa_nil)))) (pw_or1 (pt_not (pt_val (pe_call G_L_whole hr_L_whole rfl T.g_L_whole T.d_L_whole.fn.kp T.d_L_whole.bd .nil pass0 (pa_cons (pe_ix (ixT K) (pv 1) pe_int (fun _ _ => rfl)) pa_nil))))))))) (pss_one (ps_ret pe_bl)) pss_nil)
      (pss_one (ps_ret (pe_and (pe_cmpR op_gt (pe_ix (ixT K) (pv 1) pe_int (fun _ _ => rfl)) pe_int (nomark _)) (pe_one (pe_cmpR op_eq (pe_call G_L_divisor hr_L_divisor rfl T.g_L_divisor T.d_L_divisor.fn.kp T.d_L_divisor.bd .nil pass0 (pa_cons (pe_ix (ixT K) (pv 1) pe_int (fun _ _ => rfl)) (pa_cons (pe_ix (ixT K) (pv 1) pe_int (fun _ _ => rfl)) pa_nil))) pe_int (nomark _)))))))), ?_⟩
  refine s_ifF ((et_test (ev_opB (g := fun i j => decide (j < i)) (i := 0) (ev_vint rfl) ev_int)).to (by decide)) fun H1 e1 => ?_
  have t1 := fR_tr ((fR x).mo hx e1)
  refine s_ifF ((et_or (et_not (et_test (ev_isi (t := .type "tuple") (b := true) (ev_var rfl t1) (fun v H1 ⟨a, vs, e, _, ha, _⟩ => by rw [e]; exact .base (.tup ha)) rfl))) fun _ => et_or (et_test (ev_neI (ev_lenT (ev_var rfl t1)) ev_int)) fun _ => et_or (et_not (et_test (ev_call (S := sWhole) x.num (ea_cons (ev_tix (i := 0) (ev_var rfl t1) ev_int rfl) ea_nil) trivial))) fun _ => et_not (et_test (ev_call (S := sWhole) ((x.den : Nat) : Int) (ea_cons (ev_tix (i := 1) (ev_var rfl t1) ev_int rfl) ea_nil) trivial))).to (by simp)) fun H2 e2 => ?_
  have t2 := fR_tr ((fR x).mo hx (e1.trans e2))
  refine s_nx ?_
  dsimp only
  refine s_ret ((ev_and (ev_opB (g := fun i j => decide (j < i)) (ev_tix (i := 1) (ev_var rfl t2) ev_int rfl) ev_int) fun _ => ev_eqI (ev_call (S := sDvr) (x.num, ((x.den : Nat) : Int)) (ea_cons (ev_tix (i := 0) (ev_var rfl t2) ev_int rfl) (ea_cons (ev_tix (i := 1) (ev_var rfl t2) ev_int rfl) ea_nil)) trivial) ev_int).to (P' := isB true) ?_) fun v H3 e3 h => k v H3 (e1.trans (e2.trans e3)) h
  have h1 := x.den_pos
  have h2 : Int.gcd x.num (x.den : Nat) = 1 := by
    have := x.reduced
    unfold Nat.Coprime at this
    show Nat.gcd x.num.natAbs ((x.den : Nat) : Int).natAbs = 1
    rw [Int.natAbs_natCast]
    exact this
  congr 1
  rw [h2]
  simp
  omega
end
end Tf
set_option maxRecDepth 100000
set_option maxHeartbeats 4000000
namespace Tf
open PySem PySem.Spec PyProof.Rows L2
section
variable {P : Program} {w : World} {K : PySem.W.Frag} {mg : Str → Option Value} {base : Heap} (T : Txt K mg) (hN : base.NoSeer) (ht : P.given.tree = none)
include T hN ht
theorem okf_drawn : Ok P w K mg base 34 ("_law_drawn", none) ["_law_prime_here", "_law_number"] (lDrawn (kdF (P := P) (w := w) (base := base) T hN ht) 0 drF) := by
  refine T.d_L_drawn.ok sc_L_drawn (fun _ => rfl) fun cdv A outer s H vs Q E (n : Int) hr _ ha k => ?_
  obtain ⟨_, _, rfl, rfl, _, _, rfl, rfl, rfl⟩ := ha
  have hr_L_fraction : Room 33 _ := hr
  have G_L_fraction := ok_L_fraction (P := P) (w := w) (base := base) T hN ht
  refine ⟨_, (pss_cons (ps_if (pt_cmpR op_gt (pv 0) pe_int (nomark _)) (pss_one (ps_ret (pe_ix (ixL K) (pe_lst (pa_cons pe_int (pa_cons pe_int (pa_cons (pe_op op_sub (pv 0) pe_int) (pa_cons (pe_op op_mod (pe_op op_fdiv (pv 1) pe_int) (pv 0)) pa_nil))))) (pe_op op_mod (pv 1) pe_int) (fun _ _ => rfl)))) pss_nil)
      (pss_cons (ps_if (pt_cmpR op_eq (pe_op op_mod (pv 1) pe_int) pe_int (nomark _)) (pss_one (ps_ret (pe_tup (pa_cons (pe_op op_sub (pe_op op_mod (pe_op op_fdiv (pv 1) pe_int) pe_int) pe_int) (pa_cons pe_int pa_nil))))) pss_nil)
      (pss_one (ps_ret (pe_call G_L_fraction hr_L_fraction rfl T.g_L_fraction T.d_L_fraction.fn.kp T.d_L_fraction.bd .nil pass0 (pa_cons (pe_op op_sub (pe_op op_mod (pe_op op_fdiv (pv 1) pe_int) pe_int) pe_int) (pa_cons (pe_op op_add pe_int (pe_op op_mod (pe_op op_fdiv (pv 1) pe_int) pe_int)) pa_nil))))))), ?_⟩
  refine s_ifF ((et_test (ev_opB (g := fun i j => decide (j < i)) (i := 0) (ev_vint rfl) ev_int)).to (by decide)) fun H1 e1 => ?_
  have goal : ∀ (v : V) (H' : Hp) (x : Rat), Same H H' → (fR x).p v H' → x = drF n → Q v H' := fun v H' x s p e => k v H' s (by rw [e] at p; exact p)
  refine s_if (et_test (ev_eqI (ev_opC (g := fun i j => i % j) (i := n) (j := 3) (ev_vint rfl) ev_int (show (0 : Int) < 3 by decide)) ev_int)) (fun hz H2 e2 => ?_) (fun hz H2 e2 => ?_)
  · have hz : n % 3 = 0 := of_decide_eq_true hz
    refine s_ret (ev_tup (Ps := [isI (n / 3 % 3 - 1), isI 1]) (ea_cons (ev_opI (g := fun i j => i - j) (ev_opC (g := fun i j => i % j) (i := n / 3) (j := 3) (ev_opC (g := fun i j => i / j) (i := n) (j := 3) (ev_vint rfl) ev_int ⟨by decide, by decide⟩) ev_int (show (0 : Int) < 3 by decide)) ev_int) (ea_cons ev_int ea_nil))) fun v5 H5 e5 h5 => ?_
    obtain ⟨a, us, e, _, h, v1, r1, q1, p1, v2, r2, q2, p2, q3⟩ := h5
    cases (show v1 = .int _ from p1)
    cases (show v2 = .int _ from p2)
    have ed : drF n = ((n / 3 % 3 - 1 : Int) : Rat) := by
      unfold drF
      rw [if_pos hz, rat_of]
    refine goal _ _ ((n / 3 % 3 - 1 : Int) : Rat) (e1.trans (e2.trans e5)) ⟨?_, a, e, by rw [h, q1, q2, show r2 = [] from q3]; rfl⟩ ed.symm
    rw [← ed]; exact smF_7 (drF_dd n)
  · have hz : ¬ n % 3 = 0 := of_decide_eq_false hz
    have ed : drF n = Rat.divInt (n / 3 % 19 - 9) (1 + n / 57 % 4) := by
      unfold drF
      rw [if_neg hz]
    refine s_nx ?_
    dsimp only
    refine s_ret (ev_call (S := lFrac) (n / 3 % 19 - 9, 1 + n / 57 % 4) (ea_cons (ev_opI (g := fun i j => i - j) (ev_opC (g := fun i j => i % j) (i := n / 3) (j := 19) (ev_opC (g := fun i j => i / j) (i := n) (j := 3) (ev_vint rfl) ev_int ⟨by decide, by decide⟩) ev_int (show (0 : Int) < 19 by decide)) ev_int) (ea_cons (ev_opI (g := fun i j => i + j) ev_int (ev_opC (g := fun i j => i % j) (i := n / 57) (j := 4) (ev_opC (g := fun i j => i / j) (i := n) (j := 57) (ev_vint rfl) ev_int ⟨by decide, by decide⟩) ev_int (show (0 : Int) < 4 by decide))) ea_nil)) ⟨show 0 < 1 + n / 57 % 4 by omega, by
      show SmF (Rat.divInt (n / 3 % 19 - 9) (1 + n / 57 % 4))
      rw [← ed]; exact smF_7 (drF_dd n)⟩) fun v5 H5 e5 h5 => goal _ _ _ (e1.trans (e2.trans e5)) h5 ed.symm
def lkF : LK (kdF (P := P) (w := w) (base := base) T hN ht) where
  q := 0
  make := (okf_make T hN ht).mono (by decide)
  plus := (okf_plus T hN ht).mono (by decide)
  times := (okf_times T hN ht).mono (by decide)
  isn := (okf_isn T hN ht).mono (by decide)
  dr := drF
  drawn := (okf_drawn T hN ht).mono (by decide)
theorem okf_kind : Ok P w K mg base 4 ("_law_kind", none) ["_law_prime_here"] (lKind (kdF (P := P) (w := w) (base := base) T hN ht) 0) := by
  refine T.d_L_kind.ok sc_L_kind (fun _ => rfl) fun cdv A outer s H vs Q E i hr _ ha k => ?_
  obtain ⟨_, _, rfl, rfl, rfl⟩ := ha
  refine ⟨_, (pss_cons (ps_if (pt_cmpR op_eq (pv 0) pe_int (nomark _)) (pss_one (ps_ret (pe_makeO T.mk0 T.ini0 T.kp0 rfl T.g_Fractions))) pss_nil)
      (pss_one ps_never)), ?_⟩
  refine s_ifT ((et_test (ev_eqI (i := 0) (ev_vint rfl) ev_int)).to (by decide)) fun H1 e1 => ?_
  exact s_ret ev_F0 fun v H2 e2 h => k v H2 (e1.trans e2) h
/-- the law over the fractions -/
theorem ok_law_F : FnOk P w K mg base CX0 60 (He.fAd K ("law", none)) (fdAt K (He.fAd K ("law", none))) ["_law_script"] (spLaw (kdF (P := P) (w := w) (base := base) T hN ht) (lkF T hN ht)) :=
  ok_law (kdF T hN ht) (lkF T hN ht) T ((okf_kind T hN ht).mono (by decide)) fun cells at_ c => by
    obtain ⟨a, b⟩ := rowsBy_rect drF cells at_ (sizeOf 0 c) (sizeOf 0 c)
    obtain ⟨z1, z2, z3⟩ := sizeOf_ok 0 c
    have z3 := z3 rfl
    have G : Good (rowsBy drF cells at_ (sizeOf 0 c) (sizeOf 0 c)) (sizeOf 0 c) := good_of a b z1 z3 fun r hr x hx => by
      obtain ⟨i, _, rfl⟩ := List.mem_map.mp hr
      obtain ⟨j, _, rfl⟩ := List.mem_map.mp hx
      exact drF_dd _
    obtain ⟨f1, f2, f3, f4, f5⟩ := frame_b G
    exact ⟨smF_all f1, ⟨a, b, z1, z2, smF_all f2, smF_all f3, smF_all f4, smF_all f5⟩⟩
end
end Tf
set_option maxRecDepth 100000
set_option maxHeartbeats 4000000
namespace Tf
open PySem PySem.Spec PyProof.Rows L2
section
variable {K : PySem.W.Frag} {mg : Str → Option Value} {h : Heap}
theorem df_of {p : Str × Option Str} {nm qual : Str} {st : Stmt} {ps : List Str} (F : ∃ fd, FunD K nm qual (defArgs st) (defBody st) (defScope st) [] [] (He.fAd K p) fd)
    (hb : ∀ (kV doc pm : Value) (an : Option Addr) (cdv ct : Value) (us : List Value), us.length = ps.length → bindArgs (PySem.W.fnOf nm qual (defArgs st) (defBody st) (defScope st) .none kV doc pm an cdv ct) ⟨us, []⟩ = pure (ps.zip us)) : Df K p nm qual st ps := by
  obtain ⟨fd, F⟩ := F
  have e := fdAt_eq F
  refine ⟨by rw [e]; exact F, ?_⟩
  rw [e]
  exact F.bindsN hb
theorem df1_of {p : Str × Option Str} {nm qual : Str} {st : Stmt} {a b c : Str} (F : ∃ fd, FunD K nm qual (defArgs st) (defBody st) (defScope st) [.int 1] [] (He.fAd K p) fd)
    (hb : ∀ (T : Addr) (kV doc pm : Value) (an : Option Addr) (cdv ct u v z i : Value), ∃ k, bindArgs (PySem.W.fnOf nm qual (defArgs st) (defBody st) (defScope st) (.ref T) kV doc pm an cdv ct) ⟨[u, v, z], []⟩ = seqItems? (.ref T) >>= k ∧ k (some #[i]) = pure ([a, b, c].zip [u, v, z]))
    (hb1 : ∀ (T : Addr) (kV doc pm : Value) (an : Option Addr) (cdv ct u v i : Value), ∃ k, bindArgs (PySem.W.fnOf nm qual (defArgs st) (defBody st) (defScope st) (.ref T) kV doc pm an cdv ct) ⟨[u, v], []⟩ = seqItems? (.ref T) >>= k ∧ k (some #[i]) = pure ([a, b, c].zip [u, v, i])) : Df1 K p nm qual st [a, b, c] := by
  obtain ⟨fd, F⟩ := F
  have e := fdAt_eq F
  refine ⟨by rw [e]; exact F, ?_, ?_⟩
  · rw [e]
    obtain ⟨ds, hv, B⟩ := F.binds1 (ps := [a, b, c]) 3 1 (by simp) rfl fun T kV doc pm an cdv ct us its hu hi => match us, hu, its, hi with | [u, v, z], _, [i], _ => hb T kV doc pm an cdv ct u v z i
    cases hv
    exact B
  · rw [e]
    exact F.binds1 (ps := [a, b, c]) 2 0 (by simp) rfl fun T kV doc pm an cdv ct us its hu hi => match us, hu, its, hi with | [u, v], _, [i], _ => hb1 T kV doc pm an cdv ct u v i
theorem txt (X : K.In h) (G : h.Ns mainGlobals mg) (c : He.SaysD fa fn K) (x : ext K = true) : Txt K mg where
  d_is_square := df_of (c.def_ 0 (d := D_is_square) rfl) fun _ _ _ _ _ _ us hl => match us, hl with | [_], _ => rfl
  d_unit := df_of (c.def_ 1 (d := D_unit) rfl) fun _ _ _ _ _ _ us hl => match us, hl with | [_, _], _ => rfl
  d_turned := df_of (c.def_ 2 (d := D_turned) rfl) fun _ _ _ _ _ _ us hl => match us, hl with | [_], _ => rfl
  d_dot := df_of (c.def_ 3 (d := D_dot) rfl) fun _ _ _ _ _ _ us hl => match us, hl with | [_, _, _], _ => rfl
  d_image := df_of (c.def_ 4 (d := D_image) rfl) fun _ _ _ _ _ _ us hl => match us, hl with | [_, _, _], _ => rfl
  d_is_whole := df_of (c.def_ 5 (d := D_is_whole) rfl) fun _ _ _ _ _ _ us hl => match us, hl with | [_], _ => rfl
  d_divisor := df_of (c.def_ 6 (d := D_divisor) rfl) fun _ _ _ _ _ _ us hl => match us, hl with | [_, _], _ => rfl
  d_shares := df_of (c.def_ 7 (d := D_shares) rfl) fun _ _ _ _ _ _ us hl => match us, hl with | [_, _], _ => rfl
  d_is_prime := df_of (c.def_ 8 (d := D_is_prime) rfl) fun _ _ _ _ _ _ us hl => match us, hl with | [_], _ => rfl
  d_Fractions_minus := df_of (c.def_ 9 (d := D_Fractions_minus) rfl) fun _ _ _ _ _ _ us hl => match us, hl with | [_, _, _], _ => rfl
  d_Rests_minus := df_of (c.def_ 10 (d := D_Rests_minus) rfl) fun _ _ _ _ _ _ us hl => match us, hl with | [_, _, _], _ => rfl
  d_Polys_minus := df_of (c.def_ 11 (d := D_Polys_minus) rfl) fun _ _ _ _ _ _ us hl => match us, hl with | [_, _, _], _ => rfl
  d_Fractions_is_nought := df_of (c.def_ 12 (d := D_Fractions_is_nought) rfl) fun _ _ _ _ _ _ us hl => match us, hl with | [_, _], _ => rfl
  d_Rests_is_nought := df_of (c.def_ 13 (d := D_Rests_is_nought) rfl) fun _ _ _ _ _ _ us hl => match us, hl with | [_, _], _ => rfl
  d_Fractions_number := df1_of (c.def_ 14 (d := D_Fractions_number) rfl) (fun _ _ _ _ _ _ _ _ _ _ _ => ⟨_, rfl, rfl⟩) (fun _ _ _ _ _ _ _ _ _ _ => ⟨_, rfl, rfl⟩)
  d_Fractions_plus := df_of (c.def_ 15 (d := D_Fractions_plus) rfl) fun _ _ _ _ _ _ us hl => match us, hl with | [_, _, _], _ => rfl
  d_Fractions_times := df_of (c.def_ 16 (d := D_Fractions_times) rfl) fun _ _ _ _ _ _ us hl => match us, hl with | [_, _, _], _ => rfl
  d_Fractions_back := df_of (c.def_ 17 (d := D_Fractions_back) rfl) fun _ _ _ _ _ _ us hl => match us, hl with | [_, _], _ => rfl
  d_Rests_init := df_of (c.def_ 18 (d := D_Rests_init) rfl) fun _ _ _ _ _ _ us hl => match us, hl with | [_, _], _ => rfl
  d_Rests_number := df1_of (c.def_ 19 (d := D_Rests_number) rfl) (fun _ _ _ _ _ _ _ _ _ _ _ => ⟨_, rfl, rfl⟩) (fun _ _ _ _ _ _ _ _ _ _ => ⟨_, rfl, rfl⟩)
  d_Rests_plus := df_of (c.def_ 20 (d := D_Rests_plus) rfl) fun _ _ _ _ _ _ us hl => match us, hl with | [_, _, _], _ => rfl
  d_Rests_times := df_of (c.def_ 21 (d := D_Rests_times) rfl) fun _ _ _ _ _ _ us hl => match us, hl with | [_, _, _], _ => rfl
  d_Rests_back := df_of (c.def_ 22 (d := D_Rests_back) rfl) fun _ _ _ _ _ _ us hl => match us, hl with | [_, _], _ => rfl
  d_trimmed := df_of (c.def_ 23 (d := D_trimmed) rfl) fun _ _ _ _ _ _ us hl => match us, hl with | [_, _], _ => rfl
  d_plus_poly := df_of (c.def_ 24 (d := D_plus_poly) rfl) fun _ _ _ _ _ _ us hl => match us, hl with | [_, _, _], _ => rfl
  d_times_poly := df_of (c.def_ 25 (d := D_times_poly) rfl) fun _ _ _ _ _ _ us hl => match us, hl with | [_, _, _], _ => rfl
  d_Polys_init := df_of (c.def_ 26 (d := D_Polys_init) rfl) fun _ _ _ _ _ _ us hl => match us, hl with | [_, _], _ => rfl
  d_Polys_number := df1_of (c.def_ 27 (d := D_Polys_number) rfl) (fun _ _ _ _ _ _ _ _ _ _ _ => ⟨_, rfl, rfl⟩) (fun _ _ _ _ _ _ _ _ _ _ => ⟨_, rfl, rfl⟩)
  d_Polys_plus := df_of (c.def_ 28 (d := D_Polys_plus) rfl) fun _ _ _ _ _ _ us hl => match us, hl with | [_, _, _], _ => rfl
  d_Polys_times := df_of (c.def_ 29 (d := D_Polys_times) rfl) fun _ _ _ _ _ _ us hl => match us, hl with | [_, _, _], _ => rfl
  d_divided := df_of (c.def_ 30 (d := D_divided) rfl) fun _ _ _ _ _ _ us hl => match us, hl with | [_, _, _], _ => rfl
  d_common := df_of (c.def_ 31 (d := D_common) rfl) fun _ _ _ _ _ _ us hl => match us, hl with | [_, _, _], _ => rfl
  d_is_turn := df_of (c.def_ 32 (d := D_is_turn) rfl) fun _ _ _ _ _ _ us hl => match us, hl with | [_, _, _], _ => rfl
  d_rows_behind := df_of (c.def_ 33 (d := D_rows_behind) rfl) fun _ _ _ _ _ _ us hl => match us, hl with | [_, _, _], _ => rfl
  d_done := df_of (c.def_ 34 (d := D_done) rfl) fun _ _ _ _ _ _ us hl => match us, hl with | [_, _, _], _ => rfl
  d_first_low := df_of (c.def_ 35 (d := D_first_low) rfl) fun _ _ _ _ _ _ us hl => match us, hl with | [_, _, _, _], _ => rfl
  d_lead_turns := df_of (c.def_ 36 (d := D_lead_turns) rfl) fun _ _ _ _ _ _ us hl => match us, hl with | [_, _, _, _, _], _ => rfl
  d_clear_turns := df_of (c.def_ 37 (d := D_clear_turns) rfl) fun _ _ _ _ _ _ us hl => match us, hl with | [_, _, _, _], _ => rfl
  d_steps := df_of (c.def_ 38 (d := D_steps) rfl) fun _ _ _ _ _ _ us hl => match us, hl with | [_, _], _ => rfl
  d_kernel_column := df_of (c.def_ 39 (d := D_kernel_column) rfl) fun _ _ _ _ _ _ us hl => match us, hl with | [_, _, _, _], _ => rfl
  d_kernel := df_of (c.def_ 40 (d := D_kernel) rfl) fun _ _ _ _ _ _ us hl => match us, hl with | [_, _], _ => rfl
  d_inverse := df_of (c.def_ 41 (d := D_inverse) rfl) fun _ _ _ _ _ _ us hl => match us, hl with | [_, _], _ => rfl
  d_shown_never := df_of (c.def_ 42 (d := D_shown_never) rfl) fun _ _ _ _ _ _ us hl => match us, hl with | [_, _, _, _, _], _ => rfl
  d_solved := df_of (c.def_ 43 (d := D_solved) rfl) fun _ _ _ _ _ _ us hl => match us, hl with | [_, _, _], _ => rfl
  d_least_of := df_of (c.def_ 44 (d := D_least_of) rfl) fun _ _ _ _ _ _ us hl => match us, hl with | [_, _, _], _ => rfl
  d_at_column := df_of (c.def_ 45 (d := D_at_column) rfl) fun _ _ _ _ _ _ us hl => match us, hl with | [_, _, _, _], _ => rfl
  d_parted := df_of (c.def_ 46 (d := D_parted) rfl) fun _ _ _ _ _ _ us hl => match us, hl with | [_, _, _], _ => rfl
  d_joined := df_of (c.def_ 47 (d := D_joined) rfl) fun _ _ _ _ _ _ us hl => match us, hl with | [_, _, _, _], _ => rfl
  d_least := df_of (c.def_ 48 (d := D_least) rfl) fun _ _ _ _ _ _ us hl => match us, hl with | [_, _], _ => rfl
  d_chained := df_of (c.def_ 49 (d := D_chained) rfl) fun _ _ _ _ _ _ us hl => match us, hl with | [_, _, _, _], _ => rfl
  d_beside := df_of (c.def_ 50 (d := D_beside) rfl) fun _ _ _ _ _ _ us hl => match us, hl with | [_, _, _], _ => rfl
  d_within := df_of (c.def_ 51 (d := D_within) rfl) fun _ _ _ _ _ _ us hl => match us, hl with | [_, _, _], _ => rfl
  d_parts := df_of (c.def_ 52 (d := D_parts) rfl) fun _ _ _ _ _ _ us hl => match us, hl with | [_, _], _ => rfl
  d_frame := df_of (c.def_ 53 (d := D_frame) rfl) fun _ _ _ _ _ _ us hl => match us, hl with | [_, _], _ => rfl
  d_L_whole := df_of (c.def_ 54 (d := D_L_whole) rfl) fun _ _ _ _ _ _ us hl => match us, hl with | [_], _ => rfl
  d_L_divisor := df_of (c.def_ 55 (d := D_L_divisor) rfl) fun _ _ _ _ _ _ us hl => match us, hl with | [_, _], _ => rfl
  d_L_is_prime := df_of (c.def_ 56 (d := D_L_is_prime) rfl) fun _ _ _ _ _ _ us hl => match us, hl with | [_], _ => rfl
  d_L_prime := df_of (c.def_ 57 (d := D_L_prime) rfl) fun _ _ _ _ _ _ us hl => match us, hl with | [_], _ => rfl
  d_L_prime_by := df_of (c.def_ 58 (d := D_L_prime_by) rfl) fun _ _ _ _ _ _ us hl => match us, hl with | [_], _ => rfl
  d_L_kind := df_of (c.def_ 59 (d := D_L_kind) rfl) fun _ _ _ _ _ _ us hl => match us, hl with | [_], _ => rfl
  d_L_fraction := df_of (c.def_ 60 (d := D_L_fraction) rfl) fun _ _ _ _ _ _ us hl => match us, hl with | [_, _], _ => rfl
  d_L_make := df_of (c.def_ 61 (d := D_L_make) rfl) fun _ _ _ _ _ _ us hl => match us, hl with | [_, _], _ => rfl
  d_L_plus := df_of (c.def_ 62 (d := D_L_plus) rfl) fun _ _ _ _ _ _ us hl => match us, hl with | [_, _, _], _ => rfl
  d_L_times := df_of (c.def_ 63 (d := D_L_times) rfl) fun _ _ _ _ _ _ us hl => match us, hl with | [_, _, _], _ => rfl
  d_L_minus := df_of (c.def_ 64 (d := D_L_minus) rfl) fun _ _ _ _ _ _ us hl => match us, hl with | [_, _, _], _ => rfl
  d_L_is_number := df_of (c.def_ 65 (d := D_L_is_number) rfl) fun _ _ _ _ _ _ us hl => match us, hl with | [_, _], _ => rfl
  d_L_drawn := df_of (c.def_ 66 (d := D_L_drawn) rfl) fun _ _ _ _ _ _ us hl => match us, hl with | [_, _], _ => rfl
  d_L_cut := df_of (c.def_ 67 (d := D_L_cut) rfl) fun _ _ _ _ _ _ us hl => match us, hl with | [_, _], _ => rfl
  d_L_rest_by := df_of (c.def_ 68 (d := D_L_rest_by) rfl) fun _ _ _ _ _ _ us hl => match us, hl with | [_, _, _], _ => rfl
  d_L_blocks := df_of (c.def_ 69 (d := D_L_blocks) rfl) fun _ _ _ _ _ _ us hl => match us, hl with | [_, _], _ => rfl
  d_L_image := df_of (c.def_ 70 (d := D_L_image) rfl) fun _ _ _ _ _ _ us hl => match us, hl with | [_, _, _], _ => rfl
  d_L_across := df_of (c.def_ 71 (d := D_L_across) rfl) fun _ _ _ _ _ _ us hl => match us, hl with | [_], _ => rfl
  d_L_product := df_of (c.def_ 72 (d := D_L_product) rfl) fun _ _ _ _ _ _ us hl => match us, hl with | [_, _, _], _ => rfl
  d_L_is_row := df_of (c.def_ 73 (d := D_L_is_row) rfl) fun _ _ _ _ _ _ us hl => match us, hl with | [_, _, _], _ => rfl
  d_L_is_table := df_of (c.def_ 74 (d := D_L_is_table) rfl) fun _ _ _ _ _ _ us hl => match us, hl with | [_, _, _], _ => rfl
  d_L_unit := df_of (c.def_ 75 (d := D_L_unit) rfl) fun _ _ _ _ _ _ us hl => match us, hl with | [_, _], _ => rfl
  d_L_cell_at := df_of (c.def_ 76 (d := D_L_cell_at) rfl) fun _ _ _ _ _ _ us hl => match us, hl with | [_, _], _ => rfl
  d_L_rows_by := df_of (c.def_ 77 (d := D_L_rows_by) rfl) fun _ _ _ _ _ _ us hl => match us, hl with | [_, _, _, _, _], _ => rfl
  d_L_size := df_of (c.def_ 78 (d := D_L_size) rfl) fun _ _ _ _ _ _ us hl => match us, hl with | [_, _], _ => rfl
  d_L_chain_right := df_of (c.def_ 79 (d := D_L_chain_right) rfl) fun _ _ _ _ _ _ us hl => match us, hl with | [_, _, _], _ => rfl
  d_L_right := df_of (c.def_ 80 (d := D_L_right) rfl) fun _ _ _ _ _ _ us hl => match us, hl with | [_, _, _, _], _ => rfl
  d_law := df_of (c.def_ 81 (d := D_law) rfl) fun _ _ _ _ _ _ us hl => match us, hl with | [_], _ => rfl
  g_is_square := He.glo_ok X G (c.fact 0 (f := .glo "is_square") rfl)
  g_unit := He.glo_ok X G (c.fact 1 (f := .glo "unit") rfl)
  g_turned := He.glo_ok X G (c.fact 2 (f := .glo "turned") rfl)
  g_dot := He.glo_ok X G (c.fact 3 (f := .glo "dot") rfl)
  g_image := He.glo_ok X G (c.fact 4 (f := .glo "image") rfl)
  g_is_whole := He.glo_ok X G (c.fact 5 (f := .glo "is_whole") rfl)
  g_divisor := He.glo_ok X G (c.fact 6 (f := .glo "divisor") rfl)
  g_shares := He.glo_ok X G (c.fact 7 (f := .glo "shares") rfl)
  g_is_prime := He.glo_ok X G (c.fact 8 (f := .glo "is_prime") rfl)
  g_Fractions := He.glo_ok X G (c.fact 9 (f := .glo "Fractions") rfl)
  g_Rests := He.glo_ok X G (c.fact 10 (f := .glo "Rests") rfl)
  g_trimmed := He.glo_ok X G (c.fact 11 (f := .glo "trimmed") rfl)
  g_plus_poly := He.glo_ok X G (c.fact 12 (f := .glo "plus_poly") rfl)
  g_times_poly := He.glo_ok X G (c.fact 13 (f := .glo "times_poly") rfl)
  g_Polys := He.glo_ok X G (c.fact 14 (f := .glo "Polys") rfl)
  g_divided := He.glo_ok X G (c.fact 15 (f := .glo "divided") rfl)
  g_common := He.glo_ok X G (c.fact 16 (f := .glo "common") rfl)
  g_is_turn := He.glo_ok X G (c.fact 17 (f := .glo "is_turn") rfl)
  g_rows_behind := He.glo_ok X G (c.fact 18 (f := .glo "rows_behind") rfl)
  g_done := He.glo_ok X G (c.fact 19 (f := .glo "done") rfl)
  g_first_low := He.glo_ok X G (c.fact 20 (f := .glo "first_low") rfl)
  g_lead_turns := He.glo_ok X G (c.fact 21 (f := .glo "lead_turns") rfl)
  g_clear_turns := He.glo_ok X G (c.fact 22 (f := .glo "clear_turns") rfl)
  g_steps := He.glo_ok X G (c.fact 23 (f := .glo "steps") rfl)
  g_kernel_column := He.glo_ok X G (c.fact 24 (f := .glo "kernel_column") rfl)
  g_kernel := He.glo_ok X G (c.fact 25 (f := .glo "kernel") rfl)
  g_inverse := He.glo_ok X G (c.fact 26 (f := .glo "inverse") rfl)
  g_shown_never := He.glo_ok X G (c.fact 27 (f := .glo "shown_never") rfl)
  g_solved := He.glo_ok X G (c.fact 28 (f := .glo "solved") rfl)
  g_least_of := He.glo_ok X G (c.fact 29 (f := .glo "least_of") rfl)
  g_at_column := He.glo_ok X G (c.fact 30 (f := .glo "at_column") rfl)
  g_parted := He.glo_ok X G (c.fact 31 (f := .glo "parted") rfl)
  g_joined := He.glo_ok X G (c.fact 32 (f := .glo "joined") rfl)
  g_least := He.glo_ok X G (c.fact 33 (f := .glo "least") rfl)
  g_chained := He.glo_ok X G (c.fact 34 (f := .glo "chained") rfl)
  g_beside := He.glo_ok X G (c.fact 35 (f := .glo "beside") rfl)
  g_within := He.glo_ok X G (c.fact 36 (f := .glo "within") rfl)
  g_parts := He.glo_ok X G (c.fact 37 (f := .glo "parts") rfl)
  g_frame := He.glo_ok X G (c.fact 38 (f := .glo "frame") rfl)
  g_L_whole := He.glo_ok X G (c.fact 39 (f := .glo "_law_whole") rfl)
  g_L_divisor := He.glo_ok X G (c.fact 40 (f := .glo "_law_divisor") rfl)
  g_L_is_prime := He.glo_ok X G (c.fact 41 (f := .glo "_law_is_prime") rfl)
  g_L_prime := He.glo_ok X G (c.fact 42 (f := .glo "_law_prime") rfl)
  g_L_prime_by := He.glo_ok X G (c.fact 43 (f := .glo "_law_prime_by") rfl)
  g_L_kind := He.glo_ok X G (c.fact 44 (f := .glo "_law_kind") rfl)
  g_L_fraction := He.glo_ok X G (c.fact 45 (f := .glo "_law_fraction") rfl)
  g_L_make := He.glo_ok X G (c.fact 46 (f := .glo "_law_make") rfl)
  g_L_plus := He.glo_ok X G (c.fact 47 (f := .glo "_law_plus") rfl)
  g_L_times := He.glo_ok X G (c.fact 48 (f := .glo "_law_times") rfl)
  g_L_minus := He.glo_ok X G (c.fact 49 (f := .glo "_law_minus") rfl)
  g_L_is_number := He.glo_ok X G (c.fact 50 (f := .glo "_law_is_number") rfl)
  g_L_drawn := He.glo_ok X G (c.fact 51 (f := .glo "_law_drawn") rfl)
  g_L_cut := He.glo_ok X G (c.fact 52 (f := .glo "_law_cut") rfl)
  g_L_rest_by := He.glo_ok X G (c.fact 53 (f := .glo "_law_rest_by") rfl)
  g_L_blocks := He.glo_ok X G (c.fact 54 (f := .glo "_law_blocks") rfl)
  g_L_image := He.glo_ok X G (c.fact 55 (f := .glo "_law_image") rfl)
  g_L_across := He.glo_ok X G (c.fact 56 (f := .glo "_law_across") rfl)
  g_L_product := He.glo_ok X G (c.fact 57 (f := .glo "_law_product") rfl)
  g_L_is_row := He.glo_ok X G (c.fact 58 (f := .glo "_law_is_row") rfl)
  g_L_is_table := He.glo_ok X G (c.fact 59 (f := .glo "_law_is_table") rfl)
  g_L_unit := He.glo_ok X G (c.fact 60 (f := .glo "_law_unit") rfl)
  g_L_cell_at := He.glo_ok X G (c.fact 61 (f := .glo "_law_cell_at") rfl)
  g_L_rows_by := He.glo_ok X G (c.fact 62 (f := .glo "_law_rows_by") rfl)
  g_L_size := He.glo_ok X G (c.fact 63 (f := .glo "_law_size") rfl)
  g_L_chain_right := He.glo_ok X G (c.fact 64 (f := .glo "_law_chain_right") rfl)
  g_L_right := He.glo_ok X G (c.fact 65 (f := .glo "_law_right") rfl)
  g_law := He.glo_ok X G (c.fact 66 (f := .glo "law") rfl)
  free_len := He.free_ok X G (c.fact 67 (f := .free "len") rfl)
  free_range := He.free_ok X G (c.fact 68 (f := .free "range") rfl)
  free_zip := He.free_ok X G (c.fact 69 (f := .free "zip") rfl)
  free_isinstance := He.free_ok X G (c.fact 70 (f := .free "isinstance") rfl)
  free_int := He.free_ok X G (c.fact 71 (f := .free "int") rfl)
  free_bool := He.free_ok X G (c.fact 72 (f := .free "bool") rfl)
  free_list := He.free_ok X G (c.fact 73 (f := .free "list") rfl)
  free_tuple := He.free_ok X G (c.fact 74 (f := .free "tuple") rfl)
  free_abs := He.free_ok X G (c.fact 75 (f := .free "abs") rfl)
  free_all := He.free_ok X G (c.fact 76 (f := .free "all") rfl)
  free_reversed := He.free_ok X G (c.fact 77 (f := .free "reversed") rfl)
  free_enumerate := He.free_ok X G (c.fact 78 (f := .free "enumerate") rfl)
  free_sum := He.free_ok X G (c.fact 79 (f := .free "sum") rfl)
  int_MOST := He.int_ok X G (c.fact 80 (f := .int "MOST" 1000000) rfl)
  cls_Fractions := He.cls_ok (c.fact 81 (f := .cls "Fractions") rfl)
  cls_Rests := He.cls_ok (c.fact 82 (f := .cls "Rests") rfl)
  cls_Polys := He.cls_ok (c.fact 83 (f := .cls "Polys") rfl)
  m_Fractions_minus := He.meth_ok (c.fact 84 (f := .meth "Fractions" "minus") rfl)
  m_Rests_minus := He.meth_ok (c.fact 85 (f := .meth "Rests" "minus") rfl)
  m_Polys_minus := He.meth_ok (c.fact 86 (f := .meth "Polys" "minus") rfl)
  m_Fractions_is_nought := He.meth_ok (c.fact 87 (f := .meth "Fractions" "is_nought") rfl)
  m_Rests_is_nought := He.meth_ok (c.fact 88 (f := .meth "Rests" "is_nought") rfl)
  m_Fractions_number := He.meth_ok (c.fact 89 (f := .meth "Fractions" "number") rfl)
  m_Fractions_plus := He.meth_ok (c.fact 90 (f := .meth "Fractions" "plus") rfl)
  m_Fractions_times := He.meth_ok (c.fact 91 (f := .meth "Fractions" "times") rfl)
  m_Fractions_back := He.meth_ok (c.fact 92 (f := .meth "Fractions" "back") rfl)
  m_Rests_number := He.meth_ok (c.fact 93 (f := .meth "Rests" "number") rfl)
  m_Rests_plus := He.meth_ok (c.fact 94 (f := .meth "Rests" "plus") rfl)
  m_Rests_times := He.meth_ok (c.fact 95 (f := .meth "Rests" "times") rfl)
  m_Rests_back := He.meth_ok (c.fact 96 (f := .meth "Rests" "back") rfl)
  m_Polys_number := He.meth_ok (c.fact 97 (f := .meth "Polys" "number") rfl)
  m_Polys_plus := He.meth_ok (c.fact 98 (f := .meth "Polys" "plus") rfl)
  m_Polys_times := He.meth_ok (c.fact 99 (f := .meth "Polys" "times") rfl)
  noat_prime := He.noat_ok (c.fact 100 (f := .noat "Rests" "prime") rfl)
  noat_under := He.noat_ok (c.fact 101 (f := .noat "Polys" "under") rfl)
  mkr_Rests := He.mkr_ok (c.fact 102 (f := .mkr "Rests") rfl)
  mkr_Polys := He.mkr_ok (c.fact 103 (f := .mkr "Polys") rfl)
  mk0 := (He.ba x).1
  ini0 := He.eqO_ok (He.ba x).2
  kp0 := He.keep_ok (c.fact 104 (f := .keep "Fractions") rfl)
end
end Tf
set_option maxRecDepth 100000
set_option maxHeartbeats 4000000
namespace Tf
open PySem PySem.Spec PyProof.Rows L2
/-! ### the written part, widened -/
theorem look_more (K l : PySem.W.Frag) (b : Addr) : (K ++ l).lookup b = (K.lookup b).or (l.lookup b) := List.lookup_append
theorem more_in {K l : PySem.W.Frag} {h : Heap} (hK : K.In h) (hl : ∀ q ∈ l, h.get? q.1 = some q.2) : PySem.W.Frag.In (K ++ l) h := fun b u e => by
  rw [look_more] at e
  cases q : K.lookup b with
  | some z =>
    rw [q] at e
    cases e
    exact hK _ _ q
  | none =>
    rw [q] at e
    exact hl _ (He.lookup_mem e)
theorem has_look {b : Addr} {u : Obj} : ∀ {l : PySem.W.Frag}, (b, u) ∈ l → ∃ z, l.lookup b = some z
  | (c, z) :: r, h => by
    have e : List.lookup b ((c, z) :: r) = match b == c with | true => some z | false => r.lookup b := rfl
    cases q : (b == c) with
    | true => rw [q] at e; exact ⟨z, e⟩
    | false =>
      rw [q] at e
      rcases List.mem_cons.mp h with k | k
      · cases k; simp at q
      · obtain ⟨y, hy⟩ := has_look k
        exact ⟨y, e.trans hy⟩
theorem less_in {K l : PySem.W.Frag} {h base : Heap} (hK : K.In h) (hl : ∀ q ∈ l, h.get? q.1 = some q.2) (hb : PySem.W.Frag.In (K ++ l) base) : K.In base ∧ ∀ q ∈ l, base.get? q.1 = some q.2 := by
  refine ⟨fun b u e => hb b u (by rw [look_more, e]; rfl), fun q hq => hb _ _ ?_⟩
  rw [look_more]
  have h1 := hl q hq
  cases z : K.lookup q.1 with
  | some u =>
    have h2 := hK _ _ z
    rw [h1] at h2
    cases h2
    rfl
  | none =>
    obtain ⟨y, hy⟩ := has_look (b := q.1) (u := q.2) hq
    have h2 := hl _ (He.lookup_mem hy)
    have h3 : h.get? q.1 = some y := h2
    rw [h1] at h3
    cases h3
    exact hy
theorem sq_less {K l : PySem.W.Frag} {H : Hp} {a : Addr} {xs : List V} (hl : ∀ q ∈ l, q.2.cls = .type "list" → ∀ its n, q.2.data ≠ .seq its n) (h : SqL (K ++ l) H a xs) : SqL K H a xs := by
  rcases h with h | ⟨o, its, n, lk, c1, c2, c3, c4, c5⟩
  · exact .inl h
  · rw [look_more] at lk
    cases z : K.lookup a with
    | some u =>
      rw [z] at lk
      cases lk
      exact .inr ⟨o, its, n, z, c1, c2, c3, c4, c5⟩
    | none =>
      rw [z] at lk
      exact absurd c3 (hl _ (He.lookup_mem lk) c1 its n)
/-- what the objects must be for a great division -/
theorem seer_objs {h : Heap} (N : h.NoSeer) : ∃ l : PySem.W.Frag, (∀ q ∈ l, h.get? q.1 = some q.2) ∧ (∀ q ∈ l, q.2.cls = .type "list" → ∀ its n, q.2.data ≠ .seq its n) ∧ ∀ base : Heap, (∀ q ∈ l, base.get? q.1 = some q.2) → base.NoSeer := by
  obtain ⟨⟨m1, ⟨o1, es1, ep1, g1, d1, k1⟩, c1⟩, ⟨m2, ⟨o2, es2, ep2, g2, d2, k2⟩, c2⟩, ⟨m3, ⟨o3, es3, ep3, g3, d3, k3⟩, c3⟩, ⟨m4, bm, ob, ⟨o4, es4, ep4, g4, d4, k4⟩, c4, gb, cb, db⟩⟩ := N
  refine ⟨[(cStatics, o1), (sysModules, o2), (builtinsNs, o3), (mainGlobals, o4), (bm, ob)], fun q hq => ?_, fun q hq => ?_, fun base hb => ?_⟩
  · simp only [List.mem_cons, List.not_mem_nil, or_false] at hq
    rcases hq with rfl | rfl | rfl | rfl | rfl
    · exact g1
    · exact g2
    · exact g3
    · exact g4
    · exact gb
  · simp only [List.mem_cons, List.not_mem_nil, or_false] at hq
    intro e its n z
    rcases hq with rfl | rfl | rfl | rfl | rfl
    · have z : o1.data = _ := z; rw [d1] at z; cases z
    · have z : o2.data = _ := z; rw [d2] at z; cases z
    · have z : o3.data = _ := z; rw [d3] at z; cases z
    · have z : o4.data = _ := z; rw [d4] at z; cases z
    · have e : ob.cls = _ := e
      rw [cb] at e
      exact absurd e (by decide)
  · have b1 : base.get? cStatics = some o1 := hb (cStatics, o1) (by simp)
    have b2 : base.get? sysModules = some o2 := hb (sysModules, o2) (by simp)
    have b3 : base.get? builtinsNs = some o3 := hb (builtinsNs, o3) (by simp)
    have b4 : base.get? mainGlobals = some o4 := hb (mainGlobals, o4) (by simp)
    have b5 : base.get? bm = some ob := hb (bm, ob) (by simp)
    exact ⟨⟨m1, ⟨o1, es1, ep1, b1, d1, k1⟩, c1⟩, ⟨m2, ⟨o2, es2, ep2, b2, d2, k2⟩, c2⟩, ⟨m3, ⟨o3, es3, ep3, b3, d3, k3⟩, c3⟩, ⟨m4, bm, ob, ⟨o4, es4, ep4, b4, d4, k4⟩, c4, b5, cb, db⟩⟩
/-! ### the law at every script -/
def spEnd (K : PySem.W.Frag) : Sp := fun vs H Q _ => ∃ (ns : List Int) (nv : V), vs = [nv] ∧ (SQ K ns).p nv H ∧ ∀ H', Q (.bl true) H'
section
variable {P : Program} {w : World} {K : PySem.W.Frag} {mg : Str → Option Value} {base : Heap} (T : Txt K mg) (hN : base.NoSeer) (ht : P.given.tree = none)
include T hN ht
theorem ok_end : FnOk P w K mg base CX0 60 (He.fAd K ("law", none)) (fdAt K (He.fAd K ("law", none))) ["_law_script"] (spEnd K) := by
  refine ⟨fun vs H Q E ⟨ns, nv, e, _⟩ => by rw [e]; rfl, fun A outer s H args us vs Q E hr he hb hv ⟨ns, nv, e, hn, hq⟩ => ?_⟩
  rcases primeBy_ok (ns.getD 0 0) with z | ⟨z1, z2⟩
  · exact (ok_law_F T hN ht).run A outer s H args us vs Q E hr he hb hv ⟨ns, nv, e, hn, z, hq⟩
  · haveI : PrimeP (primeBy (ns.getD 0 0)) := ⟨z1, z2⟩
    exact (ok_law_rests T (primeBy (ns.getD 0 0))).run A outer s H args us vs Q E hr he hb hv ⟨ns, nv, e, hn, rfl, hq⟩
end
/-- the same over a wider written part -/
theorem fn_more {P : Program} {w : World} {K K' : PySem.W.Frag} {mg : Str → Option Value} {base : Heap} {k : Nat} {f : Addr} {fd : FuncData} {ps : List Str} {sp : Sp} (F : FnOk P w K mg base CX0 k f fd ps sp) (hK : K.In base) : FnOk P w K' mg base CX0 k f fd ps sp :=
  ⟨F.len, fun A outer s H args us vs Q E hr e hb hv hs => F.run A outer s H args us vs Q E hr ⟨e.frames, ⟨hK, e.mod.glob, e.mod.blt, e.mod.nolimit⟩, e.bs, e.bsz, e.funs, e.frf, e.hok, e.bare⟩ hb hv hs⟩
end Tf
open PySem PySem.W PySem.Calls PyProof.Rows
theorem PySem.Challenge.cw_turnframe_k53_whole_frame_holds : PySem.Challenge.rw_turnframe_k53_whole_frame.Holds := by
  w_on; o_law
  refine HandSHeadRun.head_any (r := Tf.R) (q := view Tf.R.prog [87]) (H := Tf.hk) (ob := Tf.ob) (M := 6000) (loose := Tf.lo) (d := HandSHeadRun.topDef Tf.R.prog 87) (kwd := []) Tf.ob_eq
    (by kernel_rfl) (fun s => by kernel_rfl) Tf.run (by kernel_rfl) (by kernel_rfl) (by kernel_rfl) (by rfl) (by first | assumption | decide +kernel) (by decide +kernel) ⟨rfl, rfl, rfl, rfl, rfl, by decide +kernel⟩ ?hw ?hc
  case hw => w_witness2
  case hc =>
    refine Att.attach_call (l := PySem.Challenge.rw_turnframe_k53_whole_frame) (n := 63) rfl (by kernel_rfl) fun w s₀ s₁ mg mb fa o pm cd doc a vs ns G Y ho hd hcd hmg hobj hints hlen hg => ?_
    obtain ⟨K, KX, c, x⟩ := Y
    have T := Tf.txt KX G.T.g c x
    obtain ⟨l, l1, l2, l3⟩ := Tf.seer_objs (G.T.seer (by kernel_rfl))
    have en : (HandSHeadRun.topDef Tf.R.prog 87).name = ("law" : PySem.Str) := by kernel_rfl
    rw [en] at hmg
    have ef := hmg.symm.trans T.g_law
    cases ef
    refine L2.law_call (K := K ++ l) (CX := L2.CX0) (k := 60) (x := "_law_script") (sp := Tf.spEnd K) (fd := Tf.fdAt K (He.fAd K ("law", none))) (Tf.more_in KX l1) G.T.g G.T.b G.T.builtins G.T.nolimit hg hobj hints (Nat.le_trans hlen (by decide)) ⟨rfl, by decide, by decide⟩
      (fun base hb _ => ?_) (fun s u => ?_) (fun H _ hS => ⟨ns, _, rfl, ⟨a, rfl, Tf.sq_less l2 hS⟩, fun _ => rfl⟩) (fun _ _ _ z => z)
    · obtain ⟨k1, k2⟩ := Tf.less_in KX l1 hb
      exact Tf.fn_more (Tf.ok_end T (l3 base k2) rfl) k1
    · exact T.d_law.fn.bindsA (ps := ["_law_script"]) (fun _ _ _ _ _ _ us hl => match us, hl with | [_], _ => rfl) s [u] rfl
