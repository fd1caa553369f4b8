import PyProof.Rows.All
import Wide.All
import OpenK.AllK
import Wide.FinOn
import HandS.ForMost
import HandS.More
import HandS.Style
import HandS.NoneIn
import HandS.Deep
import HandS.Conv
import HandS.Walk
import KE.GoesMore
import KE.KDictKeyed
import KE.OsArith
import KE.BitLaws
import KE.GoesEnum
import KE.GoesZip
import PySem.Challenge.RW_gatekin_k46_whole_five_kinds
set_option Elab.async false
set_option maxRecDepth 100000
set_option maxHeartbeats 4000000
namespace Gk
open PySem L2
/-! the text by places -/
def topS (i : Nat) : Stmt := PySem.Challenge.pw_gatekin_k46_whole_five_kinds.main.body.getD i (.Pass ⟨0, 0, 0, 0⟩)
abbrev s_bit_of : Stmt := topS 5
abbrev s_number_of : Stmt := topS 6
abbrev s_value : Stmt := topS 7
abbrev s_renamed : Stmt := topS 9
abbrev s_without_alike : Stmt := topS 10
abbrev s_without_unused : Stmt := topS 11
abbrev s_shared : Stmt := topS 12
abbrev s_put_rows : Stmt := topS 15
abbrev s_members : Stmt := topS 16
abbrev s_to_power : Stmt := topS 17
abbrev s_list_number : Stmt := topS 18
abbrev s_broken : Stmt := topS 19
abbrev s_kind : Stmt := topS 24
abbrev s_outsider : Stmt := topS 25
abbrev s_first_break : Stmt := topS 26
abbrev s_kinds : Stmt := topS 27
abbrev s_odd_corner : Stmt := topS 29
abbrev s_binit : Stmt := inClass (topS 30) 0
abbrev s_blaid : Stmt := inClass (topS 30) 1
abbrev s_bat_one : Stmt := inClass (topS 30) 2
abbrev s_bends : Stmt := inClass (topS 30) 3
abbrev s_bexchanged : Stmt := inClass (topS 30) 4
abbrev s_bby_rise : Stmt := inClass (topS 30) 5
abbrev s_bby_turn : Stmt := inClass (topS 30) 6
abbrev s_bbegun : Stmt := inClass (topS 30) 7
abbrev s_bas_value : Stmt := inClass (topS 30) 8
abbrev s_bboth : Stmt := inClass (topS 30) 9
abbrev s_beither : Stmt := inClass (topS 30) 10
abbrev s_bwire_of : Stmt := inClass (topS 30) 11
abbrev s_build : Stmt := topS 31
abbrev s_law_cell_at : Stmt := topS 33
abbrev s_law_gate : Stmt := topS 34
abbrev s_law_keeps : Stmt := topS 35
abbrev s_law_set : Stmt := topS 36
abbrev s_law_lists : Stmt := topS 37
abbrev s_law_made : Stmt := topS 38
abbrev s_law_put : Stmt := topS 39
abbrev s_law_out : Stmt := topS 40
abbrev s_law_built : Stmt := topS 41
abbrev s_law_light : Stmt := topS 42
abbrev s_law : Stmt := topS 43
theorem sc_bit_of : FnScope ["number", "k"] ["number", "k"] (defScope s_bit_of) := ⟨rfl, rfl, rfl, by decide +kernel, rfl, by decide +kernel, by decide +kernel⟩
theorem sc_number_of : FnScope ["values", "found", "k"] ["values"] (defScope s_number_of) := ⟨rfl, rfl, rfl, by decide +kernel, rfl, by decide +kernel, by decide +kernel⟩
theorem sc_value : FnScope ["gate", "values"] ["gate", "values"] (defScope s_value) := ⟨rfl, rfl, rfl, by decide +kernel, rfl, by decide +kernel, by decide +kernel⟩
theorem sc_renamed : FnScope ["steps", "names", "gate", "some", "wire"] ["steps", "names"] (defScope s_renamed) := ⟨rfl, rfl, rfl, by decide +kernel, rfl, by decide +kernel, by decide +kernel⟩
theorem sc_without_alike : FnScope ["circuit", "inputs", "steps", "out", "names", "known", "kept", "gate", "some", "step", "wire"] ["circuit"] (defScope s_without_alike) := ⟨rfl, rfl, rfl, by decide +kernel, rfl, by decide +kernel, by decide +kernel⟩
theorem sc_without_unused : FnScope ["circuit", "inputs", "steps", "out", "used", "number", "wire", "names", "kept"] ["circuit"] (defScope s_without_unused) := ⟨rfl, rfl, rfl, by decide +kernel, rfl, by decide +kernel, by decide +kernel⟩
theorem sc_shared : FnScope ["circuit"] ["circuit"] (defScope s_shared) := ⟨rfl, rfl, rfl, by decide +kernel, rfl, by decide +kernel, by decide +kernel⟩
theorem sc_put_rows : FnScope ["gate", "rows", "width", "full", "found", "r", "part", "j"] ["gate", "rows", "width"] (defScope s_put_rows) := ⟨rfl, rfl, rfl, by decide +kernel, rfl, by decide +kernel, by decide +kernel⟩
theorem sc_members : FnScope ["some", "found", "one"] ["some"] (defScope s_members) := ⟨rfl, rfl, rfl, by decide +kernel, rfl, by decide +kernel, by decide +kernel⟩
theorem sc_to_power : FnScope ["number", "times", "found", "k"] ["number", "times"] (defScope s_to_power) := ⟨rfl, rfl, rfl, by decide +kernel, rfl, by decide +kernel, by decide +kernel⟩
theorem sc_list_number : FnScope ["rows", "many", "number", "found", "k"] ["rows", "many", "number"] (defScope s_list_number) := ⟨rfl, rfl, rfl, by decide +kernel, rfl, by decide +kernel, by decide +kernel⟩
theorem sc_broken : FnScope ["gate", "kept", "width", "rows", "many", "there", "number", "some"] ["gate", "kept"] (defScope s_broken) := ⟨rfl, rfl, rfl, by decide +kernel, rfl, by decide +kernel, by decide +kernel⟩
theorem sc_kind : FnScope ["name"] ["name"] (defScope s_kind) := ⟨rfl, rfl, rfl, by decide +kernel, rfl, by decide +kernel, by decide +kernel⟩
theorem sc_outsider : FnScope ["name"] ["name"] (defScope s_outsider) := ⟨rfl, rfl, rfl, by decide +kernel, rfl, by decide +kernel, by decide +kernel⟩
theorem sc_first_break : FnScope ["gates", "name", "number", "rows"] ["gates", "name"] (defScope s_first_break) := ⟨rfl, rfl, rfl, by decide +kernel, rfl, by decide +kernel, by decide +kernel⟩
theorem sc_kinds : FnScope ["gates", "name"] ["gates"] (defScope s_kinds) := ⟨rfl, rfl, rfl, by decide +kernel, rfl, by decide +kernel, by decide +kernel⟩
theorem sc_odd_corner : FnScope ["gate", "inputs", "bits", "row", "i", "j", "some", "one"] ["gate"] (defScope s_odd_corner) := ⟨rfl, rfl, rfl, by decide +kernel, rfl, by decide +kernel, by decide +kernel⟩
theorem sc_binit : FnScope ["self", "gates", "inputs"] ["self", "gates", "inputs"] (defScope s_binit) := ⟨rfl, rfl, rfl, by decide +kernel, rfl, by decide +kernel, by decide +kernel⟩
theorem sc_blaid : FnScope ["self", "gate", "some"] ["self", "gate", "some"] (defScope s_blaid) := ⟨rfl, rfl, rfl, by decide +kernel, rfl, by decide +kernel, by decide +kernel⟩
theorem sc_bat_one : FnScope ["self", "gate", "wire"] ["self", "gate", "wire"] (defScope s_bat_one) := ⟨rfl, rfl, rfl, by decide +kernel, rfl, by decide +kernel, by decide +kernel⟩
theorem sc_bends : FnScope ["self", "gate", "low"] ["self", "gate"] (defScope s_bends) := ⟨rfl, rfl, rfl, by decide +kernel, rfl, by decide +kernel, by decide +kernel⟩
theorem sc_bexchanged : FnScope ["self", "wire", "gate", "some", "one"] ["self", "wire"] (defScope s_bexchanged) := ⟨rfl, rfl, rfl, by decide +kernel, rfl, by decide +kernel, by decide +kernel⟩
theorem sc_bby_rise : FnScope ["self", "gate", "rows", "wires", "row"] ["self", "gate", "rows"] (defScope s_bby_rise) := ⟨rfl, rfl, rfl, by decide +kernel, rfl, by decide +kernel, by decide +kernel⟩
theorem sc_bby_turn : FnScope ["self", "gate", "rows", "wires", "number", "constant", "k", "row"] ["self", "gate", "rows"] (defScope s_bby_turn) := ⟨rfl, rfl, rfl, by decide +kernel, rfl, by decide +kernel, by decide +kernel⟩
theorem sc_bbegun : FnScope ["self", "low", "high", "turn", "rise", "even"] ["self"] (defScope s_bbegun) := ⟨rfl, rfl, rfl, by decide +kernel, rfl, by decide +kernel, by decide +kernel⟩
theorem sc_bas_value : FnScope ["self", "wire", "wished"] ["self", "wire", "wished"] (defScope s_bas_value) := ⟨rfl, rfl, rfl, by decide +kernel, rfl, by decide +kernel, by decide +kernel⟩
theorem sc_bboth : FnScope ["self", "one", "other", "gate", "row", "i", "j", "four", "some", "common", "x", "y", "wires", "k"] ["self", "one", "other"] (defScope s_bboth) := ⟨rfl, rfl, rfl, by decide +kernel, rfl, by decide +kernel, by decide +kernel⟩
theorem sc_beither : FnScope ["self", "one", "other"] ["self", "one", "other"] (defScope s_beither) := ⟨rfl, rfl, rfl, by decide +kernel, rfl, by decide +kernel, by decide +kernel⟩
theorem sc_bwire_of : FnScope ["self", "table", "inputs", "half", "low", "high", "found", "more"] ["self", "table", "inputs"] (defScope s_bwire_of) := ⟨rfl, rfl, rfl, by decide +kernel, rfl, by decide +kernel, by decide +kernel⟩
theorem sc_build : FnScope ["gates", "wish", "name", "first", "bench", "out"] ["gates", "wish"] (defScope s_build) := ⟨rfl, rfl, rfl, by decide +kernel, rfl, by decide +kernel, by decide +kernel⟩
theorem sc_law_cell_at : FnScope ["_law_script", "_law_k"] ["_law_script", "_law_k"] (defScope s_law_cell_at) := ⟨rfl, rfl, rfl, by decide +kernel, rfl, by decide +kernel, by decide +kernel⟩
theorem sc_law_gate : FnScope ["_law_cell", "_law_inputs", "_law_some"] ["_law_cell"] (defScope s_law_gate) := ⟨rfl, rfl, rfl, by decide +kernel, rfl, by decide +kernel, by decide +kernel⟩
theorem sc_law_keeps : FnScope ["_law_gate_here", "_law_name", "_law_rows", "_law_values", "_law_row", "_law_total", "_law_k"] ["_law_gate_here", "_law_name"] (defScope s_law_keeps) := ⟨rfl, rfl, rfl, by decide +kernel, rfl, by decide +kernel, by decide +kernel⟩
theorem sc_law_set : FnScope ["_law_script", "_law_start", "_law_first", "_law_name", "_law_good", "_law_found", "_law_k", "_law_gate_here"] ["_law_script", "_law_start"] (defScope s_law_set) := ⟨rfl, rfl, rfl, by decide +kernel, rfl, by decide +kernel, by decide +kernel⟩
theorem sc_law_lists : FnScope ["_law_things", "_law_size", "_law_found", "_law_k", "_law_wider", "_law_some", "_law_one"] ["_law_things", "_law_size"] (defScope s_law_lists) := ⟨rfl, rfl, rfl, by decide +kernel, rfl, by decide +kernel, by decide +kernel⟩
theorem sc_law_made : FnScope ["_law_gates", "_law_inputs", "_law_rows", "_law_found", "_law_j", "_law_before", "_law_gate_here", "_law_some", "_law_row"] ["_law_gates", "_law_inputs"] (defScope s_law_made) := ⟨rfl, rfl, rfl, by decide +kernel, rfl, by decide +kernel, by decide +kernel⟩
theorem sc_law_put : FnScope ["_law_gate_here", "_law_some", "_law_inputs", "_law_table", "_law_row", "_law_at", "_law_k", "_law_one"] ["_law_gate_here", "_law_some", "_law_inputs"] (defScope s_law_put) := ⟨rfl, rfl, rfl, by decide +kernel, rfl, by decide +kernel, by decide +kernel⟩
theorem sc_law_out : FnScope ["_law_circuit", "_law_row", "_law_found", "_law_gate_here", "_law_some", "_law_at", "_law_j", "_law_k", "_law_wire"] ["_law_circuit", "_law_row"] (defScope s_law_out) := ⟨rfl, rfl, rfl, by decide +kernel, rfl, by decide +kernel, by decide +kernel⟩
theorem sc_law_built : FnScope ["_law_gates", "_law_wish", "_law_found", "_law_step", "_law_row"] ["_law_gates", "_law_wish"] (defScope s_law_built) := ⟨rfl, rfl, rfl, by decide +kernel, rfl, by decide +kernel, by decide +kernel⟩
theorem sc_law_light : FnScope ["_law_gates", "_law_found", "_law_gate_here", "_law_one"] ["_law_gates"] (defScope s_law_light) := ⟨rfl, rfl, rfl, by decide +kernel, rfl, by decide +kernel, by decide +kernel⟩
theorem sc_law : FnScope ["_law_script", "_law_gates", "_law_told", "_law_k", "_law_bits", "_law_tables", "_law_name", "_law_first", "_law_gate_here", "_law_some"] ["_law_script"] (defScope s_law) := ⟨rfl, rfl, rfl, by decide +kernel, rfl, by decide +kernel, by decide +kernel⟩
/-- the five kinds: name, width, rows -/
def REL5 : List (Str × Nat × List Nat) := [("low", 1, [0]), ("high", 1, [1]), ("turn", 2, [1, 2]), ("rise", 2, [0, 2, 3]), ("even", 4, [0, 3, 5, 6, 9, 10, 12, 15])]
/-- the outsiders: name, gate -/
def OUT5 : List (Str × Nat × Nat) := [("low", 0, 1), ("high", 0, 0), ("turn", 0, 0), ("rise", 1, 1), ("even", 2, 8)]
abbrev nV (n : Nat) : V := .int (n : Int)
abbrev nL (l : List Nat) : List V := l.map nV
/-- what the top has left, as the proofs ask it -/
structure Pg (w : World) (K : PySem.W.Frag) (mg : Str → Option Value) where
  f_bit_of : Addr
  d_bit_of : FuncData
  F_bit_of : Fun K "bit_of" "bit_of" s_bit_of f_bit_of d_bit_of
  m_bit_of : mg "bit_of" = some (.ref f_bit_of)
  f_number_of : Addr
  d_number_of : FuncData
  F_number_of : Fun K "number_of" "number_of" s_number_of f_number_of d_number_of
  m_number_of : mg "number_of" = some (.ref f_number_of)
  f_value : Addr
  d_value : FuncData
  F_value : Fun K "value" "value" s_value f_value d_value
  m_value : mg "value" = some (.ref f_value)
  f_renamed : Addr
  d_renamed : FuncData
  F_renamed : Fun K "renamed" "renamed" s_renamed f_renamed d_renamed
  m_renamed : mg "renamed" = some (.ref f_renamed)
  f_without_alike : Addr
  d_without_alike : FuncData
  F_without_alike : Fun K "without_alike" "without_alike" s_without_alike f_without_alike d_without_alike
  m_without_alike : mg "without_alike" = some (.ref f_without_alike)
  f_without_unused : Addr
  d_without_unused : FuncData
  F_without_unused : Fun K "without_unused" "without_unused" s_without_unused f_without_unused d_without_unused
  m_without_unused : mg "without_unused" = some (.ref f_without_unused)
  f_shared : Addr
  d_shared : FuncData
  F_shared : Fun K "shared" "shared" s_shared f_shared d_shared
  m_shared : mg "shared" = some (.ref f_shared)
  f_put_rows : Addr
  d_put_rows : FuncData
  F_put_rows : Fun K "put_rows" "put_rows" s_put_rows f_put_rows d_put_rows
  m_put_rows : mg "put_rows" = some (.ref f_put_rows)
  f_members : Addr
  d_members : FuncData
  F_members : Fun K "members" "members" s_members f_members d_members
  m_members : mg "members" = some (.ref f_members)
  f_to_power : Addr
  d_to_power : FuncData
  F_to_power : Fun K "to_power" "to_power" s_to_power f_to_power d_to_power
  m_to_power : mg "to_power" = some (.ref f_to_power)
  f_list_number : Addr
  d_list_number : FuncData
  F_list_number : Fun K "list_number" "list_number" s_list_number f_list_number d_list_number
  m_list_number : mg "list_number" = some (.ref f_list_number)
  f_broken : Addr
  d_broken : FuncData
  F_broken : Fun K "broken" "broken" s_broken f_broken d_broken
  m_broken : mg "broken" = some (.ref f_broken)
  f_kind : Addr
  d_kind : FuncData
  F_kind : Fun K "kind" "kind" s_kind f_kind d_kind
  m_kind : mg "kind" = some (.ref f_kind)
  f_outsider : Addr
  d_outsider : FuncData
  F_outsider : Fun K "outsider" "outsider" s_outsider f_outsider d_outsider
  m_outsider : mg "outsider" = some (.ref f_outsider)
  f_first_break : Addr
  d_first_break : FuncData
  F_first_break : Fun K "first_break" "first_break" s_first_break f_first_break d_first_break
  m_first_break : mg "first_break" = some (.ref f_first_break)
  f_kinds : Addr
  d_kinds : FuncData
  F_kinds : Fun K "kinds" "kinds" s_kinds f_kinds d_kinds
  m_kinds : mg "kinds" = some (.ref f_kinds)
  f_odd_corner : Addr
  d_odd_corner : FuncData
  F_odd_corner : Fun K "odd_corner" "odd_corner" s_odd_corner f_odd_corner d_odd_corner
  m_odd_corner : mg "odd_corner" = some (.ref f_odd_corner)
  f_binit : Addr
  d_binit : FuncData
  F_binit : Fun K "__init__" "Bench.__init__" s_binit f_binit d_binit
  f_blaid : Addr
  d_blaid : FuncData
  F_blaid : Fun K "laid" "Bench.laid" s_blaid f_blaid d_blaid
  f_bat_one : Addr
  d_bat_one : FuncData
  F_bat_one : Fun K "at_one" "Bench.at_one" s_bat_one f_bat_one d_bat_one
  f_bends : Addr
  d_bends : FuncData
  F_bends : Fun K "ends" "Bench.ends" s_bends f_bends d_bends
  f_bexchanged : Addr
  d_bexchanged : FuncData
  F_bexchanged : Fun K "exchanged" "Bench.exchanged" s_bexchanged f_bexchanged d_bexchanged
  f_bby_rise : Addr
  d_bby_rise : FuncData
  F_bby_rise : Fun K "by_rise" "Bench.by_rise" s_bby_rise f_bby_rise d_bby_rise
  f_bby_turn : Addr
  d_bby_turn : FuncData
  F_bby_turn : Fun K "by_turn" "Bench.by_turn" s_bby_turn f_bby_turn d_bby_turn
  f_bbegun : Addr
  d_bbegun : FuncData
  F_bbegun : Fun K "begun" "Bench.begun" s_bbegun f_bbegun d_bbegun
  f_bas_value : Addr
  d_bas_value : FuncData
  F_bas_value : Fun K "as_value" "Bench.as_value" s_bas_value f_bas_value d_bas_value
  f_bboth : Addr
  d_bboth : FuncData
  F_bboth : Fun K "both" "Bench.both" s_bboth f_bboth d_bboth
  f_beither : Addr
  d_beither : FuncData
  F_beither : Fun K "either" "Bench.either" s_beither f_beither d_beither
  f_bwire_of : Addr
  d_bwire_of : FuncData
  F_bwire_of : Fun K "wire_of" "Bench.wire_of" s_bwire_of f_bwire_of d_bwire_of
  f_build : Addr
  d_build : FuncData
  F_build : Fun K "build" "build" s_build f_build d_build
  m_build : mg "build" = some (.ref f_build)
  f_law_cell_at : Addr
  d_law_cell_at : FuncData
  F_law_cell_at : Fun K "_law_cell_at" "_law_cell_at" s_law_cell_at f_law_cell_at d_law_cell_at
  m_law_cell_at : mg "_law_cell_at" = some (.ref f_law_cell_at)
  f_law_gate : Addr
  d_law_gate : FuncData
  F_law_gate : Fun K "_law_gate" "_law_gate" s_law_gate f_law_gate d_law_gate
  m_law_gate : mg "_law_gate" = some (.ref f_law_gate)
  f_law_keeps : Addr
  d_law_keeps : FuncData
  F_law_keeps : Fun K "_law_keeps" "_law_keeps" s_law_keeps f_law_keeps d_law_keeps
  m_law_keeps : mg "_law_keeps" = some (.ref f_law_keeps)
  f_law_set : Addr
  d_law_set : FuncData
  F_law_set : Fun K "_law_set" "_law_set" s_law_set f_law_set d_law_set
  m_law_set : mg "_law_set" = some (.ref f_law_set)
  f_law_lists : Addr
  d_law_lists : FuncData
  F_law_lists : Fun K "_law_lists" "_law_lists" s_law_lists f_law_lists d_law_lists
  m_law_lists : mg "_law_lists" = some (.ref f_law_lists)
  f_law_made : Addr
  d_law_made : FuncData
  F_law_made : Fun K "_law_made" "_law_made" s_law_made f_law_made d_law_made
  m_law_made : mg "_law_made" = some (.ref f_law_made)
  f_law_put : Addr
  d_law_put : FuncData
  F_law_put : Fun K "_law_put" "_law_put" s_law_put f_law_put d_law_put
  m_law_put : mg "_law_put" = some (.ref f_law_put)
  f_law_out : Addr
  d_law_out : FuncData
  F_law_out : Fun K "_law_out" "_law_out" s_law_out f_law_out d_law_out
  m_law_out : mg "_law_out" = some (.ref f_law_out)
  f_law_built : Addr
  d_law_built : FuncData
  F_law_built : Fun K "_law_built" "_law_built" s_law_built f_law_built d_law_built
  m_law_built : mg "_law_built" = some (.ref f_law_built)
  f_law_light : Addr
  d_law_light : FuncData
  F_law_light : Fun K "_law_light" "_law_light" s_law_light f_law_light d_law_light
  m_law_light : mg "_law_light" = some (.ref f_law_light)
  f_law : Addr
  d_law : FuncData
  F_law : Fun K "law" "law" s_law f_law d_law
  m_law : mg "law" = some (.ref f_law)
  C : Addr
  cl : Cls K C
  m_Bench : mg "Bench" = some (.ref C)
  mkB : Mk K C f_binit
  mt_blaid : Meth K C "laid" f_blaid
  mt_bat_one : Meth K C "at_one" f_bat_one
  mt_bends : Meth K C "ends" f_bends
  mt_bexchanged : Meth K C "exchanged" f_bexchanged
  mt_bby_rise : Meth K C "by_rise" f_bby_rise
  mt_bby_turn : Meth K C "by_turn" f_bby_turn
  mt_bbegun : Meth K C "begun" f_bbegun
  mt_bas_value : Meth K C "as_value" f_bas_value
  mt_bboth : Meth K C "both" f_bboth
  mt_beither : Meth K C "either" f_beither
  mt_bwire_of : Meth K C "wire_of" f_bwire_of
  n_gates : NoAttr K C "gates"
  n_inputs : NoAttr K C "inputs"
  n_steps : NoAttr K C "steps"
  n_turner : NoAttr K C "turner"
  n_constants : NoAttr K C "constants"
  n_corner : NoAttr K C "corner"
  n_made : NoAttr K C "made"
  z_len : mg "len" = none
  z_sum : mg "sum" = none
  z_range : mg "range" = none
  z_list : mg "list" = none
  z_tuple : mg "tuple" = none
  z_int : mg "int" = none
  z_enumerate : mg "enumerate" = none
  z_sorted : mg "sorted" = none
  z_zip : mg "zip" = none
  t_MOST : Tok
  m_MOST_WORK : mg "MOST_WORK" = some (.int 20000 t_MOST)
  a_KINDS : Addr
  m_KINDS : mg "KINDS" = some (.ref a_KINDS)
  q_KINDS : ∀ H : Hp, SqT K H a_KINDS (REL5.map fun k => V.str k.1)
  a_REL : Addr
  m_RELATIONS : mg "RELATIONS" = some (.ref a_REL)
  q_REL : ∀ k ∈ REL5, ∃ a t, KDct K w a_REL k.1 (.ref a) ∧ (∀ H : Hp, SqT K H a [nV k.2.1, .ref t]) ∧ ∀ H : Hp, SqT K H t (nL k.2.2)
  a_OUT : Addr
  m_OUTSIDERS : mg "OUTSIDERS" = some (.ref a_OUT)
  q_OUT : ∀ k ∈ OUT5, ∃ a, KDct K w a_OUT k.1 (.ref a) ∧ ∀ H : Hp, SqT K H a [nV k.2.1, nV k.2.2]
section
variable {w : World} {K : PySem.W.Frag} {mg : Str → Option Value} (T : Pg w K mg)
theorem Pg.r_MOST_WORK : RelV (.int 20000) (.int 20000 T.t_MOST) := ⟨_, rfl⟩
theorem Pg.r_KINDS : RelV (.ref T.a_KINDS) (.ref T.a_KINDS) := rfl
theorem Pg.r_RELATIONS : RelV (.ref T.a_REL) (.ref T.a_REL) := rfl
theorem Pg.r_OUTSIDERS : RelV (.ref T.a_OUT) (.ref T.a_OUT) := rfl
theorem Pg.b_bit_of : Binds K T.d_bit_of ["number", "k"] [] := T.F_bit_of.binds fun _ _ _ _ _ _ us hl => match us, hl with | [_, _], _ => rfl
theorem Pg.b_number_of : Binds K T.d_number_of ["values"] [] := T.F_number_of.binds fun _ _ _ _ _ _ us hl => match us, hl with | [_], _ => rfl
theorem Pg.b_value : Binds K T.d_value ["gate", "values"] [] := T.F_value.binds fun _ _ _ _ _ _ us hl => match us, hl with | [_, _], _ => rfl
theorem Pg.b_renamed : Binds K T.d_renamed ["steps", "names"] [] := T.F_renamed.binds fun _ _ _ _ _ _ us hl => match us, hl with | [_, _], _ => rfl
theorem Pg.b_without_alike : Binds K T.d_without_alike ["circuit"] [] := T.F_without_alike.binds fun _ _ _ _ _ _ us hl => match us, hl with | [_], _ => rfl
theorem Pg.b_without_unused : Binds K T.d_without_unused ["circuit"] [] := T.F_without_unused.binds fun _ _ _ _ _ _ us hl => match us, hl with | [_], _ => rfl
theorem Pg.b_shared : Binds K T.d_shared ["circuit"] [] := T.F_shared.binds fun _ _ _ _ _ _ us hl => match us, hl with | [_], _ => rfl
theorem Pg.b_put_rows : Binds K T.d_put_rows ["gate", "rows", "width"] [] := T.F_put_rows.binds fun _ _ _ _ _ _ us hl => match us, hl with | [_, _, _], _ => rfl
theorem Pg.b_members : Binds K T.d_members ["some"] [] := T.F_members.binds fun _ _ _ _ _ _ us hl => match us, hl with | [_], _ => rfl
theorem Pg.b_to_power : Binds K T.d_to_power ["number", "times"] [] := T.F_to_power.binds fun _ _ _ _ _ _ us hl => match us, hl with | [_, _], _ => rfl
theorem Pg.b_list_number : Binds K T.d_list_number ["rows", "many", "number"] [] := T.F_list_number.binds fun _ _ _ _ _ _ us hl => match us, hl with | [_, _, _], _ => rfl
theorem Pg.b_broken : Binds K T.d_broken ["gate", "kept"] [] := T.F_broken.binds fun _ _ _ _ _ _ us hl => match us, hl with | [_, _], _ => rfl
theorem Pg.b_kind : Binds K T.d_kind ["name"] [] := T.F_kind.binds fun _ _ _ _ _ _ us hl => match us, hl with | [_], _ => rfl
theorem Pg.b_outsider : Binds K T.d_outsider ["name"] [] := T.F_outsider.binds fun _ _ _ _ _ _ us hl => match us, hl with | [_], _ => rfl
theorem Pg.b_first_break : Binds K T.d_first_break ["gates", "name"] [] := T.F_first_break.binds fun _ _ _ _ _ _ us hl => match us, hl with | [_, _], _ => rfl
theorem Pg.b_kinds : Binds K T.d_kinds ["gates"] [] := T.F_kinds.binds fun _ _ _ _ _ _ us hl => match us, hl with | [_], _ => rfl
theorem Pg.b_odd_corner : Binds K T.d_odd_corner ["gate"] [] := T.F_odd_corner.binds fun _ _ _ _ _ _ us hl => match us, hl with | [_], _ => rfl
theorem Pg.b_binit : Binds K T.d_binit ["self", "gates", "inputs"] [] := T.F_binit.binds fun _ _ _ _ _ _ us hl => match us, hl with | [_, _, _], _ => rfl
theorem Pg.b_blaid : Binds K T.d_blaid ["self", "gate", "some"] [] := T.F_blaid.binds fun _ _ _ _ _ _ us hl => match us, hl with | [_, _, _], _ => rfl
theorem Pg.b_bat_one : Binds K T.d_bat_one ["self", "gate", "wire"] [] := T.F_bat_one.binds fun _ _ _ _ _ _ us hl => match us, hl with | [_, _, _], _ => rfl
theorem Pg.b_bends : Binds K T.d_bends ["self", "gate"] [] := T.F_bends.binds fun _ _ _ _ _ _ us hl => match us, hl with | [_, _], _ => rfl
theorem Pg.b_bexchanged : Binds K T.d_bexchanged ["self", "wire"] [] := T.F_bexchanged.binds fun _ _ _ _ _ _ us hl => match us, hl with | [_, _], _ => rfl
theorem Pg.b_bby_rise : Binds K T.d_bby_rise ["self", "gate", "rows"] [] := T.F_bby_rise.binds fun _ _ _ _ _ _ us hl => match us, hl with | [_, _, _], _ => rfl
theorem Pg.b_bby_turn : Binds K T.d_bby_turn ["self", "gate", "rows"] [] := T.F_bby_turn.binds fun _ _ _ _ _ _ us hl => match us, hl with | [_, _, _], _ => rfl
theorem Pg.b_bbegun : Binds K T.d_bbegun ["self"] [] := T.F_bbegun.binds fun _ _ _ _ _ _ us hl => match us, hl with | [_], _ => rfl
theorem Pg.b_bas_value : Binds K T.d_bas_value ["self", "wire", "wished"] [] := T.F_bas_value.binds fun _ _ _ _ _ _ us hl => match us, hl with | [_, _, _], _ => rfl
theorem Pg.b_bboth : Binds K T.d_bboth ["self", "one", "other"] [] := T.F_bboth.binds fun _ _ _ _ _ _ us hl => match us, hl with | [_, _, _], _ => rfl
theorem Pg.b_beither : Binds K T.d_beither ["self", "one", "other"] [] := T.F_beither.binds fun _ _ _ _ _ _ us hl => match us, hl with | [_, _, _], _ => rfl
theorem Pg.b_bwire_of : Binds K T.d_bwire_of ["self", "table", "inputs"] [] := T.F_bwire_of.binds fun _ _ _ _ _ _ us hl => match us, hl with | [_, _, _], _ => rfl
theorem Pg.b_build : Binds K T.d_build ["gates", "wish"] [] := T.F_build.binds fun _ _ _ _ _ _ us hl => match us, hl with | [_, _], _ => rfl
theorem Pg.b_law_cell_at : Binds K T.d_law_cell_at ["_law_script", "_law_k"] [] := T.F_law_cell_at.binds fun _ _ _ _ _ _ us hl => match us, hl with | [_, _], _ => rfl
theorem Pg.b_law_gate : Binds K T.d_law_gate ["_law_cell"] [] := T.F_law_gate.binds fun _ _ _ _ _ _ us hl => match us, hl with | [_], _ => rfl
theorem Pg.b_law_keeps : Binds K T.d_law_keeps ["_law_gate_here", "_law_name"] [] := T.F_law_keeps.binds fun _ _ _ _ _ _ us hl => match us, hl with | [_, _], _ => rfl
theorem Pg.b_law_set : Binds K T.d_law_set ["_law_script", "_law_start"] [] := T.F_law_set.binds fun _ _ _ _ _ _ us hl => match us, hl with | [_, _], _ => rfl
theorem Pg.b_law_lists : Binds K T.d_law_lists ["_law_things", "_law_size"] [] := T.F_law_lists.binds fun _ _ _ _ _ _ us hl => match us, hl with | [_, _], _ => rfl
theorem Pg.b_law_made : Binds K T.d_law_made ["_law_gates", "_law_inputs"] [] := T.F_law_made.binds fun _ _ _ _ _ _ us hl => match us, hl with | [_, _], _ => rfl
theorem Pg.b_law_put : Binds K T.d_law_put ["_law_gate_here", "_law_some", "_law_inputs"] [] := T.F_law_put.binds fun _ _ _ _ _ _ us hl => match us, hl with | [_, _, _], _ => rfl
theorem Pg.b_law_out : Binds K T.d_law_out ["_law_circuit", "_law_row"] [] := T.F_law_out.binds fun _ _ _ _ _ _ us hl => match us, hl with | [_, _], _ => rfl
theorem Pg.b_law_built : Binds K T.d_law_built ["_law_gates", "_law_wish"] [] := T.F_law_built.binds fun _ _ _ _ _ _ us hl => match us, hl with | [_, _], _ => rfl
theorem Pg.b_law_light : Binds K T.d_law_light ["_law_gates"] [] := T.F_law_light.binds fun _ _ _ _ _ _ us hl => match us, hl with | [_], _ => rfl
theorem Pg.b_law : Binds K T.d_law ["_law_script"] [] := T.F_law.binds fun _ _ _ _ _ _ us hl => match us, hl with | [_], _ => rfl
end
end Gk

/-! plain mathematics of gates: numbers, bits, values -/
namespace Gk
/-- bit k of a -/
def bt (a k : Nat) : Nat := a / 2 ^ k % 2
/-- the number whose bits are these, the first one lowest -/
def numOf : List Nat → Nat
  | [] => 0
  | b :: r => b + 2 * numOf r
abbrev Gate := Nat × Nat
/-- a gate's value -/
def gv (c : Gate) (l : List Nat) : Nat := bt c.2 (numOf l)
theorem bt_lt (a k : Nat) : bt a k < 2 := Nat.mod_lt _ (by decide)
theorem bt_le (a k : Nat) : bt a k ≤ 1 := Nat.le_of_lt_succ (bt_lt a k)
theorem bt01 (a k : Nat) : bt a k = 0 ∨ bt a k = 1 := by have := bt_lt a k; omega
theorem gv_le (c : Gate) (l : List Nat) : gv c l ≤ 1 := bt_le _ _
theorem numOf_snoc : ∀ (l : List Nat) (b : Nat), numOf (l ++ [b]) = numOf l + b * 2 ^ l.length
  | [], b => by simp [numOf]
  | a :: r, b => by
    have ih := numOf_snoc r b
    have e : b * 2 ^ (r.length + 1) = 2 * (b * 2 ^ r.length) := by rw [Nat.pow_succ]; rw [Nat.mul_comm (2 ^ r.length) 2, Nat.mul_left_comm]
    rw [List.cons_append]
    simp only [numOf, List.length_cons]
    rw [ih, e]; omega
theorem numOf_take {l : List Nat} {i x : Nat} (h : l[i]? = some x) : numOf (l.take (i + 1)) = numOf (l.take i) + x * 2 ^ i := by
  obtain ⟨hi, e⟩ := List.getElem?_eq_some_iff.mp h
  rw [List.take_add_one, h]
  show numOf (l.take i ++ [x]) = _
  rw [numOf_snoc, List.length_take, Nat.min_eq_left (Nat.le_of_lt hi)]
/-! casts: what the operators give on numbers that are not negative -/
theorem c_toNat (k : Nat) : ((k : Int)).toNat = k := Int.toNat_natCast k
theorem c_pow (k : Nat) : (2 : Int) ^ k = ((2 ^ k : Nat) : Int) := by
  induction k with
  | zero => rfl
  | succ k ih => rw [Int.pow_succ, ih, Nat.pow_succ]; push_cast; rfl
theorem c_shr (a k : Nat) : (a : Int) / 2 ^ ((k : Int)).toNat = ((a / 2 ^ k : Nat) : Int) := by rw [c_toNat, c_pow]; exact (Int.natCast_ediv a (2 ^ k)).symm
theorem c_shl (a k : Nat) : (a : Int) * 2 ^ ((k : Int)).toNat = ((a * 2 ^ k : Nat) : Int) := by rw [c_toNat, c_pow]; exact (Int.natCast_mul a (2 ^ k)).symm
theorem c_and (a b : Nat) : PySem.Builtin.bitAnd (a : Int) (b : Int) = ((a &&& b : Nat) : Int) := PySem.W.os_band a b
theorem c_bit (a k : Nat) : PySem.Builtin.bitAnd ((a : Int) / 2 ^ ((k : Int)).toNat) 1 = ((bt a k : Nat) : Int) := by
  rw [c_shr, PyProof.Rows.bitAnd_m1]; exact (Int.natCast_emod (a / 2 ^ k) 2).symm
theorem c_xor16 : ∀ a : Nat, a < 16 → ∀ b : Nat, b < 16 → PySem.Builtin.bitXor (a : Int) (b : Int) = ((a ^^^ b : Nat) : Int) := by decide +kernel
theorem c_or16 : ∀ a : Nat, a < 16 → ∀ b : Nat, b < 16 → PySem.Builtin.bitOr (a : Int) (b : Int) = ((a ||| b : Nat) : Int) := by decide +kernel
theorem xor16 : ∀ a : Nat, a < 16 → ∀ b : Nat, b < 16 → a ^^^ b < 16 := by decide +kernel
theorem or16 : ∀ a : Nat, a < 16 → ∀ b : Nat, b < 16 → a ||| b < 16 := by decide +kernel
theorem and16 : ∀ a : Nat, a < 16 → ∀ b : Nat, b < 16 → a &&& b < 16 := by decide +kernel
end Gk

/-! helpers over the hand layer -/
namespace Gk
open PySem L2
section
variable {K : PySem.W.Frag}
theorem sameT {H H' : Hp} {a : Addr} {xs : List V} (e : Same H H') (h : SqT K H a xs) : SqT K H' a xs := by
  rcases h with (h | ⟨o, h⟩) | h
  · exact .inl (.inl (e _ _ h))
  · exact .inl (.inr ⟨o, e _ _ h⟩)
  · exact .inr h
theorem same_new {H : Hp} {p : Addr} {o : HO} (h : H p = none) : Same H (upd H p o) := fun b u e => by
  rw [upd_ne (ne_of_none e h)]; exact e
theorem same_upd {H0 H : Hp} {p : Addr} {o : HO} (s : Same H0 H) (h : H0 p = none) : Same H0 (upd H p o) := fun b u e => by
  rw [upd_ne (ne_of_none e h)]; exact s b u e
theorem none_ne {H : Hp} {p q : Addr} {o : HO} (h : upd H p o q = none) : q ≠ p ∧ H q = none := by
  by_cases e : q = p
  · subst e; rw [upd_same] at h; cases h
  · rw [upd_ne e] at h; exact ⟨e, h⟩
/-- all but some addresses are as they were -/
def Frm (S : List Addr) (H H' : Hp) : Prop := ∀ b o, H b = some o → b ∉ S → H' b = some o
theorem Frm.refl (S : List Addr) (H : Hp) : Frm S H H := fun _ _ h _ => h
theorem Frm.trans {S : List Addr} {H H1 H2 : Hp} (a : Frm S H H1) (b : Frm S H1 H2) : Frm S H H2 := fun c o h n => b c o (a c o h n) n
theorem Frm.of {S : List Addr} {H H' : Hp} (s : Same H H') : Frm S H H' := fun b o h _ => s b o h
theorem frm_upd {S : List Addr} {H0 H : Hp} {p : Addr} {o : HO} (s : Frm S H0 H) (h : p ∈ S ∨ H0 p = none) : Frm S H0 (upd H p o) := fun b u e n => by
  have hb : b ≠ p := by
    rcases h with h | h
    · exact fun z => n (z ▸ h)
    · exact ne_of_none e h
  rw [upd_ne hb]; exact s b u e n
/-- what is read stays where the changed places hold other things -/
theorem frmT {S : List Addr} {H H' : Hp} {a : Addr} {xs : List V} (e : Frm S H H') (n : ∀ b ∈ S, ∀ ys, ¬ H b = some (.tup ys) ∧ ∀ o, ¬ H b = some (.frz o (.tup ys))) (h : SqT K H a xs) : SqT K H' a xs := by
  rcases h with (h | ⟨o, h⟩) | h
  · exact .inl (.inl (e _ _ h fun z => (n _ z _).1 h))
  · exact .inl (.inr ⟨o, e _ _ h fun z => (n _ z _).2 o h⟩)
  · exact .inr h
theorem frmL {S : List Addr} {H H' : Hp} {a : Addr} {xs : List V} (e : Frm S H H') (n : a ∉ S) (h : SqL K H a xs) : SqL K H' a xs := by
  rcases h with (h | ⟨o, h⟩) | h
  · exact .inl (.inl (e _ _ h n))
  · exact .inl (.inr ⟨o, e _ _ h n⟩)
  · exact .inr h
end
theorem nL_at {l : List Nat} {i x : Nat} (h : l[i]? = some x) : (nL l)[i]? = some (nV x) := by rw [List.getElem?_map, h]; rfl
theorem nL_lt {l : List Nat} {i : Nat} (h : i < (nL l).length) : ∃ x, l[i]? = some x ∧ x ∈ l ∧ (nL l)[i]? = some (nV x) ∧ i < l.length := by
  rw [List.length_map] at h
  exact ⟨l[i], List.getElem?_eq_getElem h, List.getElem_mem h, nL_at (List.getElem?_eq_getElem h), h⟩
theorem nL_len (l : List Nat) : (nL l).length = l.length := List.length_map ..
theorem nL_snoc (l : List Nat) (x : Nat) : nL l ++ [nV x] = nL (l ++ [x]) := by simp [nL]
theorem cpow {x k : Nat} (hx : x ≤ 65536) (hk : k ≤ 1000) : CPow (x : Int) (k : Int) := ⟨by omega, by omega, by rw [Int.natAbs_natCast]; omega⟩
theorem dec_int0 (i j : Int) : decide (V.int i = V.int j) = decide (i = j) := by
  by_cases h : i = j
  · subst h; simp
  · rw [decide_eq_false h, decide_eq_false (fun z => h (by injection z))]
theorem dec_nat (a b : Nat) : decide (V.int (a : Int) = V.int (b : Int)) = decide (a = b) := by
  rw [dec_int0]
  by_cases h : a = b
  · subst h; simp
  · rw [decide_eq_false h, decide_eq_false (by omega)]
theorem dec_bit1 (a k : Nat) : decide (V.int (Builtin.bitAnd ((a : Int) / 2 ^ ((k : Int)).toNat) 1) = V.int 1) = decide (bt a k = 1) := by
  rw [c_bit]; exact dec_nat (bt a k) 1
/-- for over range(n) -/
theorem for_n {n : Nat} {g : TG} {tb : TS} {D : Ends} {σ : L2.St} {H : Hp} (Pv : Nat → L2.St → Hp → Prop) (h0 : Pv 0 σ H)
    (hs : ∀ i σ H, i < n → Pv i σ H → g (nV i) σ H fun σ2 H2 => tb { D with nx := Pv (i + 1), ct := Pv (i + 1), bk := D.nx } σ2 H2) (hd : ∀ σ H, Pv n σ H → D.nx σ H) :
    ∃ W : Nat → Nat → L2.St → Hp → Prop, (∃ m, W 0 m σ H) ∧ ∀ i m σ H, W i m σ H →
      ((Itr 0 ((n : Int)).toNat).stop i H ∧ D.nx σ H) ∨ ((Itr 0 ((n : Int)).toNat).go i H ∧ ∃ N : L2.St → Hp → Prop, (∀ σ' H', N σ' H' → ∃ m', m' < m ∧ W (i + 1) m' σ' H') ∧ ∀ x H', (Itr 0 ((n : Int)).toNat).yld i H x H' → g x σ H' fun σ2 H2 => tb { D with nx := N, ct := N, bk := D.nx } σ2 H2) := by
  rw [c_toNat]
  refine for_range (lo := 0) (n := n) Pv h0 (fun i σ H hi p => ?_) hd
  have e : (0 : Int) + (i : Int) = (i : Int) := Int.zero_add _
  rw [e]
  exact hs i σ H hi p
/-- a comprehension over range(n) -/
theorem lc_n {n : Nat} {g : TG} {tt : TT} {te : TE} {vs : List Nat} {σ : L2.St} {H1 : Hp} {D : Addr} {Qd : Hp → Prop} (Pv : Nat → Hp → Prop) (h0 : Pv 0 (upd H1 D (.lst [])))
    (hs : ∀ i H, i < n → Pv i H → g (nV i) (wipe σ vs) H fun σ2 H2 => wipe σ2 vs = wipe σ vs ∧ tt σ2 H2 fun b H3 =>
      if b = true then te σ2 H3 fun y H4 => ∃ acc, H4 D = some (.lst acc) ∧ acc.length < sizeLine ∧ Pv (i + 1) (upd H4 D (.lst (acc ++ [y]))) else Pv (i + 1) H3) (hd : ∀ H, Pv n H → Qd H) :
    ∃ W : Nat → Nat → Hp → Prop, (∃ m, W 0 m (upd H1 D (.lst []))) ∧ ∀ i m H, W i m H →
      ((Itr 0 ((n : Int)).toNat).stop i H ∧ Qd H) ∨ ((Itr 0 ((n : Int)).toNat).go i H ∧ ∃ Nx : Hp → Prop, (∀ H', Nx H' → ∃ m', m' < m ∧ W (i + 1) m' H') ∧ ∀ x H', (Itr 0 ((n : Int)).toNat).yld i H x H' → g x (wipe σ vs) H' fun σ2 H2 => wipe σ2 vs = wipe σ vs ∧ tt σ2 H2 fun b H3 =>
        if b = true then te σ2 H3 fun y H4 => ∃ acc, H4 D = some (.lst acc) ∧ acc.length < sizeLine ∧ Nx (upd H4 D (.lst (acc ++ [y]))) else Nx H3) := by
  rw [c_toNat]
  refine lc_range (lo := 0) (n := n) Pv h0 (fun i H hi p => ?_) hd
  have e : (0 : Int) + (i : Int) = (i : Int) := Int.zero_add _
  rw [e]
  exact hs i H hi p
theorem b62 {n : Nat} (h : n ≤ 100000) : -(2 ^ 62) ≤ (n : Int) ∧ (n : Int) < 2 ^ 62 := by omega
theorem small {n : Nat} (h : n ≤ 100000) : n < sizeLine := Nat.lt_of_le_of_lt h (by decide)
theorem small' {n : Nat} (h : n ≤ 100000) : n ≤ sizeLine := Nat.le_of_lt (small h)
end Gk

/-! lists of rows by their numbers; a gate put to rows -/
namespace Gk
/-- the digits of a number, the last one first, as rows -/
def digs (rs : List Nat) : Nat → Nat → List Nat
  | 0, _ => []
  | m + 1, n => rs.getD (n % rs.length) 0 :: digs rs m (n / rs.length)
def lnum (rs : List Nat) (m n : Nat) : List Nat := (digs rs m n).reverse
theorem digs_len (rs : List Nat) : ∀ m n, (digs rs m n).length = m
  | 0, _ => rfl
  | m + 1, n => by simp [digs, digs_len rs m]
theorem lnum_len (rs : List Nat) (m n : Nat) : (lnum rs m n).length = m := by rw [lnum, List.length_reverse, digs_len]
theorem digs_mem {rs : List Nat} (h : rs ≠ []) : ∀ {m n x : Nat}, x ∈ digs rs m n → x ∈ rs
  | 0, _, _, hx => by simp [digs] at hx
  | m + 1, n, x, hx => by
    rcases List.mem_cons.mp hx with e | hx
    · have hl : n % rs.length < rs.length := Nat.mod_lt _ (List.length_pos_iff.mpr h)
      rw [e, List.getD_eq_getElem?_getD, List.getElem?_eq_getElem hl]
      exact List.getElem_mem hl
    · exact digs_mem h hx
theorem lnum_mem {rs : List Nat} (h : rs ≠ []) {m n x : Nat} (hx : x ∈ lnum rs m n) : x ∈ rs := digs_mem h (List.mem_reverse.mp hx)
theorem digs_all {rs : List Nat} : ∀ (l : List Nat), (∀ x ∈ l, x ∈ rs) → ∃ n, n < rs.length ^ l.length ∧ digs rs l.length n = l
  | [], _ => ⟨0, by simp, rfl⟩
  | a :: r, h => by
    obtain ⟨n, hn, e⟩ := digs_all r fun x hx => h x (List.mem_cons_of_mem _ hx)
    obtain ⟨i, hi, ei⟩ := List.mem_iff_getElem.mp (h a List.mem_cons_self)
    have h1 : (i + rs.length * n) % rs.length = i := by rw [Nat.add_mul_mod_self_left, Nat.mod_eq_of_lt hi]
    have h2 : (i + rs.length * n) / rs.length = n := by rw [Nat.add_mul_div_left _ _ (by omega), Nat.div_eq_of_lt hi, Nat.zero_add]
    refine ⟨i + rs.length * n, ?_, ?_⟩
    · rw [List.length_cons, Nat.pow_succ]
      have : rs.length * (n + 1) ≤ rs.length * rs.length ^ r.length := Nat.mul_le_mul_left _ hn
      rw [Nat.mul_succ] at this
      rw [Nat.mul_comm (rs.length ^ r.length)]
      omega
    · show rs.getD ((i + rs.length * n) % rs.length) 0 :: digs rs r.length ((i + rs.length * n) / rs.length) = a :: r
      rw [h1, h2, e, List.getD_eq_getElem?_getD, List.getElem?_eq_getElem hi, ← ei]
      rfl
/-- every list of rows has a number -/
theorem lnum_all {rs l : List Nat} (h : ∀ x ∈ l, x ∈ rs) : ∃ n, n < rs.length ^ l.length ∧ lnum rs l.length n = l := by
  obtain ⟨n, hn, e⟩ := digs_all (rs := rs) l.reverse fun x hx => h x (List.mem_reverse.mp hx)
  rw [List.length_reverse] at hn e
  exact ⟨n, hn, by rw [lnum, e, List.reverse_reverse]⟩
/-- the part of the row that r makes, of the first j rows -/
def partTo (full : Nat) (rs : List Nat) (r : Nat) : Nat → Nat
  | 0 => full
  | j + 1 => partTo full rs r j &&& (if bt r j = 1 then rs.getD j 0 else full ^^^ rs.getD j 0)
def orTo (c : Gate) (full : Nat) (rs : List Nat) : Nat → Nat
  | 0 => 0
  | r + 1 => if bt c.2 r = 1 then orTo c full rs r ||| partTo full rs r c.1 else orTo c full rs r
/-- a gate put to rows -/
def prow (c : Gate) (rs : List Nat) (w : Nat) : Nat := orTo c (2 ^ w - 1) rs (2 ^ c.1)
theorem getD_lt {rs : List Nat} {m j : Nat} (hm : 0 < m) (h : ∀ x ∈ rs, x < m) : rs.getD j 0 < m := by
  rw [List.getD_eq_getElem?_getD]
  cases e : rs[j]? with
  | none => exact hm
  | some x => exact h x (List.mem_of_getElem? e)
theorem part16 {full : Nat} {rs : List Nat} (hf : full < 16) (h : ∀ x ∈ rs, x < 16) (r : Nat) : ∀ j, partTo full rs r j < 16
  | 0 => hf
  | j + 1 => by
    unfold partTo
    refine and16 _ (part16 hf h r j) _ ?_
    split
    · exact getD_lt (by decide) h
    · exact xor16 _ hf _ (getD_lt (by decide) h)
theorem or16' {c : Gate} {full : Nat} {rs : List Nat} (hf : full < 16) (h : ∀ x ∈ rs, x < 16) : ∀ r, orTo c full rs r < 16
  | 0 => by show 0 < 16; decide
  | r + 1 => by
    unfold orTo
    split
    · exact or16 _ (or16' hf h r) _ (part16 hf h r _)
    · exact or16' hf h r
/-! a gate put to rows, column by column -/
theorem tb_bt (a k : Nat) : a.testBit k = decide (bt a k = 1) := Nat.testBit_eq_decide_div_mod_eq
theorem tb_full {w c : Nat} : (2 ^ w - 1).testBit c = decide (c < w) := Nat.testBit_two_pow_sub_one w c
theorem part_bit {w : Nat} {rs : List Nat} {r c : Nat} : ∀ n, (partTo (2 ^ w - 1) rs r n).testBit c = (decide (c < w) && decide (∀ j, j < n → bt r j = bt (rs.getD j 0) c))
  | 0 => by simp [partTo, tb_full]
  | n + 1 => by
    unfold partTo
    rw [Nat.testBit_and, part_bit n]
    have h1 := bt01 r n
    have h2 := bt01 (rs.getD n 0) c
    have e : (∀ j, j < n + 1 → bt r j = bt (rs.getD j 0) c) ↔ ((∀ j, j < n → bt r j = bt (rs.getD j 0) c) ∧ bt r n = bt (rs.getD n 0) c) := by
      constructor
      · exact fun h => ⟨fun j hj => h j (by omega), h n (by omega)⟩
      · rintro ⟨h, h'⟩ j hj
        by_cases q : j = n
        · subst q; exact h'
        · exact h j (by omega)
    rw [show decide (∀ j, j < n + 1 → bt r j = bt (rs.getD j 0) c) = (decide (∀ j, j < n → bt r j = bt (rs.getD j 0) c) && decide (bt r n = bt (rs.getD n 0) c)) by
      rw [← Bool.decide_and]; exact decide_eq_decide.mpr e]
    by_cases hr : bt r n = 1
    · rw [if_pos hr, tb_bt, hr]
      generalize decide (∀ j, j < n → bt r j = bt (rs.getD j 0) c) = p
      rcases h2 with h2 | h2 <;> rw [h2] <;> by_cases hc : c < w <;> simp only [hc] <;> cases p <;> decide
    · have hr0 : bt r n = 0 := by omega
      rw [if_neg hr, Nat.testBit_xor, tb_full, tb_bt, hr0]
      generalize decide (∀ j, j < n → bt r j = bt (rs.getD j 0) c) = p
      rcases h2 with h2 | h2 <;> rw [h2] <;> by_cases hc : c < w <;> simp only [hc] <;> cases p <;> decide
theorem or_bit {c : Gate} {w : Nat} {rs : List Nat} {k : Nat} : ∀ m, (orTo c (2 ^ w - 1) rs m).testBit k = (decide (k < w) && decide (∃ r, r < m ∧ bt c.2 r = 1 ∧ ∀ j, j < c.1 → bt r j = bt (rs.getD j 0) k))
  | 0 => by simp [orTo]
  | m + 1 => by
    unfold orTo
    have e : (∃ r, r < m + 1 ∧ bt c.2 r = 1 ∧ ∀ j, j < c.1 → bt r j = bt (rs.getD j 0) k) ↔
        ((∃ r, r < m ∧ bt c.2 r = 1 ∧ ∀ j, j < c.1 → bt r j = bt (rs.getD j 0) k) ∨ (bt c.2 m = 1 ∧ ∀ j, j < c.1 → bt m j = bt (rs.getD j 0) k)) := by
      constructor
      · rintro ⟨r, hr, q⟩
        by_cases z : r = m
        · subst z; exact .inr q
        · exact .inl ⟨r, by omega, q⟩
      · rintro (⟨r, hr, q⟩ | q)
        · exact ⟨r, by omega, q⟩
        · exact ⟨m, by omega, q⟩
    rw [show decide (∃ r, r < m + 1 ∧ bt c.2 r = 1 ∧ ∀ j, j < c.1 → bt r j = bt (rs.getD j 0) k) = (decide (∃ r, r < m ∧ bt c.2 r = 1 ∧ ∀ j, j < c.1 → bt r j = bt (rs.getD j 0) k) || decide (bt c.2 m = 1 ∧ ∀ j, j < c.1 → bt m j = bt (rs.getD j 0) k)) by
      rw [← Bool.decide_or]; exact decide_eq_decide.mpr e]
    by_cases hb : bt c.2 m = 1
    · rw [hb]
      rw [if_pos rfl, Nat.testBit_or, or_bit m, part_bit]
      generalize decide (∃ r, r < m ∧ bt c.2 r = 1 ∧ ∀ j, j < c.1 → bt r j = bt (rs.getD j 0) k) = p
      simp only [true_and]
      generalize decide (∀ j, j < c.1 → bt m j = bt (rs.getD j 0) k) = q
      by_cases hk : k < w <;> simp only [hk] <;> cases p <;> cases q <;> decide
    · rw [if_neg hb, or_bit m]
      simp [hb]
theorem numOf_bt : ∀ (l : List Nat), (∀ x ∈ l, x ≤ 1) → ∀ j, bt (numOf l) j = l.getD j 0
  | [], _, j => by simp [numOf, bt]
  | a :: r, h, 0 => by
    have ha := h a List.mem_cons_self
    simp only [numOf, bt, List.getD_cons_zero]
    omega
  | a :: r, h, j + 1 => by
    have ih := numOf_bt r (fun x hx => h x (List.mem_cons_of_mem _ hx)) j
    have ha := h a List.mem_cons_self
    rw [List.getD_cons_succ, ← ih]
    simp only [numOf, bt]
    rw [Nat.pow_succ, Nat.mul_comm (2 ^ j) 2, ← Nat.div_div_eq_div_mul]
    congr 2
    omega
theorem numOf_lt : ∀ (l : List Nat), (∀ x ∈ l, x ≤ 1) → numOf l < 2 ^ l.length
  | [], _ => by simp [numOf]
  | a :: r, h => by
    have ih := numOf_lt r fun x hx => h x (List.mem_cons_of_mem _ hx)
    have ha := h a List.mem_cons_self
    simp only [numOf, List.length_cons, Nat.pow_succ]
    omega
theorem bt_ext {n a b : Nat} (ha : a < 2 ^ n) (hb : b < 2 ^ n) (h : ∀ j, j < n → bt a j = bt b j) : a = b := by
  apply Nat.eq_of_testBit_eq
  intro j
  by_cases hj : j < n
  · rw [tb_bt, tb_bt, h j hj]
  · have hp : 2 ^ n ≤ 2 ^ j := Nat.pow_le_pow_right (by decide) (by omega)
    rw [Nat.testBit_lt_two_pow (by omega), Nat.testBit_lt_two_pow (by omega)]
theorem getD_map_bt {rs : List Nat} {k j : Nat} (hj : j < rs.length) : (rs.map (bt · k)).getD j 0 = bt (rs.getD j 0) k := by
  rw [List.getD_eq_getElem?_getD, List.getD_eq_getElem?_getD, List.getElem?_map, List.getElem?_eq_getElem hj]
  rfl
/-- column k of the row that a gate gives -/
theorem prow_bit {c : Gate} {rs : List Nat} {w k : Nat} (hl : rs.length = c.1) : bt (prow c rs w) k = if k < w then gv c (rs.map (bt · k)) else 0 := by
  have h := or_bit (c := c) (w := w) (rs := rs) (k := k) (2 ^ c.1)
  rw [tb_bt] at h
  have hm : ∀ x ∈ rs.map (bt · k), x ≤ 1 := fun x hx => by
    obtain ⟨y, _, rfl⟩ := List.mem_map.mp hx
    exact bt_le _ _
  have hn : numOf (rs.map (bt · k)) < 2 ^ c.1 := by
    have := numOf_lt _ hm
    rwa [List.length_map, hl] at this
  have e : (∃ r, r < 2 ^ c.1 ∧ bt c.2 r = 1 ∧ ∀ j, j < c.1 → bt r j = bt (rs.getD j 0) k) ↔ gv c (rs.map (bt · k)) = 1 := by
    constructor
    · rintro ⟨r, hr, h1, h2⟩
      have er : r = numOf (rs.map (bt · k)) := bt_ext hr hn fun j hj => by
        rw [h2 j hj, numOf_bt _ hm, getD_map_bt (by omega)]
      rw [gv, ← er]; exact h1
    · intro h1
      exact ⟨_, hn, h1, fun j hj => by rw [numOf_bt _ hm, getD_map_bt (by omega)]⟩
  have hg := gv_le c (rs.map (bt · k))
  have hb := bt_le (orTo c (2 ^ w - 1) rs (2 ^ c.1)) k
  show bt (orTo c (2 ^ w - 1) rs (2 ^ c.1)) k = _
  by_cases hk : k < w
  · rw [if_pos hk]
    by_cases hv : gv c (rs.map (bt · k)) = 1
    · rw [hv]
      rw [decide_eq_true (e.mpr hv), decide_eq_true hk] at h
      exact of_decide_eq_true h
    · rw [decide_eq_false (fun z => hv (e.mp z)), Bool.and_false] at h
      have := of_decide_eq_false h
      omega
  · rw [if_neg hk]
    rw [decide_eq_false hk, Bool.false_and] at h
    have := of_decide_eq_false h
    omega
theorem prow_lt {c : Gate} {rs : List Nat} {w : Nat} (hl : rs.length = c.1) : prow c rs w < 2 ^ w := by
  apply Nat.lt_pow_two_of_testBit
  intro i hi
  rw [tb_bt, prow_bit hl, if_neg (by omega)]
  rfl
end Gk

/-! comprehensions whose element changes nothing -/
namespace Gk
open PySem L2
theorem pure_list {K : PySem.W.Frag} {a : Addr} {l : List Nat} {f : Nat → Nat} {g : TG} {tt : TT} {te : TE} {vs : List Nat} {σ : L2.St} {H1 : Hp} {D : Addr} {Qd : Hp → Prop}
    (hS : SqL K H1 a (nL l)) (hD : H1 D = none) (hl : l.length ≤ 100000)
    (hs : ∀ (i x : Nat) (H : Hp) (R : V → Hp → Prop) (N : Hp → Prop), l[i]? = some x → Same H1 H → R (nV (f x)) H → g (nV x) (wipe σ vs) H fun σ2 H2 => wipe σ2 vs = wipe σ vs ∧ tt σ2 H2 fun b H3 => if b = true then te σ2 H3 R else N H3)
    (hd : Qd (upd H1 D (.lst (nL (l.map f))))) :
    ∃ W : Nat → Nat → Hp → Prop, (∃ m, W 0 m (upd H1 D (.lst []))) ∧ ∀ i m H, W i m H →
      ((Itl K a).stop i H ∧ Qd H) ∨ ((Itl K a).go i H ∧ ∃ Nx : Hp → Prop, (∀ H', Nx H' → ∃ m', m' < m ∧ W (i + 1) m' H') ∧ ∀ x H', (Itl K a).yld i H x H' → g x (wipe σ vs) H' fun σ2 H2 => wipe σ2 vs = wipe σ vs ∧ tt σ2 H2 fun b H3 =>
        if b = true then te σ2 H3 fun y H4 => ∃ acc, H4 D = some (.lst acc) ∧ acc.length < sizeLine ∧ Nx (upd H4 D (.lst (acc ++ [y]))) else Nx H3) := by
  refine lc_list (K := K) (a := a) (xs := nL l) (fun i H => H = upd H1 D (.lst (nL ((l.take i).map f)))) rfl (fun i H _ e => ?_) (fun i x H hx e => ?_) (fun H e => ?_)
  · subst e; exact (same_new hD).seq hS
  · subst e
    obtain ⟨hi, _⟩ := List.getElem?_eq_some_iff.mp hx
    obtain ⟨z, hz, _, hz2, hi2⟩ := nL_lt hi
    rw [hz2] at hx; cases hx
    refine hs i z _ _ _ hz (same_new hD) ⟨_, upd_same, ?_, ?_⟩
    · rw [nL_len, List.length_map, List.length_take]; exact small (by omega)
    · rw [upd_upd, nL_snoc, List.take_add_one, hz]; simp
  · rw [nL_len, List.take_length] at e
    subst e; exact hd
theorem pure_tup {K : PySem.W.Frag} {a : Addr} {l : List Nat} {f : Nat → Nat} {g : TG} {tt : TT} {te : TE} {vs : List Nat} {σ : L2.St} {H1 : Hp} {D : Addr} {Qd : Hp → Prop}
    (hS : SqT K H1 a (nL l)) (hD : H1 D = none) (hl : l.length ≤ 100000)
    (hs : ∀ (i x : Nat) (H : Hp) (R : V → Hp → Prop) (N : Hp → Prop), l[i]? = some x → Same H1 H → R (nV (f x)) H → g (nV x) (wipe σ vs) H fun σ2 H2 => wipe σ2 vs = wipe σ vs ∧ tt σ2 H2 fun b H3 => if b = true then te σ2 H3 R else N H3)
    (hd : Qd (upd H1 D (.lst (nL (l.map f))))) :
    ∃ W : Nat → Nat → Hp → Prop, (∃ m, W 0 m (upd H1 D (.lst []))) ∧ ∀ i m H, W i m H →
      ((Itt K a).stop i H ∧ Qd H) ∨ ((Itt K a).go i H ∧ ∃ Nx : Hp → Prop, (∀ H', Nx H' → ∃ m', m' < m ∧ W (i + 1) m' H') ∧ ∀ x H', (Itt K a).yld i H x H' → g x (wipe σ vs) H' fun σ2 H2 => wipe σ2 vs = wipe σ vs ∧ tt σ2 H2 fun b H3 =>
        if b = true then te σ2 H3 fun y H4 => ∃ acc, H4 D = some (.lst acc) ∧ acc.length < sizeLine ∧ Nx (upd H4 D (.lst (acc ++ [y]))) else Nx H3) := by
  refine lc_tup (K := K) (a := a) (xs := nL l) (fun i H => H = upd H1 D (.lst (nL ((l.take i).map f)))) rfl (fun i H _ e => ?_) (fun i x H hx e => ?_) (fun H e => ?_)
  · subst e; exact sameT (same_new hD) hS
  · subst e
    obtain ⟨hi, _⟩ := List.getElem?_eq_some_iff.mp hx
    obtain ⟨z, hz, _, hz2, hi2⟩ := nL_lt hi
    rw [hz2] at hx; cases hx
    refine hs i z _ _ _ hz (same_new hD) ⟨_, upd_same, ?_, ?_⟩
    · rw [nL_len, List.length_map, List.length_take]; exact small (by omega)
    · rw [upd_upd, nL_snoc, List.take_add_one, hz]; simp
  · rw [nL_len, List.take_length] at e
    subst e; exact hd
theorem pure_n {n : Nat} {f : Nat → Nat} {g : TG} {tt : TT} {te : TE} {vs : List Nat} {σ : L2.St} {H1 : Hp} {D : Addr} {Qd : Hp → Prop}
    (hD : H1 D = none) (hl : n ≤ 100000)
    (hs : ∀ (i : Nat) (H : Hp) (R : V → Hp → Prop) (N : Hp → Prop), i < n → Same H1 H → R (nV (f i)) H → g (nV i) (wipe σ vs) H fun σ2 H2 => wipe σ2 vs = wipe σ vs ∧ tt σ2 H2 fun b H3 => if b = true then te σ2 H3 R else N H3)
    (hd : Qd (upd H1 D (.lst (nL ((List.range n).map f))))) :
    ∃ W : Nat → Nat → Hp → Prop, (∃ m, W 0 m (upd H1 D (.lst []))) ∧ ∀ i m H, W i m H →
      ((Itr 0 ((n : Int)).toNat).stop i H ∧ Qd H) ∨ ((Itr 0 ((n : Int)).toNat).go i H ∧ ∃ Nx : Hp → Prop, (∀ H', Nx H' → ∃ m', m' < m ∧ W (i + 1) m' H') ∧ ∀ x H', (Itr 0 ((n : Int)).toNat).yld i H x H' → g x (wipe σ vs) H' fun σ2 H2 => wipe σ2 vs = wipe σ vs ∧ tt σ2 H2 fun b H3 =>
        if b = true then te σ2 H3 fun y H4 => ∃ acc, H4 D = some (.lst acc) ∧ acc.length < sizeLine ∧ Nx (upd H4 D (.lst (acc ++ [y]))) else Nx H3) := by
  refine lc_n (n := n) (fun i H => H = upd H1 D (.lst (nL ((List.range i).map f)))) rfl (fun i H hi e => ?_) (fun H e => ?_)
  · subst e
    refine hs i _ _ _ hi (same_new hD) ⟨_, upd_same, ?_, ?_⟩
    · rw [nL_len, List.length_map, List.length_range]; exact small (by omega)
    · rw [upd_upd, nL_snoc, List.range_succ]; simp
  · subst e; exact hd
/-- sum of a list of numbers that are not negative -/
theorem nL_ints (l : List Nat) : nL l = (l.map fun n : Nat => (n : Int)).map V.int := by rw [List.map_map]; rfl
theorem sum_ints : ∀ l : List Nat, (l.map fun n : Nat => (n : Int)).sum = ((l.sum : Nat) : Int)
  | [] => rfl
  | a :: r => by
    rw [List.map_cons, List.sum_cons, sum_ints r, List.sum_cons]; omega
theorem yes_ {A B : Hp → Prop} {σ : L2.St} {H : Hp} (h : A H) : tYes σ H (fun b H3 => if b = true then A H3 else B H3) := by
  show (if true = true then A H else B H)
  rw [if_pos rfl]; exact h
theorem same_keep {H0 H : Hp} {S : List Addr} (f : Frm S H0 H) (h : ∀ b ∈ S, H0 b = none) : Same H0 H := fun b o e => f b o e fun z => by rw [h b z] at e; cases e
/-- over pairs (i, the i-th) -/
theorem pure_enum {J : It} {G : Hp → Prop} {l : List Nat} {f : Nat → Nat → Nat} {g : TG} {tt : TT} {te : TE} {vs : List Nat} {σ : L2.St} {H1 : Hp} {D : Addr} {Qd : Hp → Prop}
    (wk : Walk J (nL l).length G (YPair (fun i => some (.int (i : Nat))) (fun i => (nL l)[i]?))) (hG : ∀ H, Same H1 H → G H) (hD : H1 D = none) (hl : l.length ≤ 100000)
    (hs : ∀ (i x : Nat) (H : Hp) (T : Addr) (R : V → Hp → Prop) (N : Hp → Prop), l[i]? = some x → Same H1 H → H T = some (.tup [nV i, nV x]) → R (nV (f i x)) H → g (.ref T) (wipe σ vs) H fun σ2 H2 => wipe σ2 vs = wipe σ vs ∧ tt σ2 H2 fun b H3 => if b = true then te σ2 H3 R else N H3)
    (hd : ∀ H, Same H1 H → H D = some (.lst (nL ((List.range l.length).map fun k => f k (l.getD k 0)))) → Qd H) :
    ∃ W : Nat → Nat → Hp → Prop, (∃ m, W 0 m (upd H1 D (.lst []))) ∧ ∀ i m H, W i m H →
      (J.stop i H ∧ Qd H) ∨ (J.go i H ∧ ∃ Nx : Hp → Prop, (∀ H', Nx H' → ∃ m', m' < m ∧ W (i + 1) m' H') ∧ ∀ x H', J.yld i H x H' → g x (wipe σ vs) H' fun σ2 H2 => wipe σ2 vs = wipe σ vs ∧ tt σ2 H2 fun b H3 =>
        if b = true then te σ2 H3 fun y H4 => ∃ acc, H4 D = some (.lst acc) ∧ acc.length < sizeLine ∧ Nx (upd H4 D (.lst (acc ++ [y]))) else Nx H3) := by
  refine lc_it wk (fun i H => Same H1 H ∧ H D = some (.lst (nL ((List.range i).map fun k => f k (l.getD k 0))))) ⟨same_new hD, upd_same⟩ (fun i H _ h => hG H h.1) (fun i x H H' hi h y => ?_) (fun H h => ?_)
  · obtain ⟨s1, h1⟩ := h
    obtain ⟨T, a, b, rfl, hT, rfl, ea, eb⟩ := y
    obtain ⟨z, hz, _, hz2, hi2⟩ := nL_lt hi
    have eb : (nL l)[i]? = some b := eb
    rw [hz2] at eb; cases eb
    cases ea
    have nTD : D ≠ T := ne_of_none h1 hT
    refine hs i z _ T _ _ hz (same_upd s1 (s1.free hT)) upd_same ⟨_, by rw [upd_ne nTD]; exact h1, ?_, same_upd (same_upd s1 (s1.free hT)) hD, ?_⟩
    · rw [nL_len, List.length_map, List.length_range]; exact small (by omega)
    · rw [upd_same, nL_snoc, List.range_succ, List.map_append]
      have e : l.getD i 0 = z := by rw [List.getD_eq_getElem?_getD, hz]; rfl
      show some (HO.lst (nL (_ ++ [f i z]))) = some (HO.lst (nL (_ ++ [f i (l.getD i 0)])))
      rw [e]
  · rw [nL_len] at h
    exact hd H h.1 h.2
/-! rules within a comprehension: their K is the def's own -/
section
variable {X : Cx} {K : PySem.W.Frag}
theorem pe_fldK {e : Expr} {ta : TE} {f : Str} {pos : Pos} (hK : X.K = K) (he : PE X e ta) (hb : attributeBase e f X.env (eval e X.env) = eval e X.env) : PE X (.Attribute e f pos) (tFld K ta f) := by
  subst hK; exact pe_fld he hb
theorem call_lenK (hK : X.K = K) : CallR X (.builtin "len") (fun xs H Q => ∃ p ys, xs = [.ref p] ∧ (SqL K H p ys ∨ SqT K H p ys) ∧ Q (.int ys.length) H) := by
  subst hK; exact call_len_seq
theorem call_tupleK (hK : X.K = K) : CallR X (.type "tuple") (fun xs H Q => ∃ p ys, xs = [.ref p] ∧ ((SqL K H p ys ∧ ∀ l, H l = none → Q (.ref l) (upd H l (.tup ys))) ∨ (SqT K H p ys ∧ Q (.ref p) H))) := by
  subst hK; exact call_tuple_of
theorem pi_listK {tg l : Expr} {tl : TE} (hK : X.K = K) (hl : PE X l tl) : PI X tg l (iList K tl) := by
  subst hK; exact pi_list hl
theorem pi_tupK {tg l : Expr} {tl : TE} (hK : X.K = K) (hl : PE X l tl) : PI X tg l (iTup K tl) := by
  subst hK; exact pi_tup hl
end
end Gk

namespace Gk
open PySem L2
section
variable {P : Program} {w : World} {K : PySem.W.Frag} {mg : Str → Option Value} {base : Heap}
/-! bit_of, number_of, value -/
def spBit : Sp := fun vs H Q _ => ∃ a k : Nat, vs = [nV a, nV k] ∧ Q (nV (bt a k)) H
theorem ok_bit_of (T : Pg w K mg) : FnOk P w K mg base CX0 1 T.f_bit_of T.d_bit_of ["number", "k"] spBit := by
  refine T.F_bit_of.ok sc_bit_of (fun vs H Q E h => ?_) (fun cdv A outer s H vs Q E hr h => ?_)
  · obtain ⟨a, k, rfl, _⟩ := h; rfl
  · obtain ⟨a, k, rfl, q⟩ := h
    refine ⟨_, (pss_one (ps_ret (pe_op op_and (pe_op op_shr (pv 0) (pv 1)) pe_int))), ?_⟩
    refine ⟨_, rfl, _, rfl, _, _, rfl, rfl, Int.natCast_nonneg k, _, _, rfl, rfl, ?_⟩
    dsimp only
    rw [c_bit]
    exact q
def spNumber (K : PySem.W.Frag) : Sp := fun vs H Q _ => ∃ (a : Addr) (l : List Nat), vs = [.ref a] ∧ SqL K H a (nL l) ∧ l.length ≤ 100 ∧ (∀ b ∈ l, b ≤ 1) ∧ Q (nV (numOf l)) H
theorem ok_number_of (T : Pg w K mg) : FnOk P w K mg base CX0 1 T.f_number_of T.d_number_of ["values"] (spNumber K) := by
  refine T.F_number_of.ok sc_number_of (fun vs H Q E h => ?_) (fun cdv A outer s H vs Q E hr h => ?_)
  · obtain ⟨a, l, rfl, _⟩ := h; rfl
  · obtain ⟨a, l, rfl, hL, hlen, hb, q⟩ := h
    refine ⟨_, (pss_cons (ps_set (i := 1) sc_number_of.nd rfl (by first | exact Or.inl rfl | exact Or.inr rfl) pe_int)
  (pss_cons (ps_for PassesOwn.never rfl (pi_range1 (by rfl) T.z_range (pa_cons (pe_callB call_len_seq (by rfl) T.z_len PySem.boot_len (pa_cons (pv 0) pa_nil)) pa_nil)) (pg_name (i := 2) sc_number_of.nd rfl (by first | exact Or.inl rfl | exact Or.inr rfl))
  (pss_one (ps_set (i := 1) sc_number_of.nd rfl (by first | exact Or.inl rfl | exact Or.inr rfl) (pe_op op_add (pv 1) (pe_op op_shl (pe_ix ix_list (pv 0) (pv 2) (fun _ _ => rfl)) (pv 2))))))
  (pss_one (ps_ret (pv 1))))), ?_⟩
    have b := b62 (n := (nL l).length) (by rw [nL_len]; omega)
    refine ⟨_, rfl, a, _, rfl, .inl hL, _, rfl, b.1, b.2, for_n (fun i σ H' => ∃ kv, σ = [some (.ref a), some (nV (numOf (l.take i))), kv] ∧ H' = H) ⟨none, rfl, rfl⟩ ?_ ?_⟩
    · rintro i σ H' hi ⟨kv, rfl, rfl⟩
      obtain ⟨x, hx, xm, hx2, hi2⟩ := nL_lt hi
      refine ⟨_, rfl, _, rfl, _, rfl, a, _, _, _, rfl, rfl, hL, atI_nat hx2, _, rfl, _, _, rfl, rfl, cpow (by have := hb x xm; omega) (by omega), _, _, rfl, rfl, ?_⟩
      refine ⟨some (nV i), ?_, rfl⟩
      dsimp only
      rw [numOf_take hx, c_shl, ← Int.natCast_add]
      rfl
    · rintro σ H' ⟨kv, rfl, rfl⟩
      refine ⟨_, rfl, ?_⟩
      have e : l.take (nL l).length = l := by rw [nL_len, List.take_length]
      rw [e]
      exact q
def GateAt (K : PySem.W.Frag) (H : Hp) (g : Addr) (c : Gate) : Prop := SqT K H g [nV c.1, nV c.2]
def spValue (K : PySem.W.Frag) : Sp := fun vs H Q _ => ∃ (g a : Addr) (c : Gate) (l : List Nat), vs = [.ref g, .ref a] ∧ GateAt K H g c ∧ SqL K H a (nL l) ∧ l.length ≤ 100 ∧ (∀ b ∈ l, b ≤ 1) ∧ Q (nV (gv c l)) H
theorem ok_value (T : Pg w K mg) : FnOk P w K mg base CX0 2 T.f_value T.d_value ["gate", "values"] (spValue K) := by
  refine T.F_value.ok sc_value (fun vs H Q E h => ?_) (fun cdv A outer s H vs Q E hr h => ?_)
  · obtain ⟨g, a, c, l, rfl, _⟩ := h; rfl
  · obtain ⟨g, a, c, l, rfl, hG, hL, hlen, hb, q⟩ := h
    refine ⟨_, (pss_one (ps_ret (pe_call (ok_bit_of T) (hr.mono (by decide)) (by rfl) T.m_bit_of T.F_bit_of.kp T.b_bit_of .nil pass0 (pa_cons (pe_ix ix_tup (pv 0) pe_int (fun _ _ => rfl)) (pa_cons (pe_call (ok_number_of T) (hr.mono (by decide)) (by rfl) T.m_number_of T.F_number_of.kp T.b_number_of .nil pass0 (pa_cons (pv 1) pa_nil)) pa_nil))))), ?_⟩
    exact ⟨_, rfl, g, _, _, _, rfl, rfl, hG, rfl, _, rfl, a, l, rfl, hL, hlen, hb, c.2, numOf l, rfl, q⟩
/-! members, to_power -/
def spMembers (K : PySem.W.Frag) : Sp := fun vs H Q _ => ∃ (t : Addr) (rs : List Nat), vs = [.ref t] ∧ SqT K H t (nL rs) ∧ rs.length ≤ 100 ∧
  ∀ (p : Addr) (kvs : List (Key × V)), H p = none → (∀ n : Nat, (valV kvs (.inl (n : Int))).isSome = decide (n ∈ rs)) → Q (.ref p) (upd H p (.dK kvs))
theorem ok_members (T : Pg w K mg) : FnOk P w K mg base CX0 1 T.f_members T.d_members ["some"] (spMembers K) := by
  refine T.F_members.ok sc_members (fun vs H Q E h => ?_) (fun cdv A outer s H vs Q E hr h => ?_)
  · obtain ⟨t, rs, rfl, _⟩ := h; rfl
  · obtain ⟨t, rs, rfl, hT, hlen, q⟩ := h
    have hu := hu_of hr
    refine ⟨_, (pss_cons (ps_set (i := 1) sc_members.nd rfl (by first | exact Or.inl rfl | exact Or.inr rfl) pe_dnewK)
  (pss_cons (ps_for PassesOwn.never rfl (pi_tup (pv 0)) (pg_name (i := 2) sc_members.nd rfl (by first | exact Or.inl rfl | exact Or.inr rfl))
  (pss_one (ps_dput hu (pv 1) (pv 2) pe_bl rfl)))
  (pss_one (ps_ret (pv 1))))), ?_⟩
    intro p hp
    refine ⟨_, rfl, t, rfl, ⟨_, sameT (same_new hp) hT⟩, for_tup (K := K) (a := t) (xs := nL rs) (fun i σ H' => ∃ (kvs : List (Key × V)) (ov : Option V), σ = [some (.ref t), some (.ref p), ov] ∧ H' = upd H p (.dK kvs) ∧ kvs.length ≤ i ∧ ∀ n : Nat, (valV kvs (.inl (n : Int))).isSome = decide (n ∈ rs.take i))
      ⟨[], none, rfl, rfl, Nat.le_refl _, fun n => by simp [valV]⟩ ?_ ?_ ?_⟩
    · rintro i σ H' _ ⟨kvs, ov, rfl, rfl, _⟩
      exact sameT (same_new hp) hT
    · rintro i y σ H' hy ⟨kvs, ov, rfl, rfl, hl, hk⟩
      obtain ⟨hi, _⟩ := List.getElem?_eq_some_iff.mp hy
      obtain ⟨x, hx, xm, hx2, hi2⟩ := nL_lt hi
      rw [hx2] at hy; cases hy
      refine ⟨_, rfl, _, rfl, p, _, rfl, DPut.k (k := .inl (x : Int)) upd_same (Nat.lt_of_le_of_lt hl (small (by omega))), ?_⟩
      refine ⟨_, _, rfl, upd_upd, Nat.le_trans (length_putK _ _ _) (Nat.succ_le_succ hl), fun n => ?_⟩
      rw [valV_put, List.take_add_one, hx]
      by_cases e : n = x
      · subst e; simp
      · have e' : ¬ (Sum.inl (n : Int) : Key) = Sum.inl (x : Int) := fun z => by injection z with z; omega
        rw [if_neg e', hk]; simp [e]
    · rintro σ H' ⟨kvs, ov, rfl, rfl, hl, hk⟩
      refine ⟨_, rfl, ?_⟩
      refine q p kvs hp fun n => ?_
      rw [hk, nL_len, List.take_length]
def spPower : Sp := fun vs H Q _ => ∃ a t : Nat, vs = [nV a, nV t] ∧ a ≤ 8 ∧ t ≤ 4 ∧ Q (nV (a ^ t)) H
theorem pow_le {a t : Nat} (h : a ≤ 8) (ht : t ≤ 4) : a ^ t ≤ 4096 :=
  Nat.le_trans (Nat.pow_le_pow_left h t) (Nat.le_trans (Nat.pow_le_pow_right (by decide) ht) (by decide))
theorem ok_to_power (T : Pg w K mg) : FnOk P w K mg base CX0 1 T.f_to_power T.d_to_power ["number", "times"] spPower := by
  refine T.F_to_power.ok sc_to_power (fun vs H Q E h => ?_) (fun cdv A outer s H vs Q E hr h => ?_)
  · obtain ⟨a, t, rfl, _⟩ := h; rfl
  · obtain ⟨a, t, rfl, ha, ht, q⟩ := h
    refine ⟨_, (pss_cons (ps_set (i := 2) sc_to_power.nd rfl (by first | exact Or.inl rfl | exact Or.inr rfl) pe_int)
  (pss_cons (ps_for PassesOwn.never rfl (pi_range1 (by rfl) T.z_range (pa_cons (pv 1) pa_nil)) (pg_name (i := 3) sc_to_power.nd rfl (by first | exact Or.inl rfl | exact Or.inr rfl))
  (pss_one (ps_set (i := 2) sc_to_power.nd rfl (by first | exact Or.inl rfl | exact Or.inr rfl) (pe_op op_mul (pv 2) (pv 0)))))
  (pss_one (ps_ret (pv 2))))), ?_⟩
    have b := b62 (n := t) (by omega)
    refine ⟨_, rfl, _, rfl, b.1, b.2, for_n (fun i σ H' => ∃ kv, σ = [some (nV a), some (nV t), some (nV (a ^ i)), kv] ∧ H' = H) ⟨none, rfl, rfl⟩ ?_ ?_⟩
    · rintro i σ H' hi ⟨kv, rfl, rfl⟩
      have := pow_le ha (t := i) (by omega)
      refine ⟨_, rfl, _, rfl, _, _, rfl, rfl, .inl ⟨by omega, by omega⟩, ?_⟩
      refine ⟨some (nV i), ?_, rfl⟩
      dsimp only
      rw [← Int.natCast_mul, ← Nat.pow_succ]
      rfl
    · rintro σ H' ⟨kv, rfl, rfl⟩
      exact ⟨_, rfl, q⟩
end
end Gk

namespace Gk
open PySem L2
section
variable {P : Program} {w : World} {K : PySem.W.Frag} {mg : Str → Option Value} {base : Heap}
theorem c_mod (a b : Nat) : (a : Int) % (b : Int) = ((a % b : Nat) : Int) := (Int.natCast_emod a b).symm
theorem c_div (a b : Nat) : (a : Int) / (b : Int) = ((a / b : Nat) : Int) := (Int.natCast_ediv a b).symm
theorem nL_rev (l : List Nat) : (nL l).reverse = nL l.reverse := (List.map_reverse).symm
def spListNum (K : PySem.W.Frag) : Sp := fun vs H Q _ => ∃ (t : Addr) (rs : List Nat) (m n : Nat), vs = [.ref t, nV m, nV n] ∧ SqT K H t (nL rs) ∧ rs ≠ [] ∧ rs.length ≤ 100 ∧ m ≤ 100 ∧
  ∀ (H' : Hp) (p : Addr), Same H H' → H p = none → H' p = some (.lst (nL (lnum rs m n))) → Q (.ref p) H'
theorem ok_list_number (T : Pg w K mg) : FnOk P w K mg base CX0 1 T.f_list_number T.d_list_number ["rows", "many", "number"] (spListNum K) := by
  refine T.F_list_number.ok sc_list_number (fun vs H Q E h => ?_) (fun cdv A outer s H vs Q E hr h => ?_)
  · obtain ⟨t, rs, m, n, rfl, _⟩ := h; rfl
  · obtain ⟨t, rs, m, n, rfl, hT, hne, hlen, hm, q⟩ := h
    have hpos : 0 < rs.length := List.length_pos_iff.mpr hne
    refine ⟨_, (pss_cons (ps_set (i := 3) sc_list_number.nd rfl (by first | exact Or.inl rfl | exact Or.inr rfl) (pe_lst pa_nil))
  (pss_cons (ps_for PassesOwn.never rfl (pi_range1 (by rfl) T.z_range (pa_cons (pv 1) pa_nil)) (pg_name (i := 4) sc_list_number.nd rfl (by first | exact Or.inl rfl | exact Or.inr rfl))
  (pss_cons (ps_expr (pe_bm PySem.F.plainAttrs_list PySem.F.slot_list_append PySem.F.type_list_append mt_append (pv 3) (pa_cons (pe_ix ix_tup (pv 0) (pe_op op_mod (pv 2) (pe_callB call_len_seq (by rfl) T.z_len PySem.boot_len (pa_cons (pv 0) pa_nil))) (fun _ _ => rfl)) pa_nil)))
  (pss_one (ps_set (i := 2) sc_list_number.nd rfl (by first | exact Or.inl rfl | exact Or.inr rfl) (pe_op op_fdiv (pv 2) (pe_callB call_len_seq (by rfl) T.z_len PySem.boot_len (pa_cons (pv 0) pa_nil)))))))
  (pss_one (ps_ret (pe_revL (pv 3)))))), ?_⟩
    have b := b62 (n := m) (by omega)
    refine ⟨Nat.zero_le _, fun p hp => ?_⟩
    refine ⟨_, rfl, _, rfl, b.1, b.2, for_n (fun i σ H' => ∃ (acc : List Nat) (k : Nat) (kv : Option V), σ = [some (.ref t), some (nV m), some (nV k), some (.ref p), kv] ∧ H' = upd H p (.lst (nL acc)) ∧ acc.length = i ∧ i ≤ m ∧ acc ++ digs rs (m - i) k = digs rs m n)
      ⟨[], n, none, rfl, rfl, rfl, Nat.zero_le _, rfl⟩ ?_ ?_⟩
    · rintro i σ H' hi ⟨acc, k, kv, rfl, rfl, hl, _, hd⟩
      have hT' : SqT K (upd H p (.lst (nL acc))) t (nL rs) := sameT (same_new hp) hT
      have hk : k % rs.length < rs.length := Nat.mod_lt _ hpos
      have hx : rs[k % rs.length]? = some (rs.getD (k % rs.length) 0) := by
        rw [List.getD_eq_getElem?_getD, List.getElem?_eq_getElem hk]; rfl
      have hpos' : (0 : Int) < ((nL rs).length : Int) := by rw [nL_len]; omega
      have hpos2 : ((nL rs).length : Int) < 1073741824 := by rw [nL_len]; omega
      refine ⟨_, rfl, .inl ⟨rfl, _, SqL.of upd_same⟩, _, rfl, _, rfl, _, rfl, t, _, rfl, .inr hT', _, _, rfl, rfl, hpos', t, _, _, _, rfl, rfl, hT',
        at_of (j := k % rs.length) (by rw [nL_len]; exact c_mod _ _) (nL_at hx), p, _, _, rfl, rfl, upd_same, by rw [nL_len]; exact small (by omega), ?_⟩
      have hT2 : SqT K (upd (upd H p (.lst (nL acc))) p (.lst (nL acc ++ [nV (rs.getD (k % rs.length) 0)]))) t (nL rs) := by
        rw [upd_upd]; exact sameT (same_new hp) hT
      refine ⟨_, rfl, _, rfl, t, _, rfl, .inr hT2, _, _, rfl, rfl, ⟨hpos', hpos2⟩, ?_⟩
      refine ⟨acc ++ [rs.getD (k % rs.length) 0], k / rs.length, some (nV i), ?_, ?_, ?_, hi, ?_⟩
      · dsimp only
        rw [nL_len, c_div]
        rfl
      · rw [upd_upd, nL_snoc]
      · rw [List.length_append, hl]; rfl
      · rw [List.append_assoc, ← hd]
        have e : m - i = (m - (i + 1)) + 1 := by omega
        rw [e]
        rfl
    · rintro σ H' ⟨acc, k, kv, rfl, rfl, hl, _, hd⟩
      rw [Nat.sub_self] at hd
      have hd' : acc = digs rs m n := by rw [← hd]; simp [digs]
      refine ⟨_, rfl, p, _, rfl, SqL.of upd_same, fun r hr' => ?_⟩
      obtain ⟨nrp, hr0⟩ := none_ne hr'
      refine q _ r (same_upd (same_new hp) hr0) hr0 ?_
      rw [upd_same, nL_rev, hd']
      rfl
theorem c_full (w : Nat) : (1 : Int) * 2 ^ ((w : Int)).toNat - 1 = ((2 ^ w - 1 : Nat) : Int) := by
  have h : 0 < 2 ^ w := Nat.pow_pos (by decide)
  have e := c_shl 1 w
  rw [Nat.one_mul] at e
  have e' : (1 : Int) * 2 ^ ((w : Int)).toNat = ((2 ^ w : Nat) : Int) := e
  rw [e']; omega
theorem c_one (w : Nat) : (1 : Int) * 2 ^ ((w : Int)).toNat = ((2 ^ w : Nat) : Int) := by
  have e := c_shl 1 w
  rw [Nat.one_mul] at e
  exact e
theorem pow16 {w : Nat} (h : w ≤ 4) : 2 ^ w ≤ 16 := Nat.le_trans (Nat.pow_le_pow_right (by decide) h) (by decide)
def spPutRows (K : PySem.W.Frag) : Sp := fun vs H Q _ => ∃ (g a : Addr) (c : Gate) (rs : List Nat) (wd : Nat), vs = [.ref g, .ref a, nV wd] ∧ GateAt K H g c ∧ SqL K H a (nL rs) ∧ rs.length = c.1 ∧ c.1 ≤ 4 ∧ wd ≤ 4 ∧ (∀ x ∈ rs, x < 16) ∧
  Q (nV (prow c rs wd)) H
theorem ok_put_rows (T : Pg w K mg) : FnOk P w K mg base CX0 1 T.f_put_rows T.d_put_rows ["gate", "rows", "width"] (spPutRows K) := by
  refine T.F_put_rows.ok sc_put_rows (fun vs H Q E h => ?_) (fun cdv A outer s H vs Q E hr h => ?_)
  · obtain ⟨g, a, c, rs, wd, rfl, _⟩ := h; rfl
  · obtain ⟨g, a, c, rs, wd, rfl, hG, hL, hl, hc, hw, hlt, q⟩ := h
    refine ⟨_, (pss_cons (ps_set (i := 3) sc_put_rows.nd rfl (by first | exact Or.inl rfl | exact Or.inr rfl) (pe_op op_sub (pe_op op_shl pe_int (pv 2)) pe_int))
  (pss_cons (ps_set (i := 4) sc_put_rows.nd rfl (by first | exact Or.inl rfl | exact Or.inr rfl) pe_int)
  (pss_cons (ps_for PassesOwn.never rfl (pi_range1 (by rfl) T.z_range (pa_cons (pe_op op_shl pe_int (pe_ix ix_tup (pv 0) pe_int (fun _ _ => rfl))) pa_nil)) (pg_name (i := 5) sc_put_rows.nd rfl (by first | exact Or.inl rfl | exact Or.inr rfl))
  (pss_one (ps_if (pt_cmpR op_eq (pe_op op_and (pe_op op_shr (pe_ix ix_tup (pv 0) pe_int (fun _ _ => rfl)) (pv 5)) pe_int) pe_int (nomark _)) (pss_cons (ps_set (i := 6) sc_put_rows.nd rfl (by first | exact Or.inl rfl | exact Or.inr rfl) (pv 3))
  (pss_cons (ps_for PassesOwn.never rfl (pi_range1 (by rfl) T.z_range (pa_cons (pe_ix ix_tup (pv 0) pe_int (fun _ _ => rfl)) pa_nil)) (pg_name (i := 7) sc_put_rows.nd rfl (by first | exact Or.inl rfl | exact Or.inr rfl))
  (pss_one (ps_if (pt_cmpR op_eq (pe_op op_and (pe_op op_shr (pv 5) (pv 7)) pe_int) pe_int (nomark _)) (pss_one (ps_set (i := 6) sc_put_rows.nd rfl (by first | exact Or.inl rfl | exact Or.inr rfl) (pe_op op_and (pv 6) (pe_ix ix_list (pv 1) (pv 7) (fun _ _ => rfl))))) (pss_one (ps_set (i := 6) sc_put_rows.nd rfl (by first | exact Or.inl rfl | exact Or.inr rfl) (pe_op op_and (pv 6) (pe_op op_xor (pv 3) (pe_ix ix_list (pv 1) (pv 7) (fun _ _ => rfl)))))))))
  (pss_one (ps_set (i := 4) sc_put_rows.nd rfl (by first | exact Or.inl rfl | exact Or.inr rfl) (pe_op op_or (pv 4) (pv 6)))))) pss_nil)))
  (pss_one (ps_ret (pv 4)))))), ?_⟩
    have p1 := pow16 hc
    have hf : 2 ^ wd - 1 < 16 := by have := pow16 hw; omega
    refine ⟨_, rfl, _, _, rfl, rfl, cpow (x := 1) (by omega) (by omega), _, _, rfl, rfl, ?_⟩
    dsimp only
    rw [c_full]
    have b := b62 (n := 2 ^ c.1) (by omega)
    refine ⟨_, rfl, g, _, _, _, rfl, rfl, hG, rfl, _, _, rfl, rfl, cpow (x := 1) (by omega) (by omega), ?_⟩
    dsimp only
    rw [c_one]
    refine ⟨_, rfl, b.1, b.2, for_n (n := 2 ^ c.1) (D := { nx := fun σ H' => tRet (tVar 4) { nx := fun _ H' => Q V.non H', rt := Q } σ H', rt := Q }) (fun i σ H' => ∃ v5 v6 v7, σ = [some (.ref g), some (.ref a), some (nV wd), some (nV (2 ^ wd - 1)), some (nV (orTo c (2 ^ wd - 1) rs i)), v5, v6, v7] ∧ H' = H) ?_ ?_ ?_⟩
    · exact ⟨none, none, none, rfl, rfl⟩
    · rintro i σ H' hi ⟨v5, v6, v7, rfl, rfl⟩
      refine ⟨_, rfl, g, _, _, _, rfl, rfl, hG, rfl, _, rfl, _, _, rfl, rfl, Int.natCast_nonneg i, _, _, rfl, rfl, rfl, _, rfl, ?_⟩
      show if decide (V.int (Builtin.bitAnd ((c.2 : Int) / 2 ^ ((i : Int)).toNat) 1) = V.int 1) = true then _ else _
      rw [dec_bit1]
      refine ite2 (fun h => ?_) (fun h => ?_)
      · have h := of_decide_eq_true h
        have b' := b62 (n := c.1) (by omega)
        refine ⟨_, rfl, _, rfl, g, _, _, _, rfl, rfl, hG, rfl, _, rfl, b'.1, b'.2, for_n (fun j σ H'' => ∃ v7, σ = [some (.ref g), some (.ref a), some (nV wd), some (nV (2 ^ wd - 1)), some (nV (orTo c (2 ^ wd - 1) rs i)), some (nV i), some (nV (partTo (2 ^ wd - 1) rs i j)), v7] ∧ H'' = H') ⟨v7, rfl, rfl⟩ ?_ ?_⟩
        · rintro j σ H'' hj ⟨w7, rfl, rfl⟩
          have hx : rs[j]? = some (rs.getD j 0) := by
            rw [List.getD_eq_getElem?_getD, List.getElem?_eq_getElem (by omega)]; rfl
          have hp := part16 hf hlt i j
          have hg := getD_lt (rs := rs) (j := j) (m := 16) (by decide) hlt
          refine ⟨_, rfl, _, rfl, _, _, rfl, rfl, Int.natCast_nonneg j, _, _, rfl, rfl, rfl, _, rfl, ?_⟩
          show if decide (V.int (Builtin.bitAnd ((i : Int) / 2 ^ ((j : Int)).toNat) 1) = V.int 1) = true then _ else _
          rw [dec_bit1]
          refine ite2 (fun h1 => ?_) (fun h1 => ?_)
          · have h1 := of_decide_eq_true h1
            refine ⟨_, rfl, _, rfl, _, rfl, a, _, _, _, rfl, rfl, hL, atI_nat (nL_at hx), _, _, rfl, rfl, ?_⟩
            refine ⟨some (nV j), ?_, rfl⟩
            dsimp only
            rw [c_and, partTo, if_pos h1]
            rfl
          · have h1 : ¬ bt i j = 1 := fun z => h1 (decide_eq_true z)
            refine ⟨_, rfl, _, rfl, _, rfl, _, rfl, a, _, _, _, rfl, rfl, hL, atI_nat (nL_at hx), _, _, rfl, rfl, _, _, rfl, rfl, ?_⟩
            refine ⟨some (nV j), ?_, rfl⟩
            dsimp only
            rw [c_xor16 _ hf _ hg, c_and, partTo, if_neg h1]
            rfl
        · rintro σ H'' ⟨w7, rfl, rfl⟩
          have ho := or16' (c := c) hf hlt i
          have hp := part16 hf hlt i c.1
          refine ⟨_, rfl, _, rfl, _, _, rfl, rfl, ?_⟩
          refine ⟨some (nV i), some (nV (partTo (2 ^ wd - 1) rs i c.1)), w7, ?_, rfl⟩
          dsimp only
          rw [c_or16 _ ho _ hp]
          show _ = [some (V.ref g), some (V.ref a), some (nV wd), some (nV (2 ^ wd - 1)), some (nV (if bt c.2 i = 1 then orTo c (2 ^ wd - 1) rs i ||| partTo (2 ^ wd - 1) rs i c.1 else orTo c (2 ^ wd - 1) rs i)), _, _, _]
          rw [if_pos h]
          rfl
      · have h : ¬ bt c.2 i = 1 := fun z => h (decide_eq_true z)
        refine ⟨some (nV i), v6, v7, ?_, rfl⟩
        show _ = [some (V.ref g), some (V.ref a), some (nV wd), some (nV (2 ^ wd - 1)), some (nV (if bt c.2 i = 1 then orTo c (2 ^ wd - 1) rs i ||| partTo (2 ^ wd - 1) rs i c.1 else orTo c (2 ^ wd - 1) rs i)), _, _, _]
        rw [if_neg h]
        rfl
    · rintro σ H' ⟨v5, v6, v7, rfl, rfl⟩
      exact ⟨_, rfl, q⟩
/-! broken -/
def spBroken (K : PySem.W.Frag) : Sp := fun vs H Q _ => ∃ (g k t : Addr) (c : Gate) (wd : Nat) (rs : List Nat), vs = [.ref g, .ref k] ∧ GateAt K H g c ∧ SqT K H k [nV wd, .ref t] ∧ SqT K H t (nL rs) ∧ c.1 ≤ 4 ∧ wd ≤ 4 ∧ rs ≠ [] ∧ rs.length ≤ 8 ∧ (∀ x ∈ rs, x < 16) ∧
  ((∀ n, n < rs.length ^ c.1 → prow c (lnum rs c.1 n) wd ∈ rs) → ∀ H', Same H H' → Q .non H') ∧
  (∀ n, n < rs.length ^ c.1 → ¬ prow c (lnum rs c.1 n) wd ∈ rs → ∀ (H' : Hp) (p : Addr), Same H H' → H p = none → H' p = some (.lst (nL (lnum rs c.1 n))) → Q (.ref p) H')
theorem ok_broken (T : Pg w K mg) : FnOk P w K mg base CX0 2 T.f_broken T.d_broken ["gate", "kept"] (spBroken K) := by
  refine T.F_broken.ok sc_broken (fun vs H Q E h => ?_) (fun cdv A outer s H vs Q E hr h => ?_)
  · obtain ⟨g, k, t, c, wd, rs, rfl, _⟩ := h; rfl
  · obtain ⟨g, k, t, c, wd, rs, rfl, hG, hK, hT, hc, hw, hne, hlen, hlt, q1, q2⟩ := h
    have hu := hu_of hr
    refine ⟨_, (pss_cons (ps_asg (pv 1) (pg_tup (by rfl) (pgs_cons (pg_name (i := 2) sc_broken.nd rfl (by first | exact Or.inl rfl | exact Or.inr rfl)) (pgs_cons (pg_name (i := 3) sc_broken.nd rfl (by first | exact Or.inl rfl | exact Or.inr rfl)) pgs_nil))))
  (pss_cons (ps_set (i := 4) sc_broken.nd rfl (by first | exact Or.inl rfl | exact Or.inr rfl) (pe_call (ok_to_power T) (hr.mono (by decide)) (by rfl) T.m_to_power T.F_to_power.kp T.b_to_power .nil pass0 (pa_cons (pe_callB call_len_seq (by rfl) T.z_len PySem.boot_len (pa_cons (pv 3) pa_nil)) (pa_cons (pe_ix ix_tup (pv 0) pe_int (fun _ _ => rfl)) pa_nil))))
  (pss_cons (ps_if (pt_cmpR op_gt (pv 4) (pe_glob (by rfl) T.m_MOST_WORK T.r_MOST_WORK) (nomark _)) (pss_one ps_never) pss_nil)
  (pss_cons (ps_set (i := 5) sc_broken.nd rfl (by first | exact Or.inl rfl | exact Or.inr rfl) (pe_call (ok_members T) (hr.mono (by decide)) (by rfl) T.m_members T.F_members.kp T.b_members .nil pass0 (pa_cons (pv 3) pa_nil)))
  (pss_cons (ps_for PassesOwn.never rfl (pi_range1 (by rfl) T.z_range (pa_cons (pv 4) pa_nil)) (pg_name (i := 6) sc_broken.nd rfl (by first | exact Or.inl rfl | exact Or.inr rfl))
  (pss_cons (ps_set (i := 7) sc_broken.nd rfl (by first | exact Or.inl rfl | exact Or.inr rfl) (pe_call (ok_list_number T) (hr.mono (by decide)) (by rfl) T.m_list_number T.F_list_number.kp T.b_list_number .nil pass0 (pa_cons (pv 3) (pa_cons (pe_ix ix_tup (pv 0) pe_int (fun _ _ => rfl)) (pa_cons (pv 6) pa_nil)))))
  (pss_one (ps_if (pt_cmp (pc_dnotin hu (pe_call (ok_put_rows T) (hr.mono (by decide)) (by rfl) T.m_put_rows T.F_put_rows.kp T.b_put_rows .nil pass0 (pa_cons (pv 0) (pa_cons (pv 7) (pa_cons (pv 2) pa_nil)))) (pv 5))) (pss_one (ps_ret (pv 7))) pss_nil))))
  (pss_one (ps_ret pe_non))))))), ?_⟩
    have hp := pow_le hlen hc
    refine ⟨_, rfl, k, _, rfl, hK, rfl, _, _, rfl, _, _, rfl, rfl, ?_⟩
    refine ⟨_, rfl, t, _, rfl, .inr hT, _, rfl, g, _, _, _, rfl, rfl, hG, rfl, (nL rs).length, c.1, rfl, by rw [nL_len]; exact hlen, hc, ?_⟩
    rw [nL_len]
    refine ⟨_, rfl, _, _, rfl, rfl, _, rfl, ?_⟩
    rw [decide_eq_false (by omega : ¬ (20000 : Int) < ((rs.length ^ c.1 : Nat) : Int))]
    refine iteF ?_
    refine ⟨_, rfl, t, rs, rfl, hT, by omega, fun p kvs hp0 hk => ?_⟩
    have s1 : Same H (upd H p (.dK kvs)) := same_new hp0
    have b := b62 (n := rs.length ^ c.1) (by omega)
    refine ⟨_, rfl, _, rfl, b.1, b.2, for_n (fun i σ H' => ∃ v6 v7, σ = [some (.ref g), some (.ref k), some (nV wd), some (.ref t), some (nV (rs.length ^ c.1)), some (.ref p), v6, v7] ∧ Same (upd H p (.dK kvs)) H' ∧ ∀ n, n < i → prow c (lnum rs c.1 n) wd ∈ rs)
      ⟨none, none, rfl, Same.refl _, fun n hn => absurd hn (Nat.not_lt_zero n)⟩ ?_ ?_⟩
    · rintro i σ H' hi ⟨v6, v7, rfl, s2, hin⟩
      have s3 := s1.trans s2
      refine ⟨_, rfl, _, rfl, g, _, _, _, rfl, rfl, sameT s3 hG, rfl, _, rfl, t, rs, c.1, i, rfl, sameT s3 hT, hne, by omega, by omega, fun H2 r s4 hr0 hr1 => ?_⟩
      have s5 := s3.trans s4
      refine ⟨_, rfl, _, rfl, _, rfl, g, r, c, lnum rs c.1 i, wd, rfl, sameT s5 hG, SqL.of hr1, lnum_len _ _ _, hc, hw, fun x hx => hlt x (lnum_mem hne hx), ?_⟩
      refine ⟨_, rfl, p, _, rfl, DGet.k (k := .inl ((prow c (lnum rs c.1 i) wd : Nat) : Int)) (s4 _ _ (s2 _ _ upd_same)), _, rfl, ?_⟩
      rw [hk]
      by_cases hin2 : prow c (lnum rs c.1 i) wd ∈ rs
      · rw [decide_eq_true hin2]
        refine iteF ?_
        refine ⟨some (nV i), some (.ref r), rfl, s2.trans s4, fun n hn => ?_⟩
        by_cases e : n = i
        · subst e; exact hin2
        · exact hin n (by omega)
      · rw [decide_eq_false hin2]
        refine iteT ?_
        refine ⟨_, rfl, ?_⟩
        exact q2 i hi hin2 H2 r s5 (s3.free hr0) hr1
    · rintro σ H' ⟨v6, v7, rfl, s2, hin⟩
      exact q1 hin H' (s1.trans s2)
end
end Gk

namespace Gk
open PySem L2
/-- a gate keeps a relation -/
def Keeps (c : Gate) (wd : Nat) (rs : List Nat) : Prop := ∀ n, n < rs.length ^ c.1 → prow c (lnum rs c.1 n) wd ∈ rs
/-- a gate's values come to an odd number at four corners -/
def Odd4 (c : Gate) (r i j : Nat) : Prop := r < 2 ^ c.1 ∧ i < c.1 ∧ j < i ∧ (bt c.2 r + bt c.2 (r ^^^ 2 ^ i) + bt c.2 (r ^^^ 2 ^ j) + bt c.2 (r ^^^ 2 ^ i ^^^ 2 ^ j)) % 2 = 1
theorem rel5_ok : ∀ k ∈ REL5, k.2.1 ≤ 4 ∧ k.2.2 ≠ [] ∧ k.2.2.length ≤ 8 ∧ ∀ x ∈ k.2.2, x < 16 := by
  intro k hk
  simp only [REL5, List.mem_cons, List.not_mem_nil, or_false] at hk
  rcases hk with rfl | rfl | rfl | rfl | rfl <;> decide
section
variable {P : Program} {w : World} {K : PySem.W.Frag} {mg : Str → Option Value} {base : Heap}
/-- a list of gates -/
def GatesAt (K : PySem.W.Frag) (H : Hp) (l : Addr) (gs : List Gate) : Prop := ∃ refs : List Addr, SqL K H l (refs.map V.ref) ∧ Paired (GateAt K H) refs gs
theorem paired_at {α β : Type} {F : α → β → Prop} : ∀ {l₁ : List α} {l₂ : List β} {i : Nat} {b : β}, Paired F l₁ l₂ → l₂[i]? = some b → ∃ a, l₁[i]? = some a ∧ F a b
  | _, _, _, _, .nil, h => by simp at h
  | _, _, 0, _, .cons f _, h => by simp at h; subst h; exact ⟨_, rfl, f⟩
  | _, _, i + 1, b, .cons _ t, h => by
    obtain ⟨a, h1, h2⟩ := paired_at (i := i) (b := b) t (by simpa using h)
    exact ⟨a, by simpa using h1, h2⟩
theorem GatesAt.at_ {H : Hp} {l : Addr} {gs : List Gate} (h : GatesAt K H l gs) {i : Nat} {c : Gate} (e : gs[i]? = some c) : ∃ (vs : List V) (g : Addr), SqL K H l vs ∧ vs.length = gs.length ∧ vs[i]? = some (.ref g) ∧ GateAt K H g c := by
  obtain ⟨refs, hl, hp⟩ := h
  obtain ⟨g, hg, hc⟩ := paired_at hp e
  exact ⟨_, g, hl, by rw [List.length_map, hp.length], by rw [List.getElem?_map, hg]; rfl, hc⟩
theorem GatesAt.len {H : Hp} {l : Addr} {gs : List Gate} (h : GatesAt K H l gs) : ∃ vs : List V, SqL K H l vs ∧ vs.length = gs.length := by
  obtain ⟨refs, hl, hp⟩ := h
  exact ⟨_, hl, by rw [List.length_map, hp.length]⟩
theorem GatesAt.same {H H' : Hp} {l : Addr} {gs : List Gate} (s : Same H H') (h : GatesAt K H l gs) : GatesAt K H' l gs := by
  obtain ⟨refs, hl, hp⟩ := h
  exact ⟨refs, s.seq hl, L2.Paired.mapP hp fun _ _ q => sameT s q⟩
/-! kind, outsider -/
def spKind (K : PySem.W.Frag) : Sp := fun vs H Q _ => ∃ k, vs = [.str k.1] ∧ k ∈ REL5 ∧ ∀ a t, (∀ H : Hp, SqT K H a [nV k.2.1, .ref t]) → (∀ H : Hp, SqT K H t (nL k.2.2)) → Q (.ref a) H
theorem ok_kind (T : Pg w K mg) : FnOk P w K mg base CX0 1 T.f_kind T.d_kind ["name"] (spKind K) := by
  refine T.F_kind.ok sc_kind (fun vs H Q E h => ?_) (fun cdv A outer s H vs Q E hr h => ?_)
  · obtain ⟨k, rfl, _⟩ := h; rfl
  · obtain ⟨k, rfl, hk, q⟩ := h
    refine ⟨_, (pss_one (ps_ret (pe_ix ix_kdict (pe_glob (by rfl) T.m_RELATIONS T.r_RELATIONS) (pv 0) (fun _ _ => rfl)))), ?_⟩
    obtain ⟨a, t, h1, h2, h3⟩ := T.q_REL k hk
    exact ⟨_, rfl, _, _, _, rfl, rfl, h1, q a t h2 h3⟩
def spOutsider (K : PySem.W.Frag) : Sp := fun vs H Q _ => ∃ k, vs = [.str k.1] ∧ k ∈ OUT5 ∧ ∀ a, (∀ H : Hp, SqT K H a [nV k.2.1, nV k.2.2]) → Q (.ref a) H
theorem ok_outsider (T : Pg w K mg) : FnOk P w K mg base CX0 1 T.f_outsider T.d_outsider ["name"] (spOutsider K) := by
  refine T.F_outsider.ok sc_outsider (fun vs H Q E h => ?_) (fun cdv A outer s H vs Q E hr h => ?_)
  · obtain ⟨k, rfl, _⟩ := h; rfl
  · obtain ⟨k, rfl, hk, q⟩ := h
    refine ⟨_, (pss_one (ps_ret (pe_ix ix_kdict (pe_glob (by rfl) T.m_OUTSIDERS T.r_OUTSIDERS) (pv 0) (fun _ _ => rfl)))), ?_⟩
    obtain ⟨a, h1, h2⟩ := T.q_OUT k hk
    exact ⟨_, rfl, _, _, _, rfl, rfl, h1, q a h2⟩
/-! first_break, kinds -/
/-- what is told of a kind: the objects told lie where Nw holds -/
def ToldV (Nw : Addr → Prop) (H : Hp) (v : V) (gs : List Gate) (k : Str × Nat × List Nat) : Prop :=
  (v = .non ∧ ∀ c ∈ gs, Keeps c k.2.1 k.2.2) ∨
  ∃ (p r : Addr) (i : Nat) (c : Gate) (n : Nat), v = .ref p ∧ gs[i]? = some c ∧ n < k.2.2.length ^ c.1 ∧ ¬ prow c (lnum k.2.2 c.1 n) k.2.1 ∈ k.2.2 ∧ Nw p ∧ Nw r ∧ H p = some (.tup [nV i, .ref r]) ∧ H r = some (.lst (nL (lnum k.2.2 c.1 n)))
theorem ToldV.mono {Nw Nw' : Addr → Prop} {H H' : Hp} {v : V} {gs : List Gate} {k : Str × Nat × List Nat} (h : ToldV Nw H v gs k) (hn : ∀ a, Nw a → Nw' a) (hH : ∀ a o, Nw a → H a = some o → H' a = some o) : ToldV Nw' H' v gs k := by
  rcases h with h | ⟨p, r, i, c, n, e, h1, h2, h3, h4, h5, h6, h7⟩
  · exact .inl h
  · exact .inr ⟨p, r, i, c, n, e, h1, h2, h3, hn _ h4, hn _ h5, hH _ _ h4 h6, hH _ _ h5 h7⟩
def spFirst (K : PySem.W.Frag) : Sp := fun vs H Q _ => ∃ (l : Addr) (gs : List Gate) (k : Str × Nat × List Nat), vs = [.ref l, .str k.1] ∧ GatesAt K H l gs ∧ k ∈ REL5 ∧ (∀ c ∈ gs, c.1 ≤ 4) ∧ gs.length ≤ 100 ∧
  ∀ (v : V) (H' : Hp), Same H H' → ToldV (fun a => H a = none) H' v gs k → Q v H'
theorem ok_first_break (T : Pg w K mg) : FnOk P w K mg base CX0 3 T.f_first_break T.d_first_break ["gates", "name"] (spFirst K) := by
  refine T.F_first_break.ok sc_first_break (fun vs H Q E h => ?_) (fun cdv A outer s H vs Q E hr h => ?_)
  · obtain ⟨l, gs, k, rfl, _⟩ := h; rfl
  · obtain ⟨l, gs, k, rfl, hG, hk, hv, hlen, q⟩ := h
    obtain ⟨k1, k2, k3, k4⟩ := rel5_ok k hk
    refine ⟨_, (pss_cons (ps_for PassesOwn.never rfl (pi_range1 (by rfl) T.z_range (pa_cons (pe_callB call_len_seq (by rfl) T.z_len PySem.boot_len (pa_cons (pv 0) pa_nil)) pa_nil)) (pg_name (i := 2) sc_first_break.nd rfl (by first | exact Or.inl rfl | exact Or.inr rfl))
  (pss_cons (ps_set (i := 3) sc_first_break.nd rfl (by first | exact Or.inl rfl | exact Or.inr rfl) (pe_call (ok_broken T) (hr.mono (by decide)) (by rfl) T.m_broken T.F_broken.kp T.b_broken .nil pass0 (pa_cons (pe_ix ix_list (pv 0) (pv 2) (fun _ _ => rfl)) (pa_cons (pe_call (ok_kind T) (hr.mono (by decide)) (by rfl) T.m_kind T.F_kind.kp T.b_kind .nil pass0 (pa_cons (pv 1) pa_nil)) pa_nil))))
  (pss_one (ps_if (pt_cmpR op_notN (pv 3) pe_non (nomark _)) (pss_one (ps_ret (pe_tup (pa_cons (pv 2) (pa_cons (pv 3) pa_nil))))) pss_nil))))
  (pss_one (ps_ret pe_non))), ?_⟩
    obtain ⟨vl, hl, el⟩ := hG.len
    have b := b62 (n := vl.length) (by omega)
    refine ⟨_, rfl, l, _, rfl, .inl hl, _, rfl, b.1, b.2, for_n (n := vl.length) (fun i σ H' => ∃ v2 v3, σ = [some (.ref l), some (.str k.1), v2, v3] ∧ Same H H' ∧ ∀ j c, j < i → gs[j]? = some c → Keeps c k.2.1 k.2.2)
      ⟨none, none, rfl, Same.refl _, fun j c hj => absurd hj (Nat.not_lt_zero j)⟩ ?_ ?_⟩
    · rintro i σ H' hi ⟨v2, v3, rfl, s1, hin⟩
      have hc : gs[i]? = some gs[i] := List.getElem?_eq_getElem (by omega)
      generalize gs[i] = c at hc
      have cm : c ∈ gs := List.mem_of_getElem? hc
      obtain ⟨vl2, g, hl2, _, hg, hgc⟩ := hG.at_ hc
      refine ⟨_, rfl, _, rfl, l, _, _, _, rfl, rfl, s1.seq hl2, atI_nat hg, _, rfl, k, rfl, hk, fun a t ha ht => ?_⟩
      refine ⟨g, a, t, c, k.2.1, k.2.2, rfl, sameT s1 hgc, ha _, ht _, hv c cm, k1, k2, k3, k4, fun hkp H2 s2 => ?_, fun n hn hnb H2 r s2 hr0 hr1 => ?_⟩
      · refine ⟨_, rfl, rfl, _, rfl, ?_⟩
        refine iteF ?_
        refine ⟨_, _, rfl, s1.trans s2, fun j c' hj e => ?_⟩
        by_cases z : j = i
        · subst z; rw [hc] at e; cases e; exact hkp
        · exact hin j c' (by omega) e
      · refine ⟨_, rfl, rfl, _, rfl, ?_⟩
        refine iteT ?_
        refine ⟨_, rfl, _, rfl, by show 2 ≤ sizeLine; decide, fun p hp => ?_⟩
        have nrp : r ≠ p := ne_of_none hr1 hp
        have s3 := s1.trans s2
        refine q _ _ (same_upd s3 (s3.free hp)) (.inr ⟨p, r, i, c, n, rfl, hc, hn, hnb, s3.free hp, s1.free hr0, upd_same, by rw [upd_ne nrp]; exact hr1⟩)
    · rintro σ H' ⟨v2, v3, rfl, s1, hin⟩
      refine q _ H' s1 (.inl ⟨rfl, fun c hc => ?_⟩)
      obtain ⟨j, hj, e⟩ := List.mem_iff_getElem.mp hc
      exact hin j c (by omega) (by rw [List.getElem?_eq_getElem hj, e])
def spKinds (K : PySem.W.Frag) : Sp := fun vs H Q _ => ∃ (l : Addr) (gs : List Gate), vs = [.ref l] ∧ GatesAt K H l gs ∧ (∀ c ∈ gs, c.1 ≤ 4) ∧ gs.length ≤ 100 ∧
  ∀ (p : Addr) (ts : List V) (H' : Hp), Same H H' → H p = none → H' p = some (.lst ts) → Paired (fun v k => ToldV (fun a => H a = none ∧ a ≠ p) H' v gs k) ts REL5 → Q (.ref p) H'
theorem ok_kinds (T : Pg w K mg) : FnOk P w K mg base CX0 4 T.f_kinds T.d_kinds ["gates"] (spKinds K) := by
  refine T.F_kinds.ok sc_kinds (fun vs H Q E h => ?_) (fun cdv A outer s H vs Q E hr h => ?_)
  · obtain ⟨l, gs, rfl, _⟩ := h; rfl
  · obtain ⟨l, gs, rfl, hG, hv, hlen, q⟩ := h
    refine ⟨_, (pss_one (ps_ret (pe_lc (own := [("name", 1)]) (g := gName 1) (tt := tYes) rfl sc_kinds.nd (pi_tup (pe_glob (by rfl) T.m_KINDS T.r_KINDS)) (blkOk_by (by rfl)) (fun _ _ _ _ _ => (pg_name (i := 1) sc_kinds.nd rfl (by first | exact Or.inl rfl | exact Or.inr rfl))) (fun _ _ _ _ _ => pts_nil) (fun _ _ _ _ _ => (pe_call (ok_first_break T) (hr.mono (by decide)) (by rfl) T.m_first_break T.F_first_break.kp T.b_first_break .nil pass0 (pa_cons (pv 0) (pa_cons (pv 1) pa_nil))))))), ?_⟩
    refine ⟨_, rfl, ⟨_, T.q_KINDS H⟩, fun D hD => lc_tup (K := K) (a := T.a_KINDS) (xs := REL5.map fun k => V.str k.1) (fun i H' => ∃ acc : List V, Same H H' ∧ H' D = some (.lst acc) ∧ Paired (fun v k => ToldV (fun a => H a = none ∧ a ≠ D) H' v gs k) acc (REL5.take i))
      ⟨[], same_new hD, upd_same, .nil⟩ (fun i H' _ _ => T.q_KINDS H') ?_ ?_⟩
    · rintro i x H' hx ⟨acc, s1, hD1, hp⟩
      rw [List.getElem?_map] at hx
      obtain ⟨k, hk, rfl⟩ := Option.map_eq_some_iff.mp hx
      have hlt : i < REL5.length := (List.getElem?_eq_some_iff.mp hk).1
      refine ⟨rfl, yes_ ?_⟩
      refine ⟨_, rfl, _, rfl, l, gs, k, rfl, hG.same s1, List.mem_of_getElem? hk, hv, hlen, fun v H2 s2 htv => ?_⟩
      have hacc : acc.length ≤ 5 := by
        rw [hp.length, List.length_take]; exact Nat.le_trans (Nat.min_le_right _ _) (by decide)
      refine ⟨acc, s2 _ _ hD1, small (by omega), acc ++ [v], same_upd (s1.trans s2) hD, upd_same, ?_⟩
      rw [List.take_add_one, hk]
      refine Paired.snoc (L2.Paired.mapP hp fun v k h => h.mono (fun a z => z) fun a o z e => ?_) (htv.mono (fun a z => ⟨s1.free z, fun e => ?_⟩) fun a o z e => ?_)
      · rw [upd_ne z.2]; exact s2 _ _ e
      · subst e; rw [hD1] at z; cases z
      · have : a ≠ D := fun e' => by subst e'; rw [hD1] at z; cases z
        rw [upd_ne this]; exact e
    · rintro H' ⟨acc, s1, hD1, hp⟩
      exact q D acc H' s1 hD hD1 hp
/-! odd_corner -/
def spOdd (K : PySem.W.Frag) : Sp := fun vs H Q _ => ∃ (g : Addr) (c : Gate), vs = [.ref g] ∧ GateAt K H g c ∧ c.1 ≤ 4 ∧
  ((∀ r i j, ¬ Odd4 c r i j) → ∀ H', Same H H' → Q .non H') ∧
  ∀ r i j, Odd4 c r i j → ∀ (H' : Hp) (p : Addr), Same H H' → H p = none → H' p = some (.tup [nV r, nV i, nV j]) → Q (.ref p) H'
theorem ok_odd_corner (T : Pg w K mg) : FnOk P w K mg base CX0 1 T.f_odd_corner T.d_odd_corner ["gate"] (spOdd K) := by
  refine T.F_odd_corner.ok sc_odd_corner (fun vs H Q E h => ?_) (fun cdv A outer s H vs Q E hr h => ?_)
  · obtain ⟨g, c, rfl, _⟩ := h; rfl
  · obtain ⟨g, c, rfl, hG, hc, q1, q2⟩ := h
    refine ⟨_, (pss_cons (ps_asg (pv 0) (pg_tup (by rfl) (pgs_cons (pg_name (i := 1) sc_odd_corner.nd rfl (by first | exact Or.inl rfl | exact Or.inr rfl)) (pgs_cons (pg_name (i := 2) sc_odd_corner.nd rfl (by first | exact Or.inl rfl | exact Or.inr rfl)) pgs_nil))))
  (pss_cons (ps_for PassesOwn.never rfl (pi_range1 (by rfl) T.z_range (pa_cons (pe_op op_shl pe_int (pv 1)) pa_nil)) (pg_name (i := 3) sc_odd_corner.nd rfl (by first | exact Or.inl rfl | exact Or.inr rfl))
  (pss_one (ps_for PassesOwn.never rfl (pi_range1 (by rfl) T.z_range (pa_cons (pv 1) pa_nil)) (pg_name (i := 4) sc_odd_corner.nd rfl (by first | exact Or.inl rfl | exact Or.inr rfl))
  (pss_one (ps_for PassesOwn.never rfl (pi_range1 (by rfl) T.z_range (pa_cons (pv 4) pa_nil)) (pg_name (i := 5) sc_odd_corner.nd rfl (by first | exact Or.inl rfl | exact Or.inr rfl))
  (pss_cons (ps_set (i := 6) sc_odd_corner.nd rfl (by first | exact Or.inl rfl | exact Or.inr rfl) (pe_lst (pa_cons (pv 3) (pa_cons (pe_op op_xor (pv 3) (pe_op op_shl pe_int (pv 4))) (pa_cons (pe_op op_xor (pv 3) (pe_op op_shl pe_int (pv 5))) (pa_cons (pe_op op_xor (pe_op op_xor (pv 3) (pe_op op_shl pe_int (pv 4))) (pe_op op_shl pe_int (pv 5))) pa_nil))))))
  (pss_one (ps_if (pt_cmpR op_eq (pe_op op_mod (pe_callB (cr_sum rfl) (by rfl) T.z_sum (by decide +kernel) (pa_cons (pe_lc (own := [("one", 7)]) (g := gName 7) (tt := tYes) rfl sc_odd_corner.nd (pi_list (pv 6)) (blkOk_by (by rfl)) (fun _ _ _ _ _ => (pg_name (i := 7) sc_odd_corner.nd rfl (by first | exact Or.inl rfl | exact Or.inr rfl))) (fun _ _ _ _ _ => pts_nil) (fun _ _ _ _ _ => (pe_op op_and (pe_op op_shr (pv 2) (pv 7)) pe_int))) pa_nil)) pe_int) pe_int (nomark _)) (pss_one (ps_ret (pe_tup (pa_cons (pv 3) (pa_cons (pv 4) (pa_cons (pv 5) pa_nil)))))) pss_nil))))))))
  (pss_one (ps_ret pe_non)))), ?_⟩
    have p1 := pow16 hc
    refine ⟨_, rfl, g, _, rfl, hG, rfl, _, _, rfl, _, _, rfl, rfl, ?_⟩
    refine ⟨_, rfl, _, _, rfl, rfl, cpow (x := 1) (by omega) (by omega), ?_⟩
    dsimp only
    rw [c_one]
    have b := b62 (n := 2 ^ c.1) (by omega)
    have bc := b62 (n := c.1) (by omega)
    refine ⟨_, rfl, b.1, b.2, for_n (n := 2 ^ c.1) (D := { nx := tRet (tC .non) { nx := fun _ H' => Q .non H', rt := Q }, rt := Q }) (fun r σ H' => ∃ v3 v4 v5 v6 v7, σ = [some (.ref g), some (nV c.1), some (nV c.2), v3, v4, v5, v6, v7] ∧ Same H H' ∧ ∀ r' i j, r' < r → ¬ Odd4 c r' i j)
      ⟨none, none, none, none, none, rfl, Same.refl _, fun r' i j h => absurd h (Nat.not_lt_zero _)⟩ ?_ ?_⟩
    · rintro r σ H' hr' ⟨v3, v4, v5, v6, v7, rfl, s1, hin1⟩
      refine ⟨_, rfl, _, rfl, bc.1, bc.2, for_n (n := c.1) (fun i σ H' => ∃ v4 v5 v6 v7, σ = [some (.ref g), some (nV c.1), some (nV c.2), some (nV r), v4, v5, v6, v7] ∧ Same H H' ∧ ∀ i' j, i' < i → ¬ Odd4 c r i' j)
        ⟨v4, v5, v6, v7, rfl, s1, fun i' j h => absurd h (Nat.not_lt_zero _)⟩ ?_ ?_⟩
      · rintro i σ H' hi ⟨v4, v5, v6, v7, rfl, s1, hin2⟩
        have bi := b62 (n := i) (by omega)
        refine ⟨_, rfl, _, rfl, bi.1, bi.2, for_n (n := i) (fun j σ H' => ∃ v5 v6 v7, σ = [some (.ref g), some (nV c.1), some (nV c.2), some (nV r), some (nV i), v5, v6, v7] ∧ Same H H' ∧ ∀ j', j' < j → ¬ Odd4 c r i j')
          ⟨v5, v6, v7, rfl, s1, fun j' h => absurd h (Nat.not_lt_zero _)⟩ ?_ ?_⟩
        · rintro j σ H' hj ⟨v5, v6, v7, rfl, s1, hin3⟩
          have x1 : r < 16 := by omega
          have x2 : 2 ^ i < 16 := Nat.lt_of_lt_of_le (Nat.pow_lt_pow_right (by decide) (by omega : i < 4)) (by decide)
          have x3 : 2 ^ j < 16 := Nat.lt_of_lt_of_le (Nat.pow_lt_pow_right (by decide) (by omega : j < 4)) (by decide)
          have ci : CPow (1 : Int) (i : Int) := cpow (x := 1) (by omega) (by omega)
          have cj : CPow (1 : Int) (j : Int) := cpow (x := 1) (by omega) (by omega)
          refine ⟨_, rfl, _, rfl, _, rfl, _, _, rfl, rfl, ci, _, _, rfl, rfl, _, rfl, _, rfl, _, _, rfl, rfl, cj, _, _, rfl, rfl,
            _, rfl, _, rfl, _, _, rfl, rfl, ci, _, _, rfl, rfl, _, rfl, _, _, rfl, rfl, cj, _, _, rfl, rfl, by show 4 ≤ sizeLine; decide, fun p hp => ?_⟩
          dsimp only
          rw [c_one, c_one, c_xor16 _ x1 _ x2, c_xor16 _ x1 _ x3, c_xor16 _ (xor16 _ x1 _ x2) _ x3]
          have hS : SqL K (upd H' p (.lst (nL [r, r ^^^ 2 ^ i, r ^^^ 2 ^ j, r ^^^ 2 ^ i ^^^ 2 ^ j]))) p (nL [r, r ^^^ 2 ^ i, r ^^^ 2 ^ j, r ^^^ 2 ^ i ^^^ 2 ^ j]) := SqL.of upd_same
          refine ⟨_, rfl, p, rfl, ⟨_, hS⟩, fun D hD => pure_list (f := fun x => bt c.2 x) hS hD (by show 4 ≤ 100000; decide) (fun k x H2 R N hx s2 hR => ⟨rfl, yes_ ?_⟩) ?_⟩
          · refine ⟨_, rfl, _, rfl, _, _, rfl, rfl, Int.natCast_nonneg x, _, _, rfl, rfl, ?_⟩
            dsimp only
            rw [c_bit]
            exact hR
          · rw [nL_ints]
            refine ⟨D, _, rfl, SqL.of upd_same, _, _, rfl, rfl, (by show (0 : Int) < 2; decide), rfl, _, rfl, ?_⟩
            rw [sum_ints]
            have e2 : (([r, r ^^^ 2 ^ i, r ^^^ 2 ^ j, r ^^^ 2 ^ i ^^^ 2 ^ j].map fun x => bt c.2 x).sum : Nat) = bt c.2 r + bt c.2 (r ^^^ 2 ^ i) + bt c.2 (r ^^^ 2 ^ j) + bt c.2 (r ^^^ 2 ^ i ^^^ 2 ^ j) := by
              simp only [List.map_cons, List.map_nil, List.sum_cons, List.sum_nil]; omega
            rw [e2]
            have e3 : decide (V.int (((bt c.2 r + bt c.2 (r ^^^ 2 ^ i) + bt c.2 (r ^^^ 2 ^ j) + bt c.2 (r ^^^ 2 ^ i ^^^ 2 ^ j) : Nat) : Int) % 2) = V.int 1) = decide ((bt c.2 r + bt c.2 (r ^^^ 2 ^ i) + bt c.2 (r ^^^ 2 ^ j) + bt c.2 (r ^^^ 2 ^ i ^^^ 2 ^ j)) % 2 = 1) := by
              have := c_mod (bt c.2 r + bt c.2 (r ^^^ 2 ^ i) + bt c.2 (r ^^^ 2 ^ j) + bt c.2 (r ^^^ 2 ^ i ^^^ 2 ^ j)) 2
              rw [show ((2 : Nat) : Int) = (2 : Int) from rfl] at this
              rw [this]; exact dec_nat _ 1
            have s4 : Same H (upd (upd H' p (.lst (nL [r, r ^^^ 2 ^ i, r ^^^ 2 ^ j, r ^^^ 2 ^ i ^^^ 2 ^ j]))) D (.lst (nL ([r, r ^^^ 2 ^ i, r ^^^ 2 ^ j, r ^^^ 2 ^ i ^^^ 2 ^ j].map fun x => bt c.2 x)))) := same_upd (same_upd s1 (s1.free hp)) (s1.free (none_ne hD).2)
            rw [nL_ints] at s4
            dsimp only
            rw [e3]
            refine ite2 (fun h => ?_) (fun h => ?_)
            · refine ⟨_, rfl, _, rfl, _, rfl, by show 3 ≤ sizeLine; decide, fun p2 hp2 => ?_⟩
              exact q2 r i j ⟨hr', hi, hj, of_decide_eq_true h⟩ _ p2 (same_upd s4 (s4.free hp2)) (s4.free hp2) upd_same
            · refine ⟨_, _, _, rfl, s4, fun j' hj' ho => ?_⟩
              by_cases z : j' = j
              · subst z; exact h (decide_eq_true ho.2.2.2)
              · exact hin3 j' (by omega) ho
        · rintro σ H' ⟨v5, v6, v7, rfl, s1, hin3⟩
          refine ⟨_, _, _, _, rfl, s1, fun i' j hi' ho => ?_⟩
          by_cases z : i' = i
          · subst z; exact hin3 j ho.2.2.1 ho
          · exact hin2 i' j (by omega) ho
      · rintro σ H' ⟨v4, v5, v6, v7, rfl, s1, hin2⟩
        refine ⟨_, _, _, _, _, rfl, s1, fun r' i j hr2 ho => ?_⟩
        by_cases z : r' = r
        · subst z; exact hin2 i j ho.2.1 ho
        · exact hin1 r' i j (by omega) ho
    · rintro σ H' ⟨v3, v4, v5, v6, v7, rfl, s1, hin1⟩
      exact q1 (fun r i j ho => hin1 r i j ho.1 ho) H' s1
end
end Gk

/-! circuits: the values of their wires in a row -/
namespace Gk
abbrev Step := Gate × List Nat
def stepv (vals : List Nat) (s : Step) : Nat := gv s.1 (s.2.map (vals.getD · 0))
def run (n : Nat) (steps : List Step) (r : Nat) : List Nat := steps.foldl (fun vals s => vals ++ [stepv vals s]) ((List.range n).map (bt r))
/-- the value of a wire in row r -/
def wv (n : Nat) (steps : List Step) (r w : Nat) : Nat := (run n steps r).getD w 0
/-- each step's gate is one of the set, its wires lie below it -/
def Wf (gs : List Gate) (n : Nat) (steps : List Step) : Prop := ∀ i s, steps[i]? = some s → s.1 ∈ gs ∧ s.2.length = s.1.1 ∧ ∀ w ∈ s.2, w < n + i
theorem run_snoc (n : Nat) (steps : List Step) (s : Step) (r : Nat) : run n (steps ++ [s]) r = run n steps r ++ [stepv (run n steps r) s] := by
  simp [run, List.foldl_append]
theorem snoc_ind {α : Type} {p : List α → Prop} (h0 : p []) (hs : ∀ l a, p l → p (l ++ [a])) : ∀ l, p l := by
  intro l
  have : ∀ l : List α, p l.reverse := by
    intro l
    induction l with
    | nil => exact h0
    | cons a l ih => rw [List.reverse_cons]; exact hs _ _ ih
  have h := this l.reverse
  rwa [List.reverse_reverse] at h
theorem run_len (n : Nat) (steps : List Step) (r : Nat) : (run n steps r).length = n + steps.length := by
  induction steps using snoc_ind with
  | h0 => simp [run]
  | hs l a ih => rw [run_snoc, List.length_append, ih, List.length_append]; simp; omega
theorem getD_app {l m : List Nat} {i : Nat} (h : i < l.length) : (l ++ m).getD i 0 = l.getD i 0 := by
  rw [List.getD_eq_getElem?_getD, List.getD_eq_getElem?_getD, List.getElem?_append_left h]
theorem run_pre (n : Nat) (steps more : List Step) (r : Nat) : ∃ t, run n (steps ++ more) r = run n steps r ++ t := by
  induction more using snoc_ind with
  | h0 => exact ⟨[], by simp⟩
  | hs l a ih =>
    obtain ⟨t, e⟩ := ih
    rw [← List.append_assoc, run_snoc, e]
    exact ⟨t ++ [_], by rw [List.append_assoc]⟩
theorem wv_old {n : Nat} {steps more : List Step} {r w : Nat} (h : w < n + steps.length) : wv n (steps ++ more) r w = wv n steps r w := by
  obtain ⟨t, e⟩ := run_pre n steps more r
  unfold wv
  rw [e, getD_app (by rw [run_len]; exact h)]
theorem wv_new (n : Nat) (steps : List Step) (s : Step) (r : Nat) : wv n (steps ++ [s]) r (n + steps.length) = gv s.1 (s.2.map (wv n steps r)) := by
  unfold wv
  rw [run_snoc, List.getD_eq_getElem?_getD, List.getElem?_append_right (by rw [run_len]; exact Nat.le_refl _), run_len, Nat.sub_self]
  rfl
theorem wv_in {n : Nat} {steps : List Step} {r w : Nat} (h : w < n) : wv n steps r w = bt r w := by
  have : wv n ([] ++ steps) r w = wv n [] r w := wv_old (by simpa using h)
  rw [List.nil_append] at this
  rw [this]
  simp [wv, run, List.getD_eq_getElem?_getD, h]
theorem run_le (n : Nat) (steps : List Step) (r : Nat) : ∀ x ∈ run n steps r, x ≤ 1 := by
  induction steps using snoc_ind with
  | h0 =>
    intro x hx
    obtain ⟨i, _, rfl⟩ := List.mem_map.mp (show x ∈ (List.range n).map (bt r) from hx)
    exact bt_le _ _
  | hs l a ih =>
    intro x hx
    rw [run_snoc] at hx
    rcases List.mem_append.mp hx with hx | hx
    · exact ih x hx
    · rw [List.mem_singleton] at hx; rw [hx]; exact gv_le _ _
theorem wv_le (n : Nat) (steps : List Step) (r w : Nat) : wv n steps r w ≤ 1 := by
  unfold wv
  rw [List.getD_eq_getElem?_getD]
  cases e : (run n steps r)[w]? with
  | none => exact Nat.zero_le _
  | some x => exact run_le n steps r x (List.mem_of_getElem? e)
theorem Wf.nil (gs : List Gate) (n : Nat) : Wf gs n [] := fun i s h => by simp at h
theorem Wf.snoc {gs : List Gate} {n : Nat} {steps : List Step} {s : Step} (h : Wf gs n steps) (h1 : s.1 ∈ gs) (h2 : s.2.length = s.1.1) (h3 : ∀ w ∈ s.2, w < n + steps.length) : Wf gs n (steps ++ [s]) := fun i u e => by
  by_cases hi : i < steps.length
  · rw [List.getElem?_append_left hi] at e; exact h i u e
  · rw [List.getElem?_append_right (by omega)] at e
    have hz : i - steps.length = 0 := by
      have := (List.getElem?_eq_some_iff.mp e).1
      simp at this; omega
    rw [hz] at e
    have e' : s = u := by simpa using e
    subst e'
    have : i = steps.length := by omega
    subst this
    exact ⟨h1, h2, h3⟩
theorem Wf.pre {gs : List Gate} {n : Nat} {steps more : List Step} (h : Wf gs n (steps ++ more)) : Wf gs n steps := fun i s e => h i s (by
  rw [List.getElem?_append_left (List.getElem?_eq_some_iff.mp e).1]; exact e)
theorem map_old {n : Nat} {steps more : List Step} {r : Nat} {ws : List Nat} (h : ∀ w ∈ ws, w < n + steps.length) : ws.map (wv n (steps ++ more) r) = ws.map (wv n steps r) :=
  List.map_congr_left fun w hw => wv_old (h w hw)
/-- what exchanges the values: the gate with some wires given, the others the wire asked -/
def fillW (sl : List (Option Nat)) (w : Nat) : List Nat := sl.map fun o => o.getD w
structure TurOk (gs : List Gate) (n : Nat) (steps : List Step) (c : Gate) (sl : List (Option Nat)) : Prop where
  mem : c ∈ gs
  len : sl.length = c.1
  low : ∀ w, some w ∈ sl → w < n + steps.length
  val : ∀ r x, x ≤ 1 → gv c (sl.map fun o => (o.map (wv n steps r)).getD x) = 1 - x
theorem TurOk.more {gs : List Gate} {n : Nat} {steps : List Step} {c : Gate} {sl : List (Option Nat)} (h : TurOk gs n steps c sl) (more : List Step) : TurOk gs n (steps ++ more) c sl where
  mem := h.mem
  len := h.len
  low := fun w hw => by have := h.low w hw; rw [List.length_append]; omega
  val := fun r x hx => by
    rw [← h.val r x hx]
    congr 1
    refine List.map_congr_left fun o ho => ?_
    cases o with
    | none => rfl
    | some w => show wv n (steps ++ more) r w = wv n steps r w; exact wv_old (h.low w ho)
theorem fillW_low {n : Nat} {steps : List Step} {sl : List (Option Nat)} {w m : Nat} (h : ∀ w, some w ∈ sl → w < m) (hw : w < m) : ∀ x ∈ fillW sl w, x < m := fun x hx => by
  obtain ⟨o, ho, rfl⟩ := List.mem_map.mp hx
  cases o with
  | none => exact hw
  | some y => exact h y ho
/-- the step that exchanges a wire -/
theorem TurOk.step {gs : List Gate} {n : Nat} {steps : List Step} {c : Gate} {sl : List (Option Nat)} (h : TurOk gs n steps c sl) {w : Nat} (hw : w < n + steps.length) (hf : Wf gs n steps) :
    Wf gs n (steps ++ [(c, fillW sl w)]) ∧ ∀ r, wv n (steps ++ [(c, fillW sl w)]) r (n + steps.length) = 1 - wv n steps r w := by
  refine ⟨hf.snoc h.mem (by rw [fillW, List.length_map]; exact h.len) (fillW_low (n := n) (steps := steps) h.low hw), fun r => ?_⟩
  rw [wv_new, ← h.val r (wv n steps r w) (wv_le _ _ _ _)]
  show gv c ((fillW sl w).map _) = _
  rw [fillW, List.map_map]
  congr 1
  refine List.map_congr_left fun o _ => ?_
  cases o with
  | none => rfl
  | some y => rfl
end Gk

/-! what a broken kind gives -/
namespace Gk
theorem lnum_rep {x m n : Nat} : lnum [x] m n = List.replicate m x := by
  refine List.eq_replicate_iff.mpr ⟨lnum_len _ _ _, fun y hy => ?_⟩
  have := lnum_mem (rs := [x]) (by simp) hy
  simpa using this
theorem low_val {c : Gate} {n : Nat} (h : ¬ prow c (lnum [0] c.1 n) 1 ∈ [0]) : gv c (List.replicate c.1 0) = 1 := by
  rw [lnum_rep] at h
  have hl : (List.replicate c.1 0).length = c.1 := List.length_replicate
  have hb := prow_bit (c := c) (w := 1) (k := 0) hl
  have hlt := prow_lt (c := c) (w := 1) hl
  rw [if_pos (by decide)] at hb
  have e : (List.replicate c.1 0).map (bt · 0) = List.replicate c.1 0 := by rw [List.map_replicate]; rfl
  rw [e] at hb
  generalize prow c (List.replicate c.1 0) 1 = p at h hb hlt
  have hp : p = 1 := by
    have : ¬ p = 0 := fun z => h (by simp [z])
    omega
  rw [hp] at hb
  exact hb.symm
theorem high_val {c : Gate} {n : Nat} (h : ¬ prow c (lnum [1] c.1 n) 1 ∈ [1]) : gv c (List.replicate c.1 1) = 0 := by
  rw [lnum_rep] at h
  have hl : (List.replicate c.1 1).length = c.1 := List.length_replicate
  have hb := prow_bit (c := c) (w := 1) (k := 0) hl
  have hlt := prow_lt (c := c) (w := 1) hl
  rw [if_pos (by decide)] at hb
  have e : (List.replicate c.1 1).map (bt · 0) = List.replicate c.1 1 := by rw [List.map_replicate]; rfl
  rw [e] at hb
  generalize prow c (List.replicate c.1 1) 1 = p at h hb hlt
  have hp : p = 0 := by
    have : ¬ p = 1 := fun z => h (by simp [z])
    omega
  rw [hp] at hb
  exact hb.symm
theorem two_bits {p : Nat} (h : p < 4) : p = bt p 0 + 2 * bt p 1 := by
  rcases (by omega : p = 0 ∨ p = 1 ∨ p = 2 ∨ p = 3) with rfl | rfl | rfl | rfl <;> rfl
theorem rise_val {c : Gate} {rs : List Nat} (hl : rs.length = c.1) (h : ¬ prow c rs 2 ∈ [0, 2, 3]) : gv c (rs.map (bt · 0)) = 1 ∧ gv c (rs.map (bt · 1)) = 0 := by
  have h0 := prow_bit (c := c) (w := 2) (k := 0) hl
  have h1 := prow_bit (c := c) (w := 2) (k := 1) hl
  have hlt : prow c rs 2 < 4 := prow_lt (c := c) (w := 2) hl
  rw [if_pos (by decide)] at h0 h1
  rw [← h0, ← h1]
  generalize prow c rs 2 = p at h hlt
  have : p = 1 := by
    rcases (by omega : p = 0 ∨ p = 1 ∨ p = 2 ∨ p = 3) with rfl | rfl | rfl | rfl
    · exact absurd (by decide) h
    · rfl
    · exact absurd (by decide) h
    · exact absurd (by decide) h
  rw [this]
  exact ⟨rfl, rfl⟩
theorem turn_val {c : Gate} {rs : List Nat} (hl : rs.length = c.1) (h : ¬ prow c rs 2 ∈ [1, 2]) : gv c (rs.map (bt · 0)) = gv c (rs.map (bt · 1)) := by
  have h0 := prow_bit (c := c) (w := 2) (k := 0) hl
  have h1 := prow_bit (c := c) (w := 2) (k := 1) hl
  have hlt : prow c rs 2 < 4 := prow_lt (c := c) (w := 2) hl
  rw [if_pos (by decide)] at h0 h1
  rw [← h0, ← h1]
  generalize prow c rs 2 = p at h hlt
  rcases (by omega : p = 0 ∨ p = 1 ∨ p = 2 ∨ p = 3) with rfl | rfl | rfl | rfl
  · rfl
  · exact absurd (by decide) h
  · exact absurd (by decide) h
  · rfl
/-- the wires of what exchanges, by rows that rise -/
def riseW (w0 w1 r : Nat) : Option Nat := if r = 2 then none else if r = 0 then some w0 else some w1
theorem rise_tur {gs : List Gate} {n : Nat} {steps : List Step} {c : Gate} {rs : List Nat} {w0 w1 : Nat} (hc : c ∈ gs) (hl : rs.length = c.1) (hr : ∀ x ∈ rs, x ∈ [0, 2, 3]) (h : ¬ prow c rs 2 ∈ [0, 2, 3])
    (l0 : w0 < n + steps.length) (l1 : w1 < n + steps.length) (v0 : ∀ r, wv n steps r w0 = 0) (v1 : ∀ r, wv n steps r w1 = 1) : TurOk gs n steps c (rs.map (riseW w0 w1)) where
  mem := hc
  len := by rw [List.length_map]; exact hl
  low := fun w hw => by
    obtain ⟨x, _, e⟩ := List.mem_map.mp hw
    unfold riseW at e
    split at e
    · cases e
    · split at e <;> cases e <;> assumption
  val := fun r x hx => by
    obtain ⟨h0, h1⟩ := rise_val hl h
    rw [List.map_map]
    rcases (by omega : x = 0 ∨ x = 1) with rfl | rfl
    · rw [← h0]
      congr 1
      refine List.map_congr_left fun y hy => ?_
      have := hr y hy
      simp only [List.mem_cons, List.not_mem_nil, or_false] at this
      rcases this with rfl | rfl | rfl
      · show wv n steps r w0 = _; rw [v0]; rfl
      · rfl
      · show wv n steps r w1 = _; rw [v1]; rfl
    · show gv c (rs.map _) = 0
      rw [← h1]
      congr 1
      refine List.map_congr_left fun y hy => ?_
      have := hr y hy
      simp only [List.mem_cons, List.not_mem_nil, or_false] at this
      rcases this with rfl | rfl | rfl
      · show wv n steps r w0 = _; rw [v0]; rfl
      · rfl
      · show wv n steps r w1 = _; rw [v1]; rfl
def turnW (e0 r : Nat) : Nat := if r = 1 then 0 else e0
/-- the wire that rows that turn give is constant -/
theorem turn_const {n : Nat} {steps : List Step} {c : Gate} {rs : List Nat} {e0 : Nat} (hn : 0 < n) (hl : rs.length = c.1) (hr : ∀ x ∈ rs, x ∈ [1, 2]) (h : ¬ prow c rs 2 ∈ [1, 2])
    (v : ∀ r, wv n steps r e0 = 1 - wv n steps r 0) (r : Nat) : gv c ((rs.map (turnW e0)).map (wv n steps r)) = gv c (rs.map (· % 2)) := by
  have e2 : rs.map (· % 2) = rs.map (bt · 0) := List.map_congr_left fun y _ => by simp [bt]
  rw [e2, List.map_map]
  have w0 : wv n steps r 0 = bt r 0 := wv_in hn
  have hv := v r
  rcases bt01 r 0 with hb | hb
  · rw [turn_val hl h]
    congr 1
    refine List.map_congr_left fun y hy => ?_
    have := hr y hy
    simp only [List.mem_cons, List.not_mem_nil, or_false] at this
    rcases this with rfl | rfl
    · show wv n steps r 0 = _; rw [w0, hb]; rfl
    · show wv n steps r e0 = _; rw [hv, w0, hb]; rfl
  · congr 1
    refine List.map_congr_left fun y hy => ?_
    have := hr y hy
    simp only [List.mem_cons, List.not_mem_nil, or_false] at this
    rcases this with rfl | rfl
    · show wv n steps r 0 = _; rw [w0, hb]; rfl
    · show wv n steps r e0 = _; rw [hv, w0, hb]; rfl
theorem turnW_low {n : Nat} {steps : List Step} {rs : List Nat} {e0 : Nat} (hn : 0 < n) (h : e0 < n + steps.length) : ∀ w ∈ rs.map (turnW e0), w < n + steps.length := fun w hw => by
  obtain ⟨x, _, rfl⟩ := List.mem_map.mp hw
  unfold turnW
  split <;> omega
/-- sums of bits put at their places -/
theorem sum_enum : ∀ (l : List Nat) (f : Nat → Nat), (∀ k, k < l.length → f k = l.getD k 0 * 2 ^ k) → ((List.range l.length).map f).sum = numOf l := by
  intro l
  induction l using snoc_ind with
  | h0 => intro f _; rfl
  | hs l a ih =>
    intro f h
    rw [List.length_append, List.length_singleton, List.range_succ, List.map_append, List.sum_append, numOf_snoc]
    rw [ih f fun k hk => by rw [h k (by rw [List.length_append]; omega), getD_app hk]]
    have := h l.length (by rw [List.length_append]; simp)
    simp only [List.map_cons, List.map_nil, List.sum_cons, List.sum_nil, Nat.add_zero]
    rw [this, List.getD_eq_getElem?_getD, List.getElem?_append_right (Nat.le_refl _), Nat.sub_self]
    rfl
end Gk

/-! a gate of at most three inputs that breaks the even rows has an odd corner -/
namespace Gk
abbrev EV : List Nat := [0, 3, 5, 6, 9, 10, 12, 15]
def odd4b (c : Gate) (r i j : Nat) : Bool := (bt c.2 r + bt c.2 (r ^^^ 2 ^ i) + bt c.2 (r ^^^ 2 ^ j) + bt c.2 (r ^^^ 2 ^ i ^^^ 2 ^ j)) % 2 == 1
def noOdd (c : Gate) : Bool := (List.range (2 ^ c.1)).all fun r => (List.range c.1).all fun i => (List.range i).all fun j => !odd4b c r i j
def par4 (c : Gate) (l : Nat → List Nat) : Bool := (gv c (l 0) + gv c (l 1) + gv c (l 2) + gv c (l 3)) % 2 == 0
theorem ev3 : ((List.range 256).all fun b => !noOdd (3, b) || EV.all fun x => EV.all fun y => EV.all fun z => par4 (3, b) fun k => [bt x k, bt y k, bt z k]) = true := by decide +kernel
theorem ev2 : ((List.range 16).all fun b => !noOdd (2, b) || EV.all fun x => EV.all fun y => par4 (2, b) fun k => [bt x k, bt y k]) = true := by decide +kernel
theorem ev1 : ((List.range 4).all fun b => EV.all fun x => par4 (1, b) fun k => [bt x k]) = true := by decide +kernel
theorem ev0 : ((List.range 2).all fun b => par4 (0, b) fun k => []) = true := by decide +kernel
theorem ev_mem : ∀ p, p < 16 → (bt p 0 + bt p 1 + bt p 2 + bt p 3) % 2 = 0 → p ∈ EV := by decide +kernel
/-- a gate of so many inputs -/
def Valid (m : Nat) (c : Gate) : Prop := c.1 ≤ m ∧ c.2 < 2 ^ (2 ^ c.1)
theorem odd_of_no {c : Gate} (h : noOdd c = false) : ∃ r i j, r < 2 ^ c.1 ∧ i < c.1 ∧ j < i ∧ (bt c.2 r + bt c.2 (r ^^^ 2 ^ i) + bt c.2 (r ^^^ 2 ^ j) + bt c.2 (r ^^^ 2 ^ i ^^^ 2 ^ j)) % 2 = 1 := by
  unfold noOdd at h
  rw [List.all_eq_false] at h
  obtain ⟨r, hr, h⟩ := h
  have h := eq_false_of_ne_true h
  rw [List.all_eq_false] at h
  obtain ⟨i, hi, h⟩ := h
  have h := eq_false_of_ne_true h
  rw [List.all_eq_false] at h
  obtain ⟨j, hj, h⟩ := h
  have h := eq_false_of_ne_true h
  rw [Bool.not_eq_false'] at h
  exact ⟨r, i, j, List.mem_range.mp hr, List.mem_range.mp hi, List.mem_range.mp hj, of_decide_eq_true (by simpa [odd4b] using h)⟩
theorem ev_keep {c : Gate} {rs : List Nat} (hv : Valid 3 c) (hl : rs.length = c.1) (hr : ∀ x ∈ rs, x ∈ EV) (h : noOdd c = true) : prow c rs 4 ∈ EV := by
  refine ev_mem _ (prow_lt hl) ?_
  rw [prow_bit hl, prow_bit hl, prow_bit hl, prow_bit hl, if_pos (by decide), if_pos (by decide), if_pos (by decide), if_pos (by decide)]
  obtain ⟨m, b⟩ := c
  obtain ⟨hm, hb⟩ := hv
  simp only at hm hb hl
  rcases (by omega : m = 0 ∨ m = 1 ∨ m = 2 ∨ m = 3) with rfl | rfl | rfl | rfl
  · obtain rfl : rs = [] := List.eq_nil_of_length_eq_zero hl
    have := List.all_eq_true.mp ev0 b (List.mem_range.mpr hb)
    simpa [par4] using this
  · match rs, hl with
    | [x], _ =>
      have h1 := List.all_eq_true.mp (List.all_eq_true.mp ev1 b (List.mem_range.mpr hb)) x (hr x (by simp))
      simpa [par4] using h1
  · match rs, hl with
    | [x, y], _ =>
      have h1 := List.all_eq_true.mp ev2 b (List.mem_range.mpr hb)
      rw [h, Bool.not_true, Bool.false_or] at h1
      have h1 := List.all_eq_true.mp (List.all_eq_true.mp h1 x (hr x (by simp))) y (hr y (by simp))
      simpa [par4] using h1
  · match rs, hl with
    | [x, y, z], _ =>
      have h1 := List.all_eq_true.mp ev3 b (List.mem_range.mpr hb)
      rw [h, Bool.not_true, Bool.false_or] at h1
      have h1 := List.all_eq_true.mp (List.all_eq_true.mp (List.all_eq_true.mp h1 x (hr x (by simp))) y (hr y (by simp))) z (hr z (by simp))
      simpa [par4] using h1
theorem even_odd {c : Gate} {rs : List Nat} (hv : Valid 3 c) (hl : rs.length = c.1) (hr : ∀ x ∈ rs, x ∈ EV) (h : ¬ prow c rs 4 ∈ EV) :
    ∃ r i j, r < 2 ^ c.1 ∧ i < c.1 ∧ j < i ∧ (bt c.2 r + bt c.2 (r ^^^ 2 ^ i) + bt c.2 (r ^^^ 2 ^ j) + bt c.2 (r ^^^ 2 ^ i ^^^ 2 ^ j)) % 2 = 1 := by
  refine odd_of_no ?_
  cases e : noOdd c with
  | false => rfl
  | true => exact absurd (ev_keep hv hl hr e) h
end Gk

/-! what the bench holds once it has begun -/
namespace Gk
theorem const_wire {gs : List Gate} {n : Nat} {steps : List Step} {c : Gate} (hn : 0 < n) (hc : c ∈ gs) (hf : Wf gs n steps) (h : gv c (List.replicate c.1 0) = gv c (List.replicate c.1 1)) :
    Wf gs n (steps ++ [(c, List.replicate c.1 0)]) ∧ ∀ r, wv n (steps ++ [(c, List.replicate c.1 0)]) r (n + steps.length) = gv c (List.replicate c.1 0) := by
  refine ⟨hf.snoc hc (by rw [List.length_replicate]) fun w hw => by rw [List.eq_of_mem_replicate hw]; omega, fun r => ?_⟩
  rw [wv_new]
  show gv c ((List.replicate c.1 0).map _) = _
  rw [List.map_replicate, wv_in hn]
  rcases bt01 r 0 with e | e <;> rw [e]
  exact h.symm
theorem tur_nones {gs : List Gate} {n : Nat} {steps : List Step} {c : Gate} (hc : c ∈ gs) (h1 : gv c (List.replicate c.1 0) = 1) (h0 : gv c (List.replicate c.1 1) = 0) : TurOk gs n steps c (List.replicate c.1 none) where
  mem := hc
  len := List.length_replicate
  low := fun w hw => by have := List.eq_of_mem_replicate hw; cases this
  val := fun r x hx => by
    rw [List.map_replicate]
    show gv c (List.replicate c.1 x) = _
    rcases (by omega : x = 0 ∨ x = 1) with rfl | rfl
    · exact h1
    · exact h0
/-- all is there: what exchanges, both constants, an odd corner -/
structure ROk (gs : List Gate) (n : Nat) (steps : List Step) (c : Gate) (sl : List (Option Nat)) (w0 w1 : Nat) (cc : Gate) (r i j : Nat) : Prop where
  wf : Wf gs n steps
  tur : TurOk gs n steps c sl
  l0 : w0 < n + steps.length
  l1 : w1 < n + steps.length
  v0 : ∀ r, wv n steps r w0 = 0
  v1 : ∀ r, wv n steps r w1 = 1
  cm : cc ∈ gs
  od : r < 2 ^ cc.1 ∧ i < cc.1 ∧ j < i ∧ (bt cc.2 r + bt cc.2 (r ^^^ 2 ^ i) + bt cc.2 (r ^^^ 2 ^ j) + bt cc.2 (r ^^^ 2 ^ i ^^^ 2 ^ j)) % 2 = 1
theorem ROk.more {gs : List Gate} {n : Nat} {steps : List Step} {c : Gate} {sl : List (Option Nat)} {w0 w1 : Nat} {cc : Gate} {r i j : Nat} (h : ROk gs n steps c sl w0 w1 cc r i j) {s : Step} (hw : Wf gs n (steps ++ [s])) :
    ROk gs n (steps ++ [s]) c sl w0 w1 cc r i j where
  wf := hw
  tur := h.tur.more [s]
  l0 := by have := h.l0; rw [List.length_append]; omega
  l1 := by have := h.l1; rw [List.length_append]; omega
  v0 := fun r => by rw [wv_old h.l0]; exact h.v0 r
  v1 := fun r => by rw [wv_old h.l1]; exact h.v1 r
  cm := h.cm
  od := h.od
/-- the constants by rows that turn -/
theorem turn_done {gs : List Gate} {n : Nat} {steps : List Step} {c c' : Gate} {sl : List (Option Nat)} {rs : List Nat} (hn : 0 < n) (hw : Wf gs n steps) (ht : TurOk gs n steps c' sl) (hc : c ∈ gs) (hl : rs.length = c.1)
    (hr : ∀ x ∈ rs, x ∈ [1, 2]) (h : ¬ prow c rs 2 ∈ [1, 2]) :
    let S3 := ((steps ++ [(c', fillW sl 0)]) ++ [(c, rs.map (turnW (n + steps.length)))]) ++ [(c', fillW sl (n + steps.length + 1))]
    Wf gs n S3 ∧ TurOk gs n S3 c' sl ∧ S3.length = steps.length + 3 ∧ (∀ r, wv n S3 r (n + steps.length + 1) = gv c (rs.map (· % 2))) ∧ ∀ r, wv n S3 r (n + steps.length + 2) = 1 - gv c (rs.map (· % 2)) := by
  intro S3
  obtain ⟨f1, e1⟩ := ht.step (w := 0) (by omega) hw
  have ht1 := ht.more [(c', fillW sl 0)]
  have ln1 : (steps ++ [(c', fillW sl 0)]).length = steps.length + 1 := by rw [List.length_append]; rfl
  have e1' : ∀ r, wv n (steps ++ [(c', fillW sl 0)]) r (n + steps.length) = 1 - wv n (steps ++ [(c', fillW sl 0)]) r 0 := fun r => by
    rw [e1, wv_in hn, wv_in hn]
  have f2 : Wf gs n ((steps ++ [(c', fillW sl 0)]) ++ [(c, rs.map (turnW (n + steps.length)))]) := f1.snoc hc (by rw [List.length_map]; exact hl) (turnW_low hn (by omega))
  have e2 : ∀ r, wv n ((steps ++ [(c', fillW sl 0)]) ++ [(c, rs.map (turnW (n + steps.length)))]) r (n + steps.length + 1) = gv c (rs.map (· % 2)) := fun r => by
    have := wv_new n (steps ++ [(c', fillW sl 0)]) (c, rs.map (turnW (n + steps.length))) r
    rw [ln1, ← Nat.add_assoc] at this
    rw [this]
    exact turn_const hn hl hr h e1' r
  have ht2 := ht1.more [(c, rs.map (turnW (n + steps.length)))]
  have ln2 : ((steps ++ [(c', fillW sl 0)]) ++ [(c, rs.map (turnW (n + steps.length)))]).length = steps.length + 2 := by rw [List.length_append, ln1]; rfl
  obtain ⟨f3, e3⟩ := ht2.step (w := n + steps.length + 1) (by omega) f2
  rw [ln2, ← Nat.add_assoc] at e3
  refine ⟨f3, ht2.more _, by simp only [S3, List.length_append, List.length_singleton], fun r => ?_, fun r => ?_⟩
  · simp only [S3]
    rw [wv_old (by omega)]; exact e2 r
  · simp only [S3]
    rw [e3, e2]
end Gk

/-! both, by an odd corner -/
namespace Gk
def cn (r i j x y : Nat) : Nat := r - bt r i * 2 ^ i - bt r j * 2 ^ j + x * 2 ^ i + y * 2 ^ j
theorem cn_cast : ∀ r : Nat, r < 8 → ∀ i : Nat, i < 3 → ∀ j : Nat, j < i → ∀ x : Nat, x < 2 → ∀ y : Nat, y < 2 →
    PySem.Builtin.bitOr (PySem.Builtin.bitOr (PySem.Builtin.bitAnd (PySem.Builtin.bitAnd (r : Int) (PySem.Builtin.bitNot (1 * 2 ^ ((i : Int)).toNat))) (PySem.Builtin.bitNot (1 * 2 ^ ((j : Int)).toNat))) ((x : Int) * 2 ^ ((i : Int)).toNat)) ((y : Int) * 2 ^ ((j : Int)).toNat) = ((cn r i j x y : Nat) : Int) := by decide +kernel
theorem cn_perm : ∀ r : Nat, r < 8 → ∀ i : Nat, i < 3 → ∀ j : Nat, j < i → List.isPerm [cn r i j 0 0, cn r i j 0 1, cn r i j 1 0, cn r i j 1 1] [r, r ^^^ 2 ^ i, r ^^^ 2 ^ j, r ^^^ 2 ^ i ^^^ 2 ^ j] = true := by decide +kernel
theorem cn_sum {r i j : Nat} (hr : r < 8) (hi : i < 3) (hj : j < i) (g : Nat → Nat) : g (cn r i j 0 0) + g (cn r i j 0 1) + g (cn r i j 1 0) + g (cn r i j 1 1) = g r + g (r ^^^ 2 ^ i) + g (r ^^^ 2 ^ j) + g (r ^^^ 2 ^ i ^^^ 2 ^ j) := by
  have p := List.isPerm_iff.mp (cn_perm r hr i hi j hj)
  have q := (p.map g).sum_nat
  simp only [List.map_cons, List.map_nil, List.sum_cons, List.sum_nil] at q
  omega
theorem cn_bits : ∀ n : Nat, n < 4 → ∀ i : Nat, i < n → ∀ j : Nat, j < i → ∀ r : Nat, r < 2 ^ n → ∀ a : Nat, a < 2 → ∀ b : Nat, b < 2 → numOf ((((List.range n).map (bt r)).set i a).set j b) = cn r i j a b := by decide +kernel
def com (a b c d : Nat) : Nat := if 2 < a + b + c + d then 1 else 0
def xx (a b c d : Nat) : Nat := if c = com a b c d ∧ d = com a b c d then 0 else 1
def yy (a b c d : Nat) : Nat := if (if xx a b c d = 0 then b else d) = com a b c d then 0 else 1
def pick (a b c d p q : Nat) : Nat := if p = 0 then (if q = 0 then a else b) else (if q = 0 then c else d)
theorem odd_pick : ∀ a : Nat, a < 2 → ∀ b : Nat, b < 2 → ∀ c : Nat, c < 2 → ∀ d : Nat, d < 2 → (a + b + c + d) % 2 = 1 → ∀ u : Nat, u < 2 → ∀ v : Nat, v < 2 →
    (if 1 - com a b c d = 1 then pick a b c d (if xx a b c d = 1 then u else 1 - u) (if yy a b c d = 1 then v else 1 - v) else 1 - pick a b c d (if xx a b c d = 1 then u else 1 - u) (if yy a b c d = 1 then v else 1 - v)) = u * v := by
  intro a ha b hb c hc d hd h u hu v hv
  rcases (by omega : a = 0 ∨ a = 1) with rfl | rfl <;> rcases (by omega : b = 0 ∨ b = 1) with rfl | rfl <;> rcases (by omega : c = 0 ∨ c = 1) with rfl | rfl <;> rcases (by omega : d = 0 ∨ d = 1) with rfl | rfl <;> first
    | exact absurd h (by decide)
    | (rcases (by omega : u = 0 ∨ u = 1) with rfl | rfl <;> rcases (by omega : v = 0 ∨ v = 1) with rfl | rfl <;> rfl)
theorem com_le (a b c d : Nat) : com a b c d ≤ 1 := by unfold com; split <;> omega
theorem xx_le (a b c d : Nat) : xx a b c d ≤ 1 := by unfold xx; split <;> omega
theorem yy_le (a b c d : Nat) : yy a b c d ≤ 1 := by
  unfold yy
  generalize (if xx a b c d = 0 then b else d) = z
  split <;> omega
/-- the wires of the step that both lays -/
def bothW (n r i j w0 w1 x y : Nat) : List Nat := (((List.range n).map fun k => if bt r k = 1 then w1 else w0).set i x).set j y
theorem bothW_low {n r i j w0 w1 x y m : Nat} (h0 : w0 < m) (h1 : w1 < m) (hx : x < m) (hy : y < m) : ∀ w ∈ bothW n r i j w0 w1 x y, w < m := fun w hw => by
  rcases List.mem_or_eq_of_mem_set hw with hw | rfl
  · rcases List.mem_or_eq_of_mem_set hw with hw | rfl
    · obtain ⟨k, _, rfl⟩ := List.mem_map.mp hw
      split <;> assumption
    · exact hx
  · exact hy
theorem bothW_val {n m : Nat} {steps : List Step} {cc : Gate} {r i j w0 w1 x y : Nat} (hm : m < 4) (hi : i < m) (hj : j < i) (hr : r < 2 ^ m) (v0 : ∀ r, wv n steps r w0 = 0) (v1 : ∀ r, wv n steps r w1 = 1) (q : Nat) :
    gv cc ((bothW m r i j w0 w1 x y).map (wv n steps q)) = bt cc.2 (cn r i j (wv n steps q x) (wv n steps q y)) := by
  have e : (bothW m r i j w0 w1 x y).map (wv n steps q) = (((List.range m).map (bt r)).set i (wv n steps q x)).set j (wv n steps q y) := by
    unfold bothW
    rw [List.map_set, List.map_set, List.map_map]
    congr 2
    refine List.map_congr_left fun k _ => ?_
    show wv n steps q (if bt r k = 1 then w1 else w0) = bt r k
    rcases bt01 r k with e | e <;> rw [e]
    · exact v0 q
    · exact v1 q
  rw [e, gv, cn_bits m hm i hi j hj r hr _ (Nat.lt_succ_of_le (wv_le _ _ _ _)) _ (Nat.lt_succ_of_le (wv_le _ _ _ _))]
theorem pick_cn {g : Nat → Nat} {r i j p q : Nat} (hp : p < 2) (hq : q < 2) : pick (g (cn r i j 0 0)) (g (cn r i j 0 1)) (g (cn r i j 1 0)) (g (cn r i j 1 1)) p q = g (cn r i j p q) := by
  rcases (by omega : p = 0 ∨ p = 1) with rfl | rfl <;> rcases (by omega : q = 0 ∨ q = 1) with rfl | rfl <;> rfl
end Gk

/-! a table over one input more -/
namespace Gk
theorem bt_tb (a k : Nat) : bt a k = (a.testBit k).toNat := by
  rw [tb_bt]
  rcases bt01 a k with e | e <;> rw [e] <;> rfl
theorem bt_mod {a m k : Nat} (h : k < m) : bt (a % 2 ^ m) k = bt a k := by
  rw [bt_tb, bt_tb, Nat.testBit_mod_two_pow, decide_eq_true h, Bool.true_and]
theorem bt_div (a m k : Nat) : bt (a / 2 ^ m) k = bt a (m + k) := by
  unfold bt
  rw [Nat.div_div_eq_div_mul, ← Nat.pow_add]
theorem mod_succ (r i : Nat) : r % 2 ^ (i + 1) = bt r i * 2 ^ i + r % 2 ^ i := by
  unfold bt
  rw [Nat.pow_succ, Nat.mod_mul, Nat.add_comm, Nat.mul_comm]
theorem split_table (t r i : Nat) : bt t (r % 2 ^ (i + 1)) = if bt r i = 1 then bt (t / 2 ^ 2 ^ i) (r % 2 ^ i) else bt (t % 2 ^ 2 ^ i) (r % 2 ^ i) := by
  rw [mod_succ]
  have hm : r % 2 ^ i < 2 ^ i := Nat.mod_lt _ (Nat.pow_pos (by decide))
  rcases bt01 r i with e | e <;> rw [e]
  · rw [if_neg (by decide), Nat.zero_mul, Nat.zero_add, bt_mod hm]
  · rw [if_pos rfl, Nat.one_mul, bt_div]
theorem mask_mod (a m : Nat) : a &&& (2 ^ m - 1) = a % 2 ^ m := Nat.and_two_pow_sub_one_eq_mod a m
theorem div_lt_table {t i : Nat} (h : t < 2 ^ 2 ^ (i + 1)) : t / 2 ^ 2 ^ i < 2 ^ 2 ^ i := by
  rw [Nat.div_lt_iff_lt_mul (Nat.pow_pos (by decide)), ← Nat.pow_add]
  have : 2 ^ i + 2 ^ i = 2 ^ (i + 1) := by rw [Nat.pow_succ]; omega
  rw [this]; exact h
theorem sel_val : ∀ b : Nat, b ≤ 1 → ∀ h : Nat, h ≤ 1 → ∀ l : Nat, l ≤ 1 → 1 - (1 - b * h) * (1 - (1 - b) * l) = if b = 1 then h else l := by
  intro b hb h hh l hl
  rcases (by omega : b = 0 ∨ b = 1) with rfl | rfl <;> rcases (by omega : h = 0 ∨ h = 1) with rfl | rfl <;> rcases (by omega : l = 0 ∨ l = 1) with rfl | rfl <;> rfl
end Gk

/-! own rules: a dict whose keys are steps (a gate's tuple, a tuple of wires); zip of a tuple and a list; enumerate of a tuple -/
namespace Gk
open PySem L2 PyProof.Rows
def StepAt (K : PySem.W.Frag) (H : Hp) (s : Addr) (st : Step) : Prop := ∃ g t, SqT K H s [.ref g, .ref t] ∧ GateAt K H g st.1 ∧ SqT K H t (nL st.2)
/-! ### the dict -/
def nums (l : List Nat) : List NestedKey := l.map fun n : Nat => NestedKey.num (n : Int)
/-- a step as a key -/
def nk (st : Step) : NestedKey := .tup [.tup [.num (st.1.1 : Int), .num (st.1.2 : Int)], .tup (nums st.2)]
theorem nums_inj : ∀ {a b : List Nat}, nums a = nums b → a = b
  | [], [], _ => rfl
  | [], _ :: _, e => by simp [nums] at e
  | _ :: _, [], e => by simp [nums] at e
  | x :: xs, y :: ys, e => by
    simp only [nums, List.map_cons, List.cons.injEq, NestedKey.num.injEq] at e
    have h1 : x = y := by omega
    rw [h1, nums_inj (a := xs) (b := ys) e.2]
theorem nk_inj {a b : Step} (e : nk a = nk b) : a = b := by
  obtain ⟨⟨a1, a2⟩, aw⟩ := a
  obtain ⟨⟨b1, b2⟩, bw⟩ := b
  simp only [nk, NestedKey.tup.injEq, List.cons.injEq, NestedKey.num.injEq, and_true] at e
  obtain ⟨⟨h1, h2⟩, h3⟩ := e
  have e1 : a1 = b1 := by omega
  have e2 : a2 = b2 := by omega
  rw [e1, e2, nums_inj h3]
theorem nums_depth : ∀ l : List Nat, NestedKey.depthAll (nums l) = 0
  | [] => rfl
  | x :: xs => by
    show max (NestedKey.depth (.num (x : Int))) (NestedKey.depthAll (nums xs)) = 0
    rw [nums_depth xs]; rfl
theorem nk_depth (st : Step) : (nk st).depth ≤ 8 := by
  simp only [nk, NestedKey.depth, NestedKey.depthAll, nums_depth]
  decide
theorem nums_all {h : Heap} : ∀ {l : List Nat} {us : List Value}, Vals (nL l) us → NestedAll h (nums l) us
  | [], _, r => by cases r; exact .nil
  | x :: xs, _, r => by
    cases r with
    | cons a b =>
      obtain ⟨t, rfl⟩ := a
      exact .cons (.int _ t) (nums_all b)
section
variable {X : Cx} {pins : List (Addr × Obj)} {σ : L2.St} {H : Hp} {s : Shared}
theorem nest_is (I : Inv X pins σ H s) {a : Addr} {st : Step} (h : StepAt X.K H a st) : (nestedKind X.prog X.w).is s.heap (nk st) a := by
  obtain ⟨g, t, h1, h2, h3⟩ := h
  obtain ⟨u1, r1, ⟨o1, e1, c1, n1, d1⟩, _⟩ := I.tuple h1
  obtain ⟨u2, r2, ⟨o2, e2, c2, n2, d2⟩, _⟩ := I.tuple h2
  obtain ⟨u3, r3, ⟨o3, e3, c3, n3, d3⟩, _⟩ := I.tuple h3
  refine ⟨.tup e1 c1 d1 ?_, nk_depth st⟩
  cases r1 with
  | cons a1 b1 => cases b1 with
    | cons a2 b2 =>
      cases b2; cases a1; cases a2
      refine .cons (.tup e2 c2 d2 ?_) (.cons (.tup e3 c3 d3 ?_) .nil)
      · cases r2 with
        | cons p1 q1 => cases q1 with
          | cons p2 q2 =>
            cases q2
            obtain ⟨t1, rfl⟩ := p1
            obtain ⟨t2, rfl⟩ := p2
            exact .cons (.int _ t1) (.cons (.int _ t2) .nil)
      · simpa using nums_all r3
end
/-- an entry: the step, where its tuple stands, the wire told -/
abbrev Ent := Step × Addr × Nat
abbrev EntRel : Ent → NestedKey × Addr × Value → Prop := fun e x => x.1 = nk e.1 ∧ x.2.1 = e.2.1 ∧ RelV (nV e.2.2) x.2.2
/-- the dict's own object -/
def NestPhi (P : Program) (w : World) (d : Addr) (es : List Ent) : Heap → Prop := fun h => (d == sysModules) = false ∧ ∃ xs : List (NestedKey × Addr × Value), Paired EntRel es xs ∧
  ∃ o tb ep, h.get? d = some o ∧ o.ExactDict ∧ o.data = .dict tb ep ∧ tb.toList = xs.map (entryOfKey (nestedKind P w))
/-- at d stands a dict with these entries, in their order -/
structure NestD (P : Program) (w : World) (K : PySem.W.Frag) (H : Hp) (d : Addr) (es : List Ent) : Prop where
  ob : H d = some (.ext (NestPhi P w d es))
  keys : ∀ e ∈ es, StepAt K H e.2.1 e.1
  nd : (es.map (·.1)).Nodup
  len : es.length ≤ 100000
def lookS (es : List Ent) (st : Step) : Option Nat := (es.find? fun e => decide (e.1 = st)).map (·.2.2)
theorem look_at : ∀ {es : List Ent} {xs : List (NestedKey × Addr × Value)} (st : Step), Paired EntRel es xs →
    (lookS es st = none ∧ atKey xs (nk st) = none) ∨ ∃ n p, lookS es st = some n ∧ atKey xs (nk st) = some p ∧ RelV (nV n) p.2
  | _, _, st, .nil => .inl ⟨rfl, rfl⟩
  | _, _, st, .cons (a := e) (b := x) h t => by
    obtain ⟨h1, h2, h3⟩ := h
    by_cases q : e.1 = st
    · refine .inr ⟨e.2.2, x.2, ?_, ?_, h3⟩
      · simp [lookS, q]
      · simp [atKey, h1, q]
    · have q' : ¬ x.1 = nk st := fun z => q (nk_inj (h1.symm.trans z))
      rcases look_at st t with ⟨a, b⟩ | ⟨n, p, a, b, c⟩
      · exact .inl ⟨by simpa [lookS, q] using a, by simpa [atKey, q'] using b⟩
      · exact .inr ⟨n, p, by simpa [lookS, q] using a, by simpa [atKey, q'] using b, c⟩
theorem nest_ok {P : Program} {w : World} {H : Hp} {h : Heap} {d : Addr} {es : List Ent} (p : NestPhi P w d es h) : ObjOk P w H h d (.ext (NestPhi P w d es)) := by
  obtain ⟨hd, xs, hp, o, tb, ep, e1, e2, e3, e4⟩ := id p
  refine ⟨p, ⟨o, e1⟩, fun h1 h2 p1 k => ?_⟩
  obtain ⟨hd', xs', hp', o', tb', ep', e1', r⟩ := p1
  exact ⟨hd', xs', hp', o', tb', ep', k _ e1', r⟩
section
variable {X : Cx} {pins : List (Addr × Obj)} {σ : L2.St} {H : Hp} {s : Shared}
theorem paired_mem {α β : Type} {F : α → β → Prop} : ∀ {l₁ : List α} {l₂ : List β}, Paired F l₁ l₂ → ∀ b ∈ l₂, ∃ a ∈ l₁, F a b
  | _, _, .nil, _, h => by cases h
  | _, _, .cons f t, b, h => by
    rcases List.mem_cons.mp h with rfl | h
    · exact ⟨_, List.mem_cons_self, f⟩
    · obtain ⟨a, h1, h2⟩ := paired_mem t b h
      exact ⟨a, List.mem_cons_of_mem _ h1, h2⟩
theorem ent_keys : ∀ {es : List Ent} {xs : List (NestedKey × Addr × Value)}, Paired EntRel es xs → xs.map (·.1) = es.map fun e => nk e.1
  | _, _, .nil => rfl
  | _, _, .cons f t => by rw [List.map_cons, List.map_cons, ent_keys t, f.1]
theorem nest_raw (I : Inv X pins σ H s) {d : Addr} {es : List Ent} (h : NestD X.prog X.w X.K H d es) : (d == sysModules) = false ∧ ∃ xs, Paired EntRel es xs ∧ s.heap.DictOfH (nestedKind X.prog X.w) d xs := by
  obtain ⟨⟨hd, xs, hp, o, tb, ep, e1, e2, e3, e4⟩, _⟩ := I.hok d _ h.ob
  refine ⟨hd, xs, hp, o, tb, ep, e1, e2, e3, e4, fun x hx => ?_, ?_⟩
  · obtain ⟨e, he, h1, h2, h3⟩ := paired_mem hp x hx
    rw [h1, h2]
    exact nest_is I (h.keys e he)
  · rw [ent_keys hp]
    exact List.pairwise_map.mpr ((List.pairwise_map.mp h.nd).imp fun q z => q (nk_inj z))
/-- {} -/
theorem pe_dnewN {pos : Pos} : PE X (.Dict [] [] pos) (fun _ H Q => ∀ p, H p = none → Q (.ref p) (upd H p (.ext (NestPhi X.prog X.w p [])))) := ⟨fun pins s σ H Q I h =>
  wpAny_Dict_empty ⟨.ref s.heap.objs.size, _, I.laid (a := s.heap.objs.size) (o := .ext (NestPhi X.prog X.w s.heap.objs.size [])) (t' := s.toks) (fun _ _ q => Heap.get?_push_of_some _ q) (Nat.le_refl _)
    (nest_ok ⟨beq_eq_false_iff_ne.mpr (Ne.symm (Nat.ne_of_lt I.big)), [], .nil, _, #[], 0, Heap.get?_push_size _ rfl, ⟨rfl, rfl, rfl⟩, rfl, rfl⟩), rfl, h _ (I.hok.fresh (Nat.le_refl _))⟩⟩
theorem room8 {A : Around} (hu : A.units + 64 < cLine) : (nestedKind X.prog X.w).room A.in1 := by
  show A.units + 1 + 8 < cLine; omega
/-- step not in d -/
def tNestNot (P : Program) (w : World) (K : PySem.W.Frag) (ty td : TE) : TE := fun σ H Q => ty σ H fun y H1 => td σ H1 fun x H2 => ∃ d b st es, x = .ref d ∧ y = .ref b ∧ NestD P w K H2 d es ∧ StepAt K H2 b st ∧ Q (.bl (!(lookS es st).isSome)) H2
theorem pc_nestnotin {i o : Expr} {ty td : TE} (hu : X.A.units + 64 < cLine) (hi : PE X i ty) (ho : PE X o td) : PC X .NotIn i o (tNestNot X.prog X.w X.K ty td) := by
  refine ⟨fun pins s σ H Q I h => ?_⟩
  refine bin hi ho I (R := fun y x H2 => ∃ d b st es, x = .ref d ∧ y = .ref b ∧ NestD X.prog X.w X.K H2 d es ∧ StepAt X.K H2 b st ∧ Q (.bl (!(lookS es st).isSome)) H2) h fun v u s2 y x H2 I2 ry rx q => ?_
  obtain ⟨d, b, st, es, rfl, rfl, hd, hb, q⟩ := q
  cases rx; cases ry
  obtain ⟨hs, xs, hp, hm⟩ := nest_raw I2 hd
  refine notIn_keyed (kvs := pairsH xs) (room8 hu) (nest_is I2 hb) hs ⟨xs, hm, rfl⟩ ⟨.bl _, H2, I2.tok _, rfl, ?_⟩
  rw [valueAt_pairsH, Option.isSome_map]
  rcases look_at st hp with ⟨a, c⟩ | ⟨n, p, a, c, _⟩
  · rw [a] at q; rw [c]; exact q
  · rw [a] at q; rw [c]; exact q
/-- d[step] -/
def rNest (P : Program) (w : World) (K : PySem.W.Frag) : R2 := fun x y H Q => ∃ d b st es n, x = .ref d ∧ y = .ref b ∧ NestD P w K H d es ∧ StepAt K H b st ∧ lookS es st = some n ∧ Q (nV n) H
theorem ix_nest (hu : X.A.units + 64 < cLine) : IxR X (rNest X.prog X.w X.K) := by
  intro value slice pins s σ H x y v u Q I rx ry h hs
  obtain ⟨d, b, st, es, n, rfl, rfl, hd, hb, hl, q⟩ := h
  cases rx; cases ry
  obtain ⟨_, xs, hp, hm⟩ := nest_raw I hd
  rcases look_at st hp with ⟨a, c⟩ | ⟨n', p, a, c, r⟩
  · rw [a] at hl; cases hl
  · rw [a] at hl; cases hl
    exact tail_any hm.typeIs slot_dict_getitem.lookup (wpAny_getItem_heap (room8 hu) (nest_is I hb) hm c ⟨nV n, H, I.tok _, r, q⟩) hs
/-- d[step] = n, new -/
def rSetN (P : Program) (w : World) (K : PySem.W.Frag) : V → V → V → Hp → (Hp → Prop) → Prop := fun o i v H Q => ∃ d b st es n, o = .ref d ∧ i = .ref b ∧ v = nV n ∧ NestD P w K H d es ∧ StepAt K H b st ∧ lookS es st = none ∧ es.length < 100000 ∧ Q (upd H d (.ext (NestPhi P w d (es ++ [(st, b, n)]))))
theorem set_nest (hu : X.A.units + 64 < cLine) : PSet X (rSetN X.prog X.w X.K) := by
  intro pins s σ H o i v ov iv u Q I ro ri rv h
  obtain ⟨d, b, st, es, n, rfl, rfl, rfl, hd, hb, hl, hlen, q⟩ := h
  cases ro; cases ri
  obtain ⟨hs, xs, hp, hm⟩ := nest_raw I hd
  have hz : xs.length ≤ sizeLine := by rw [← hp.length]; exact small' (by omega)
  rcases look_at st hp with ⟨a, c⟩ | ⟨n', p, a, c, r⟩
  · refine wpAny_setItem_heap (hsz := hz) (room8 hu) (nest_is I hb) hm fun h' hm' hsb => ?_
    rw [storedH_new c] at hm'
    obtain ⟨o', tb, ep, e1, e2, e3, e4, _, _⟩ := hm'
    refine ⟨_, ?_, q⟩
    refine I.write (x := d) (e := d) (t' := _) (by rw [hd.ob]; exact True.intro) (.inl rfl) (fun c' u' hc' e => (hsb.2 c' hc').trans e) ⟨o', e1⟩ (nest_ok ⟨hs, xs ++ [(nk st, b, u)], Paired.snoc hp ⟨rfl, rfl, rv⟩, o', tb, ep, e1, e2, e3, e4⟩)
  · rw [a] at hl; cases hl
/-- the dict behind it -/
theorem NestD.put {P : Program} {w : World} {K : PySem.W.Frag} {H : Hp} {d b : Addr} {es : List Ent} {st : Step} {n : Nat} (h : NestD P w K H d es) (hb : StepAt K H b st) (hl : lookS es st = none) (hlen : es.length < 100000) : NestD P w K (upd H d (.ext (NestPhi P w d (es ++ [(st, b, n)])))) d (es ++ [(st, b, n)]) := by
  have f : Frm [d] H (upd H d (.ext (NestPhi P w d (es ++ [(st, b, n)])))) := frm_upd (Frm.refl _ _) (.inl (by simp))
  have nt : ∀ c ∈ [d], ∀ ys, ¬ H c = some (.tup ys) ∧ ∀ o, ¬ H c = some (.frz o (.tup ys)) := fun c hc ys => by
    rw [List.mem_singleton] at hc; subst hc
    rw [h.ob]; exact ⟨fun z => (by cases z), fun ob z => (by cases z)⟩
  have sa : ∀ {a : Addr} {s : Step}, StepAt K H a s → StepAt K (upd H d (.ext (NestPhi P w d (es ++ [(st, b, n)])))) a s := fun ⟨g, t, h1, h2, h3⟩ => ⟨g, t, frmT f nt h1, frmT f nt h2, frmT f nt h3⟩
  refine ⟨upd_same, fun e he => ?_, ?_, by rw [List.length_append]; exact hlen⟩
  · rcases List.mem_append.mp he with he | he
    · exact sa (h.keys e he)
    · rw [List.mem_singleton] at he; subst he; exact sa hb
  · rw [List.map_append]
    refine List.nodup_append.mpr ⟨h.nd, by simp, fun x hx y hy => ?_⟩
    obtain ⟨e, he, rfl⟩ := List.mem_map.mp hx
    have hy' : y = st := by simpa using hy
    subst hy'
    intro z
    have : lookS es e.1 ≠ none := by
      unfold lookS
      rw [ne_eq, Option.map_eq_none_iff, List.find?_eq_none]
      exact fun q => q e he (by simp)
    rw [z] at this
    exact this hl
theorem NestD.nil {P : Program} {w : World} {K : PySem.W.Frag} {H : Hp} {d : Addr} (h : H d = some (.ext (NestPhi P w d []))) : NestD P w K H d [] := ⟨h, fun e he => (by cases he), List.nodup_nil, Nat.zero_le _⟩
theorem NestD.same {P : Program} {w : World} {K : PySem.W.Frag} {H H' : Hp} {d : Addr} {es : List Ent} (h : NestD P w K H d es) (s : Same H H') : NestD P w K H' d es :=
  ⟨s _ _ h.ob, fun e he => let ⟨g, t, h1, h2, h3⟩ := h.keys e he; ⟨g, t, sameT s h1, sameT s h2, sameT s h3⟩, h.nd, h.len⟩
theorem look_put {es : List Ent} {st : Step} {b : Addr} {n : Nat} (h : lookS es st = none) : lookS (es ++ [(st, b, n)]) st = some n := by
  unfold lookS at h ⊢
  rw [Option.map_eq_none_iff] at h
  rw [List.find?_append, h]
  simp
end
/-! ### an iterator of pairs, told by what it walks (PyProof's walks), as the hand layer's turn -/
/-- what stands behind an iterator of pairs at turn i: a walk of it over cells of ch, and what each pair holds -/
def PairSrc (P : Program) (w : World) (A : Around) (it : Addr) (ch : List Addr) (J : It) (tn : Nat → Heap → Prop) (H : Hp) (g : Heap) (i : Nat) : Prop :=
  ∃ (fp wr : List Addr) (n : Nat) (Pt : Nat → Array Value → Prop) (St : Nat → Heap → Prop) (Mid : Nat → Addr → Heap → Prop), WalksT P w A it fp wr n Pt St Mid ∧ (∀ b, b ∉ ch → b ∉ wr) ∧ St i g ∧ (∀ j h, St j h → tn j h) ∧
    (J.go i H → i < n) ∧ (J.stop i H → i = n) ∧ ∀ vals, Pt i vals → ∃ (x y : V) (u v : Value), vals = #[u, v] ∧ RelV x u ∧ RelV y v ∧ ∀ T, H T = none → J.yld i H (.ref T) (upd H T (.tup [x, y]))
theorem turn_pairs {P : Program} {w : World} {K : PySem.W.Frag} {elts : List Expr} {kk : Nat} {tpos : Pos} {it : Addr} {ch : List Addr} {J : It} {tn : Nat → Heap → Prop} (hm : it ∈ ch)
    (live : ∀ i h, tn i h → ∀ b ∈ ch, ∃ o, h.get? b = some o ∧ ∀ v, o.data ≠ .cell v) (stay : ∀ i h h', tn i h → (∀ b ∈ ch, ∀ o, h.get? b = some o → h'.get? b = some o) → tn i h')
    (own : ∀ (A : Around) (i : Nat) (s : Shared) (Q : Value → Shared → Prop) (E : Value → Shared → Prop), tn i s.heap → Q (.ref it) s → wpAny (model P w) A (pyIter (.ref it)) Q E s)
    (src : ∀ (X : Cx), X.prog = P → X.w = w → X.K = K → X.A.handled = none → ∀ (pins : List (Addr × Obj)) (σ : L2.St) (H : Hp) (s : Shared), Inv X pins σ H s → ∀ i, tn i s.heap → J.go i H ∨ J.stop i H → PairSrc P w X.A it ch J tn H s.heap i) :
    Turn P w K (.Tuple elts kk tpos) J ch it tn where
  mem := hm
  obj := live
  keep := stay
  self := own
  item X hP hw hK hc i pins s σ H E I hf st hgo := by
    obtain ⟨fp, wr, n, Pt, St, Mid, W, out, st1, back, lt, _, pair⟩ := src X hP hw hK (I.ok.hd hc) pins σ H s I i st (.inl hgo)
    subst hP hw hK
    refine W.item i s _ _ (lt hgo) st1 fun T vals h1 tk hp big tup mid k1 => ⟨_, rfl, W.go elts kk tpos i T { s with heap := h1, toks := tk } _ _ mid fun h2 st2 k2 => ?_⟩
    obtain ⟨x, y, u, v, rfl, rx, ry, yld⟩ := pair vals hp
    have k12 : ∀ b o, b ∉ ch → s.heap.get? b = some o → h2.get? b = some o := fun b o nb e => k2 b o (out b nb) (k1 b o (out b nb) e)
    have I2 : Inv X pins σ (upd H T (.tup [x, y])) { s with heap := h2, toks := tk } :=
      I.turnedNew k12 hf big ⟨by show 2 ≤ sizeLine; decide, [u, v], .cons rx (.cons ry .nil), tup.at fun o e => k2 T o (W.apart i T h1 mid) e⟩
    refine ⟨.ref T, _, I2, rfl, yld T (I.hok.fresh big), back _ _ st2, fun b hb => ?_⟩
    obtain ⟨o, e, _⟩ := live i _ st b hb
    rw [upd_ne (Nat.ne_of_lt (Nat.lt_of_lt_of_le (Heap.lt_size e) big))]
    exact (hf b hb).1
  done X hP hw hK hc i pins s σ H E I hf st hstop := by
    obtain ⟨fp, wr, n, Pt, St, Mid, W, out, st1, _, _, fin, _⟩ := src X hP hw hK (I.ok.hd hc) pins σ H s I i st (.inr hstop)
    subst hP hw hK
    have en := fin hstop
    subst en
    exact W.done s _ _ st1 fun h1 tk k1 => ⟨rfl, I.turnedL (t' := tk) (fun b o nb e => k1 b o (out b nb) e) hf⟩
/-- new cells are nobody's -/
theorem fresh_ok {X : Cx} {pins : List (Addr × Obj)} {σ : L2.St} {H : Hp} {s : Shared} {l : List Nat} (I : Inv X pins σ H s) : ∀ b ∈ l.map (s.heap.objs.size + ·), FpOk X pins H b := fun b hb => by
  obtain ⟨d, _, rfl⟩ := List.mem_map.mp hb
  exact I.fpOk (Nat.le_add_right _ _) (I.hok.fresh (Nat.le_add_right _ _))
/-! ### zip of a tuple and a list -/
/-- the tuple at a, the list at b, as they stand at each turn -/
def ItzM (K : PySem.W.Frag) (a b : Addr) : It where
  go i H := ∃ xs ys : List V, SqT K H a xs ∧ SqL K H b ys ∧ i < xs.length ∧ i < ys.length
  yld i H v H' := ∃ T x y, v = .ref T ∧ H T = none ∧ H' = upd H T (.tup [x, y]) ∧ (∀ xs, SqT K H a xs → xs[i]? = some x) ∧ ∀ ys, SqL K H b ys → ys[i]? = some y
  stop i H := ∃ xs ys : List V, SqT K H a xs ∧ SqL K H b ys ∧ i ≤ xs.length ∧ i ≤ ys.length ∧ (i = xs.length ∨ i = ys.length)
def zipSt (a b z TI TO i1 i2 : Addr) (i : Nat) (h : Heap) : Prop := IsZip h z TI TO .none ∧ IsTupOf2 h TI (.ref i1) (.ref i2) ∧ (∃ x y, IsTupOf2 h TO x y) ∧ h.IsTupleIter i1 a i ∧ h.IsListIter i2 b i
theorem turn_zipM {P : Program} {w : World} {K : PySem.W.Frag} {elts : List Expr} {kk : Nat} {tpos : Pos} {a b z TI TO i1 i2 : Addr} (S : ZipSep2 z TI TO i1 i2 [i1, a] [i2, b]) (na : a ≠ i1) (nb : b ≠ i2) :
    Turn P w K (.Tuple elts kk tpos) (ItzM K a b) [z, TI, TO, i1, i2] z (zipSt a b z TI TO i1 i2) := by
  refine turn_pairs List.mem_cons_self (fun i h st c hc => ?_) (fun i h h' st k => ?_) (fun A i s Q E st q => wpAny_pyIter_zip st.1 q) fun X hP hw hK hd pins σ H s I i st hg => ?_
  · obtain ⟨e0, e1, ⟨_, _, e2⟩, ⟨o3, e3, _, d3⟩, ⟨o4, e4, _, d4⟩⟩ := st
    simp only [List.mem_cons, List.not_mem_nil, or_false] at hc
    rcases hc with rfl | rfl | rfl | rfl | rfl
    · exact ⟨_, e0, fun _ f => by cases f⟩
    · exact ⟨_, e1, fun _ f => by cases f⟩
    · exact ⟨_, e2, fun _ f => by cases f⟩
    · exact ⟨o3, e3, fun _ f => by rw [d3] at f; cases f⟩
    · exact ⟨o4, e4, fun _ f => by rw [d4] at f; cases f⟩
  · obtain ⟨e0, e1, ⟨x, y, e2⟩, e3, e4⟩ := st
    exact ⟨k z (by simp) _ e0, k TI (by simp) _ e1, ⟨x, y, k TO (by simp) _ e2⟩, e3.at (k i1 (by simp)), e4.at (k i2 (by simp))⟩
  · subst hP hw hK
    obtain ⟨xs, ys, ha, hb⟩ : ∃ xs ys : List V, SqT X.K H a xs ∧ SqL X.K H b ys := by
      rcases hg with ⟨xs, ys, h1, h2, _⟩ | ⟨xs, ys, h1, h2, _⟩ <;> exact ⟨xs, ys, h1, h2⟩
    obtain ⟨us, ru, pa, _⟩ := I.tuple ha
    obtain ⟨vs, rv, pb, _⟩ := I.list hb
    have zu : us.toArray.size = xs.length := by rw [List.size_toArray, ru.length]
    have zv : vs.toArray.size = ys.length := by rw [List.size_toArray, rv.length]
    have D1 := Draws.tuple (prog := X.prog) (w := X.w) (A := X.A.in1) hd i1 a na us.toArray
    have D2 := Draws.list (prog := X.prog) (w := X.w) (A := X.A.in1) hd i2 b nb vs.toArray
    obtain ⟨e0, e1, e2, e3, e4⟩ := st
    refine ⟨_, _, _, _, _, _, WalksT.zipD2 S D1 D2, fun c nc => ?_, ⟨e0, e1, e2, ⟨e3, pa⟩, ⟨e4, pb.isList⟩⟩, fun j h ⟨f0, f1, f2, f3, f4⟩ => ⟨f0, f1, f2, f3.1, f4.1⟩, fun ⟨xs', ys', h1, h2, l1, l2⟩ => ?_, fun ⟨xs', ys', h1, h2, l1, l2, l3⟩ => ?_, ?_⟩
    · simp only [List.mem_cons, List.not_mem_nil, or_false, not_or] at nc ⊢
      exact ⟨nc.1, nc.2.2.1, nc.2.2.2.1, nc.2.2.2.2⟩
    · rw [I.tuple_inj h1 ha] at l1
      rw [I.list_inj h2 hb] at l2
      omega
    · rw [I.tuple_inj h1 ha] at l1 l3
      rw [I.list_inj h2 hb] at l2 l3
      omega
    · rintro vals ⟨u, v, hu, hv, rfl⟩
      have hu' : us[i]? = some u := by simpa using hu
      have hv' : vs[i]? = some v := by simpa using hv
      have l1 : i < xs.length := by rw [ru.length]; exact (List.getElem?_eq_some_iff.mp hu').1
      have l2 : i < ys.length := by rw [rv.length]; exact (List.getElem?_eq_some_iff.mp hv').1
      obtain ⟨u2, gu, relu⟩ := ru.get (List.getElem?_eq_getElem l1)
      obtain ⟨v2, gv, relv⟩ := rv.get (List.getElem?_eq_getElem l2)
      cases hu'.symm.trans gu
      cases hv'.symm.trans gv
      exact ⟨xs[i], ys[i], u, v, rfl, relu, relv, fun T hT => ⟨T, xs[i], ys[i], rfl, hT, rfl, fun l hl => by rw [I.tuple_inj hl ha]; exact List.getElem?_eq_getElem l1, fun l hl => by rw [I.list_inj hl hb]; exact List.getElem?_eq_getElem l2⟩⟩
def iZipM (K : PySem.W.Frag) (ta : TA) : TI := fun σ H R => ta σ H fun vs H1 => ∃ a b xs ys, vs = [.ref a, .ref b] ∧ SqT K H1 a xs ∧ SqL K H1 b ys ∧ R (ItzM K a b) H1
theorem pi_zipM {X : Cx} {e e2 : Expr} {ta : TA} {p pos tpos : Pos} {elts : List Expr} {kk : Nat} (hg : Gl X "zip") (hm : X.mg "zip" = none) (ha : PA X [e, e2] ta)
    (hs : starEach [e, e2] X.env = (false, eval e X.env) :: starEach [e2] X.env := by rfl) (hpl : (backTo pos (starEach [e2] X.env)).any (·.1) = false := by rfl) :
    PI X (.Tuple elts kk tpos) (.Call (.Name "zip" p) [e, e2] [] pos) (iZipM X.K ta) := by
  constructor
  intro pins s σ H R I0 h
  refine Call_ (ld_blt I0 hg hm PyProof.Rows.boot_zip (PyProof.Rows.callWith_type1 (thn (ha.run pos pins s σ H _ I0 h) fun us s1 ⟨vs, H1, I, r1, q1⟩ => ?_) hs hpl))
  obtain ⟨a, b, xs, ys, rfl, hx, hy, q⟩ := q1
  cases r1 with
  | cons ra r2 => cases r2 with
  | cons rb r3 =>
    cases r3; cases ra; cases rb
    obtain ⟨its, _, pa, _⟩ := I.tuple hx
    obtain ⟨its2, _, pb, _⟩ := I.list hy
    have la : a < s1.heap.objs.size := by obtain ⟨o, e, _⟩ := id pa; exact Heap.lt_size e
    have lb : b < s1.heap.objs.size := pb.lt
    refine zip_begins2 (begins_tuple a its.toArray) (begins_list b its2.toArray) pa pb.isList fun h' g0 g1 g2 g3 g4 _ hk => wpAny_pyIter_zip g0 ?_
    have S := zip_sep2 (N := s1.heap.objs.size) (fp1 := [a]) (fp2 := [b]) (by simpa using la) (by simpa using lb)
    exact ⟨_, [4, 2, 3, 0, 1].map (s1.heap.objs.size + ·), _, _, H1, rfl, I.kept (t' := s1.toks) hk, turn_zipM S (Nat.ne_of_lt la) (Nat.ne_of_lt (Nat.lt_succ_of_lt lb)), ⟨g0, g1, ⟨_, _, g2⟩, ⟨_, g3, rfl, rfl⟩, ⟨_, g4, rfl, rfl⟩⟩, fresh_ok I, q⟩
/-- pairs of the tuple's items and the list's -/
theorem walk_zipM {K : PySem.W.Frag} {a b : Addr} {xs ys : List V} {n : Nat} (h1 : n = xs.length) (h2 : n = ys.length) : Walk (ItzM K a b) n (fun H => SqT K H a xs ∧ SqL K H b ys) (YPair (fun i => xs[i]?) (fun i => ys[i]?)) where
  goes i _ hi g := ⟨xs, ys, g.1, g.2, by omega, by omega⟩
  stops _ g := ⟨xs, ys, g.1, g.2, by omega, by omega, by omega⟩
  yields i H v H' _ g y := by
    obtain ⟨T, x, z, h1, h2, h3, h4, h5⟩ := y
    exact ⟨T, x, z, h1, h2, h3, h4 xs g.1, h5 ys g.2⟩
/-! ### enumerate of a tuple -/
def IteT (K : PySem.W.Frag) (a : Addr) : It where
  go i H := ∃ xs, SqT K H a xs ∧ i < xs.length
  yld i H v H' := ∃ T x, v = .ref T ∧ H T = none ∧ H' = upd H T (.tup [.int (i : Nat), x]) ∧ ∀ xs, SqT K H a xs → xs[i]? = some x
  stop i H := ∃ xs, SqT K H a xs ∧ i = xs.length
def enumSt (a e it : Addr) (i : Nat) (h : Heap) : Prop := (∃ old, IsEnum h e it (0 + (i : Int)) old) ∧ h.IsTupleIter it a i
theorem turn_enumT {P : Program} {w : World} {K : PySem.W.Frag} {elts : List Expr} {kk : Nat} {tpos : Pos} {a e it : Addr} (na : a ≠ it) (nea : e ≠ a) (nei : e ≠ it) : Turn P w K (.Tuple elts kk tpos) (IteT K a) [e, it] e (enumSt a e it) := by
  refine turn_pairs List.mem_cons_self (fun i h st c hc => ?_) (fun i h h' ⟨⟨old, f⟩, g⟩ k => ⟨⟨old, k e (by simp) _ f⟩, g.at (k it (by simp))⟩) (fun A i s Q E ⟨⟨_, f⟩, _⟩ q => wpAny_pyIter_enum f q) fun X hP hw hK hd pins σ H s I i st hg => ?_
  · obtain ⟨⟨_, f⟩, ⟨o, g, _, d⟩⟩ := st
    simp only [List.mem_cons, List.not_mem_nil, or_false] at hc
    rcases hc with rfl | rfl
    · exact ⟨_, f, fun _ r => by cases r⟩
    · exact ⟨o, g, fun _ r => by rw [d] at r; cases r⟩
  · subst hP hw hK
    obtain ⟨xs, hx⟩ : ∃ xs : List V, SqT X.K H a xs := by
      rcases hg with ⟨xs, h1, _⟩ | ⟨xs, h1, _⟩ <;> exact ⟨xs, h1⟩
    obtain ⟨us, ru, pa, _⟩ := I.tuple hx
    have zu : us.toArray.size = xs.length := by rw [List.size_toArray, ru.length]
    refine ⟨_, _, _, _, _, _, WalksT.enumFrom 0 (Draws.tuple (prog := X.prog) (w := X.w) (A := X.A.in1) hd it a na us.toArray) e nei (by simp [nei, nea]) (by simp), fun c nc => nc, ⟨st.1, st.2, pa⟩, fun j h f => ⟨f.1, f.2.1⟩, fun ⟨xs', h1, l1⟩ => ?_, fun ⟨xs', h1, l1⟩ => ?_, ?_⟩
    · rw [I.tuple_inj h1 hx] at l1; omega
    · rw [I.tuple_inj h1 hx] at l1; omega
    · rintro vals ⟨t, u, hu, rfl⟩
      have hu' : us[i]? = some u := by simpa using hu
      have l1 : i < xs.length := by rw [ru.length]; exact (List.getElem?_eq_some_iff.mp hu').1
      obtain ⟨u2, gu, relu⟩ := ru.get (List.getElem?_eq_getElem l1)
      cases hu'.symm.trans gu
      exact ⟨.int (i : Nat), xs[i], _, u, rfl, ⟨t, by rw [Int.zero_add]⟩, relu, fun T hT => ⟨T, xs[i], rfl, hT, rfl, fun l hl => by rw [I.tuple_inj hl hx]; exact List.getElem?_eq_getElem l1⟩⟩
def enumObj (N : Addr) : Obj := { cls := .type "enumerate", data := .fields #[.none, .bool false, .ref N, rawInt 0, .none, .none] }
/-- enumerate(v): what its making does -/
theorem enum_made {v : Value} {o : Obj} {G : Heap → Prop} (B : Begins v o G) : Meets (Builtin.«enumerate.__new__» ⟨[.type "enumerate", v], []⟩) (fun _ R s => G s.heap ∧ R (.ok (.ret (.ref (s.heap.push o).objs.size))) { s with heap := (s.heap.push o).push (enumObj s.heap.objs.size) }) :=
  .of_wp fun prog w A R s hs => by
    obtain ⟨hp, gn, dr, tk, os⟩ := s
    obtain ⟨hG, hR⟩ := hs
    have isE := sub_enumerate
    have begin_ : ∀ {A' : Around} {E : Value → Shared → Prop} {Q : Value → Shared → Prop}, Q (.ref hp.objs.size) ⟨hp.push o, gn, dr, tk, os⟩ → wpAny (model prog w) A' (pyIter v) Q E ⟨hp, gn, dr, tk, os⟩ := B.iter prog w _ _ ⟨hp, gn, dr, tk, os⟩ _ hG
    wp_walk using begin_
    refine wpAny_stack_any fun _ => wpAny_pure ?_
    split
    next c _ _ _ _ _ => cases (c == Value.type "enumerate") <;> (wp_walk using begin_; exact ⟨_, rfl, hR⟩)
    all_goals (wp_walk using begin_; exact ⟨_, rfl, hR⟩)
def iEnumT (K : PySem.W.Frag) (ta : TA) : TI := fun σ H R => ta σ H fun vs H1 => ∃ a xs, vs = [.ref a] ∧ SqT K H1 a xs ∧ R (IteT K a) H1
theorem pi_enumT {X : Cx} {K : PySem.W.Frag} (hK : X.K = K) {e : Expr} {ta : TA} {p pos tpos : Pos} {elts : List Expr} {kk : Nat} (hg : Gl X "enumerate") (hm : X.mg "enumerate" = none) (ha : PA X [e] ta) (hs : starEach [e] X.env = [(false, eval e X.env)] := by rfl) :
    PI X (.Tuple elts kk tpos) (.Call (.Name "enumerate" p) [e] [] pos) (iEnumT K ta) := by
  subst hK
  constructor
  intro pins s σ H R I0 h
  refine Call_ (ld_blt I0 hg hm PyProof.Rows.boot_enumerate (PyProof.Rows.callWith_type1 (thn (ha.run pos pins s σ H _ I0 h) fun us s1 ⟨vs, H1, I, r1, q1⟩ => ?_) hs rfl))
  obtain ⟨a, xs, rfl, hx, q⟩ := q1
  cases r1 with
  | cons ra r2 =>
    cases r2; cases ra
    obtain ⟨its, _, pa, _⟩ := I.tuple hx
    have la : a < s1.heap.objs.size := by obtain ⟨o, e, _⟩ := id pa; exact Heap.lt_size e
    have B := begins_tuple a its.toArray
    have z1 : ∀ o : Obj, (s1.heap.push o).objs.size = s1.heap.objs.size + 1 := fun o => Heap.size_push ..
    refine callType_new PySem.F.called_enumerate (by decide) (PySem.F.typeCall_enumerate_1 _) (PySem.F.newCall_enumerate_1 _) (fun obj => PySem.F.args_object_init_2 obj _) PySem.F.entry_enumerate_new (enum_made B) ⟨pa, ?_⟩
    generalize hh : (s1.heap.push { cls := .type "tuple_iterator", data := .fields #[.ref a, .int 0 0] }).push (enumObj s1.heap.objs.size) = h2
    have gE : IsEnum h2 (s1.heap.objs.size + 1) s1.heap.objs.size (0 + ((0 : Nat) : Int)) .none := by
      have e := Heap.get?_push_size (s1.heap.push { cls := .type "tuple_iterator", data := .fields #[.ref a, .int 0 0] }) (o := enumObj s1.heap.objs.size) rfl
      rw [z1, hh] at e
      exact e
    have gI : h2.get? s1.heap.objs.size = some { cls := .type "tuple_iterator", data := .fields #[.ref a, .int 0 0] } := by
      rw [← hh]; exact Heap.get?_push_of_some _ (Heap.get?_push_size _ B.free)
    have hk : ∀ b o, s1.heap.get? b = some o → h2.get? b = some o := fun b o e => by
      rw [← hh]; exact Heap.get?_push_of_some _ (Heap.get?_push_of_some _ e)
    show _ ∧ _
    rw [z1]
    refine ⟨⟨_, gE, rfl⟩, wpAny_pyIter_enum gE ?_⟩
    exact ⟨_, [1, 0].map (s1.heap.objs.size + ·), _, _, H1, rfl, I.kept (t' := s1.toks) hk, turn_enumT (a := a) (Nat.ne_of_lt la) (Nat.ne_of_gt (Nat.lt_succ_of_lt la)) (Nat.succ_ne_self _), ⟨⟨.none, gE⟩, ⟨_, gI, rfl, rfl⟩⟩, fresh_ok I, q⟩
theorem walk_enumT {K : PySem.W.Frag} {a : Addr} {xs : List V} : Walk (IteT K a) xs.length (fun H => SqT K H a xs) (YPair (fun i => some (.int (i : Nat))) (fun i => xs[i]?)) where
  goes i _ hi g := ⟨xs, g, hi⟩
  stops _ g := ⟨xs, g, rfl⟩
  yields i H v H' _ g y := by
    obtain ⟨T, x, h1, h2, h3, h4⟩ := y
    exact ⟨T, .int (i : Nat), x, h1, h2, h3, rfl, h4 xs g⟩
end Gk

/-! the bench: its object -/
namespace Gk
open PySem L2
/-- its attributes -/
def bf (lg ls lc dm : Addr) (n tv cv : V) : List (Str × V) :=
  [("gates", .ref lg), ("inputs", n), ("steps", .ref ls), ("turner", tv), ("constants", .ref lc), ("corner", cv), ("made", .ref dm)]
section
variable (lg ls lc dm : Addr) (n tv cv : V)
theorem bf_init : putF "made" (.ref dm) (putF "corner" cv (putF "constants" (.ref lc) (putF "turner" tv (putF "steps" (.ref ls) (putF "inputs" n (putF "gates" (.ref lg) [])))))) = bf lg ls lc dm n tv cv := by kernel_rfl
theorem bf_set_turner (t : V) : putF "turner" t (bf lg ls lc dm n tv cv) = bf lg ls lc dm n t cv := by kernel_rfl
theorem bf_set_corner (t : V) : putF "corner" t (bf lg ls lc dm n tv cv) = bf lg ls lc dm n tv t := by kernel_rfl
theorem bf_gates : (bf lg ls lc dm n tv cv).lookup ("gates" : Str) = some (V.ref lg) := by kernel_rfl
theorem bf_inputs : (bf lg ls lc dm n tv cv).lookup ("inputs" : Str) = some n := by kernel_rfl
theorem bf_steps : (bf lg ls lc dm n tv cv).lookup ("steps" : Str) = some (V.ref ls) := by kernel_rfl
theorem bf_turner : (bf lg ls lc dm n tv cv).lookup ("turner" : Str) = some tv := by kernel_rfl
theorem bf_constants : (bf lg ls lc dm n tv cv).lookup ("constants" : Str) = some (V.ref lc) := by kernel_rfl
theorem bf_corner : (bf lg ls lc dm n tv cv).lookup ("corner" : Str) = some cv := by kernel_rfl
theorem bf_made : (bf lg ls lc dm n tv cv).lookup ("made" : Str) = some (V.ref dm) := by kernel_rfl
theorem bf_laid : (bf lg ls lc dm n tv cv).lookup ("laid" : Str) = none := by kernel_rfl
theorem bf_at_one : (bf lg ls lc dm n tv cv).lookup ("at_one" : Str) = none := by kernel_rfl
theorem bf_ends : (bf lg ls lc dm n tv cv).lookup ("ends" : Str) = none := by kernel_rfl
theorem bf_exchanged : (bf lg ls lc dm n tv cv).lookup ("exchanged" : Str) = none := by kernel_rfl
theorem bf_by_rise : (bf lg ls lc dm n tv cv).lookup ("by_rise" : Str) = none := by kernel_rfl
theorem bf_by_turn : (bf lg ls lc dm n tv cv).lookup ("by_turn" : Str) = none := by kernel_rfl
theorem bf_begun : (bf lg ls lc dm n tv cv).lookup ("begun" : Str) = none := by kernel_rfl
theorem bf_as_value : (bf lg ls lc dm n tv cv).lookup ("as_value" : Str) = none := by kernel_rfl
theorem bf_both : (bf lg ls lc dm n tv cv).lookup ("both" : Str) = none := by kernel_rfl
theorem bf_either : (bf lg ls lc dm n tv cv).lookup ("either" : Str) = none := by kernel_rfl
theorem bf_wire_of : (bf lg ls lc dm n tv cv).lookup ("wire_of" : Str) = none := by kernel_rfl
theorem bf_len : (bf lg ls lc dm n tv cv).length < 1000 := by show 7 < 1000; decide
end
end Gk

namespace Gk
open PySem L2
/-- where a bench stands -/
structure BO where
  b : Addr
  dx : Addr
  lg : Addr
  ls : Addr
  lc : Addr
  dm : Addr
  n : Nat
  gs : List Gate
/-- what its methods change -/
abbrev BO.S (o : BO) : List Addr := [o.b, o.ls, o.lc, o.dm]
section
variable {P : Program} {w : World} {K : PySem.W.Frag} {mg : Str → Option Value} {base : Heap} {C : Addr}
/-- a tracked list of gates -/
def GatesL (K : PySem.W.Frag) (H : Hp) (l : Addr) (gs : List Gate) : Prop := ∃ refs : List Addr, H l = some (.lst (refs.map V.ref)) ∧ Paired (GateAt K H) refs gs
/-- the bench's parts -/
structure BAt (K : PySem.W.Frag) (C : Addr) (o : BO) (H : Hp) (steps : List Step) (tv cv c0 c1 : V) (mk : List (List Key × V)) : Prop where
  ob : H o.b = some (.ins C o.dx (bf o.lg o.ls o.lc o.dm (nV o.n) tv cv))
  st : ∃ srefs : List Addr, H o.ls = some (.lst (srefs.map V.ref)) ∧ Paired (StepAt K H) srefs steps
  co : H o.lc = some (.lst [c0, c1])
  md : H o.dm = some (.dT mk)
  gl : GatesL K H o.lg o.gs
  ng : o.lg ∉ o.S
  sc : o.ls ≠ o.lc
theorem BAt.gt {o : BO} {H : Hp} {steps : List Step} {tv cv c0 c1 : V} {mk : List (List Key × V)} (B : BAt K C o H steps tv cv c0 c1 mk) : GatesAt K H o.lg o.gs := by
  obtain ⟨refs, h1, h2⟩ := B.gl
  exact ⟨refs, SqL.of h1, h2⟩
theorem BAt.notup {o : BO} {H : Hp} {steps : List Step} {tv cv c0 c1 : V} {mk : List (List Key × V)} (B : BAt K C o H steps tv cv c0 c1 mk) : ∀ a ∈ o.S, ∀ ys, ¬ H a = some (.tup ys) ∧ ∀ ob, ¬ H a = some (.frz ob (.tup ys)) := by
  obtain ⟨srefs, hs, _⟩ := B.st
  intro a ha ys
  simp only [BO.S, List.mem_cons, List.not_mem_nil, or_false] at ha
  rcases ha with rfl | rfl | rfl | rfl
  · rw [B.ob]; exact ⟨fun z => (by cases z), fun ob z => (by cases z)⟩
  · rw [hs]; exact ⟨fun z => (by cases z), fun ob z => (by cases z)⟩
  · rw [B.co]; exact ⟨fun z => (by cases z), fun ob z => (by cases z)⟩
  · rw [B.md]; exact ⟨fun z => (by cases z), fun ob z => (by cases z)⟩
/-- tuples stay -/
theorem BAt.tup {o : BO} {H H' : Hp} {steps : List Step} {tv cv c0 c1 : V} {mk : List (List Key × V)} (B : BAt K C o H steps tv cv c0 c1 mk) (f : Frm o.S H H') {a : Addr} {xs : List V} (h : SqT K H a xs) : SqT K H' a xs := frmT f B.notup h
theorem BAt.step {o : BO} {H H' : Hp} {steps : List Step} {tv cv c0 c1 : V} {mk : List (List Key × V)} (B : BAt K C o H steps tv cv c0 c1 mk) (f : Frm o.S H H') {a : Addr} {s : Step} (h : StepAt K H a s) : StepAt K H' a s := by
  obtain ⟨g, t, h1, h2, h3⟩ := h
  exact ⟨g, t, B.tup f h1, B.tup f h2, B.tup f h3⟩
theorem BAt.gates {o : BO} {H H' : Hp} {steps : List Step} {tv cv c0 c1 : V} {mk : List (List Key × V)} (B : BAt K C o H steps tv cv c0 c1 mk) (f : Frm o.S H H') : GatesL K H' o.lg o.gs := by
  obtain ⟨refs, h1, h2⟩ := B.gl
  exact ⟨refs, f _ _ h1 B.ng, L2.Paired.mapP h2 fun _ _ q => B.tup f q⟩
/-- the places are apart -/
theorem BAt.apart {o : BO} {H : Hp} {steps : List Step} {tv cv c0 c1 : V} {mk : List (List Key × V)} (B : BAt K C o H steps tv cv c0 c1 mk) : o.b ≠ o.ls ∧ o.b ≠ o.lc ∧ o.b ≠ o.dm ∧ o.ls ≠ o.dm ∧ o.lc ≠ o.dm := by
  obtain ⟨srefs, hs, _⟩ := B.st
  exact ⟨ne_of B.ob hs (by intro z; cases z), ne_of B.ob B.co (by intro z; cases z), ne_of B.ob B.md (by intro z; cases z), ne_of hs B.md (by intro z; cases z), ne_of B.co B.md (by intro z; cases z)⟩
/-- nothing of the bench has changed, others may stand new -/
theorem BAt.same {o : BO} {H H' : Hp} {steps : List Step} {tv cv c0 c1 : V} {mk : List (List Key × V)} (B : BAt K C o H steps tv cv c0 c1 mk) (s : Same H H') : BAt K C o H' steps tv cv c0 c1 mk := by
  obtain ⟨srefs, hs, hp⟩ := B.st
  have f : Frm o.S H H' := Frm.of s
  exact ⟨s _ _ B.ob, ⟨srefs, s _ _ hs, L2.Paired.mapP hp fun _ _ q => B.step f q⟩, s _ _ B.co, s _ _ B.md, B.gates f, B.ng, B.sc⟩
/-! __init__ -/
def spInit (C : Addr) : Sp := fun vs H Q _ => ∃ (x dx lg : Addr) (n : Nat), vs = [.ref x, .ref lg, nV n] ∧ H x = some (.ins C dx []) ∧
  ∀ (H' : Hp) (ls lc dm : Addr), (∀ b o, H b = some o → b ≠ x → H' b = some o) → H ls = none → H lc = none → H dm = none → ls ≠ lc →
    H' x = some (.ins C dx (bf lg ls lc dm (nV n) .non .non)) → H' ls = some (.lst []) → H' lc = some (.lst [.non, .non]) → H' dm = some (.dT []) → Q .non H'
theorem ok_binit (T : Pg w K mg) : FnOk P w K mg base CX0 1 T.f_binit T.d_binit ["self", "gates", "inputs"] (spInit T.C) := by
  refine T.F_binit.ok sc_binit (fun vs H Q E h => ?_) (fun cdv A outer s H vs Q E hr h => ?_)
  · obtain ⟨x, dx, lg, n, rfl, _⟩ := h; rfl
  · obtain ⟨x, dx, lg, n, rfl, hx, q⟩ := h
    refine ⟨_, (pss_cons (ps_fld (pv 0) (pv 1) rfl)
  (pss_cons (ps_fld (pv 0) (pv 2) rfl)
  (pss_cons (ps_fld (pv 0) (pe_lst pa_nil) rfl)
  (pss_cons (ps_fld (pv 0) pe_non rfl)
  (pss_cons (ps_fld (pv 0) (pe_lst (pa_cons pe_non (pa_cons pe_non pa_nil))) rfl)
  (pss_cons (ps_fld (pv 0) pe_non rfl)
  (pss_one (ps_fld (pv 0) pe_dnewT rfl)))))))), ?_⟩
    refine ⟨_, rfl, _, rfl, x, T.C, dx, [], rfl, hx, T.cl, T.n_gates, (by show 0 < 1000; decide), ?_⟩
    refine ⟨_, rfl, _, rfl, x, T.C, dx, _, rfl, upd_same, T.cl, T.n_inputs, (by show 1 < 1000; decide), ?_⟩
    refine ⟨Nat.zero_le _, fun ls hls => ?_⟩
    obtain ⟨n1, hls⟩ := none_ne hls
    obtain ⟨_, hls⟩ := none_ne hls
    refine ⟨_, rfl, x, T.C, dx, _, rfl, Eq.trans (upd_ne n1.symm) upd_same, T.cl, T.n_steps, (by show 2 < 1000; decide), ?_⟩
    refine ⟨_, rfl, x, T.C, dx, _, rfl, upd_same, T.cl, T.n_turner, (by show 3 < 1000; decide), ?_⟩
    refine ⟨by show 2 ≤ sizeLine; decide, fun lc hlc => ?_⟩
    obtain ⟨n2, hlc⟩ := none_ne hlc
    obtain ⟨_, hlc⟩ := none_ne hlc
    obtain ⟨n3, hlc⟩ := none_ne hlc
    obtain ⟨_, hlc⟩ := none_ne hlc
    obtain ⟨_, hlc⟩ := none_ne hlc
    refine ⟨_, rfl, x, T.C, dx, _, rfl, Eq.trans (upd_ne n2.symm) upd_same, T.cl, T.n_constants, (by show 4 < 1000; decide), ?_⟩
    refine ⟨_, rfl, x, T.C, dx, _, rfl, upd_same, T.cl, T.n_corner, (by show 5 < 1000; decide), ?_⟩
    intro dm hdm
    obtain ⟨n4, hdm⟩ := none_ne hdm
    obtain ⟨_, hdm⟩ := none_ne hdm
    obtain ⟨n5, hdm⟩ := none_ne hdm
    obtain ⟨_, hdm⟩ := none_ne hdm
    obtain ⟨_, hdm⟩ := none_ne hdm
    obtain ⟨n6, hdm⟩ := none_ne hdm
    obtain ⟨_, hdm⟩ := none_ne hdm
    obtain ⟨_, hdm⟩ := none_ne hdm
    refine ⟨_, rfl, x, T.C, dx, _, rfl, Eq.trans (upd_ne n4.symm) upd_same, T.cl, T.n_made, (by show 6 < 1000; decide), ?_⟩
    refine q _ ls lc dm (fun b o hb nb => ?_) hls hlc hdm n3.symm (by rw [upd_same, bf_init]) ?_ ?_ ?_
    · rw [upd_ne nb, upd_ne (ne_of_none hb hdm), upd_ne nb, upd_ne nb, upd_ne (ne_of_none hb hlc), upd_ne nb, upd_ne nb, upd_ne (ne_of_none hb hls), upd_ne nb, upd_ne nb]
      exact hb
    · rw [upd_ne n1, upd_ne n6.symm, upd_ne n1, upd_ne n1, upd_ne n3.symm, upd_ne n1, upd_ne n1, upd_same]
    · rw [upd_ne n2, upd_ne n5.symm, upd_ne n2, upd_ne n2, upd_same]
    · rw [upd_ne n4, upd_same]
/-! laid, at_one -/
def spLaid (K : PySem.W.Frag) (C : Addr) : Sp := fun vs H Q _ => ∃ (o : BO) (steps : List Step) (tv cv c0 c1 : V) (mk : List (List Key × V)) (g l : Addr) (c : Gate) (ws : List Nat), vs = [.ref o.b, .ref g, .ref l] ∧
  BAt K C o H steps tv cv c0 c1 mk ∧ GateAt K H g c ∧ SqL K H l (nL ws) ∧ steps.length ≤ 1000 ∧
  ∀ H' : Hp, BAt K C o H' (steps ++ [(c, ws)]) tv cv c0 c1 mk → Frm o.S H H' → Q (nV (o.n + steps.length)) H'
theorem ok_blaid (T : Pg w K mg) : FnOk P w K mg base CX0 1 T.f_blaid T.d_blaid ["self", "gate", "some"] (spLaid K T.C) := by
  refine T.F_blaid.ok sc_blaid (fun vs H Q E h => ?_) (fun cdv A outer s H vs Q E hr h => ?_)
  · obtain ⟨o, _, _, _, _, _, _, g, l, _, _, rfl, _⟩ := h; rfl
  · obtain ⟨o, steps, tv, cv, c0, c1, mk, g, l, c, ws, rfl, B, hG, hL, hlen, q⟩ := h
    refine ⟨_, (pss_cons (ps_expr (pe_bm PySem.F.plainAttrs_list PySem.F.slot_list_append PySem.F.type_list_append mt_append (pe_fld (pv 0) rfl) (pa_cons (pe_tup (pa_cons (pv 1) (pa_cons (pe_callTy call_tuple_of (by rfl) T.z_tuple (by decide +kernel) (pa_cons (pv 2) pa_nil)) pa_nil))) pa_nil)))
  (pss_one (ps_ret (pe_op op_sub (pe_op op_add (pe_fld (pv 0) rfl) (pe_callB call_len_seq (by rfl) T.z_len PySem.boot_len (pa_cons (pe_fld (pv 0) rfl) pa_nil))) pe_int)))), ?_⟩
    obtain ⟨srefs, hs, hp⟩ := id B.st
    obtain ⟨nb1, nb2, nb3, nb4, nb5⟩ := B.apart
    have hl : srefs.length = steps.length := hp.length
    refine ⟨_, rfl, o.b, T.C, o.dx, _, _, rfl, B.ob, T.cl, T.n_steps, bf_steps .., .inl ⟨rfl, _, SqL.of hs⟩, _, rfl, _, rfl, l, _, rfl, .inl ⟨hL, fun t ht => ?_⟩⟩
    refine ⟨by show 2 ≤ sizeLine; decide, fun p hp0 => ?_⟩
    obtain ⟨npt, hp1⟩ := none_ne hp0
    have s1 : Same H (upd (upd H t (.tup (nL ws))) p (.tup [.ref g, .ref t])) := same_upd (same_new ht) hp1
    refine ⟨o.ls, _, _, rfl, rfl, s1 _ _ hs, by rw [List.length_map]; exact small (by omega), ?_⟩
    have f1 : Frm o.S H (upd (upd (upd H t (.tup (nL ws))) p (.tup [.ref g, .ref t])) o.ls (.lst (srefs.map V.ref ++ [.ref p]))) := frm_upd (Frm.of s1) (.inl (by simp))
    have npl : p ≠ o.ls := (ne_of_none hs hp1).symm
    have ntl : t ≠ o.ls := (ne_of_none hs ht).symm
    have B' : BAt K T.C o (upd (upd (upd H t (.tup (nL ws))) p (.tup [.ref g, .ref t])) o.ls (.lst (srefs.map V.ref ++ [.ref p]))) (steps ++ [(c, ws)]) tv cv c0 c1 mk := by
      refine ⟨?_, ⟨srefs ++ [p], by rw [upd_same]; simp, Paired.snoc (L2.Paired.mapP hp fun _ _ q => B.step f1 q) ⟨g, t, SqT.of ?_, B.tup f1 hG, SqT.of ?_⟩⟩, ?_, ?_, B.gates f1, B.ng, B.sc⟩
      · rw [upd_ne nb1]; exact s1 _ _ B.ob
      · rw [upd_ne npl, upd_same]
      · rw [upd_ne ntl, upd_ne (Ne.symm npt), upd_same]
      · rw [upd_ne B.sc.symm]; exact s1 _ _ B.co
      · rw [upd_ne nb4.symm]; exact s1 _ _ B.md
    obtain ⟨srefs', hs', hp'⟩ := id B'.st
    have hl' : srefs'.length = steps.length + 1 := by rw [hp'.length, List.length_append]; rfl
    refine ⟨_, rfl, o.b, T.C, o.dx, _, _, rfl, B'.ob, T.cl, T.n_inputs, bf_inputs .., _, rfl, o.b, T.C, o.dx, _, _, rfl, B'.ob, T.cl, T.n_steps, bf_steps .., o.ls, _, rfl, .inl (SqL.of hs'), _, _, rfl, rfl, _, _, rfl, rfl, ?_⟩
    have e : ((o.n : Int) + ((srefs'.map V.ref).length : Nat) - 1) = ((o.n + steps.length : Nat) : Int) := by
      rw [List.length_map, hl']; omega
    show Q (V.int ((o.n : Int) + ((srefs'.map V.ref).length : Nat) - 1)) _
    rw [e]
    exact q _ B' f1
theorem flat_rep (x : V) : ∀ k : Nat, (List.replicate k [x]).flatten = List.replicate k x
  | 0 => rfl
  | k + 1 => by rw [List.replicate_succ, List.flatten_cons, flat_rep x k, List.replicate_succ]; rfl
theorem rep_nL (x k : Nat) : List.replicate k (nV x) = nL (List.replicate k x) := by rw [nL, List.map_replicate]
def spAtOne (K : PySem.W.Frag) (C : Addr) : Sp := fun vs H Q _ => ∃ (o : BO) (steps : List Step) (tv cv c0 c1 : V) (mk : List (List Key × V)) (g : Addr) (c : Gate) (x : Nat), vs = [.ref o.b, .ref g, nV x] ∧
  BAt K C o H steps tv cv c0 c1 mk ∧ GateAt K H g c ∧ c.1 ≤ 4 ∧ steps.length ≤ 1000 ∧
  ∀ H' : Hp, BAt K C o H' (steps ++ [(c, List.replicate c.1 x)]) tv cv c0 c1 mk → Frm o.S H H' → Q (nV (o.n + steps.length)) H'
theorem ok_bat_one (T : Pg w K mg) : FnOk P w K mg base CX0 2 T.f_bat_one T.d_bat_one ["self", "gate", "wire"] (spAtOne K T.C) := by
  refine T.F_bat_one.ok sc_bat_one (fun vs H Q E h => ?_) (fun cdv A outer s H vs Q E hr h => ?_)
  · obtain ⟨o, _, _, _, _, _, _, g, _, x, rfl, _⟩ := h; rfl
  · obtain ⟨o, steps, tv, cv, c0, c1, mk, g, c, x, rfl, B, hG, hc, hlen, q⟩ := h
    refine ⟨_, (pss_one (ps_ret (pe_meth (pv 0) T.cl T.mt_blaid (ok_blaid T) (hr.mono (by decide)) T.b_blaid .nil pass0 (pa_cons (pv 1) (pa_cons (pe_op op_rep (pe_lst (pa_cons (pv 2) pa_nil)) (pe_ix ix_tup (pv 1) pe_int (fun _ _ => rfl))) pa_nil))))), ?_⟩
    refine ⟨_, rfl, o.b, o.dx, _, rfl, B.ob, bf_laid .., _, rfl, _, rfl, by show 1 ≤ sizeLine; decide, fun p hp => ?_⟩
    have s1 : Same H (upd H p (.lst [nV x])) := same_new hp
    refine ⟨_, rfl, g, _, _, _, rfl, rfl, sameT s1 hG, rfl, p, _, _, rfl, rfl, upd_same, by show -(2 ^ 63) ≤ (c.1 : Int); omega, by show (c.1 : Int) < 2 ^ 63; omega, by show 1 * _ ≤ sizeLine; rw [c_toNat]; exact small' (by omega), fun r hr0 => ?_⟩
    rw [c_toNat, flat_rep, rep_nL]
    have s2 : Same H (upd (upd H p (.lst [nV x])) r (.lst (nL (List.replicate c.1 x)))) := same_upd s1 (none_ne hr0).2
    exact ⟨o, steps, tv, cv, c0, c1, mk, g, r, c, _, rfl, B.same s2, sameT s2 hG, SqL.of upd_same, hlen, fun H' B' f => q H' B' ((Frm.of s2).trans f)⟩
end
end Gk

namespace Gk
open PySem L2
section
variable {P : Program} {w : World} {K : PySem.W.Frag} {mg : Str → Option Value} {base : Heap} {C : Addr}
def oV : Option Nat → V
  | none => .non
  | some x => nV x
/-- what stands at turner -/
def TurAt (K : PySem.W.Frag) (H : Hp) (S : List Addr) (tv : V) (c : Gate) (sl : List (Option Nat)) : Prop :=
  ∃ p g l, tv = .ref p ∧ SqT K H p [.ref g, .ref l] ∧ GateAt K H g c ∧ H l = some (.lst (sl.map oV)) ∧ l ∉ S
theorem TurAt.keep {o : BO} {H H' : Hp} {steps : List Step} {tv cv c0 c1 tv' : V} {mk : List (List Key × V)} {c : Gate} {sl : List (Option Nat)} (B : BAt K C o H steps tv cv c0 c1 mk) (f : Frm o.S H H') (h : TurAt K H o.S tv' c sl) : TurAt K H' o.S tv' c sl := by
  obtain ⟨p, g, l, e, h1, h2, h3, h4⟩ := h
  exact ⟨p, g, l, e, B.tup f h1, B.tup f h2, f _ _ h3 h4, h4⟩
theorem BAt.setC {o : BO} {H : Hp} {steps : List Step} {tv cv c0 c1 : V} {mk : List (List Key × V)} (B : BAt K C o H steps tv cv c0 c1 mk) (d0 d1 : V) :
    BAt K C o (upd H o.lc (.lst [d0, d1])) steps tv cv d0 d1 mk ∧ Frm o.S H (upd H o.lc (.lst [d0, d1])) := by
  obtain ⟨srefs, hs, hp⟩ := B.st
  obtain ⟨nb1, nb2, nb3, nb4, nb5⟩ := B.apart
  have f : Frm o.S H (upd H o.lc (.lst [d0, d1])) := frm_upd (Frm.refl _ _) (.inl (by simp))
  exact ⟨⟨by rw [upd_ne nb2]; exact B.ob, ⟨srefs, by rw [upd_ne B.sc]; exact hs, L2.Paired.mapP hp fun _ _ q => B.step f q⟩, upd_same, by rw [upd_ne nb5.symm]; exact B.md, B.gates f, B.ng, B.sc⟩, f⟩
theorem BAt.setB {o : BO} {H : Hp} {steps : List Step} {tv cv c0 c1 : V} {mk : List (List Key × V)} (B : BAt K C o H steps tv cv c0 c1 mk) (tv' cv' : V) :
    BAt K C o (upd H o.b (.ins C o.dx (bf o.lg o.ls o.lc o.dm (nV o.n) tv' cv'))) steps tv' cv' c0 c1 mk ∧ Frm o.S H (upd H o.b (.ins C o.dx (bf o.lg o.ls o.lc o.dm (nV o.n) tv' cv'))) := by
  obtain ⟨srefs, hs, hp⟩ := B.st
  obtain ⟨nb1, nb2, nb3, nb4, nb5⟩ := B.apart
  have f : Frm o.S H (upd H o.b (.ins C o.dx (bf o.lg o.ls o.lc o.dm (nV o.n) tv' cv'))) := frm_upd (Frm.refl _ _) (.inl (by simp))
  exact ⟨⟨upd_same, ⟨srefs, by rw [upd_ne nb1.symm]; exact hs, L2.Paired.mapP hp fun _ _ q => B.step f q⟩, by rw [upd_ne nb2.symm]; exact B.co, by rw [upd_ne nb3.symm]; exact B.md, B.gates f, B.ng, B.sc⟩, f⟩
theorem new_notin {o : BO} {H : Hp} {steps : List Step} {tv cv c0 c1 : V} {mk : List (List Key × V)} (B : BAt K C o H steps tv cv c0 c1 mk) {l : Addr} (h : H l = none) : l ∉ o.S := by
  obtain ⟨srefs, hs, _⟩ := B.st
  intro hl
  simp only [BO.S, List.mem_cons, List.not_mem_nil, or_false] at hl
  rcases hl with rfl | rfl | rfl | rfl
  · rw [B.ob] at h; cases h
  · rw [hs] at h; cases h
  · rw [B.co] at h; cases h
  · rw [B.md] at h; cases h
/-- an own dict changes -/
theorem frm_dict {H : Hp} {p : Addr} (k : List (Key × V)) : Frm [p] H (upd H p (.dK k)) := frm_upd (Frm.refl _ _) (.inl (by simp))
theorem not_tup {H : Hp} {p : Addr} {kvs : List (Key × V)} (h : H p = some (.dK kvs)) : ∀ b ∈ [p], ∀ ys, ¬ H b = some (.tup ys) ∧ ∀ o, ¬ H b = some (.frz o (.tup ys)) := fun b hb ys => by
  rw [List.mem_singleton] at hb; subst hb
  rw [h]; exact ⟨fun z => (by cases z), fun ob z => (by cases z)⟩
theorem seqL_dict {H : Hp} {p a : Addr} {kvs : List (Key × V)} {xs : List V} (h : H p = some (.dK kvs)) (k : List (Key × V)) (s : SqL K H a xs) : SqL K (upd H p (.dK k)) a xs := by
  rcases s with (s | ⟨ob, s⟩) | s
  · exact .inl (.inl (by rw [upd_ne (ne_of s h (by intro z; cases z))]; exact s))
  · exact .inl (.inr ⟨ob, by rw [upd_ne (ne_of s h (by intro z; cases z))]; exact s⟩)
  · exact .inr s
theorem BAt.dict {o : BO} {H : Hp} {steps : List Step} {tv cv c0 c1 : V} {mk : List (List Key × V)} (B : BAt K C o H steps tv cv c0 c1 mk) {p : Addr} {kvs : List (Key × V)} (h : H p = some (.dK kvs)) (k : List (Key × V)) :
    BAt K C o (upd H p (.dK k)) steps tv cv c0 c1 mk := by
  obtain ⟨srefs, hs, hp⟩ := B.st
  obtain ⟨refs, h1, h2⟩ := B.gl
  have tp : ∀ {a : Addr} {xs : List V}, SqT K H a xs → SqT K (upd H p (.dK k)) a xs := fun z => frmT (frm_dict k) (not_tup h) z
  refine ⟨by rw [upd_ne (ne_of B.ob h (by intro z; cases z))]; exact B.ob, ⟨srefs, by rw [upd_ne (ne_of hs h (by intro z; cases z))]; exact hs, L2.Paired.mapP hp fun _ _ ⟨g, t, x1, x2, x3⟩ => ⟨g, t, tp x1, tp x2, tp x3⟩⟩,
    by rw [upd_ne (ne_of B.co h (by intro z; cases z))]; exact B.co, by rw [upd_ne (ne_of B.md h (by intro z; cases z))]; exact B.md, ⟨refs, by rw [upd_ne (ne_of h1 h (by intro z; cases z))]; exact h1, L2.Paired.mapP h2 fun _ _ q => tp q⟩, B.ng, B.sc⟩
theorem TurAt.dict {S : List Addr} {H : Hp} {tv : V} {c : Gate} {sl : List (Option Nat)} (t : TurAt K H S tv c sl) {p : Addr} {kvs : List (Key × V)} (h : H p = some (.dK kvs)) (k : List (Key × V)) : TurAt K (upd H p (.dK k)) S tv c sl := by
  obtain ⟨a, g, l, e, h1, h2, h3, h4⟩ := t
  exact ⟨a, g, l, e, frmT (frm_dict k) (not_tup h) h1, frmT (frm_dict k) (not_tup h) h2, by rw [upd_ne (ne_of h3 h (by intro z; cases z))]; exact h3, h4⟩
theorem ix2 {v : Nat} (h : v ≤ 1) : ixN 2 (v : Int) = some v := by
  rcases (by omega : v = 0 ∨ v = 1) with rfl | rfl <;> rfl
theorem rep_none (k : Nat) : List.replicate k V.non = (List.replicate k (none : Option Nat)).map oV := by rw [List.map_replicate]; rfl
theorem rep_le {x k : Nat} (hx : x ≤ 1) : ∀ b ∈ List.replicate k x, b ≤ 1 := fun b hb => by rw [List.eq_of_mem_replicate hb]; exact hx
/-! ends -/
def spEnds (K : PySem.W.Frag) (C : Addr) : Sp := fun vs H Q _ => ∃ (o : BO) (steps : List Step) (tv cv c0 c1 : V) (mk : List (List Key × V)) (g : Addr) (c : Gate), vs = [.ref o.b, .ref g] ∧
  BAt K C o H steps tv cv c0 c1 mk ∧ GateAt K H g c ∧ c.1 ≤ 4 ∧ steps.length ≤ 1000 ∧
  (gv c (List.replicate c.1 0) = gv c (List.replicate c.1 1) → ∀ (H' : Hp) (d0 d1 : V), [d0, d1] = [c0, c1].set (gv c (List.replicate c.1 0)) (nV (o.n + steps.length)) →
    BAt K C o H' (steps ++ [(c, List.replicate c.1 0)]) tv cv d0 d1 mk → Frm o.S H H' → Q .non H') ∧
  (¬ gv c (List.replicate c.1 0) = gv c (List.replicate c.1 1) → ∀ (H' : Hp) (tv' : V), BAt K C o H' steps tv' cv c0 c1 mk → TurAt K H' o.S tv' c (List.replicate c.1 none) → Frm o.S H H' → Q .non H')
theorem ok_bends (T : Pg w K mg) : FnOk P w K mg base CX0 3 T.f_bends T.d_bends ["self", "gate"] (spEnds K T.C) := by
  refine T.F_bends.ok sc_bends (fun vs H Q E h => ?_) (fun cdv A outer s H vs Q E hr h => ?_)
  · obtain ⟨o, _, _, _, _, _, _, g, c, rfl, _⟩ := h; rfl
  · obtain ⟨o, steps, tv, cv, c0, c1, mk, g, c, rfl, B, hG, hc, hlen, q1, q2⟩ := h
    refine ⟨_, (pss_cons (ps_set (i := 2) sc_bends.nd rfl (by first | exact Or.inl rfl | exact Or.inr rfl) (pe_call (ok_value T) (hr.mono (by decide)) (by rfl) T.m_value T.F_value.kp T.b_value .nil pass0 (pa_cons (pv 1) (pa_cons (pe_op op_rep (pe_lst (pa_cons pe_int pa_nil)) (pe_ix ix_tup (pv 1) pe_int (fun _ _ => rfl))) pa_nil))))
  (pss_one (ps_if (pt_cmpR op_eq (pv 2) (pe_call (ok_value T) (hr.mono (by decide)) (by rfl) T.m_value T.F_value.kp T.b_value .nil pass0 (pa_cons (pv 1) (pa_cons (pe_op op_rep (pe_lst (pa_cons pe_int pa_nil)) (pe_ix ix_tup (pv 1) pe_int (fun _ _ => rfl))) pa_nil))) (nomark _)) (pss_one (ps_asg (pe_meth (pv 0) T.cl T.mt_bat_one (ok_bat_one T) (hr.mono (by decide)) T.b_bat_one .nil pass0 (pa_cons (pv 1) (pa_cons pe_int pa_nil))) (pg_sub (pe_fld (pv 0) rfl) (pv 2) set_list))) (pss_one (ps_fld (pv 0) (pe_tup (pa_cons (pv 1) (pa_cons (pe_op op_rep (pe_lst (pa_cons pe_non pa_nil)) (pe_ix ix_tup (pv 1) pe_int (fun _ _ => rfl))) pa_nil))) rfl))))), ?_⟩
    refine ⟨_, rfl, by show 1 ≤ sizeLine; decide, fun p hp => ?_⟩
    have s1 : Same H (upd H p (.lst [V.int 0])) := same_new hp
    refine ⟨_, rfl, g, _, _, _, rfl, rfl, sameT s1 hG, rfl, p, _, _, rfl, rfl, upd_same, by show -(2 ^ 63) ≤ (c.1 : Int); omega, by show (c.1 : Int) < 2 ^ 63; omega, by show 1 * _ ≤ sizeLine; rw [c_toNat]; exact small' (by omega), fun r hr0 => ?_⟩
    rw [c_toNat, flat_rep, show List.replicate c.1 (V.int 0) = _ from rep_nL 0 c.1]
    have s2 : Same H (upd (upd H p (.lst [V.int 0])) r (.lst (nL (List.replicate c.1 0)))) := same_upd s1 (none_ne hr0).2
    refine ⟨g, r, c, _, rfl, sameT s2 hG, SqL.of upd_same, by rw [List.length_replicate]; omega, rep_le (by omega), ?_⟩
    generalize upd (upd H p (.lst [V.int 0])) r (.lst (nL (List.replicate c.1 0))) = H2 at s2
    -- the other value
    refine ⟨_, rfl, _, rfl, by show 1 ≤ sizeLine; decide, fun p hp => ?_⟩
    have s3 : Same H (upd H2 p (.lst [V.int 1])) := same_upd s2 (s2.free hp)
    refine ⟨_, rfl, g, _, _, _, rfl, rfl, sameT s3 hG, rfl, p, _, _, rfl, rfl, upd_same, by show -(2 ^ 63) ≤ (c.1 : Int); omega, by show (c.1 : Int) < 2 ^ 63; omega, by show 1 * _ ≤ sizeLine; rw [c_toNat]; exact small' (by omega), fun r hr0 => ?_⟩
    rw [c_toNat, flat_rep, show List.replicate c.1 (V.int 1) = _ from rep_nL 1 c.1]
    have s4 : Same H (upd (upd H2 p (.lst [V.int 1])) r (.lst (nL (List.replicate c.1 1)))) := same_upd s3 (s3.free hr0)
    refine ⟨g, r, c, _, rfl, sameT s4 hG, SqL.of upd_same, by rw [List.length_replicate]; omega, rep_le (by omega), ?_⟩
    generalize upd (upd H2 p (.lst [V.int 1])) r (.lst (nL (List.replicate c.1 1))) = H3 at s4
    refine ⟨rfl, _, rfl, ?_⟩
    have hle := gv_le c (List.replicate c.1 0)
    have B3 := B.same s4
    rw [dec_nat]
    refine ite2 (fun h => ?_) (fun h => ?_)
    · have h := of_decide_eq_true h
      refine ⟨_, rfl, o.b, o.dx, _, rfl, B3.ob, bf_at_one .., _, rfl, o, steps, tv, cv, c0, c1, mk, g, c, 0, rfl, B3, sameT s4 hG, hc, hlen, fun H4 B4 f4 => ?_⟩
      refine ⟨_, rfl, o.b, T.C, o.dx, _, _, rfl, B4.ob, T.cl, T.n_constants, bf_constants .., _, rfl, o.lc, _, _, gv c (List.replicate c.1 0), rfl, rfl, B4.co, ix2 hle, ?_⟩
      obtain ⟨d0, d1, e⟩ : ∃ d0 d1, [c0, c1].set (gv c (List.replicate c.1 0)) (nV (o.n + steps.length)) = [d0, d1] := by
        rcases (by omega : gv c (List.replicate c.1 0) = 0 ∨ gv c (List.replicate c.1 0) = 1) with z | z <;> rw [z] <;> exact ⟨_, _, rfl⟩
      rw [e]
      obtain ⟨B5, f5⟩ := B4.setC d0 d1
      exact q1 h _ d0 d1 e.symm B5 (((Frm.of s4).trans f4).trans f5)
    · have h : ¬ gv c (List.replicate c.1 0) = gv c (List.replicate c.1 1) := fun z => h (decide_eq_true z)
      refine ⟨_, rfl, by show 1 ≤ sizeLine; decide, fun p hp => ?_⟩
      have s5 : Same H3 (upd H3 p (.lst [V.non])) := same_new hp
      refine ⟨_, rfl, g, _, _, _, rfl, rfl, sameT (s4.trans s5) hG, rfl, p, _, _, rfl, rfl, upd_same, by show -(2 ^ 63) ≤ (c.1 : Int); omega, by show (c.1 : Int) < 2 ^ 63; omega, by show 1 * _ ≤ sizeLine; rw [c_toNat]; exact small' (by omega), fun l hl => ?_⟩
      rw [c_toNat, flat_rep, rep_none]
      have hl0 : H3 l = none := s5.free hl
      have s6 : Same H3 (upd (upd H3 p (.lst [V.non])) l (.lst ((List.replicate c.1 none).map oV))) := same_upd s5 hl0
      refine ⟨by show 2 ≤ sizeLine; decide, fun t ht => ?_⟩
      have ht0 : H3 t = none := s6.free ht
      have s7 : Same H3 (upd (upd (upd H3 p (.lst [V.non])) l (.lst ((List.replicate c.1 none).map oV))) t (.tup [.ref g, .ref l])) := same_upd s6 ht0
      have ntl : l ≠ t := (none_ne ht).1.symm
      have tt : TurAt K (upd (upd (upd H3 p (.lst [V.non])) l (.lst ((List.replicate c.1 none).map oV))) t (.tup [.ref g, .ref l])) o.S (.ref t) c (List.replicate c.1 none) :=
        ⟨t, g, l, rfl, SqT.of upd_same, sameT (s4.trans s7) hG, (by rw [upd_ne ntl, upd_same]), new_notin B3 hl0⟩
      generalize upd (upd (upd H3 p (.lst [V.non])) l (.lst ((List.replicate c.1 none).map oV))) t (.tup [.ref g, .ref l]) = H4 at s7 tt
      have B4 := B3.same s7
      refine ⟨_, rfl, o.b, T.C, o.dx, _, rfl, B4.ob, T.cl, T.n_turner, bf_len .., ?_⟩
      rw [bf_set_turner]
      obtain ⟨B5, f5⟩ := B4.setB (.ref t) cv
      exact q2 h _ _ B5 (tt.keep B4 f5) ((Frm.of (s4.trans s7)).trans f5)
/-! exchanged -/
def spExch (K : PySem.W.Frag) (C : Addr) : Sp := fun vs H Q _ => ∃ (o : BO) (steps : List Step) (tv cv c0 c1 : V) (mk : List (List Key × V)) (c : Gate) (sl : List (Option Nat)) (x : Nat), vs = [.ref o.b, nV x] ∧
  BAt K C o H steps tv cv c0 c1 mk ∧ TurAt K H o.S tv c sl ∧ sl.length ≤ 100 ∧ steps.length ≤ 1000 ∧
  ∀ H' : Hp, BAt K C o H' (steps ++ [(c, fillW sl x)]) tv cv c0 c1 mk → Frm o.S H H' → Q (nV (o.n + steps.length)) H'
theorem ok_bexchanged (T : Pg w K mg) : FnOk P w K mg base CX0 2 T.f_bexchanged T.d_bexchanged ["self", "wire"] (spExch K T.C) := by
  refine T.F_bexchanged.ok sc_bexchanged (fun vs H Q E h => ?_) (fun cdv A outer s H vs Q E hr h => ?_)
  · obtain ⟨o, _, _, _, _, _, _, _, _, x, rfl, _⟩ := h; rfl
  · obtain ⟨o, steps, tv, cv, c0, c1, mk, c, sl, x, rfl, B, ⟨p, g, l, rfl, hP, hG, hL, hnl⟩, hsl, hlen, q⟩ := h
    refine ⟨_, (pss_cons (ps_asg (pe_fld (pv 0) rfl) (pg_tup (by rfl) (pgs_cons (pg_name (i := 2) sc_bexchanged.nd rfl (by first | exact Or.inl rfl | exact Or.inr rfl)) (pgs_cons (pg_name (i := 3) sc_bexchanged.nd rfl (by first | exact Or.inl rfl | exact Or.inr rfl)) pgs_nil))))
  (pss_one (ps_ret (pe_meth (pv 0) T.cl T.mt_blaid (ok_blaid T) (hr.mono (by decide)) T.b_blaid .nil pass0 (pa_cons (pv 2) (pa_cons (pe_lc (own := [("one", 4)]) (g := gName 4) (tt := tYes) rfl sc_bexchanged.nd (pi_list (pv 3)) (blkOk_by (by rfl)) (fun _ _ _ _ _ => (pg_name (i := 4) sc_bexchanged.nd rfl (by first | exact Or.inl rfl | exact Or.inr rfl))) (fun _ _ _ _ _ => pts_nil) (fun _ _ _ _ _ => (pe_ix (r := rIxL K) ix_list (pe_lst (pa_cons (pv 4) (pa_cons (pv 1) pa_nil))) (pe_callTy call_int1 (by rfl) T.z_int (by decide +kernel) (pa_cons (pe_cmpR op_isN (pv 4) pe_non (nomark _)) pa_nil)) (fun _ _ => rfl)))) pa_nil)))))), ?_⟩
    refine ⟨_, rfl, o.b, T.C, o.dx, _, _, rfl, B.ob, T.cl, T.n_turner, bf_turner .., p, _, rfl, hP, rfl, _, _, rfl, _, _, rfl, rfl, ?_⟩
    refine ⟨_, rfl, o.b, o.dx, _, rfl, B.ob, bf_laid .., _, rfl, _, rfl, l, rfl, ⟨_, SqL.of hL⟩, fun D hD => lc_list (K := K) (a := l) (xs := sl.map oV) (fun k H' => Same H H' ∧ H' D = some (.lst (nL (fillW (sl.take k) x))))
      ⟨same_new hD, upd_same⟩ (fun k H' _ h => SqL.of (h.1 _ _ hL)) ?_ ?_⟩
    · rintro k y H' hy ⟨s1, hD1⟩
      rw [List.getElem?_map] at hy
      obtain ⟨ov, ho, rfl⟩ := Option.map_eq_some_iff.mp hy
      have hk : k < sl.length := (List.getElem?_eq_some_iff.mp ho).1
      refine ⟨rfl, yes_ ?_⟩
      refine ⟨_, rfl, _, rfl, by show 2 ≤ sizeLine; decide, fun a ha => ?_⟩
      have s2 : Same H' (upd H' a (.lst [oV ov, nV x])) := same_new ha
      refine ⟨_, rfl, rfl, .inr ⟨_, rfl, a, _, _, nV (ov.getD x), rfl, rfl, SqL.of upd_same, ?_, ?_⟩⟩
      · cases ov with
        | none => rfl
        | some z => rfl
      · refine ⟨_, s2 _ _ hD1, ?_, same_upd (s1.trans s2) hD, ?_⟩
        · rw [nL_len, fillW, List.length_map, List.length_take]; exact small (by omega)
        · rw [upd_same, nL_snoc, List.take_add_one, ho]; simp [fillW]
    · rintro H' ⟨s1, hD1⟩
      rw [List.length_map, List.take_length] at hD1
      exact ⟨o, steps, _, cv, c0, c1, mk, g, D, c, _, rfl, B.same s1, sameT s1 hG, SqL.of hD1, hlen, fun H2 B2 f2 => q H2 B2 ((Frm.of s1).trans f2)⟩
end
end Gk

namespace Gk
open PySem L2
section
variable {P : Program} {w : World} {K : PySem.W.Frag} {mg : Str → Option Value} {base : Heap} {C : Addr}
def riseD (a c : V) : List (Key × V) := mergeK [] [(.inl 0, a), (.inl 2, .non), (.inl 3, c)]
theorem riseD_at (w0 w1 : Nat) {r : Nat} (h : r ∈ [0, 2, 3]) : valV (riseD (nV w0) (nV w1)) (.inl (r : Int)) = some (oV (riseW w0 w1 r)) := by
  simp only [List.mem_cons, List.not_mem_nil, or_false] at h
  rcases h with rfl | rfl | rfl <;> rfl
def spRise (K : PySem.W.Frag) (C : Addr) : Sp := fun vs H Q _ => ∃ (o : BO) (steps : List Step) (tv cv : V) (w0 w1 : Nat) (mk : List (List Key × V)) (g l : Addr) (c : Gate) (rs : List Nat), vs = [.ref o.b, .ref g, .ref l] ∧
  BAt K C o H steps tv cv (nV w0) (nV w1) mk ∧ GateAt K H g c ∧ SqL K H l (nL rs) ∧ (∀ x ∈ rs, x ∈ [0, 2, 3]) ∧ rs.length ≤ 100 ∧
  ∀ (H' : Hp) (tv' : V), BAt K C o H' steps tv' cv (nV w0) (nV w1) mk → TurAt K H' o.S tv' c (rs.map (riseW w0 w1)) → Frm o.S H H' → Q .non H'
theorem ok_bby_rise (T : Pg w K mg) : FnOk P w K mg base CX0 1 T.f_bby_rise T.d_bby_rise ["self", "gate", "rows"] (spRise K T.C) := by
  refine T.F_bby_rise.ok sc_bby_rise (fun vs H Q E h => ?_) (fun cdv A outer s H vs Q E hr h => ?_)
  · obtain ⟨o, _, _, _, _, _, _, g, l, _, _, rfl, _⟩ := h; rfl
  · obtain ⟨o, steps, tv, cv, w0, w1, mk, g, l, c, rs, rfl, B, hG, hL, hrs, hlen, q⟩ := h
    have hu := hu_of hr
    refine ⟨_, (pss_cons (ps_set (i := 3) sc_bby_rise.nd rfl (by first | exact Or.inl rfl | exact Or.inr rfl) (pe_disp (pps_cons pe_int (pe_ix ix_list (pe_fld (pv 0) rfl) pe_int (fun _ _ => rfl)) (pps_cons pe_int pe_non (pps_cons pe_int (pe_ix ix_list (pe_fld (pv 0) rfl) pe_int (fun _ _ => rfl)) pps_nil))) (by rfl) (by rfl) (fun z => by cases z) (by decide)))
  (pss_one (ps_fld (pv 0) (pe_tup (pa_cons (pv 1) (pa_cons (pe_lc (own := [("row", 4)]) (g := gName 4) (tt := tYes) rfl sc_bby_rise.nd (pi_list (pv 2)) (blkOk_by (by rfl)) (fun _ _ _ _ _ => (pg_name (i := 4) sc_bby_rise.nd rfl (by first | exact Or.inl rfl | exact Or.inr rfl))) (fun _ _ _ _ _ => pts_nil) (fun _ _ _ _ _ => (pe_dget hu (pv 3) (pv 4) (fun _ _ => rfl)))) pa_nil))) rfl))), ?_⟩
    intro p hp
    have s1 : Same H (upd H p (.dK [])) := same_new hp
    have B1 := B.same s1
    refine ⟨_, rfl, o.b, T.C, o.dx, _, _, rfl, B1.ob, T.cl, T.n_constants, bf_constants .., o.lc, _, _, _, rfl, rfl, SqL.of B1.co, rfl, ?_⟩
    refine ⟨_, rfl, o.b, T.C, o.dx, _, _, rfl, B1.ob, T.cl, T.n_constants, bf_constants .., o.lc, _, _, _, rfl, rfl, SqL.of B1.co, rfl, ?_⟩
    refine ⟨upd_same, [(.inl 0, nV w0), (.inl 2, .non), (.inl 3, nV w1)], rfl, by show 3 ≤ 15; decide, ?_⟩
    rw [upd_upd]
    show _
    have s2 : Same H (upd H p (.dK (riseD (nV w0) (nV w1)))) := same_new hp
    have hd2 : upd H p (.dK (riseD (nV w0) (nV w1))) p = some (.dK (riseD (nV w0) (nV w1))) := upd_same
    refine ⟨_, rfl, _, rfl, l, rfl, ⟨_, s2.seq hL⟩, fun D hD => lc_list (K := K) (a := l) (xs := nL rs) (fun k H' => Same H H' ∧ H' p = some (.dK (riseD (nV w0) (nV w1))) ∧ H' D = some (.lst (((rs.take k).map (riseW w0 w1)).map oV)))
      ⟨same_upd s2 (none_ne hD).2, by rw [upd_ne (none_ne hD).1.symm]; exact hd2, upd_same⟩ (fun k H' _ h => h.1.seq hL) ?_ ?_⟩
    · rintro k y H' hy ⟨s3, hp3, hD3⟩
      obtain ⟨hk, _⟩ := List.getElem?_eq_some_iff.mp hy
      obtain ⟨x, hx, xm, hx2, hk2⟩ := nL_lt hk
      rw [hx2] at hy; cases hy
      refine ⟨rfl, yes_ ?_⟩
      have g3 := DGet.k (k := .inl (x : Int)) hp3
      rw [riseD_at w0 w1 (hrs x xm)] at g3
      refine ⟨_, rfl, _, rfl, p, _, rfl, g3, ?_⟩
      refine ⟨_, hD3, ?_, same_upd s3 (none_ne hD).2, ?_, ?_⟩
      · rw [List.length_map, List.length_map, List.length_take]; exact small (by omega)
      · rw [upd_ne (none_ne hD).1.symm]; exact hp3
      · rw [upd_same, List.take_add_one, hx]; simp
    · rintro H' ⟨s3, hp3, hD3⟩
      rw [nL_len, List.take_length] at hD3
      refine ⟨by show 2 ≤ sizeLine; decide, fun t ht => ?_⟩
      have s4 : Same H (upd H' t (.tup [.ref g, .ref D])) := same_upd s3 (s3.free ht)
      have nDt : D ≠ t := ne_of_none hD3 ht
      have B4 := B.same s4
      have tt : TurAt K (upd H' t (.tup [.ref g, .ref D])) o.S (.ref t) c (rs.map (riseW w0 w1)) :=
        ⟨t, g, D, rfl, SqT.of upd_same, sameT s4 hG, (by rw [upd_ne nDt]; exact hD3), new_notin B (none_ne hD).2⟩
      refine ⟨_, rfl, o.b, T.C, o.dx, _, rfl, B4.ob, T.cl, T.n_turner, bf_len .., ?_⟩
      rw [bf_set_turner]
      obtain ⟨B5, f5⟩ := B4.setB (.ref t) cv
      exact q _ _ B5 (tt.keep B4 f5) ((Frm.of s4).trans f5)
def turnD (a : V) : List (Key × V) := mergeK [] [(.inl 1, .int 0), (.inl 2, a)]
theorem turnD_at (e0 : Nat) {r : Nat} (h : r ∈ [1, 2]) : valV (turnD (nV e0)) (.inl (r : Int)) = some (nV (turnW e0 r)) := by
  simp only [List.mem_cons, List.not_mem_nil, or_false] at h
  rcases h with rfl | rfl <;> rfl
theorem c_and1 (x : Nat) : Builtin.bitAnd (x : Int) 1 = ((x % 2 : Nat) : Int) := by rw [PyProof.Rows.bitAnd_m1]; exact (Int.natCast_emod x 2).symm
def spTurn (K : PySem.W.Frag) (C : Addr) : Sp := fun vs H Q _ => ∃ (o : BO) (steps : List Step) (tv cv c0 c1 : V) (mk : List (List Key × V)) (g l : Addr) (c c' : Gate) (sl : List (Option Nat)) (rs : List Nat), vs = [.ref o.b, .ref g, .ref l] ∧
  BAt K C o H steps tv cv c0 c1 mk ∧ TurAt K H o.S tv c' sl ∧ sl.length ≤ 100 ∧ GateAt K H g c ∧ SqL K H l (nL rs) ∧ l ∉ o.S ∧ (∀ x ∈ rs, x ∈ [1, 2]) ∧ rs.length ≤ 100 ∧ steps.length ≤ 900 ∧
  ∀ (H' : Hp) (d0 d1 : V), [d0, d1] = ([c0, c1].set (gv c (rs.map (· % 2))) (nV (o.n + steps.length + 1))).set (1 - gv c (rs.map (· % 2))) (nV (o.n + steps.length + 2)) →
    BAt K C o H' (((steps ++ [(c', fillW sl 0)]) ++ [(c, rs.map (turnW (o.n + steps.length)))]) ++ [(c', fillW sl (o.n + steps.length + 1))]) tv cv d0 d1 mk → Frm o.S H H' → Q .non H'
theorem ok_bby_turn (T : Pg w K mg) : FnOk P w K mg base CX0 3 T.f_bby_turn T.d_bby_turn ["self", "gate", "rows"] (spTurn K T.C) := by
  refine T.F_bby_turn.ok sc_bby_turn (fun vs H Q E h => ?_) (fun cdv A outer s H vs Q E hr h => ?_)
  · obtain ⟨o, _, _, _, _, _, _, g, l, _, _, _, _, rfl, _⟩ := h; rfl
  · obtain ⟨o, steps, tv, cv, c0, c1, mk, g, l, c, c', sl, rs, rfl, B, tt, hsl, hG, hL, hlS, hrs, hlen, hst, q⟩ := h
    have hu := hu_of hr
    refine ⟨_, (pss_cons (ps_set (i := 3) sc_bby_turn.nd rfl (by first | exact Or.inl rfl | exact Or.inr rfl) (pe_disp (pps_cons pe_int pe_int (pps_cons pe_int (pe_meth (pv 0) T.cl T.mt_bexchanged (ok_bexchanged T) (hr.mono (by decide)) T.b_bexchanged .nil pass0 (pa_cons pe_int pa_nil)) pps_nil)) (by rfl) (by rfl) (fun z => by cases z) (by decide)))
  (pss_cons (ps_set (i := 4) sc_bby_turn.nd rfl (by first | exact Or.inl rfl | exact Or.inr rfl) (pe_callB (cr_sum rfl) (by rfl) T.z_sum (by decide +kernel) (pa_cons (pe_lc (own := [("k", 6), ("row", 7)]) (g := gTup K 2 (gCons (gName 6) (gCons (gName 7) gNil))) (tt := tYes) rfl sc_bby_turn.nd (pi_enum (by rfl) T.z_enumerate (pa_cons (pv 2) pa_nil)) (blkOk_by (by rfl)) (fun _ _ _ _ _ => (pg_tup (by rfl) (pgs_cons (pg_name (i := 6) sc_bby_turn.nd rfl (by first | exact Or.inl rfl | exact Or.inr rfl)) (pgs_cons (pg_name (i := 7) sc_bby_turn.nd rfl (by first | exact Or.inl rfl | exact Or.inr rfl)) pgs_nil)))) (fun _ _ _ _ _ => pts_nil) (fun _ _ _ _ _ => (pe_op op_shl (pe_op op_and (pv 7) pe_int) (pv 6)))) pa_nil)))
  (pss_cons (ps_set (i := 5) sc_bby_turn.nd rfl (by first | exact Or.inl rfl | exact Or.inr rfl) (pe_op op_and (pe_op op_shr (pe_ix ix_tup (pv 1) pe_int (fun _ _ => rfl)) (pv 4)) pe_int))
  (pss_cons (ps_asg (pe_meth (pv 0) T.cl T.mt_blaid (ok_blaid T) (hr.mono (by decide)) T.b_blaid .nil pass0 (pa_cons (pv 1) (pa_cons (pe_lc (own := [("row", 7)]) (g := gName 7) (tt := tYes) rfl sc_bby_turn.nd (pi_list (pv 2)) (blkOk_by (by rfl)) (fun _ _ _ _ _ => (pg_name (i := 7) sc_bby_turn.nd rfl (by first | exact Or.inl rfl | exact Or.inr rfl))) (fun _ _ _ _ _ => pts_nil) (fun _ _ _ _ _ => (pe_dget hu (pv 3) (pv 7) (fun _ _ => rfl)))) pa_nil))) (pg_sub (pe_fld (pv 0) rfl) (pv 5) set_list))
  (pss_one (ps_asg (pe_meth (pv 0) T.cl T.mt_bexchanged (ok_bexchanged T) (hr.mono (by decide)) T.b_bexchanged .nil pass0 (pa_cons (pe_ix ix_list (pe_fld (pv 0) rfl) (pv 5) (fun _ _ => rfl)) pa_nil)) (pg_sub (pe_fld (pv 0) rfl) (pe_op op_sub pe_int (pv 5)) set_list))))))), ?_⟩
    intro p hp
    have s1 : Same H (upd H p (.dK [])) := same_new hp
    have B1 := B.same s1
    have npS := new_notin B hp
    refine ⟨_, rfl, o.b, o.dx, _, rfl, B1.ob, bf_exchanged .., o, steps, tv, cv, c0, c1, mk, c', sl, 0, rfl, B1, tt.keep B (Frm.of s1), hsl, by omega, fun H2 B2 f2 => ?_⟩
    have f12 : Frm o.S H H2 := (Frm.of s1).trans f2
    refine ⟨f2 _ _ upd_same npS, [(.inl 1, .int 0), (.inl 2, nV (o.n + steps.length))], rfl, by show 2 ≤ 15; decide, ?_⟩
    have hp2 : H2 p = some (.dK []) := f2 _ _ upd_same npS
    -- behind the dict
    have B3 := B2.dict hp2 (turnD (nV (o.n + steps.length)))
    have tt3 : TurAt K (upd H2 p (.dK (turnD (nV (o.n + steps.length))))) o.S tv c' sl := (tt.keep B f12).dict hp2 _
    have f3 : Frm o.S H (upd H2 p (.dK (turnD (nV (o.n + steps.length))))) := frm_upd f12 (.inr hp)
    have hp3 : upd H2 p (.dK (turnD (nV (o.n + steps.length)))) p = some (.dK (turnD (nV (o.n + steps.length)))) := upd_same
    show tSeq _ _ _ _ (upd H2 p (.dK (turnD (nV (o.n + steps.length)))))
    generalize upd H2 p (.dK (turnD (nV (o.n + steps.length)))) = H3 at B3 tt3 f3 hp3
    have hL3 : SqL K H3 l (nL rs) := frmL f3 hlS hL
    -- the number
    refine ⟨_, rfl, l, _, rfl, hL3, fun D hD => pure_enum (f := fun k x => (x % 2) * 2 ^ k) walk_enum (fun H h => h.seq hL3) hD (by omega) (fun k x H4 Tp R N hx s4 hT4 hR => ?_) (fun H4 s4 hD4 => ?_)⟩
    · refine ⟨Tp, _, rfl, SqT.of hT4, rfl, _, _, rfl, _, _, rfl, rfl, rfl, yes_ ?_⟩
      have hk := (List.getElem?_eq_some_iff.mp hx).1
      refine ⟨_, rfl, _, _, rfl, rfl, _, rfl, _, _, rfl, rfl, ?_, ?_⟩
      · rw [c_and1]; exact cpow (by omega) (by omega)
      · dsimp only
        rw [c_and1, c_shl]
        exact hR
    rw [nL_ints] at hD4
    refine ⟨D, _, rfl, SqL.of hD4, ?_⟩
    rw [sum_ints]
    have en : ((List.range rs.length).map fun k => (rs.getD k 0 % 2) * 2 ^ k).sum = numOf (rs.map (· % 2)) := by
      have := sum_enum (rs.map (· % 2)) (fun k => (rs.getD k 0 % 2) * 2 ^ k) fun k hk => by
        rw [List.length_map] at hk
        rw [List.getD_eq_getElem?_getD, List.getD_eq_getElem?_getD, List.getElem?_map, List.getElem?_eq_getElem hk]; rfl
      rw [List.length_map] at this
      exact this
    rw [en]
    have f4 : Frm o.S H H4 := f3.trans (Frm.of s4)
    have B4 := B3.same s4
    have tt4 := tt3.keep B3 (Frm.of s4)
    have hp4 := s4 _ _ hp3
    have hG4 := B.tup f4 hG
    have hL4 : SqL K H4 l (nL rs) := frmL f4 hlS hL
    -- the constant
    refine ⟨_, rfl, g, _, _, _, rfl, rfl, hG4, rfl, _, rfl, _, _, rfl, rfl, Int.natCast_nonneg _, _, _, rfl, rfl, ?_⟩
    dsimp only
    rw [c_bit]
    show tSeq _ _ _ (List.set _ 5 (some (nV (gv c (rs.map (· % 2)))))) H4
    have hv := gv_le c (rs.map (· % 2))
    generalize hvv : gv c (rs.map (· % 2)) = v at hv q
    -- self.constants[constant] = self.laid(gate, [wires[row] for row in rows])
    refine ⟨_, rfl, o.b, o.dx, _, rfl, B4.ob, bf_laid .., _, rfl, _, rfl, l, rfl, ⟨_, hL4⟩, fun D2 hD2 => lc_list (K := K) (a := l) (xs := nL rs) (fun k H' => Same H4 H' ∧ H' D2 = some (.lst (nL ((rs.take k).map (turnW (o.n + steps.length))))))
      ⟨same_new hD2, upd_same⟩ (fun k H' _ h => h.1.seq hL4) ?_ ?_⟩
    · rintro k y H' hy ⟨s5, hD5⟩
      obtain ⟨hk, _⟩ := List.getElem?_eq_some_iff.mp hy
      obtain ⟨x, hx, xm, hx2, hk2⟩ := nL_lt hk
      rw [hx2] at hy; cases hy
      refine ⟨rfl, yes_ ?_⟩
      have g5 := DGet.k (k := .inl (x : Int)) (s5 _ _ hp4)
      rw [turnD_at _ (hrs x xm)] at g5
      refine ⟨_, rfl, _, rfl, p, _, rfl, g5, ?_⟩
      refine ⟨_, hD5, ?_, same_upd s5 hD2, ?_⟩
      · rw [nL_len, List.length_map, List.length_take]; exact small (by omega)
      · rw [upd_same, nL_snoc, List.take_add_one, hx]; simp
    · rintro H5 ⟨s5, hD5⟩
      rw [nL_len, List.take_length] at hD5
      have B5 := B4.same s5
      refine ⟨o, _, tv, cv, c0, c1, mk, g, D2, c, _, rfl, B5, sameT s5 hG4, SqL.of hD5, by rw [List.length_append, List.length_singleton]; omega, fun H6 B6 f6 => ?_⟩
      have f46 : Frm o.S H4 H6 := (Frm.of s5).trans f6
      have hv2 := ix2 hv
      refine ⟨_, rfl, o.b, T.C, o.dx, _, _, rfl, B6.ob, T.cl, T.n_constants, bf_constants .., _, rfl, o.lc, _, _, v, rfl, rfl, B6.co, hv2, ?_⟩
      obtain ⟨d0, d1, ed⟩ : ∃ d0 d1, [c0, c1].set v (nV (o.n + (steps ++ [(c', fillW sl 0)]).length)) = [d0, d1] := by
        rcases (by omega : v = 0 ∨ v = 1) with rfl | rfl <;> exact ⟨_, _, rfl⟩
      rw [ed]
      obtain ⟨B7, f7⟩ := B6.setC d0 d1
      have tt7 := (tt4.keep B4 f46).keep B6 f7
      generalize upd H6 o.lc (.lst [d0, d1]) = H7 at B7 f7 tt7
      have hdv : [d0, d1][v]? = some (nV (o.n + (steps ++ [(c', fillW sl 0)]).length)) := by
        rw [← ed]
        rcases (by omega : v = 0 ∨ v = 1) with rfl | rfl <;> rfl
      -- self.constants[1 - constant] = self.exchanged(self.constants[constant])
      refine ⟨_, rfl, o.b, o.dx, _, rfl, B7.ob, bf_exchanged .., _, rfl, o.b, T.C, o.dx, _, _, rfl, B7.ob, T.cl, T.n_constants, bf_constants .., _, rfl, o.lc, _, _, _, rfl, rfl, SqL.of B7.co, atI_nat hdv,
        o, _, tv, cv, d0, d1, mk, c', sl, _, rfl, B7, tt7, hsl, by simp only [List.length_append, List.length_singleton]; omega, fun H8 B8 f8 => ?_⟩
      have e1v : (1 : Int) - (v : Int) = ((1 - v : Nat) : Int) := by omega
      have hv3 := ix2 (v := 1 - v) (by omega)
      rw [← e1v] at hv3
      refine ⟨_, rfl, o.b, T.C, o.dx, _, _, rfl, B8.ob, T.cl, T.n_constants, bf_constants .., _, rfl, _, _, rfl, rfl, o.lc, _, _, 1 - v, rfl, rfl, B8.co, hv3, ?_⟩
      obtain ⟨e0, e1, ee⟩ : ∃ e0 e1, [d0, d1].set (1 - v) (nV (o.n + ((steps ++ [(c', fillW sl 0)]) ++ [(c, rs.map (turnW (o.n + steps.length)))]).length)) = [e0, e1] := by
        rcases (by omega : v = 0 ∨ v = 1) with rfl | rfl <;> exact ⟨_, _, rfl⟩
      rw [ee]
      obtain ⟨B9, f9⟩ := B8.setC e0 e1
      have ln1 : o.n + (steps ++ [(c', fillW sl 0)]).length = o.n + steps.length + 1 := by rw [List.length_append]; rfl
      have ln2 : o.n + ((steps ++ [(c', fillW sl 0)]) ++ [(c, rs.map (turnW (o.n + steps.length)))]).length = o.n + steps.length + 2 := by simp only [List.length_append, List.length_singleton]; omega
      rw [ln1] at ed B9
      rw [ln2] at ee
      refine q _ e0 e1 ?_ B9 (((f4.trans f46).trans f7).trans (f8.trans f9))
      rw [ed, ee]
end
end Gk

namespace Gk
open PySem L2
section
variable {P : Program} {w : World} {K : PySem.W.Frag} {mg : Str → Option Value} {base : Heap} {C : Addr}
/-- where a bench that has begun keeps what exchanges and the corner, and what they are -/
structure RP where
  p : Addr
  g : Addr
  l : Addr
  c : Gate
  sl : List (Option Nat)
  w0 : Nat
  w1 : Nat
  pc : Addr
  gc : Addr
  tc : Addr
  cc : Gate
  r : Nat
  i : Nat
  j : Nat
/-- a bench that has begun -/
structure RAt (K : PySem.W.Frag) (C : Addr) (o : BO) (q : RP) (H : Hp) (steps : List Step) (mk : List (List Key × V)) : Prop where
  B : BAt K C o H steps (.ref q.p) (.ref q.pc) (nV q.w0) (nV q.w1) mk
  tp : SqT K H q.p [.ref q.g, .ref q.l]
  tg : GateAt K H q.g q.c
  tl : H q.l = some (.lst (q.sl.map oV))
  nl : q.l ∉ o.S
  cp : SqT K H q.pc [.ref q.gc, .ref q.tc]
  cg : GateAt K H q.gc q.cc
  ct : SqT K H q.tc [nV q.r, nV q.i, nV q.j]
  ok : ROk o.gs o.n steps q.c q.sl q.w0 q.w1 q.cc q.r q.i q.j
  v3 : ∀ c ∈ o.gs, c.1 ≤ 3
theorem RAt.tur {o : BO} {q : RP} {H : Hp} {steps : List Step} {mk : List (List Key × V)} (R : RAt K C o q H steps mk) : TurAt K H o.S (.ref q.p) q.c q.sl := ⟨q.p, q.g, q.l, rfl, R.tp, R.tg, R.tl, R.nl⟩
/-- ways that join ahead of what follows -/
theorem seq_join {t rest : TS} {D : Ends} {σ : L2.St} {H : Hp} (M : Hp → Prop) (h1 : ∀ nx : L2.St → Hp → Prop, (∀ H', M H' → nx σ H') → t { D with nx := nx } σ H) (h2 : ∀ H', M H' → rest D σ H') : tSeq t rest D σ H := h1 _ h2
theorem told_some {Nw : Addr → Prop} {H : Hp} {v : V} {gs : List Gate} {k : Str × Nat × List Nat} (h : ToldV Nw H v gs k) (hb : ∃ c ∈ gs, ¬ Keeps c k.2.1 k.2.2) :
    ∃ (p r : Addr) (i : Nat) (c : Gate) (n : Nat), v = .ref p ∧ gs[i]? = some c ∧ n < k.2.2.length ^ c.1 ∧ ¬ prow c (lnum k.2.2 c.1 n) k.2.1 ∈ k.2.2 ∧ Nw p ∧ Nw r ∧ H p = some (.tup [nV i, .ref r]) ∧ H r = some (.lst (nL (lnum k.2.2 c.1 n))) := by
  rcases h with ⟨_, h⟩ | h
  · obtain ⟨c, hc, hn⟩ := hb
    exact absurd (h c hc) hn
  · exact h
def spBegun (K : PySem.W.Frag) (C : Addr) : Sp := fun vs H Q _ => ∃ (o : BO) (mk : List (List Key × V)), vs = [.ref o.b] ∧ BAt K C o H [] .non .non .non .non mk ∧ (∀ c ∈ o.gs, Valid 3 c) ∧ o.gs.length ≤ 100 ∧ 0 < o.n ∧
  (∀ k ∈ REL5, ∃ c ∈ o.gs, ¬ Keeps c k.2.1 k.2.2) ∧
  ∀ (H' : Hp) (rp : RP) (steps : List Step), RAt K C o rp H' steps mk → steps.length ≤ 10 → Frm o.S H H' → Q .non H'
theorem ok_bbegun (T : Pg w K mg) : FnOk P w K mg base CX0 5 T.f_bbegun T.d_bbegun ["self"] (spBegun K T.C) := by
  refine T.F_bbegun.ok sc_bbegun (fun vs H Q E h => ?_) (fun cdv A outer s H vs Q E hr h => ?_)
  · obtain ⟨o, _, rfl, _⟩ := h; rfl
  · obtain ⟨o, mk, rfl, B, hv, hgl, hn, hbr, q⟩ := h
    refine ⟨_, (pss_cons (ps_asg (pe_call (ok_kinds T) (hr.mono (by decide)) (by rfl) T.m_kinds T.F_kinds.kp T.b_kinds .nil pass0 (pa_cons (pe_fld (pv 0) rfl) pa_nil)) (pg_unl (by rfl) (pgs_cons (pg_name (i := 1) sc_bbegun.nd rfl (by first | exact Or.inl rfl | exact Or.inr rfl)) (pgs_cons (pg_name (i := 2) sc_bbegun.nd rfl (by first | exact Or.inl rfl | exact Or.inr rfl)) (pgs_cons (pg_name (i := 3) sc_bbegun.nd rfl (by first | exact Or.inl rfl | exact Or.inr rfl)) (pgs_cons (pg_name (i := 4) sc_bbegun.nd rfl (by first | exact Or.inl rfl | exact Or.inr rfl)) (pgs_cons (pg_name (i := 5) sc_bbegun.nd rfl (by first | exact Or.inl rfl | exact Or.inr rfl)) pgs_nil)))))))
  (pss_cons (ps_expr (pe_meth (pv 0) T.cl T.mt_bends (ok_bends T) (hr.mono (by decide)) T.b_bends .nil pass0 (pa_cons (pe_ix ix_list (pe_fld (pv 0) rfl) (pe_ix ix_tup (pv 1) pe_int (fun _ _ => rfl)) (fun _ _ => rfl)) pa_nil)))
  (pss_cons (ps_expr (pe_meth (pv 0) T.cl T.mt_bends (ok_bends T) (hr.mono (by decide)) T.b_bends .nil pass0 (pa_cons (pe_ix ix_list (pe_fld (pv 0) rfl) (pe_ix ix_tup (pv 2) pe_int (fun _ _ => rfl)) (fun _ _ => rfl)) pa_nil)))
  (pss_cons (ps_if (pt_cmpR op_isN (pe_fld (pv 0) rfl) pe_non (nomark _)) (pss_one (ps_expr (pe_meth (pv 0) T.cl T.mt_bby_rise (ok_bby_rise T) (hr.mono (by decide)) T.b_bby_rise .nil pass0 (pa_cons (pe_ix ix_list (pe_fld (pv 0) rfl) (pe_ix ix_tup (pv 4) pe_int (fun _ _ => rfl)) (fun _ _ => rfl)) (pa_cons (pe_ix ix_tup (pv 4) pe_int (fun _ _ => rfl)) pa_nil))))) (pss_one (ps_expr (pe_meth (pv 0) T.cl T.mt_bby_turn (ok_bby_turn T) (hr.mono (by decide)) T.b_bby_turn .nil pass0 (pa_cons (pe_ix ix_list (pe_fld (pv 0) rfl) (pe_ix ix_tup (pv 3) pe_int (fun _ _ => rfl)) (fun _ _ => rfl)) (pa_cons (pe_ix ix_tup (pv 3) pe_int (fun _ _ => rfl)) pa_nil))))))
  (pss_one (ps_fld (pv 0) (pe_tup (pa_cons (pe_ix ix_list (pe_fld (pv 0) rfl) (pe_ix ix_tup (pv 5) pe_int (fun _ _ => rfl)) (fun _ _ => rfl)) (pa_cons (pe_call (ok_odd_corner T) (hr.mono (by decide)) (by rfl) T.m_odd_corner T.F_odd_corner.kp T.b_odd_corner .nil pass0 (pa_cons (pe_ix ix_list (pe_fld (pv 0) rfl) (pe_ix ix_tup (pv 5) pe_int (fun _ _ => rfl)) (fun _ _ => rfl)) pa_nil)) pa_nil))) rfl)))))), ?_⟩
    refine ⟨_, rfl, o.b, T.C, o.dx, _, _, rfl, B.ob, T.cl, T.n_gates, bf_gates .., o.lg, o.gs, rfl, B.gt, fun c hc => Nat.le_trans (hv c hc).1 (by decide), hgl, fun p ts H1 s1 hp0 hp1 hpair => ?_⟩
    unfold REL5 at hpair hbr
    cases hpair with
    | @cons t1 _ ts1 _ h1 hpair => cases hpair with
    | @cons t2 _ ts2 _ h2 hpair => cases hpair with
    | @cons t3 _ ts3 _ h3 hpair => cases hpair with
    | @cons t4 _ ts4 _ h4 hpair => cases hpair with
    | @cons t5 _ ts5 _ h5 hpair =>
    cases hpair
    obtain ⟨p1, r1, i1, k1, n1, rfl, hk1, _, hb1, hp1n, hr1n, hp1t, hr1t⟩ := told_some h1 (hbr _ (by simp))
    obtain ⟨p2, r2, i2, k2, n2, rfl, hk2, _, hb2, hp2n, hr2n, hp2t, hr2t⟩ := told_some h2 (hbr _ (by simp))
    obtain ⟨p3, r3, i3, k3, n3, rfl, hk3, _, hb3, hp3n, hr3n, hp3t, hr3t⟩ := told_some h3 (hbr _ (by simp))
    obtain ⟨p4, r4, i4, k4, n4, rfl, hk4, _, hb4, hp4n, hr4n, hp4t, hr4t⟩ := told_some h4 (hbr _ (by simp))
    obtain ⟨p5, r5, i5, k5, n5, rfl, hk5, _, hb5, hp5n, hr5n, hp5t, hr5t⟩ := told_some h5 (hbr _ (by simp))
    dsimp only at hb1 hb2 hb3 hb4 hb5 hr1t hr2t hr3t hr4t hr5t
    have m1 : k1 ∈ o.gs := List.mem_of_getElem? hk1
    have m2 : k2 ∈ o.gs := List.mem_of_getElem? hk2
    have m3 : k3 ∈ o.gs := List.mem_of_getElem? hk3
    have m4 : k4 ∈ o.gs := List.mem_of_getElem? hk4
    have m5 : k5 ∈ o.gs := List.mem_of_getElem? hk5
    have v1 : gv k1 (List.replicate k1.1 0) = 1 := low_val hb1
    have v2 : gv k2 (List.replicate k2.1 1) = 0 := high_val hb2
    refine ⟨p, _, rfl, SqL.of hp1, rfl, _, _, rfl, _, _, rfl, _, _, rfl, _, _, rfl, _, _, rfl, rfl, ?_⟩
    have B1 := B.same s1
    have F0 : Frm o.S H H1 := Frm.of s1
    -- the told rows are read wherever only the bench has changed
    have rdT : ∀ {H2 : Hp} {a : Addr} {xs : List V}, Frm o.S H1 H2 → H1 a = some (.tup xs) → SqT K H2 a xs := fun f h => B1.tup f (SqT.of h)
    have rdL : ∀ {H2 : Hp} {a : Addr} {xs : List V}, Frm o.S H1 H2 → H a = none → H1 a = some (.lst xs) → SqL K H2 a xs := fun f h0 h => frmL f (new_notin B h0) (SqL.of h)
    -- the first end
    dsimp only
    refine seq_join (M := fun H2 => ∃ steps tv d1, BAt K T.C o H2 steps tv .non .non d1 mk ∧ Wf o.gs o.n steps ∧ steps.length ≤ 1 ∧ Frm o.S H1 H2 ∧
      ((tv = .non ∧ ∃ w1, d1 = nV w1 ∧ w1 < o.n + steps.length ∧ ∀ r, wv o.n steps r w1 = 1) ∨ ∃ c sl, TurAt K H2 o.S tv c sl ∧ TurOk o.gs o.n steps c sl)) (fun nx hk => ?_) ?_
    · obtain ⟨vl, g, hl, _, hg, hgc⟩ := B1.gt.at_ hk1
      refine ⟨_, rfl, o.b, o.dx, _, rfl, B1.ob, bf_ends .., _, rfl, o.b, T.C, o.dx, _, _, rfl, B1.ob, T.cl, T.n_gates, bf_gates .., _, rfl, p1, _, _, _, rfl, rfl, SqT.of hp1t, rfl, o.lg, _, _, _, rfl, rfl, hl, atI_nat hg,
        o, [], .non, .non, .non, .non, mk, g, k1, rfl, B1, hgc, Nat.le_trans (hv k1 m1).1 (by decide), Nat.zero_le _, fun he H2 d0 d1 ed B2 f2 => ?_, fun he H2 tv' B2 t2 f2 => ?_⟩
      · rw [v1] at ed
        have e1 : d0 = .non ∧ d1 = nV (o.n + 0) := by
          have : [d0, d1] = [.non, nV (o.n + 0)] := ed
          injection this with a b; injection b with b c; exact ⟨a, b⟩
        obtain ⟨rfl, rfl⟩ := e1
        obtain ⟨wf, wc⟩ := const_wire hn m1 (Wf.nil o.gs o.n) he
        refine hk H2 ⟨_, _, _, B2, wf, Nat.le_refl _, f2, .inl ⟨rfl, _, rfl, by simp, fun r => ?_⟩⟩
        exact (wc r).trans v1
      · have z1 : gv k1 (List.replicate k1.1 1) = 0 := by
          have := gv_le k1 (List.replicate k1.1 1)
          rw [v1] at he; omega
        exact hk H2 ⟨_, _, _, B2, Wf.nil _ _, Nat.zero_le _, f2, .inr ⟨_, _, t2, tur_nones m1 v1 z1⟩⟩
    rintro H2 ⟨steps, tv, d1, B2, wf2, ln2, F2, alt2⟩
    -- the second end
    refine seq_join (M := fun H3 => ∃ steps tv d0 d1, BAt K T.C o H3 steps tv .non d0 d1 mk ∧ Wf o.gs o.n steps ∧ steps.length ≤ 2 ∧ Frm o.S H1 H3 ∧
      ((tv = .non ∧ ∃ w0 w1, d0 = nV w0 ∧ d1 = nV w1 ∧ w0 < o.n + steps.length ∧ w1 < o.n + steps.length ∧ (∀ r, wv o.n steps r w0 = 0) ∧ ∀ r, wv o.n steps r w1 = 1) ∨
        ∃ p c sl, tv = .ref p ∧ TurAt K H3 o.S tv c sl ∧ TurOk o.gs o.n steps c sl)) (fun nx hk => ?_) ?_
    · obtain ⟨vl, g, hl, _, hg, hgc⟩ := B2.gt.at_ hk2
      have tur3 : ∀ {H3 : Hp} {tv : V} {c : Gate} {sl : List (Option Nat)}, TurAt K H3 o.S tv c sl → ∃ p, tv = .ref p := fun ⟨p, _, _, e, _⟩ => ⟨p, e⟩
      refine ⟨_, rfl, o.b, o.dx, _, rfl, B2.ob, bf_ends .., _, rfl, o.b, T.C, o.dx, _, _, rfl, B2.ob, T.cl, T.n_gates, bf_gates .., _, rfl, p2, _, _, _, rfl, rfl, rdT F2 hp2t, rfl, o.lg, _, _, _, rfl, rfl, hl, atI_nat hg,
        o, steps, tv, .non, .non, d1, mk, g, k2, rfl, B2, hgc, Nat.le_trans (hv k2 m2).1 (by decide), by omega, fun he H3 e0 e1 ed B3 f3 => ?_, fun he H3 tv' B3 t3 f3 => ?_⟩
      · have z2 : gv k2 (List.replicate k2.1 0) = 0 := by rw [he, v2]
        rw [z2] at ed
        have ee : e0 = nV (o.n + steps.length) ∧ e1 = d1 := by
          have : [e0, e1] = [nV (o.n + steps.length), d1] := ed
          injection this with a b; injection b with b c; exact ⟨a, b⟩
        obtain ⟨rfl, rfl⟩ := ee
        obtain ⟨wf, wc⟩ := const_wire hn m2 wf2 he
        refine hk H3 ⟨_, _, _, _, B3, wf, by rw [List.length_append, List.length_singleton]; omega, F2.trans f3, ?_⟩
        rcases alt2 with ⟨rfl, w1, rfl, lw, hw⟩ | ⟨c, sl, ta, tk⟩
        · refine .inl ⟨rfl, _, w1, rfl, rfl, by rw [List.length_append, List.length_singleton]; omega, by rw [List.length_append]; omega, fun r => ?_, fun r => ?_⟩
          · exact (wc r).trans z2
          · rw [wv_old lw]; exact hw r
        · obtain ⟨pp, e⟩ := tur3 ta
          exact .inr ⟨pp, c, sl, e, ta.keep B2 f3, tk.more _⟩
      · have z2 : gv k2 (List.replicate k2.1 0) = 1 := by
          have := gv_le k2 (List.replicate k2.1 0)
          rw [v2] at he; omega
        obtain ⟨pp, e⟩ := tur3 t3
        exact hk H3 ⟨_, _, _, _, B3, wf2, by omega, F2.trans f3, .inr ⟨pp, _, _, e, t3, tur_nones m2 z2 v2⟩⟩
    rintro H3 ⟨steps, tv, d0, d1, B3, wf3, ln3, F3, alt3⟩
    -- the constants, and what exchanges
    refine seq_join (M := fun H4 => ∃ steps tv w0 w1 c sl, BAt K T.C o H4 steps tv .non (nV w0) (nV w1) mk ∧ TurAt K H4 o.S tv c sl ∧ Wf o.gs o.n steps ∧ TurOk o.gs o.n steps c sl ∧ steps.length ≤ 5 ∧ Frm o.S H1 H4 ∧
      w0 < o.n + steps.length ∧ w1 < o.n + steps.length ∧ (∀ r, wv o.n steps r w0 = 0) ∧ ∀ r, wv o.n steps r w1 = 1) (fun nx hk => ?_) ?_
    · refine ⟨_, rfl, o.b, T.C, o.dx, _, _, rfl, B3.ob, T.cl, T.n_turner, bf_turner .., rfl, _, rfl, ?_⟩
      rcases alt3 with ⟨rfl, w0, w1, rfl, rfl, l0, l1, z0, z1⟩ | ⟨pp, c', sl, rfl, ta, tk⟩
      · refine iteT ?_
        obtain ⟨vl, g, hl, _, hg, hgc⟩ := B3.gt.at_ hk4
        have hL4 : (lnum [0, 2, 3] k4.1 n4).length = k4.1 := lnum_len _ _ _
        have hR4 : ∀ x ∈ lnum [0, 2, 3] k4.1 n4, x ∈ [0, 2, 3] := fun x hx => lnum_mem (by simp) hx
        have h43 := (hv k4 m4).1
        refine ⟨_, rfl, o.b, o.dx, _, rfl, B3.ob, bf_by_rise .., _, rfl, o.b, T.C, o.dx, _, _, rfl, B3.ob, T.cl, T.n_gates, bf_gates .., _, rfl, p4, _, _, _, rfl, rfl, rdT F3 hp4t, rfl, o.lg, _, _, _, rfl, rfl, hl, atI_nat hg,
          _, rfl, p4, _, _, _, rfl, rfl, rdT F3 hp4t, rfl, o, steps, .non, .non, w0, w1, mk, g, r4, k4, _, rfl, B3, hgc, rdL F3 hr4n.1 hr4t, hR4, by rw [hL4]; omega, fun H4 tv' B4 t4 f4 => ?_⟩
        exact hk H4 ⟨steps, tv', w0, w1, _, _, B4, t4, wf3, rise_tur m4 hL4 hR4 hb4 l0 l1 z0 z1, by omega, F3.trans f4, l0, l1, z0, z1⟩
      · refine iteF ?_
        obtain ⟨vl, g, hl, _, hg, hgc⟩ := B3.gt.at_ hk3
        have hL3 : (lnum [1, 2] k3.1 n3).length = k3.1 := lnum_len _ _ _
        have hR3 : ∀ x ∈ lnum [1, 2] k3.1 n3, x ∈ [1, 2] := fun x hx => lnum_mem (by simp) hx
        have h33 := (hv k3 m3).1
        have hsl : sl.length ≤ 100 := by rw [tk.len]; have := (hv c' tk.mem).1; omega
        refine ⟨_, rfl, o.b, o.dx, _, rfl, B3.ob, bf_by_turn .., _, rfl, o.b, T.C, o.dx, _, _, rfl, B3.ob, T.cl, T.n_gates, bf_gates .., _, rfl, p3, _, _, _, rfl, rfl, rdT F3 hp3t, rfl, o.lg, _, _, _, rfl, rfl, hl, atI_nat hg,
          _, rfl, p3, _, _, _, rfl, rfl, rdT F3 hp3t, rfl, o, steps, _, .non, d0, d1, mk, g, r3, k3, c', sl, _, rfl, B3, ta, hsl, hgc, rdL F3 hr3n.1 hr3t, new_notin B hr3n.1, hR3, by rw [hL3]; omega, by omega, fun H4 e0 e1 ed B4 f4 => ?_⟩
        obtain ⟨x1, x2, x3, x4, x5⟩ := turn_done hn wf3 tk m3 hL3 hR3 hb3
        have hle := gv_le k3 ((lnum [1, 2] k3.1 n3).map (· % 2))
        generalize gv k3 ((lnum [1, 2] k3.1 n3).map (· % 2)) = v at ed x4 x5 hle
        rcases (by omega : v = 0 ∨ v = 1) with rfl | rfl
        · have ee : e0 = nV (o.n + steps.length + 1) ∧ e1 = nV (o.n + steps.length + 2) := by
            have : [e0, e1] = [nV (o.n + steps.length + 1), nV (o.n + steps.length + 2)] := ed
            injection this with a b; injection b with b c; exact ⟨a, b⟩
          obtain ⟨rfl, rfl⟩ := ee
          exact hk H4 ⟨_, _, _, _, c', sl, B4, ta.keep B3 f4, x1, x2, by omega, F3.trans f4, by omega, by omega, x4, x5⟩
        · have ee : e0 = nV (o.n + steps.length + 2) ∧ e1 = nV (o.n + steps.length + 1) := by
            have : [e0, e1] = [nV (o.n + steps.length + 2), nV (o.n + steps.length + 1)] := ed
            injection this with a b; injection b with b c; exact ⟨a, b⟩
          obtain ⟨rfl, rfl⟩ := ee
          exact hk H4 ⟨_, _, _, _, c', sl, B4, ta.keep B3 f4, x1, x2, by omega, F3.trans f4, by omega, by omega, x5, x4⟩
    rintro H4 ⟨steps, tv, w0, w1, c, sl, B4, ta, wf4, tk, ln4, F4, l0, l1, z0, z1⟩
    -- the corner
    obtain ⟨vl, g, hl, _, hg, hgc⟩ := B4.gt.at_ hk5
    have hL5 : (lnum [0, 3, 5, 6, 9, 10, 12, 15] k5.1 n5).length = k5.1 := lnum_len _ _ _
    obtain ⟨r, i, j, od⟩ := even_odd (hv k5 m5) hL5 (fun x hx => lnum_mem (by simp) hx) hb5
    have h53 := (hv k5 m5).1
    refine ⟨_, rfl, o.b, T.C, o.dx, _, _, rfl, B4.ob, T.cl, T.n_gates, bf_gates .., _, rfl, p5, _, _, _, rfl, rfl, rdT F4 hp5t, rfl, o.lg, _, _, _, rfl, rfl, hl, atI_nat hg,
      _, rfl, o.b, T.C, o.dx, _, _, rfl, B4.ob, T.cl, T.n_gates, bf_gates .., _, rfl, p5, _, _, _, rfl, rfl, rdT F4 hp5t, rfl, o.lg, _, _, _, rfl, rfl, hl, atI_nat hg,
      g, k5, rfl, hgc, by omega, fun hno => absurd od (hno r i j), fun r i j od H5 t s5 ht0 ht1 => ?_⟩
    refine ⟨by show 2 ≤ sizeLine; decide, fun pc hpc => ?_⟩
    have s6 : Same H4 (upd H5 pc (.tup [.ref g, .ref t])) := same_upd s5 (s5.free hpc)
    have B6 := B4.same s6
    have ntp : t ≠ pc := ne_of_none ht1 hpc
    refine ⟨_, rfl, o.b, T.C, o.dx, _, rfl, B6.ob, T.cl, T.n_corner, bf_len .., ?_⟩
    rw [bf_set_corner]
    obtain ⟨pt, gt, lt, rfl, x1, x2, x3, x4⟩ := ta
    obtain ⟨B7, f7⟩ := B6.setB (.ref pt) (.ref pc)
    have f47 : Frm o.S H4 _ := (Frm.of s6).trans f7
    exact q _ ⟨pt, gt, lt, c, sl, w0, w1, pc, g, t, k5, r, i, j⟩ steps ⟨B7, B4.tup f47 x1, B4.tup f47 x2, f47 _ _ x3 x4, x4, B6.tup f7 (SqT.of upd_same), B4.tup f47 hgc, B6.tup f7 (SqT.of (by rw [upd_ne ntp]; exact ht1)),
      ⟨wf4, tk, l0, l1, z0, z1, m5, od⟩, fun c hc => (hv c hc).1⟩ (by omega) ((F0.trans F4).trans f47)
end
end Gk

namespace Gk
open PySem L2
section
variable {P : Program} {w : World} {K : PySem.W.Frag} {mg : Str → Option Value} {base : Heap} {C : Addr}
theorem RAt.keep {o : BO} {q : RP} {H H' : Hp} {steps : List Step} {mk : List (List Key × V)} {s : Step} (R : RAt K C o q H steps mk) (B' : BAt K C o H' (steps ++ [s]) (.ref q.p) (.ref q.pc) (nV q.w0) (nV q.w1) mk) (f : Frm o.S H H') (hw : Wf o.gs o.n (steps ++ [s])) : RAt K C o q H' (steps ++ [s]) mk :=
  ⟨B', R.B.tup f R.tp, R.B.tup f R.tg, f _ _ R.tl R.nl, R.nl, R.B.tup f R.cp, R.B.tup f R.cg, R.B.tup f R.ct, R.ok.more hw, R.v3⟩
theorem RAt.same {o : BO} {q : RP} {H H' : Hp} {steps : List Step} {mk : List (List Key × V)} (R : RAt K C o q H steps mk) (s : Same H H') : RAt K C o q H' steps mk :=
  ⟨R.B.same s, sameT s R.tp, sameT s R.tg, s _ _ R.tl, R.nl, sameT s R.cp, sameT s R.cg, sameT s R.ct, R.ok, R.v3⟩
/-- another list changes -/
theorem RAt.other {o : BO} {q : RP} {H : Hp} {steps : List Step} {mk : List (List Key × V)} (R : RAt K C o q H steps mk) {p : Addr} {ys : List V} (hp : H p = some (.lst ys)) (h1 : p ∉ o.S) (h2 : p ≠ q.l) (h3 : p ≠ o.lg) (zs : List V) : RAt K C o q (upd H p (.lst zs)) steps mk := by
  have f : Frm [p] H (upd H p (.lst zs)) := frm_upd (Frm.refl _ _) (.inl (by simp))
  have nt : ∀ b ∈ [p], ∀ ys, ¬ H b = some (.tup ys) ∧ ∀ o, ¬ H b = some (.frz o (.tup ys)) := fun b hb ys => by
    rw [List.mem_singleton] at hb; subst hb
    rw [hp]; exact ⟨fun z => (by cases z), fun ob z => (by cases z)⟩
  have tp : ∀ {a : Addr} {xs : List V}, SqT K H a xs → SqT K (upd H p (.lst zs)) a xs := fun z => frmT f nt z
  have hS : ∀ a ∈ o.S, a ≠ p := fun a ha z => h1 (z ▸ ha)
  obtain ⟨srefs, hs, hpd⟩ := R.B.st
  obtain ⟨refs, g1, g2⟩ := R.B.gl
  refine ⟨⟨by rw [upd_ne (hS _ (by simp))]; exact R.B.ob, ⟨srefs, by rw [upd_ne (hS _ (by simp))]; exact hs, L2.Paired.mapP hpd fun _ _ ⟨g, t, x1, x2, x3⟩ => ⟨g, t, tp x1, tp x2, tp x3⟩⟩,
    by rw [upd_ne (hS _ (by simp))]; exact R.B.co, by rw [upd_ne (hS _ (by simp))]; exact R.B.md, ⟨refs, by rw [upd_ne h3.symm]; exact g1, L2.Paired.mapP g2 fun _ _ z => tp z⟩, R.B.ng, R.B.sc⟩,
    tp R.tp, tp R.tg, by rw [upd_ne h2.symm]; exact R.tl, R.nl, tp R.cp, tp R.cg, tp R.ct, R.ok, R.v3⟩
/-- what stands behind a method that hands back a wire -/
structure Aft (K : PySem.W.Frag) (C : Addr) (o : BO) (q : RP) (H : Hp) (steps : List Step) (mk : List (List Key × V)) (k : Nat) (f : Nat → Nat) (H' : Hp) (steps' : List Step) (x' : Nat) : Prop where
  R : RAt K C o q H' steps' mk
  ext : ∃ more, steps' = steps ++ more
  len : steps'.length ≤ steps.length + k
  fr : Frm o.S H H'
  low : x' < o.n + steps'.length
  val : ∀ r, wv o.n steps' r x' = f r
theorem Aft.old {o : BO} {q : RP} {H H' : Hp} {steps steps' : List Step} {mk : List (List Key × V)} {k x' : Nat} {f : Nat → Nat} (A : Aft K C o q H steps mk k f H' steps' x') {x : Nat} (h : x < o.n + steps.length) :
    x < o.n + steps'.length ∧ ∀ r, wv o.n steps' r x = wv o.n steps r x := by
  obtain ⟨more, rfl⟩ := A.ext
  exact ⟨by rw [List.length_append]; omega, fun r => wv_old h⟩
theorem sl_len {o : BO} {q : RP} {H : Hp} {steps : List Step} {mk : List (List Key × V)} (R : RAt K C o q H steps mk) : q.sl.length ≤ 100 := by
  rw [R.ok.tur.len]; have := R.v3 _ R.ok.tur.mem; omega
/-- exchanged, by what it means -/
theorem exch_sp {o : BO} {q : RP} {H : Hp} {steps : List Step} {mk : List (List Key × V)} {x : Nat} {Q : VK} {E : XK} (R : RAt K C o q H steps mk) (hx : x < o.n + steps.length) (hl : steps.length ≤ 1000)
    (k : ∀ H' steps' x', Aft K C o q H steps mk 1 (fun r => 1 - wv o.n steps r x) H' steps' x' → Q (nV x') H') : spExch K C [.ref o.b, nV x] H Q E := by
  refine ⟨o, steps, .ref q.p, .ref q.pc, nV q.w0, nV q.w1, mk, q.c, q.sl, x, rfl, R.B, R.tur, sl_len R, hl, fun H' B' f => ?_⟩
  obtain ⟨wf, wc⟩ := R.ok.tur.step hx R.ok.wf
  exact k H' _ _ ⟨R.keep B' f wf, ⟨_, rfl⟩, by rw [List.length_append]; exact Nat.le_refl _, f, by rw [List.length_append, List.length_singleton]; omega, wc⟩
def spAsValue (K : PySem.W.Frag) (C : Addr) : Sp := fun vs H Q _ => ∃ (o : BO) (q : RP) (steps : List Step) (mk : List (List Key × V)) (x z : Nat), vs = [.ref o.b, nV x, nV z] ∧ RAt K C o q H steps mk ∧ x < o.n + steps.length ∧ z ≤ 1 ∧ steps.length ≤ 1000 ∧
  ∀ H' steps' x', Aft K C o q H steps mk 1 (fun r => if z = 1 then wv o.n steps r x else 1 - wv o.n steps r x) H' steps' x' → Q (nV x') H'
theorem ok_bas_value (T : Pg w K mg) : FnOk P w K mg base CX0 3 T.f_bas_value T.d_bas_value ["self", "wire", "wished"] (spAsValue K T.C) := by
  refine T.F_bas_value.ok sc_bas_value (fun vs H Q E h => ?_) (fun cdv A outer s H vs Q E hr h => ?_)
  · obtain ⟨o, q, _, _, x, z, rfl, _⟩ := h; rfl
  · obtain ⟨o, q, steps, mk, x, z, rfl, R, hx, hz, hl, k⟩ := h
    refine ⟨_, (pss_cons (ps_if (pt_cmpR op_eq (pv 2) pe_int (nomark _)) (pss_one (ps_ret (pv 1))) pss_nil)
  (pss_one (ps_ret (pe_meth (pv 0) T.cl T.mt_bexchanged (ok_bexchanged T) (hr.mono (by decide)) T.b_bexchanged .nil pass0 (pa_cons (pv 1) pa_nil))))), ?_⟩
    refine ⟨_, rfl, rfl, _, rfl, ?_⟩
    rw [show decide (V.int (z : Int) = V.int 1) = decide (z = 1) from dec_nat z 1]
    refine ite2 (fun h => ?_) (fun h => ?_)
    · have h := of_decide_eq_true h
      exact ⟨_, rfl, k H steps x ⟨R, ⟨[], by simp⟩, by omega, Frm.refl _ _, hx, fun r => by rw [if_pos h]⟩⟩
    · have h : ¬ z = 1 := fun e => h (decide_eq_true e)
      refine ⟨_, rfl, o.b, o.dx, _, rfl, R.B.ob, bf_exchanged .., _, rfl, exch_sp (E := E0) R hx hl fun H' steps' x' A => k H' steps' x' ?_⟩
      exact ⟨A.R, A.ext, A.len, A.fr, A.low, fun r => by rw [A.val, if_neg h]⟩
/-- a list of lists of two numbers -/
def Grid (H : Hp) (D : Addr) (n : Nat) (f : Nat → Nat → Nat) : Prop := ∃ refs : List Addr, refs.length = n ∧ H D = some (.lst (refs.map V.ref)) ∧ ∀ x a, refs[x]? = some a → a ≠ D ∧ H a = some (.lst (nL [f x 0, f x 1]))
theorem Grid.same {H H' : Hp} {D : Addr} {n : Nat} {f : Nat → Nat → Nat} (g : Grid H D n f) (s : Same H H') : Grid H' D n f := by
  obtain ⟨refs, h1, h2, h3⟩ := g
  exact ⟨refs, h1, s _ _ h2, fun x a e => ⟨(h3 x a e).1, s _ _ (h3 x a e).2⟩⟩
theorem Grid.two {H : Hp} {D : Addr} {f : Nat → Nat → Nat} (g : Grid H D 2 f) : ∃ a0 a1, H D = some (.lst [.ref a0, .ref a1]) ∧ H a0 = some (.lst (nL [f 0 0, f 0 1])) ∧ H a1 = some (.lst (nL [f 1 0, f 1 1])) := by
  obtain ⟨refs, h1, h2, h3⟩ := g
  match refs, h1 with
  | [a0, a1], _ => exact ⟨a0, a1, h2, (h3 0 a0 rfl).2, (h3 1 a1 rfl).2⟩
theorem Grid.nil (H : Hp) (D : Addr) (f : Nat → Nat → Nat) : Grid (upd H D (.lst [])) D 0 f := ⟨[], rfl, upd_same, fun x a e => by simp at e⟩
theorem Grid.step {H : Hp} {D D' : Addr} {k : Nat} {f : Nat → Nat → Nat} (g : Grid H D k f) (hk : k ≤ 100) (hD : H D' = none) {l : List Nat} (hl : l = [f k 0, f k 1]) :
    ∃ acc, upd H D' (.lst (nL l)) D = some (.lst acc) ∧ acc.length < sizeLine ∧ Grid (upd (upd H D' (.lst (nL l))) D (.lst (acc ++ [.ref D']))) D (k + 1) f := by
  obtain ⟨refs, h1, h2, h3⟩ := g
  have nDD : D ≠ D' := ne_of_none h2 hD
  refine ⟨refs.map V.ref, by rw [upd_ne nDD]; exact h2, by rw [List.length_map]; exact small (by omega), refs ++ [D'], by rw [List.length_append, h1]; rfl, by rw [upd_same]; simp, fun x a e => ?_⟩
  by_cases hx : x < refs.length
  · rw [List.getElem?_append_left hx] at e
    obtain ⟨n1, n2⟩ := h3 x a e
    exact ⟨n1, by rw [upd_ne n1, upd_ne (ne_of_none n2 hD)]; exact n2⟩
  · rw [List.getElem?_append_right (by omega)] at e
    have hz : x - refs.length = 0 := by
      have := (List.getElem?_eq_some_iff.mp e).1
      simp at this; omega
    rw [hz] at e
    have e' : D' = a := by simpa using e
    subst e'
    have : x = k := by omega
    subst this
    exact ⟨nDD.symm, by rw [upd_ne nDD.symm, upd_same, hl]⟩
theorem eqv_two (a b c d : Nat) : PyData.eqv (.list [.int a, .int b]) (.list [.int c, .int d]) = decide (a = c ∧ b = d) := by
  simp only [PyData.eqv, PyData.eqvAll]
  by_cases h1 : a = c
  · by_cases h2 : b = d
    · subst h1 h2; simp
    · simp [h1, h2, show ((b : Int) == (d : Int)) = false from beq_eq_false_iff_ne.mpr (by omega)]
  · simp [h1, show ((a : Int) == (c : Int)) = false from beq_eq_false_iff_ne.mpr (by omega)]
theorem shaped_two (a b : Int) : SeqAt.shaped (.list [.int a, .int b]) = true := by
  simp [SeqAt.shaped, PyData.canLay0, PyData.canLayAll0, PyData.depth, PyData.depthAll]
theorem int_bl (b : Bool) : V.int (if b = true then 1 else 0) = nV (if b = true then 1 else 0) := by cases b <;> rfl
def spBoth (K : PySem.W.Frag) (C : Addr) : Sp := fun vs H Q _ => ∃ (o : BO) (q : RP) (steps : List Step) (mk : List (List Key × V)) (x y : Nat), vs = [.ref o.b, nV x, nV y] ∧ RAt K C o q H steps mk ∧ x < o.n + steps.length ∧ y < o.n + steps.length ∧ steps.length ≤ 900 ∧
  ∀ H' steps' x', Aft K C o q H steps mk 4 (fun r => wv o.n steps r x * wv o.n steps r y) H' steps' x' → Q (nV x') H'
theorem ok_bboth (T : Pg w K mg) : FnOk P w K mg base CX0 4 T.f_bboth T.d_bboth ["self", "one", "other"] (spBoth K T.C) := by
  refine T.F_bboth.ok sc_bboth (fun vs H Q E h => ?_) (fun cdv A outer s H vs Q E hr h => ?_)
  · obtain ⟨o, q, _, _, x, z, rfl, _⟩ := h; rfl
  · obtain ⟨o, q, steps, mk, x, y, rfl, R, hx, hy, hl, k⟩ := h
    refine ⟨_, (pss_cons (ps_asg (pe_fld (pv 0) rfl) (pg_tup (by rfl) (pgs_cons (pg_name (i := 3) sc_bboth.nd rfl (by first | exact Or.inl rfl | exact Or.inr rfl)) (pgs_cons (pg_tup (by rfl) (pgs_cons (pg_name (i := 4) sc_bboth.nd rfl (by first | exact Or.inl rfl | exact Or.inr rfl)) (pgs_cons (pg_name (i := 5) sc_bboth.nd rfl (by first | exact Or.inl rfl | exact Or.inr rfl)) (pgs_cons (pg_name (i := 6) sc_bboth.nd rfl (by first | exact Or.inl rfl | exact Or.inr rfl)) pgs_nil)))) pgs_nil))))
  (pss_cons (ps_set (i := 7) sc_bboth.nd rfl (by first | exact Or.inl rfl | exact Or.inr rfl) (pe_lc (own := [("x", 10)]) (g := gName 10) (tt := tYes) rfl sc_bboth.nd (pi_range1 (by rfl) T.z_range (pa_cons pe_int pa_nil)) (blkOk_by (by rfl)) (fun _ _ _ _ _ => (pg_name (i := 10) sc_bboth.nd rfl (by first | exact Or.inl rfl | exact Or.inr rfl))) (fun _ _ _ _ _ => pts_nil) (fun _ _ _ _ _ => (pe_lc (own := [("y", 11)]) (g := gName 11) (tt := tYes) rfl sc_bboth.nd (pi_range1 (by rfl) T.z_range (pa_cons pe_int pa_nil)) (blkOk_by (by rfl)) (fun _ _ _ _ _ => (pg_name (i := 11) sc_bboth.nd rfl (by first | exact Or.inl rfl | exact Or.inr rfl))) (fun _ _ _ _ _ => pts_nil) (fun _ _ _ _ _ => (pe_op op_or (pe_op op_or (pe_op op_and (pe_op op_and (pv 4) (pe_un un_inv (pe_op op_shl pe_int (pv 5)))) (pe_un un_inv (pe_op op_shl pe_int (pv 6)))) (pe_op op_shl (pv 10) (pv 5))) (pe_op op_shl (pv 11) (pv 6))))))))
  (pss_cons (ps_setLc (i := 8) (own := [("x", 10)]) (g := gName 10) (tt := tYes) rfl sc_bboth.nd rfl rfl (sw_true rfl rfl rfl (by decide +kernel)) (pi_range1 (by rfl) T.z_range (pa_cons pe_int pa_nil)) (blkOk_by (by rfl)) (fun _ _ _ _ _ => (pg_name (i := 10) sc_bboth.nd rfl (by first | exact Or.inl rfl | exact Or.inr rfl))) (fun _ _ _ _ _ => pts_nil) (fun _ _ _ _ _ => (pe_lc (own := [("y", 11)]) (g := gName 11) (tt := tYes) rfl sc_bboth.nd (pi_range1 (by rfl) T.z_range (pa_cons pe_int pa_nil)) (blkOk_by (by rfl)) (fun _ _ _ _ _ => (pg_name (i := 11) sc_bboth.nd rfl (by first | exact Or.inl rfl | exact Or.inr rfl))) (fun _ _ _ _ _ => pts_nil) (fun _ _ _ _ _ => (pe_op op_and (pe_op op_shr (pe_ix (r := rIxT K) ix_tup (pv 3) pe_int (fun _ _ => rfl)) (pe_ix (r := rIxL K) ix_list (pe_ix (r := rIxL K) ix_list (pv 7) (pv 10) (fun _ _ => rfl)) (pv 11) (fun _ _ => rfl))) pe_int)))))
  (pss_cons (ps_set (i := 9) sc_bboth.nd rfl (by first | exact Or.inl rfl | exact Or.inr rfl) (pe_callTy call_int1 (by rfl) T.z_int (by decide +kernel) (pa_cons (pe_cmpR op_gt (pe_callB (cr_sum rfl) (by rfl) T.z_sum (by decide +kernel) (pa_cons (pe_op op_cat (pe_ix ix_list (pv 8) pe_int (fun _ _ => rfl)) (pe_ix ix_list (pv 8) pe_int (fun _ _ => rfl))) pa_nil)) pe_int (nomark _)) pa_nil)))
  (pss_cons (ps_set (i := 10) sc_bboth.nd rfl (by first | exact Or.inl rfl | exact Or.inr rfl) (pe_callTy call_int1 (by rfl) T.z_int (by decide +kernel) (pa_cons (pe_cmpR (op_neD hr.units) (pe_ix ix_list (pv 8) pe_int (fun _ _ => rfl)) (pe_lst (pa_cons (pv 9) (pa_cons (pv 9) pa_nil))) (nomark _)) pa_nil)))
  (pss_cons (ps_set (i := 11) sc_bboth.nd rfl (by first | exact Or.inl rfl | exact Or.inr rfl) (pe_callTy call_int1 (by rfl) T.z_int (by decide +kernel) (pa_cons (pe_cmpR op_ne (pe_ix ix_list (pe_ix ix_list (pv 8) (pv 10) (fun _ _ => rfl)) pe_int (fun _ _ => rfl)) (pv 9) (nomark _)) pa_nil)))
  (pss_cons (ps_setLc (i := 12) (own := [("k", 13)]) (g := gName 13) (tt := tYes) rfl sc_bboth.nd rfl rfl (sw_true rfl rfl rfl (by decide +kernel)) (pi_range1 (by rfl) T.z_range (pa_cons (pe_ix ix_tup (pv 3) pe_int (fun _ _ => rfl)) pa_nil)) (blkOk_by (by rfl)) (fun _ _ _ _ _ => (pg_name (i := 13) sc_bboth.nd rfl (by first | exact Or.inl rfl | exact Or.inr rfl))) (fun _ _ _ _ _ => pts_nil) (fun _ _ _ _ _ => (pe_ix (r := rIxL K) ix_list (pe_fldK (K := K) rfl (pv 0) rfl) (pe_op op_and (pe_op op_shr (pv 4) (pv 13)) pe_int) (fun _ _ => rfl))))
  (pss_cons (ps_asg (pe_meth (pv 0) T.cl T.mt_bas_value (ok_bas_value T) (hr.mono (by decide)) T.b_bas_value .nil pass0 (pa_cons (pv 1) (pa_cons (pv 10) pa_nil))) (pg_sub (pv 12) (pv 5) set_list))
  (pss_cons (ps_asg (pe_meth (pv 0) T.cl T.mt_bas_value (ok_bas_value T) (hr.mono (by decide)) T.b_bas_value .nil pass0 (pa_cons (pv 2) (pa_cons (pv 11) pa_nil))) (pg_sub (pv 12) (pv 6) set_list))
  (pss_one (ps_ret (pe_meth (pv 0) T.cl T.mt_bas_value (ok_bas_value T) (hr.mono (by decide)) T.b_bas_value .nil pass0 (pa_cons (pe_meth (pv 0) T.cl T.mt_blaid (ok_blaid T) (hr.mono (by decide)) T.b_blaid .nil pass0 (pa_cons (pv 3) (pa_cons (pv 12) pa_nil))) (pa_cons (pe_op op_sub pe_int (pv 9)) pa_nil)))))))))))))), ?_⟩
    have hm := R.v3 _ R.ok.cm
    obtain ⟨od1, od2, od3, od4⟩ := R.ok.od
    have hr8 : q.r < 8 := Nat.lt_of_lt_of_le od1 (Nat.le_trans (Nat.pow_le_pow_right (by decide) hm) (by decide))
    have hi3 : q.i < 3 := by omega
    refine ⟨_, rfl, o.b, T.C, o.dx, _, _, rfl, R.B.ob, T.cl, T.n_corner, bf_corner .., q.pc, _, rfl, R.cp, rfl, _, _, rfl, _, _, rfl, q.tc, _, rfl, R.ct, rfl, _, _, rfl, _, _, rfl, _, _, rfl, rfl, rfl, ?_⟩
    dsimp only
    -- four
    refine ⟨2, rfl, by decide, by decide, fun D1 hD1 => lc_n (n := 2) (fun k H' => Same H H' ∧ Grid H' D1 k (cn q.r q.i q.j)) ⟨same_new hD1, Grid.nil _ _ _⟩ ?_ ?_⟩
    · rintro p H' hp ⟨s1, g1⟩
      refine ⟨rfl, yes_ ?_⟩
      refine ⟨2, rfl, by decide, by decide, fun D2 hD2 => pure_n (n := 2) (f := fun z => cn q.r q.i q.j p z) hD2 (by decide) (fun z H2 Rr N hz s2 hR => ⟨rfl, yes_ ?_⟩) ?_⟩
      · refine ⟨_, rfl, _, rfl, _, _, rfl, rfl, cpow (x := 1) (by omega) (by omega), _, rfl, _, _, rfl, rfl, _, rfl, _, _, rfl, rfl, cpow (x := 1) (by omega) (by omega), _, rfl, _, _, rfl, rfl,
          _, rfl, _, rfl, _, _, rfl, rfl, cpow (by omega) (by omega), _, _, rfl, rfl, _, rfl, _, rfl, _, _, rfl, rfl, cpow (by omega) (by omega), _, _, rfl, rfl, ?_⟩
        dsimp only
        rw [cn_cast _ hr8 _ hi3 _ od3 _ (by omega) _ hz]
        exact hR
      · obtain ⟨acc, h1, h2, h3⟩ := g1.step (by omega) hD2 (l := (List.range 2).map fun z => cn q.r q.i q.j p z) rfl
        exact ⟨acc, h1, h2, same_upd (same_upd s1 (s1.free hD2)) hD1, h3⟩
    rintro H1 ⟨s1, g1⟩
    obtain ⟨f0, f1, hf, hf0, hf1⟩ := g1.two
    -- some
    refine ⟨2, rfl, by decide, by decide, fun D3 hD3 => lc_n (n := 2) (fun k H' => Same H1 H' ∧ Grid H' D3 k (fun a b => bt q.cc.2 (cn q.r q.i q.j a b))) ⟨same_new hD3, Grid.nil _ _ _⟩ ?_ ?_⟩
    · rintro p H' hp ⟨s2, g2⟩
      refine ⟨rfl, yes_ ?_⟩
      refine ⟨2, rfl, by decide, by decide, fun D2 hD2 => pure_n (n := 2) (f := fun z => bt q.cc.2 (cn q.r q.i q.j p z)) hD2 (by decide) (fun z H2 Rr N hz s3 hR => ⟨rfl, yes_ ?_⟩) ?_⟩
      · have s4 : Same H H2 := (s1.trans s2).trans s3
        have h2 := s3 _ _ (s2 _ _ hf)
        obtain ⟨fa, hfa, hfb⟩ : ∃ fa, [V.ref f0, V.ref f1][p]? = some (V.ref fa) ∧ H2 fa = some (.lst (nL [cn q.r q.i q.j p 0, cn q.r q.i q.j p 1])) := by
          rcases (by omega : p = 0 ∨ p = 1) with rfl | rfl
          · exact ⟨f0, rfl, s3 _ _ (s2 _ _ hf0)⟩
          · exact ⟨f1, rfl, s3 _ _ (s2 _ _ hf1)⟩
        have hfz : (nL [cn q.r q.i q.j p 0, cn q.r q.i q.j p 1])[z]? = some (nV (cn q.r q.i q.j p z)) := by
          rcases (by omega : z = 0 ∨ z = 1) with rfl | rfl <;> rfl
        refine ⟨_, rfl, q.gc, _, _, _, rfl, rfl, sameT s4 R.cg, rfl, _, rfl, _, rfl, D1, _, _, _, rfl, rfl, SqL.of h2, atI_nat hfa, _, rfl, fa, _, _, _, rfl, rfl, SqL.of hfb, atI_nat hfz,
          _, _, rfl, rfl, Int.natCast_nonneg _, _, _, rfl, rfl, ?_⟩
        dsimp only
        rw [c_bit]
        exact hR
      · obtain ⟨acc, h1, h2, h3⟩ := g2.step (by omega) hD2 (l := (List.range 2).map fun z => bt q.cc.2 (cn q.r q.i q.j p z)) rfl
        exact ⟨acc, h1, h2, same_upd (same_upd s2 (s2.free hD2)) hD3, h3⟩
    rintro H2 ⟨s2, g2⟩
    obtain ⟨b0, b1, hb, hb0, hb1⟩ := g2.two
    have s12 := s1.trans s2
    have l00 := bt_lt q.cc.2 (cn q.r q.i q.j 0 0)
    have l01 := bt_lt q.cc.2 (cn q.r q.i q.j 0 1)
    have l10 := bt_lt q.cc.2 (cn q.r q.i q.j 1 0)
    have l11 := bt_lt q.cc.2 (cn q.r q.i q.j 1 1)
    have hodd : (bt q.cc.2 (cn q.r q.i q.j 0 0) + bt q.cc.2 (cn q.r q.i q.j 0 1) + bt q.cc.2 (cn q.r q.i q.j 1 0) + bt q.cc.2 (cn q.r q.i q.j 1 1)) % 2 = 1 := by
      rw [cn_sum hr8 hi3 od3 (fun z => bt q.cc.2 z)]; exact od4
    have hpick : ∀ a b, a < 2 → b < 2 → pick (bt q.cc.2 (cn q.r q.i q.j 0 0)) (bt q.cc.2 (cn q.r q.i q.j 0 1)) (bt q.cc.2 (cn q.r q.i q.j 1 0)) (bt q.cc.2 (cn q.r q.i q.j 1 1)) a b = bt q.cc.2 (cn q.r q.i q.j a b) := fun a b ha hb => pick_cn (g := fun z => bt q.cc.2 z) ha hb
    generalize bt q.cc.2 (cn q.r q.i q.j 0 0) = v00 at *
    generalize bt q.cc.2 (cn q.r q.i q.j 0 1) = v01 at *
    generalize bt q.cc.2 (cn q.r q.i q.j 1 0) = v10 at *
    generalize bt q.cc.2 (cn q.r q.i q.j 1 1) = v11 at *
    -- common
    refine ⟨_, rfl, D3, _, _, _, rfl, rfl, SqL.of hb, rfl, _, rfl, D3, _, _, _, rfl, rfl, SqL.of hb, rfl, b0, b1, _, _, rfl, rfl, hb0, hb1, by show 4 ≤ sizeLine; decide, fun p hp => ?_⟩
    have s3 : Same H2 (upd H2 p (.lst (nL [v00, v01] ++ nL [v10, v11]))) := same_new hp
    refine ⟨p, [(v00 : Int), v01, v10, v11], rfl, SqL.of upd_same, _, _, rfl, rfl, .inr ⟨_, rfl, ?_⟩⟩
    dsimp only
    have ec : V.int (if decide ((2 : Int) < ([(v00 : Int), v01, v10, v11]).sum) = true then 1 else 0) = nV (com v00 v01 v10 v11) := by
      have : ([(v00 : Int), v01, v10, v11]).sum = ((v00 + v01 + v10 + v11 : Nat) : Int) := by simp [List.sum_cons]; omega
      rw [this]
      unfold com
      by_cases h : 2 < v00 + v01 + v10 + v11
      · rw [if_pos h, decide_eq_true (by omega)]; rfl
      · rw [if_neg h, decide_eq_false (by omega)]; rfl
    rw [ec]
    generalize upd H2 p (.lst (nL [v00, v01] ++ nL [v10, v11])) = H3 at s3
    have hb3 := s3 _ _ hb
    have hb03 := s3 _ _ hb0
    have hb13 := s3 _ _ hb1
    -- x
    refine ⟨_, rfl, D3, _, _, _, rfl, rfl, SqL.of hb3, rfl, _, rfl, _, rfl, by show 2 ≤ sizeLine; decide, fun p hp => ?_⟩
    have s4 : Same H3 (upd H3 p (.lst [nV (com v00 v01 v10 v11), nV (com v00 v01 v10 v11)])) := same_new hp
    refine ⟨.list [.int v10, .int v11], .list [.int (com v00 v01 v10 v11), .int (com v00 v01 v10 v11)], .lst (SqL.of (s4 _ _ hb13)) (.cons (.int _) (.cons (.int _) .nil)), .lst (SqL.of upd_same) (.cons (.int _) (.cons (.int _) .nil)), shaped_two _ _, shaped_two _ _, .inr ⟨_, rfl, ?_⟩⟩
    have ex : V.int (if (!PyData.eqv (.list [.int (v10 : Int), .int (v11 : Int)]) (.list [.int (com v00 v01 v10 v11 : Nat), .int (com v00 v01 v10 v11 : Nat)])) = true then 1 else 0) = nV (xx v00 v01 v10 v11) := by
      rw [eqv_two]
      unfold xx
      by_cases h : v10 = com v00 v01 v10 v11 ∧ v11 = com v00 v01 v10 v11
      · rw [if_pos h, decide_eq_true h]; rfl
      · rw [if_neg h, decide_eq_false h]; rfl
    rw [ex]
    generalize upd H3 p (.lst [nV (com v00 v01 v10 v11), nV (com v00 v01 v10 v11)]) = H4 at s4
    have hb4 := s4 _ _ hb3
    have hxl := xx_le v00 v01 v10 v11
    have hyl := yy_le v00 v01 v10 v11
    have hcl := com_le v00 v01 v10 v11
    -- y
    obtain ⟨ba, ra, hba, hra⟩ : ∃ ba ra, [V.ref b0, V.ref b1][xx v00 v01 v10 v11]? = some (V.ref ba) ∧ H4 ba = some (.lst (nL ra)) ∧ ra[1]? = some (if xx v00 v01 v10 v11 = 0 then v01 else v11) := by
      rcases (by omega : xx v00 v01 v10 v11 = 0 ∨ xx v00 v01 v10 v11 = 1) with e | e
      · rw [e]; exact ⟨b0, _, rfl, s4 _ _ hb03, rfl⟩
      · rw [e]; exact ⟨b1, _, rfl, s4 _ _ hb13, rfl⟩
    refine ⟨_, rfl, _, rfl, D3, _, _, _, rfl, rfl, SqL.of hb4, atI_nat hba, ba, _, _, _, rfl, rfl, SqL.of hra.1, at_of (j := 1) rfl (nL_at hra.2), _, rfl, rfl, .inr ⟨_, rfl, ?_⟩⟩
    have ey : V.int (if (!decide (nV (if xx v00 v01 v10 v11 = 0 then v01 else v11) = nV (com v00 v01 v10 v11))) = true then 1 else 0) = nV (yy v00 v01 v10 v11) := by
      rw [dec_nat]
      unfold yy
      by_cases h : (if xx v00 v01 v10 v11 = 0 then v01 else v11) = com v00 v01 v10 v11
      · rw [if_pos h, decide_eq_true h]; rfl
      · rw [if_neg h, decide_eq_false h]; rfl
    rw [ey]
    have s14 : Same H H4 := (s12.trans s3).trans s4
    have R4 := R.same s14
    have hsel := odd_pick v00 l00 v01 l01 v10 l10 v11 l11 hodd
    generalize com v00 v01 v10 v11 = cm at *
    generalize xx v00 v01 v10 v11 = xv at *
    generalize yy v00 v01 v10 v11 = yv at *
    -- wires
    have b3 := b62 (n := q.cc.1) (by omega)
    refine ⟨_, rfl, q.gc, _, _, _, rfl, rfl, R4.cg, rfl, _, rfl, b3.1, b3.2, fun Dw hDw => pure_n (n := q.cc.1) (f := fun z => if bt q.r z = 1 then q.w1 else q.w0) hDw (by omega) (fun z H5 Rr N hz s5 hR => ⟨rfl, yes_ ?_⟩) ?_⟩
    · have R5 := R4.same s5
      have hcz : [nV q.w0, nV q.w1][bt q.r z]? = some (nV (if bt q.r z = 1 then q.w1 else q.w0)) := by
        rcases bt01 q.r z with e | e <;> rw [e] <;> rfl
      refine ⟨_, rfl, o.b, T.C, o.dx, _, _, rfl, R5.B.ob, T.cl, T.n_constants, bf_constants .., _, rfl, _, rfl, _, _, rfl, rfl, Int.natCast_nonneg _, _, _, rfl, rfl, o.lc, _, _, _, rfl, rfl, SqL.of R5.B.co, ?_, hR⟩
      rw [c_bit]
      exact atI_nat hcz
    have s5 : Same H4 (upd H4 Dw (.lst (nL ((List.range q.cc.1).map fun z => if bt q.r z = 1 then q.w1 else q.w0)))) := same_new hDw
    have R5 := R4.same s5
    have hw5 : upd H4 Dw (.lst (nL ((List.range q.cc.1).map fun z => if bt q.r z = 1 then q.w1 else q.w0))) Dw = some (.lst (nL ((List.range q.cc.1).map fun z => if bt q.r z = 1 then q.w1 else q.w0))) := upd_same
    have nS := new_notin R4.B hDw
    have nl : Dw ≠ q.l := (ne_of_none R4.tl hDw).symm
    have ng : Dw ≠ o.lg := by
      obtain ⟨refs, g1, _⟩ := R4.B.gl
      exact (ne_of_none g1 hDw).symm
    show tSeq _ _ _ (List.set _ 12 _) _
    generalize upd H4 Dw (.lst (nL ((List.range q.cc.1).map fun z => if bt q.r z = 1 then q.w1 else q.w0))) = H5 at s5 R5 hw5
    have F5 : Frm o.S H H5 := Frm.of (s14.trans s5)
    -- wires[i]
    refine ⟨_, rfl, o.b, o.dx, _, rfl, R5.B.ob, bf_as_value .., _, rfl, _, rfl, o, q, steps, mk, x, xv, rfl, R5, hx, hxl, by omega, fun H6 st6 x6 A6 => ?_⟩
    have hw6 := A6.fr _ _ hw5 nS
    have ln : (nL ((List.range q.cc.1).map fun z => if bt q.r z = 1 then q.w1 else q.w0)).length = q.cc.1 := by rw [nL_len, List.length_map, List.length_range]
    have ixi : ixN (nL ((List.range q.cc.1).map fun z => if bt q.r z = 1 then q.w1 else q.w0)).length (q.i : Int) = some q.i := by
      rw [ln, ixN, if_pos (by omega), if_pos (by omega), c_toNat]
    refine ⟨_, rfl, _, rfl, Dw, _, _, q.i, rfl, rfl, hw6, ixi, ?_⟩
    have R7 := A6.R.other hw6 nS nl ng ((nL ((List.range q.cc.1).map fun z => if bt q.r z = 1 then q.w1 else q.w0)).set q.i (nV x6))
    have hset1 : (nL ((List.range q.cc.1).map fun z => if bt q.r z = 1 then q.w1 else q.w0)).set q.i (nV x6) = nL (((List.range q.cc.1).map fun z => if bt q.r z = 1 then q.w1 else q.w0).set q.i x6) := by simp only [nL, List.map_set]
    rw [hset1] at R7 ⊢
    have hw7 : upd H6 Dw (.lst (nL (((List.range q.cc.1).map fun z => if bt q.r z = 1 then q.w1 else q.w0).set q.i x6))) Dw = some (.lst (nL (((List.range q.cc.1).map fun z => if bt q.r z = 1 then q.w1 else q.w0).set q.i x6))) := upd_same
    have F7 : Frm o.S H (upd H6 Dw (.lst (nL (((List.range q.cc.1).map fun z => if bt q.r z = 1 then q.w1 else q.w0).set q.i x6)))) := frm_upd (F5.trans A6.fr) (.inr (s14.free hDw))
    show tSeq _ _ _ _ _
    generalize upd H6 Dw (.lst (nL (((List.range q.cc.1).map fun z => if bt q.r z = 1 then q.w1 else q.w0).set q.i x6))) = H7 at R7 hw7 F7
    have yo := A6.old hy
    have ln6 := A6.len
    -- wires[j]
    refine ⟨_, rfl, o.b, o.dx, _, rfl, R7.B.ob, bf_as_value .., _, rfl, _, rfl, o, q, st6, mk, y, yv, rfl, R7, yo.1, hyl, by omega, fun H8 st8 y8 A8 => ?_⟩
    have hw8 := A8.fr _ _ hw7 nS
    have ln8 := A8.len
    have ixj : ixN (nL (((List.range q.cc.1).map fun z => if bt q.r z = 1 then q.w1 else q.w0).set q.i x6)).length (q.j : Int) = some q.j := by
      rw [nL_len, List.length_set, List.length_map, List.length_range, ixN, if_pos (by omega), if_pos (by omega), c_toNat]
    refine ⟨_, rfl, _, rfl, Dw, _, _, q.j, rfl, rfl, hw8, ixj, ?_⟩
    have R9 := A8.R.other hw8 nS nl ng ((nL (((List.range q.cc.1).map fun z => if bt q.r z = 1 then q.w1 else q.w0).set q.i x6)).set q.j (nV y8))
    have hset2 : (nL (((List.range q.cc.1).map fun z => if bt q.r z = 1 then q.w1 else q.w0).set q.i x6)).set q.j (nV y8) = nL (bothW q.cc.1 q.r q.i q.j q.w0 q.w1 x6 y8) := by simp only [nL, bothW, List.map_set]
    rw [hset2] at R9 ⊢
    have hw9 : upd H8 Dw (.lst (nL (bothW q.cc.1 q.r q.i q.j q.w0 q.w1 x6 y8))) Dw = some (.lst (nL (bothW q.cc.1 q.r q.i q.j q.w0 q.w1 x6 y8))) := upd_same
    have F9 : Frm o.S H (upd H8 Dw (.lst (nL (bothW q.cc.1 q.r q.i q.j q.w0 q.w1 x6 y8)))) := frm_upd (F7.trans A8.fr) (.inr (s14.free hDw))
    dsimp only
    generalize upd H8 Dw (.lst (nL (bothW q.cc.1 q.r q.i q.j q.w0 q.w1 x6 y8))) = H9 at R9 hw9 F9
    -- the step, and its exchange
    obtain ⟨m6, e6⟩ := A6.ext
    obtain ⟨m8, e8⟩ := A8.ext
    have x8 := A8.old A6.low
    refine ⟨_, rfl, o.b, o.dx, _, rfl, R9.B.ob, bf_as_value .., _, rfl, o.b, o.dx, _, rfl, R9.B.ob, bf_laid .., _, rfl, _, rfl, o, st8, _, _, _, _, mk, q.gc, Dw, q.cc, _, rfl, R9.B, R9.cg, SqL.of hw9, by omega, fun H10 B10 f10 => ?_⟩
    have wf10 : Wf o.gs o.n (st8 ++ [(q.cc, bothW q.cc.1 q.r q.i q.j q.w0 q.w1 x6 y8)]) := R9.ok.wf.snoc R9.ok.cm (by simp [bothW]) (bothW_low R9.ok.l0 R9.ok.l1 x8.1 A8.low)
    have R10 := R9.keep B10 f10 wf10
    have e1c : (1 : Int) - (cm : Int) = ((1 - cm : Nat) : Int) := by omega
    refine ⟨_, rfl, _, _, rfl, rfl, ?_⟩
    show spAsValue K T.C [.ref o.b, nV (o.n + st8.length), .int ((1 : Int) - (cm : Int))] _ _ E0
    rw [e1c]
    refine ⟨o, q, _, mk, o.n + st8.length, 1 - cm, rfl, R10, by rw [List.length_append, List.length_singleton]; omega, by omega, by rw [List.length_append, List.length_singleton]; omega, fun H11 st11 x11 A11 => ?_⟩
    obtain ⟨m11, e11⟩ := A11.ext
    have ln11 := A11.len
    rw [List.length_append, List.length_singleton] at ln11
    refine k H11 st11 x11 ⟨A11.R, ⟨m6 ++ m8 ++ [(q.cc, bothW q.cc.1 q.r q.i q.j q.w0 q.w1 x6 y8)] ++ m11, by rw [e11, e8, e6]; simp⟩, by omega, (F9.trans f10).trans A11.fr, A11.low, fun ρ => ?_⟩
    rw [A11.val, wv_new]
    show (if 1 - cm = 1 then gv q.cc ((bothW q.cc.1 q.r q.i q.j q.w0 q.w1 x6 y8).map _) else 1 - gv q.cc ((bothW q.cc.1 q.r q.i q.j q.w0 q.w1 x6 y8).map _)) = _
    rw [bothW_val (by omega) od2 od3 od1 R9.ok.v0 R9.ok.v1, x8.2, A6.val, A8.val, yo.2]
    have u := wv_le o.n steps ρ x
    have v := wv_le o.n steps ρ y
    rw [← hpick _ _ (by split <;> omega) (by split <;> omega)]
    exact hsel _ (by omega) _ (by omega)
end
end Gk

namespace Gk
open PySem L2
section
variable {P : Program} {w : World} {K : PySem.W.Frag} {mg : Str → Option Value} {base : Heap} {C : Addr}
/-! either -/
def spEither (K : PySem.W.Frag) (C : Addr) : Sp := fun vs H Q _ => ∃ (o : BO) (q : RP) (steps : List Step) (mk : List (List Key × V)) (x y : Nat), vs = [.ref o.b, nV x, nV y] ∧ RAt K C o q H steps mk ∧ x < o.n + steps.length ∧ y < o.n + steps.length ∧ steps.length ≤ 800 ∧
  ∀ H' steps' x', Aft K C o q H steps mk 7 (fun r => 1 - (1 - wv o.n steps r x) * (1 - wv o.n steps r y)) H' steps' x' → Q (nV x') H'
theorem ok_beither (T : Pg w K mg) : FnOk P w K mg base CX0 5 T.f_beither T.d_beither ["self", "one", "other"] (spEither K T.C) := by
  refine T.F_beither.ok sc_beither (fun vs H Q E h => ?_) (fun cdv A outer s H vs Q E hr h => ?_)
  · obtain ⟨o, q, _, _, x, z, rfl, _⟩ := h; rfl
  · obtain ⟨o, q, steps, mk, x, y, rfl, R, hx, hy, hl, k⟩ := h
    refine ⟨_, (pss_one (ps_ret (pe_meth (pv 0) T.cl T.mt_bexchanged (ok_bexchanged T) (hr.mono (by decide)) T.b_bexchanged .nil pass0 (pa_cons (pe_meth (pv 0) T.cl T.mt_bboth (ok_bboth T) (hr.mono (by decide)) T.b_bboth .nil pass0 (pa_cons (pe_meth (pv 0) T.cl T.mt_bexchanged (ok_bexchanged T) (hr.mono (by decide)) T.b_bexchanged .nil pass0 (pa_cons (pv 1) pa_nil)) (pa_cons (pe_meth (pv 0) T.cl T.mt_bexchanged (ok_bexchanged T) (hr.mono (by decide)) T.b_bexchanged .nil pass0 (pa_cons (pv 2) pa_nil)) pa_nil))) pa_nil)))), ?_⟩
    refine ⟨_, rfl, o.b, o.dx, _, rfl, R.B.ob, bf_exchanged .., _, rfl, o.b, o.dx, _, rfl, R.B.ob, bf_both .., _, rfl, o.b, o.dx, _, rfl, R.B.ob, bf_exchanged .., _, rfl, ?_⟩
    dsimp only [tNil]
    refine exch_sp (E := E0) R hx (by omega) fun H1 s1 x1 A1 => ?_
    have ln1 := A1.len
    have y1 := A1.old hy
    refine ⟨_, rfl, o.b, o.dx, _, rfl, A1.R.B.ob, bf_exchanged .., _, rfl, ?_⟩
    dsimp only [tNil]
    refine exch_sp (E := E0) A1.R y1.1 (by omega) fun H2 s2 x2 A2 => ?_
    have ln2 := A2.len
    have x12 := A2.old A1.low
    refine ⟨o, q, s2, mk, x1, x2, rfl, A2.R, x12.1, A2.low, by omega, fun H3 s3 x3 A3 => ?_⟩
    have ln3 := A3.len
    dsimp only [tNil]
    refine exch_sp (E := E0) A3.R A3.low (by omega) fun H4 s4 x4 A4 => k H4 s4 x4 ?_
    obtain ⟨m1, e1⟩ := A1.ext
    obtain ⟨m2, e2⟩ := A2.ext
    obtain ⟨m3, e3⟩ := A3.ext
    obtain ⟨m4, e4⟩ := A4.ext
    have ln4 := A4.len
    refine ⟨A4.R, ⟨m1 ++ m2 ++ m3 ++ m4, by rw [e4, e3, e2, e1]; simp⟩, by omega, ((A1.fr.trans A2.fr).trans A3.fr).trans A4.fr, A4.low, fun ρ => ?_⟩
    rw [A4.val, A3.val, x12.2, A2.val, A1.val, y1.2]
end
end Gk

namespace Gk
open PySem L2
section
variable {P : Program} {w : World} {K : PySem.W.Frag} {mg : Str → Option Value} {base : Heap} {C : Addr}
theorem seq_joinS {t rest : TS} {D : Ends} {σ : L2.St} {H : Hp} (M : L2.St → Hp → Prop) (h1 : ∀ nx : L2.St → Hp → Prop, (∀ σ' H', M σ' H' → nx σ' H') → t { D with nx := nx } σ H) (h2 : ∀ σ' H', M σ' H' → rest D σ' H') : tSeq t rest D σ H := h1 _ h2
theorem RAt.setM {o : BO} {q : RP} {H : Hp} {steps : List Step} {mk : List (List Key × V)} (R : RAt K C o q H steps mk) (mk' : List (List Key × V)) : RAt K C o q (upd H o.dm (.dT mk')) steps mk' ∧ Frm o.S H (upd H o.dm (.dT mk')) := by
  obtain ⟨srefs, hs, hp⟩ := R.B.st
  obtain ⟨nb1, nb2, nb3, nb4, nb5⟩ := R.B.apart
  have f : Frm o.S H (upd H o.dm (.dT mk')) := frm_upd (Frm.refl _ _) (.inl (by simp))
  exact ⟨⟨⟨by rw [upd_ne nb3]; exact R.B.ob, ⟨srefs, by rw [upd_ne nb4]; exact hs, L2.Paired.mapP hp fun _ _ z => R.B.step f z⟩, by rw [upd_ne nb5]; exact R.B.co, upd_same, R.B.gates f, R.B.ng, R.B.sc⟩,
    R.B.tup f R.tp, R.B.tup f R.tg, f _ _ R.tl R.nl, R.nl, R.B.tup f R.cp, R.B.tup f R.cg, R.B.tup f R.ct, R.ok, R.v3⟩, f⟩
abbrev mkKey (t i : Nat) : List Key := [.inl (t : Int), .inl (i : Int)]
/-- what made holds -/
def MkOk (n : Nat) (steps : List Step) (mk : List (List Key × V)) : Prop := ∀ (t i : Nat) (v : V), valV mk (mkKey t i) = some v → ∃ x, v = nV x ∧ x < n + steps.length ∧ ∀ r, wv n steps r x = bt t (r % 2 ^ i)
theorem MkOk.more {n : Nat} {steps more : List Step} {mk : List (List Key × V)} (h : MkOk n steps mk) : MkOk n (steps ++ more) mk := fun t i v e => by
  obtain ⟨x, h1, h2, h3⟩ := h t i v e
  exact ⟨x, h1, by rw [List.length_append]; omega, fun r => by rw [wv_old h2]; exact h3 r⟩
theorem MkOk.put {n : Nat} {steps : List Step} {mk : List (List Key × V)} (h : MkOk n steps mk) {t i x : Nat} (hx : x < n + steps.length) (hv : ∀ r, wv n steps r x = bt t (r % 2 ^ i)) : MkOk n steps (putK mk (mkKey t i) (nV x)) := fun t' i' v e => by
  rw [valV_put] at e
  by_cases z : mkKey t' i' = mkKey t i
  · rw [if_pos z] at e
    cases e
    have e1 : t' = t ∧ i' = i := by
      injection z with a b; injection b with b _; injection a with a; injection b with b
      exact ⟨by omega, by omega⟩
    obtain ⟨rfl, rfl⟩ := e1
    exact ⟨x, rfl, hx, hv⟩
  · rw [if_neg z] at e
    exact h t' i' v e
def cost (i : Nat) : Nat := 16 * (2 ^ i - 1)
theorem cost_succ (i : Nat) : cost (i + 1) = 2 * cost i + 16 := by
  have : 0 < 2 ^ i := Nat.pow_pos (by decide)
  unfold cost; rw [Nat.pow_succ]; omega
/-- a wire with a table over the first inputs -/
structure AftW (K : PySem.W.Frag) (C : Addr) (o : BO) (q : RP) (H : Hp) (steps : List Step) (mk : List (List Key × V)) (t i : Nat) (H' : Hp) (steps' : List Step) (mk' : List (List Key × V)) (x' : Nat) : Prop where
  R : RAt K C o q H' steps' mk'
  mo : MkOk o.n steps' mk'
  ext : ∃ more, steps' = steps ++ more
  len : steps'.length ≤ steps.length + cost i
  mln : mk'.length ≤ mk.length + (2 ^ i - 1)
  fr : Frm o.S H H'
  low : x' < o.n + steps'.length
  val : ∀ r, wv o.n steps' r x' = bt t (r % 2 ^ i)
def spWire (K : PySem.W.Frag) (C : Addr) (m : Nat) : Sp := fun vs H Q _ => ∃ (o : BO) (q : RP) (steps : List Step) (mk : List (List Key × V)) (t i : Nat), vs = [.ref o.b, nV t, nV i] ∧ RAt K C o q H steps mk ∧ MkOk o.n steps mk ∧ i < m ∧ i ≤ o.n ∧ i ≤ 4 ∧ t < 2 ^ 2 ^ i ∧
  steps.length + cost i ≤ 700 ∧ mk.length + 2 ^ i ≤ 700 ∧ ∀ H' steps' mk' x', AftW K C o q H steps mk t i H' steps' mk' x' → Q (nV x') H'
theorem ok_wire_step (T : Pg w K mg) (m : Nat) (IH : FnOk P w K mg base CX0 (6 + m) T.f_bwire_of T.d_bwire_of ["self", "table", "inputs"] (spWire K T.C m)) : FnOk P w K mg base CX0 (6 + m + 1) T.f_bwire_of T.d_bwire_of ["self", "table", "inputs"] (spWire K T.C (m + 1)) := by
  refine T.F_bwire_of.ok (k := 6 + m) sc_bwire_of (fun vs H Q E h => ?_) (fun cdv A outer s H vs Q E hr h => ?_)
  · obtain ⟨o, q, _, _, t, i, rfl, _⟩ := h; rfl
  · obtain ⟨o, q, steps, mk, t, i, rfl, R, M, him, hin, hi4, ht, hl, hml, k⟩ := h
    have hu := hu_of hr
    refine ⟨_, (pss_cons (ps_if (pt_cmpR op_eq (pv 2) pe_int (nomark _)) (pss_one (ps_ret (pe_ix ix_list (pe_fld (pv 0) rfl) (pv 1) (fun _ _ => rfl)))) pss_nil)
  (pss_cons (ps_if (pt_cmp (pc_dnotin hu (pe_tup (pa_cons (pv 1) (pa_cons (pv 2) pa_nil))) (pe_fld (pv 0) rfl))) (pss_cons (ps_set (i := 3) sc_bwire_of.nd rfl (by first | exact Or.inl rfl | exact Or.inr rfl) (pe_op op_shl pe_int (pe_op op_sub (pv 2) pe_int)))
  (pss_cons (ps_set (i := 4) sc_bwire_of.nd rfl (by first | exact Or.inl rfl | exact Or.inr rfl) (pe_op op_and (pv 1) (pe_op op_sub (pe_op op_shl pe_int (pv 3)) pe_int)))
  (pss_cons (ps_set (i := 5) sc_bwire_of.nd rfl (by first | exact Or.inl rfl | exact Or.inr rfl) (pe_op op_shr (pv 1) (pv 3)))
  (pss_cons (ps_set (i := 6) sc_bwire_of.nd rfl (by first | exact Or.inl rfl | exact Or.inr rfl) (pe_meth (pv 0) T.cl T.mt_bwire_of IH (hr.mono (by omega)) T.b_bwire_of .nil pass0 (pa_cons (pv 4) (pa_cons (pe_op op_sub (pv 2) pe_int) pa_nil))))
  (pss_cons (ps_if (pt_cmpR op_ne (pv 4) (pv 5) (nomark _)) (pss_cons (ps_set (i := 7) sc_bwire_of.nd rfl (by first | exact Or.inl rfl | exact Or.inr rfl) (pe_meth (pv 0) T.cl T.mt_bboth (ok_bboth T) (hr.mono (by omega)) T.b_bboth .nil pass0 (pa_cons (pe_op op_sub (pv 2) pe_int) (pa_cons (pe_meth (pv 0) T.cl T.mt_bwire_of IH (hr.mono (by omega)) T.b_bwire_of .nil pass0 (pa_cons (pv 5) (pa_cons (pe_op op_sub (pv 2) pe_int) pa_nil))) pa_nil))))
  (pss_one (ps_set (i := 6) sc_bwire_of.nd rfl (by first | exact Or.inl rfl | exact Or.inr rfl) (pe_meth (pv 0) T.cl T.mt_beither (ok_beither T) (hr.mono (by omega)) T.b_beither .nil pass0 (pa_cons (pv 7) (pa_cons (pe_meth (pv 0) T.cl T.mt_bboth (ok_bboth T) (hr.mono (by omega)) T.b_bboth .nil pass0 (pa_cons (pe_meth (pv 0) T.cl T.mt_bexchanged (ok_bexchanged T) (hr.mono (by omega)) T.b_bexchanged .nil pass0 (pa_cons (pe_op op_sub (pv 2) pe_int) pa_nil)) (pa_cons (pv 6) pa_nil))) pa_nil)))))) pss_nil)
  (pss_one (ps_dput hu (pe_fld (pv 0) rfl) (pe_tup (pa_cons (pv 1) (pa_cons (pv 2) pa_nil))) (pv 6) rfl))))))) pss_nil)
  (pss_one (ps_ret (pe_dget hu (pe_fld (pv 0) rfl) (pe_tup (pa_cons (pv 1) (pa_cons (pv 2) pa_nil))) (fun _ _ => rfl)))))), ?_⟩
    -- inputs == 0
    refine ⟨_, rfl, rfl, _, rfl, ?_⟩
    rw [show decide (V.int (i : Int) = V.int 0) = decide (i = 0) from dec_nat i 0]
    refine ite2 (fun h => ?_) (fun h => ?_)
    · have h := of_decide_eq_true h
      subst h
      have ht2 : t < 2 := ht
      have hc : [nV q.w0, nV q.w1][t]? = some (nV (if t = 1 then q.w1 else q.w0)) := by
        rcases (by omega : t = 0 ∨ t = 1) with rfl | rfl <;> rfl
      refine ⟨_, rfl, o.b, T.C, o.dx, _, _, rfl, R.B.ob, T.cl, T.n_constants, bf_constants .., _, rfl, o.lc, _, _, _, rfl, rfl, SqL.of R.B.co, atI_nat hc, ?_⟩
      refine k H steps mk _ ⟨R, M, ⟨[], by simp⟩, by omega, by omega, Frm.refl _ _, by split; exact R.ok.l1; exact R.ok.l0, fun r => ?_⟩
      rw [Nat.pow_zero, Nat.mod_one]
      rcases (by omega : t = 0 ∨ t = 1) with rfl | rfl
      · exact R.ok.v0 r
      · exact R.ok.v1 r
    have h : ¬ i = 0 := fun e => h (decide_eq_true e)
    obtain ⟨i', rfl⟩ : ∃ i', i = i' + 1 := ⟨i - 1, by omega⟩
    have hcs := cost_succ i'
    have hp2 : 2 ^ (i' + 1) = 2 ^ i' + 2 ^ i' := by rw [Nat.pow_succ]; omega
    have hpp : 0 < 2 ^ i' := Nat.pow_pos (by decide)
    have h16 : 2 ^ i' ≤ 8 := Nat.le_trans (Nat.pow_le_pow_right (by decide) (by omega : i' ≤ 3)) (by decide)
    have ei : (((i' + 1 : Nat) : Int) - 1) = ((i' : Nat) : Int) := by omega
    dsimp only [tNext]
    refine seq_joinS (M := fun σ' H' => ∃ steps' mk' x', AftW K T.C o q H steps mk t (i' + 1) H' steps' mk' x' ∧ valV mk' (mkKey t (i' + 1)) = some (nV x') ∧ ∃ v3 v4 v5 v6 v7, σ' = [some (.ref o.b), some (nV t), some (nV (i' + 1)), v3, v4, v5, v6, v7]) (fun nx hk => ?_) ?_
    · refine ⟨_, rfl, _, rfl, by show 2 ≤ sizeLine; decide, fun p hp => ?_⟩
      have s1 : Same H (upd H p (.tup [nV t, nV (i' + 1)])) := same_new hp
      have R1 := R.same s1
      refine ⟨_, rfl, o.b, T.C, o.dx, _, _, rfl, R1.B.ob, T.cl, T.n_made, bf_made .., o.dm, _, rfl, DGet.t (k := mkKey t (i' + 1)) R1.B.md upd_same, _, rfl, ?_⟩
      cases hmk : valV mk (mkKey t (i' + 1)) with
      | some v =>
        refine iteF ?_
        obtain ⟨x, rfl, hx, hv⟩ := M t (i' + 1) v hmk
        exact hk _ _ ⟨steps, mk, x, ⟨R1, M, ⟨[], by simp⟩, by omega, by omega, Frm.of s1, hx, hv⟩, hmk, none, none, none, none, none, rfl⟩
      | none =>
        refine iteT ?_
        have cp0 : CPow (1 : Int) (((i' + 1 : Nat) : Int) - 1) := by rw [ei]; exact cpow (x := 1) (by omega) (by omega)
        refine ⟨_, rfl, _, _, rfl, rfl, _, _, rfl, rfl, cp0, ?_⟩
        dsimp only
        rw [ei, c_one]
        refine ⟨_, rfl, _, rfl, _, _, rfl, rfl, cpow (x := 1) (by omega) (by omega), _, _, rfl, rfl, _, _, rfl, rfl, ?_⟩
        dsimp only
        rw [c_full, c_and, mask_mod]
        refine ⟨_, rfl, _, rfl, _, _, rfl, rfl, Int.natCast_nonneg _, ?_⟩
        dsimp only
        rw [c_shr]
        have hlow : t % 2 ^ 2 ^ i' < 2 ^ 2 ^ i' := Nat.mod_lt _ (Nat.pow_pos (by decide))
        have hhigh : t / 2 ^ 2 ^ i' < 2 ^ 2 ^ i' := div_lt_table ht
        have hsp := fun r => split_table t r i'
        generalize t % 2 ^ 2 ^ i' = lo at hlow hsp
        generalize t / 2 ^ 2 ^ i' = hi at hhigh hsp
        -- found
        refine ⟨_, rfl, o.b, o.dx, _, rfl, R1.B.ob, bf_wire_of .., _, rfl, _, rfl, _, _, rfl, rfl, ?_⟩
        dsimp only [tNil]
        rw [ei]
        refine ⟨o, q, steps, mk, lo, i', rfl, R1, M, by omega, by omega, by omega, hlow, by omega, by omega, fun H2 st2 mk2 x2 A2 => ?_⟩
        have ln2 := A2.len
        have ml2 := A2.mln
        refine seq_joinS (M := fun σ' H' => ∃ st mk' x', RAt K T.C o q H' st mk' ∧ MkOk o.n st mk' ∧ (∃ more, st = steps ++ more) ∧ st.length ≤ steps.length + cost (i' + 1) ∧ mk'.length ≤ mk.length + 2 * (2 ^ i' - 1) ∧ Frm o.S H H' ∧ x' < o.n + st.length ∧
          (∀ r, wv o.n st r x' = bt t (r % 2 ^ (i' + 1))) ∧ mk'.length ≤ mk.length + 2 ^ (i' + 1) ∧ ∃ v3 v4 v5 v7, σ' = [some (.ref o.b), some (nV t), some (nV (i' + 1)), v3, v4, v5, some (nV x'), v7]) (fun nx2 hk2 => ?_) ?_
        · refine ⟨_, rfl, _, rfl, rfl, _, rfl, ?_⟩
          rw [dec_nat]
          by_cases hlh : lo = hi
          · rw [decide_eq_true hlh]
            refine iteF ?_
            refine hk2 _ _ ⟨st2, mk2, x2, A2.R, A2.mo, A2.ext, by omega, by omega, (Frm.of s1).trans A2.fr, A2.low, fun r => ?_, by omega, _, _, _, _, rfl⟩
            rw [A2.val, hsp, ← hlh]; simp
          · rw [decide_eq_false hlh]
            refine iteT ?_
            -- more
            refine ⟨_, rfl, o.b, o.dx, _, rfl, A2.R.B.ob, bf_both .., _, rfl, _, _, rfl, rfl, _, rfl, o.b, o.dx, _, rfl, A2.R.B.ob, bf_wire_of .., _, rfl, _, rfl, _, _, rfl, rfl, ?_⟩
            dsimp only [tNil]
            rw [ei]
            refine ⟨o, q, st2, mk2, hi, i', rfl, A2.R, A2.mo, by omega, by omega, by omega, hhigh, by omega, by omega, fun H3 st3 mk3 x3 A3 => ?_⟩
            have ln3 := A3.len
            have ml3 := A3.mln
            have wi3 : i' < o.n + st3.length := by omega
            refine ⟨o, q, st3, mk3, i', x3, rfl, A3.R, wi3, A3.low, by omega, fun H4 st4 x4 A4 => ?_⟩
            have ln4 := A4.len
            have wi4 := A4.old wi3
            -- found
            refine ⟨_, rfl, o.b, o.dx, _, rfl, A4.R.B.ob, bf_either .., _, rfl, _, rfl, o.b, o.dx, _, rfl, A4.R.B.ob, bf_both .., _, rfl, o.b, o.dx, _, rfl, A4.R.B.ob, bf_exchanged .., _, rfl, _, _, rfl, rfl, ?_⟩
            dsimp only [tNil]
            rw [ei]
            refine exch_sp (E := E0) A4.R wi4.1 (by omega) fun H5 st5 x5 A5 => ?_
            have ln5 := A5.len
            obtain ⟨e2, h2⟩ := A2.ext
            obtain ⟨e3, h3⟩ := A3.ext
            have f2 : x2 < o.n + st3.length ∧ ∀ r, wv o.n st3 r x2 = wv o.n st2 r x2 := by
              rw [h3]; exact ⟨by have := A2.low; rw [List.length_append]; omega, fun r => wv_old A2.low⟩
            have f4 := A4.old f2.1
            have f5 := A5.old f4.1
            have m5 := A5.old A4.low
            refine ⟨_, rfl, o, q, st5, mk3, x5, x2, rfl, A5.R, A5.low, f5.1, by omega, fun H6 st6 x6 A6 => ?_⟩
            have ln6 := A6.len
            have m6 := A6.old m5.1
            refine ⟨o, q, st6, mk3, x4, x6, rfl, A6.R, m6.1, A6.low, by omega, fun H7 st7 x7 A7 => ?_⟩
            have ln7 := A7.len
            obtain ⟨e4, h4⟩ := A4.ext
            obtain ⟨e5, h5⟩ := A5.ext
            obtain ⟨e6, h6⟩ := A6.ext
            obtain ⟨e7, h7⟩ := A7.ext
            have mo7 : MkOk o.n st7 mk3 := by rw [h7, h6, h5, h4]; exact (((A3.mo.more).more).more).more
            refine hk2 _ _ ⟨st7, mk3, x7, A7.R, mo7, ⟨e2 ++ e3 ++ e4 ++ e5 ++ e6 ++ e7, by rw [h7, h6, h5, h4, h3, h2]; simp⟩, by omega, by omega, (((((Frm.of s1).trans A2.fr).trans A3.fr).trans A4.fr).trans A5.fr).trans (A6.fr.trans A7.fr), A7.low, fun r => ?_, by omega, _, _, _, _, rfl⟩
            rw [A7.val, m6.2, m5.2, A4.val, A6.val, A5.val, f5.2, f4.2, f2.2, A3.val, A2.val, wi4.2, wv_in (by omega : i' < o.n), hsp]
            exact sel_val _ (bt_le _ _) _ (bt_le _ _) _ (bt_le _ _)
        rintro σ' H3 ⟨st3, mk3, x3, R3, M3, X3, L3, ml3, F3, low3, v3, ml3', w3, w4, w5, w7, rfl⟩
        -- self.made[table, inputs] = found
        refine ⟨_, rfl, _, rfl, o.b, T.C, o.dx, _, _, rfl, R3.B.ob, T.cl, T.n_made, bf_made .., _, rfl, _, rfl, by show 2 ≤ sizeLine; decide, fun p2 hp2 => ?_⟩
        have s4 : Same H3 (upd H3 p2 (.tup [nV t, nV (i' + 1)])) := same_new hp2
        have R4 := R3.same s4
        refine ⟨o.dm, _, rfl, DPut.t (k := mkKey t (i' + 1)) R4.B.md (show upd H3 p2 (.tup [nV t, nV (i' + 1)]) p2 = some (.tup ((mkKey t (i' + 1)).map kV)) from upd_same) (small (by omega)), ?_⟩
        obtain ⟨R5, f5⟩ := R4.setM (putK mk3 (mkKey t (i' + 1)) (nV x3))
        have lp := length_putK mk3 (mkKey t (i' + 1)) (nV x3)
        exact hk _ _ ⟨st3, _, x3, ⟨R5, M3.put low3 v3, X3, L3, by omega, (F3.trans (Frm.of s4)).trans f5, low3, v3⟩, by rw [valV_put, if_pos rfl], _, _, _, _, _, rfl⟩
    rintro σ' H' ⟨steps', mk', x', A, hmk, v3, v4, v5, v6, v7, rfl⟩
    refine ⟨_, rfl, o.b, T.C, o.dx, _, _, rfl, A.R.B.ob, T.cl, T.n_made, bf_made .., _, rfl, _, rfl, by show 2 ≤ sizeLine; decide, fun p hp => ?_⟩
    have s1 : Same H' (upd H' p (.tup [nV t, nV (i' + 1)])) := same_new hp
    have g := DGet.t (k := mkKey t (i' + 1)) (s1 _ _ A.R.B.md) (show upd H' p (.tup [nV t, nV (i' + 1)]) p = some (.tup ((mkKey t (i' + 1)).map kV)) from upd_same)
    rw [hmk] at g
    refine ⟨o.dm, _, rfl, g, ?_⟩
    exact k _ steps' mk' x' ⟨A.R.same s1, A.mo, A.ext, A.len, A.mln, A.fr.trans (Frm.of s1), A.low, A.val⟩
theorem ok_bwire_of (T : Pg w K mg) : ∀ m : Nat, FnOk P w K mg base CX0 (6 + m) T.f_bwire_of T.d_bwire_of ["self", "table", "inputs"] (spWire K T.C m)
  | 0 => by
    refine T.F_bwire_of.ok (k := 5) sc_bwire_of (fun vs H Q E h => ?_) (fun cdv A outer s H vs Q E hr h => ?_)
    · obtain ⟨o, q, _, _, t, i, rfl, _⟩ := h; rfl
    · obtain ⟨o, q, _, _, t, i, rfl, _, _, hi, _⟩ := h
      exact absurd hi (Nat.not_lt_zero i)
  | m + 1 => ok_wire_step T m (ok_bwire_of T m)
end
end Gk

/-! joins: alike steps once, unused steps left out -/
namespace Gk
def ren (names : List Nat) (s : Step) : Step := (s.1, s.2.map (names.getD · 0))
structure Al (gs : List Gate) (n : Nat) (steps : List Step) (names : List Nat) (kept : List Step) (lk : Step → Option Nat) : Prop where
  len : names.length = n + steps.length
  wf : Wf gs n kept
  ok : ∀ w, w < n + steps.length → names.getD w 0 < n + kept.length ∧ ∀ r, wv n kept r (names.getD w 0) = wv n steps r w
  lo : ∀ st m, lk st = some m → m < n + kept.length ∧ (∀ w ∈ st.2, w < n + kept.length) ∧ ∀ r, wv n kept r m = gv st.1 (st.2.map (wv n kept r))
variable {gs : List Gate} {n : Nat} {steps : List Step} {names : List Nat} {kept : List Step} {lk : Step → Option Nat}
theorem getD_snoc (l : List Nat) (x : Nat) : (l ++ [x]).getD l.length 0 = x := by
  rw [List.getD_eq_getElem?_getD, List.getElem?_append_right (Nat.le_refl _), Nat.sub_self]; rfl
theorem range_getD {n w : Nat} (h : w < n) : (List.range n).getD w 0 = w := by
  rw [List.getD_eq_getElem?_getD, List.getElem?_range h]; rfl
theorem Al.nil (gs : List Gate) (n : Nat) : Al gs n [] (List.range n) [] (fun _ => none) where
  len := by simp
  wf := Wf.nil gs n
  ok := fun w hw => by
    have hw : w < n := by simpa using hw
    rw [range_getD hw]
    exact ⟨by simpa using hw, fun r => rfl⟩
  lo := fun st m e => by cases e
theorem Al.found (h : Al gs n steps names kept lk) {s : Step} {m : Nat} (hw : ∀ w ∈ s.2, w < n + steps.length) (e : lk (ren names s) = some m) : Al gs n (steps ++ [s]) (names ++ [m]) kept lk where
  len := by rw [List.length_append, h.len, List.length_append]; simp; omega
  wf := h.wf
  lo := h.lo
  ok := fun w hw' => by
    by_cases hl : w < n + steps.length
    · rw [getD_app (by rw [h.len]; exact hl)]
      refine ⟨(h.ok w hl).1, fun r => ?_⟩
      rw [(h.ok w hl).2, wv_old hl]
    · have hz : w = n + steps.length := by rw [List.length_append] at hw'; simp at hw'; omega
      subst hz
      rw [← h.len, getD_snoc, h.len]
      obtain ⟨a, b, c⟩ := h.lo _ _ e
      refine ⟨a, fun r => ?_⟩
      rw [c, wv_new]
      show gv s.1 (((s.2.map (names.getD · 0))).map (wv n kept r)) = _
      rw [List.map_map]
      congr 1
      exact List.map_congr_left fun w hw2 => (h.ok w (hw w hw2)).2 r
theorem ren_low (h : Al gs n steps names kept lk) {s : Step} (hw : ∀ w ∈ s.2, w < n + steps.length) : ∀ w ∈ (ren names s).2, w < n + kept.length := fun w hw' => by
  obtain ⟨x, hx, rfl⟩ := List.mem_map.mp hw'
  exact (h.ok x (hw x hx)).1
theorem Al.add (h : Al gs n steps names kept lk) {s : Step} {lk' : Step → Option Nat} (hg : s.1 ∈ gs) (hl : s.2.length = s.1.1) (hw : ∀ w ∈ s.2, w < n + steps.length)
    (e : ∀ st m, lk' st = some m → (st = ren names s ∧ m = n + kept.length) ∨ lk st = some m) : Al gs n steps names (kept ++ [ren names s]) lk' where
  len := h.len
  wf := h.wf.snoc hg (by show (List.map _ s.2).length = s.1.1; rw [List.length_map]; exact hl) (ren_low h hw)
  ok := fun w hw' => by
    obtain ⟨a, b⟩ := h.ok w hw'
    refine ⟨by rw [List.length_append]; omega, fun r => ?_⟩
    rw [wv_old a, b]
  lo := fun st m e' => by
    rcases e st m e' with ⟨rfl, rfl⟩ | e2
    · have lw := ren_low h hw
      refine ⟨by rw [List.length_append]; simp, fun w hw2 => by have := lw w hw2; rw [List.length_append]; omega, fun r => ?_⟩
      rw [wv_new, map_old lw]
    · obtain ⟨a, b, c⟩ := h.lo _ _ e2
      refine ⟨by rw [List.length_append]; omega, fun w hw2 => by have := b w hw2; rw [List.length_append]; omega, fun r => ?_⟩
      rw [wv_old a, c, map_old b]
/-! unused -/
structure Un (gs : List Gate) (n : Nat) (u : Nat → Bool) (steps : List Step) (names : List Nat) (kept : List Step) : Prop where
  len : names.length = n + steps.length
  wf : Wf gs n (kept.map (ren names))
  kw : ∀ s ∈ kept, ∀ w ∈ s.2, w < names.length
  kl : kept.length ≤ steps.length
  ok : ∀ w, w < n + steps.length → (w < n ∨ u w = true) → names.getD w 0 < n + kept.length ∧ ∀ r, wv n (kept.map (ren names)) r (names.getD w 0) = wv n steps r w
variable {u : Nat → Bool}
theorem Un.nil (gs : List Gate) (n : Nat) (u : Nat → Bool) : Un gs n u [] (List.range n) [] where
  len := by simp
  wf := Wf.nil gs n
  kw := fun s hs => by cases hs
  kl := Nat.le_refl _
  ok := fun w hw _ => by
    have hw : w < n := by simpa using hw
    rw [range_getD hw]
    exact ⟨by simpa using hw, fun r => rfl⟩
theorem ren_app {names more : List Nat} {s : Step} (h : ∀ w ∈ s.2, w < names.length) : ren (names ++ more) s = ren names s := by
  unfold ren
  congr 1
  exact List.map_congr_left fun w hw => getD_app (h w hw)
theorem rens_app {names more : List Nat} {kept : List Step} (h : ∀ s ∈ kept, ∀ w ∈ s.2, w < names.length) : kept.map (ren (names ++ more)) = kept.map (ren names) :=
  List.map_congr_left fun s hs => ren_app (h s hs)
theorem Un.skip (h : Un gs n u steps names kept) (s : Step) (hu : u (n + steps.length) = false) : Un gs n u (steps ++ [s]) (names ++ [n + kept.length]) kept where
  len := by rw [List.length_append, h.len, List.length_append]; simp; omega
  wf := by rw [rens_app h.kw]; exact h.wf
  kw := fun s' hs w hw => by have := h.kw s' hs w hw; rw [List.length_append]; omega
  kl := by have := h.kl; rw [List.length_append]; omega
  ok := fun w hw' hu' => by
    rw [rens_app h.kw]
    by_cases hl : w < n + steps.length
    · rw [getD_app (by rw [h.len]; exact hl)]
      refine ⟨(h.ok w hl hu').1, fun r => ?_⟩
      rw [(h.ok w hl hu').2, wv_old hl]
    · have hz : w = n + steps.length := by rw [List.length_append] at hw'; simp at hw'; omega
      subst hz
      rcases hu' with hu' | hu'
      · omega
      · rw [hu] at hu'; cases hu'
theorem Un.take (h : Un gs n u steps names kept) {s : Step} (hg : s.1 ∈ gs) (hl : s.2.length = s.1.1) (hw : ∀ w ∈ s.2, w < n + steps.length) (hs : ∀ w ∈ s.2, u w = true) : Un gs n u (steps ++ [s]) (names ++ [n + kept.length]) (kept ++ [s]) := by
  have hw1 : ∀ w ∈ s.2, w < names.length := fun w hw' => by rw [h.len]; exact hw w hw'
  have e : (kept ++ [s]).map (ren (names ++ [n + kept.length])) = kept.map (ren names) ++ [ren names s] := by
    rw [List.map_append, rens_app h.kw]
    show _ ++ [ren (names ++ [n + kept.length]) s] = _
    rw [ren_app hw1]
  have lw : ∀ w ∈ (ren names s).2, w < n + (kept.map (ren names)).length := fun w hw' => by
    obtain ⟨x, hx, rfl⟩ := List.mem_map.mp hw'
    rw [List.length_map]
    exact (h.ok x (hw x hx) (.inr (hs x hx))).1
  refine ⟨by rw [List.length_append, h.len, List.length_append]; simp; omega, by rw [e]; exact h.wf.snoc hg (by show (List.map _ s.2).length = s.1.1; rw [List.length_map]; exact hl) lw, fun s' hs' w hw' => ?_, ?_, fun w hw' hu' => ?_⟩
  · rw [List.length_append]
    rcases List.mem_append.mp hs' with h1 | h1
    · have := h.kw s' h1 w hw'; omega
    · rw [List.mem_singleton] at h1; subst h1
      have := hw1 w hw'; omega
  · have := h.kl; simp only [List.length_append, List.length_singleton]; omega
  · rw [e]
    by_cases hl' : w < n + steps.length
    · rw [getD_app (by rw [h.len]; exact hl')]
      obtain ⟨a, b⟩ := h.ok w hl' hu'
      refine ⟨by rw [List.length_append]; omega, fun r => ?_⟩
      rw [wv_old (by rw [List.length_map]; exact a), b, wv_old hl']
    · have hz : w = n + steps.length := by rw [List.length_append] at hw'; simp at hw'; omega
      subst hz
      rw [← h.len, getD_snoc, h.len]
      refine ⟨by rw [List.length_append]; simp, fun r => ?_⟩
      have e2 := wv_new n (kept.map (ren names)) (ren names s) r
      rw [List.length_map] at e2
      rw [e2, wv_new]
      show gv s.1 (((s.2.map (names.getD · 0))).map (wv n (kept.map (ren names)) r)) = _
      rw [List.map_map]
      congr 1
      exact List.map_congr_left fun w hw2 => (h.ok w (hw w hw2) (.inr (hs w hw2))).2 r
end Gk

namespace Gk
open PySem L2
/-- no tuple stands there -/
def NoTup (H : Hp) (p : Addr) : Prop := ∀ ys, ¬ H p = some (.tup ys) ∧ ∀ o, ¬ H p = some (.frz o (.tup ys))
theorem noTup_of {H : Hp} {p : Addr} {o : HO} (h : H p = some o) (h1 : ∀ ys, o ≠ .tup ys) (h2 : ∀ ob ys, o ≠ .frz ob (.tup ys)) : NoTup H p := fun ys =>
  ⟨fun z => by rw [h] at z; exact h1 _ (Option.some.inj z), fun ob z => by rw [h] at z; exact h2 _ _ (Option.some.inj z)⟩
theorem noTup_lst {H : Hp} {p : Addr} {xs : List V} (h : H p = some (.lst xs)) : NoTup H p := noTup_of h (fun ys z => by cases z) (fun ob ys z => by cases z)
theorem noTup_dK {H : Hp} {p : Addr} {xs : List (Key × V)} (h : H p = some (.dK xs)) : NoTup H p := noTup_of h (fun ys z => by cases z) (fun ob ys z => by cases z)
theorem noTup_ext {H : Hp} {p : Addr} {φ : Heap → Prop} (h : H p = some (.ext φ)) : NoTup H p := noTup_of h (fun ys z => by cases z) (fun ob ys z => by cases z)
section
variable {P : Program} {w : World} {K : PySem.W.Frag} {mg : Str → Option Value} {base : Heap} {C : Addr}
theorem updT {H : Hp} {p a : Addr} {o : HO} {xs : List V} (n : NoTup H p) (h : SqT K H a xs) : SqT K (upd H p o) a xs :=
  frmT (S := [p]) (frm_upd (Frm.refl _ _) (.inl (by simp))) (fun b hb ys => by rw [List.mem_singleton] at hb; subst hb; exact n ys) h
theorem StepAt.upd {H : Hp} {p a : Addr} {o : HO} {st : Step} (n : NoTup H p) (h : StepAt K H a st) : StepAt K (L2.upd H p o) a st :=
  let ⟨g, t, h1, h2, h3⟩ := h; ⟨g, t, updT n h1, updT n h2, updT n h3⟩
theorem StepAt.same {H H' : Hp} {a : Addr} {st : Step} (s : Same H H') (h : StepAt K H a st) : StepAt K H' a st :=
  let ⟨g, t, h1, h2, h3⟩ := h; ⟨g, t, sameT s h1, sameT s h2, sameT s h3⟩
theorem steps_upd {H : Hp} {p : Addr} {o : HO} {l : List Addr} {sts : List Step} (n : NoTup H p) (h : Paired (StepAt K H) l sts) : Paired (StepAt K (L2.upd H p o)) l sts := L2.Paired.mapP h fun _ _ q => q.upd n
theorem steps_same {H H' : Hp} {l : List Addr} {sts : List Step} (s : Same H H') (h : Paired (StepAt K H) l sts) : Paired (StepAt K H') l sts := L2.Paired.mapP h fun _ _ q => q.same s
theorem paired_l {α β : Type} {F : α → β → Prop} : ∀ {l₁ : List α} {l₂ : List β}, Paired F l₁ l₂ → ∀ {i : Nat} {a : α}, l₁[i]? = some a → ∃ b, l₂[i]? = some b ∧ F a b
  | _, _, .nil, i, _, h => by simp at h
  | _, _, .cons f t, 0, a, h => by
    cases h; exact ⟨_, rfl, f⟩
  | _, _, .cons f t, i + 1, a, h => paired_l t h
/-- a circuit -/
def CircAt (K : PySem.W.Frag) (H : Hp) (c : Addr) (n : Nat) (steps : List Step) (out : Nat) : Prop := ∃ t srefs, SqT K H c [nV n, .ref t, nV out] ∧ SqT K H t (srefs.map V.ref) ∧ Paired (StepAt K H) srefs steps
theorem CircAt.same {H H' : Hp} {c : Addr} {n out : Nat} {steps : List Step} (s : Same H H') (h : CircAt K H c n steps out) : CircAt K H' c n steps out :=
  let ⟨t, r, h1, h2, h3⟩ := h; ⟨t, r, sameT s h1, sameT s h2, steps_same s h3⟩
theorem NestD.upd {H : Hp} {p d : Addr} {o : HO} {xs : List V} {es : List Ent} (h : NestD P w K H d es) (hp : H p = some (.lst xs)) : NestD P w K (L2.upd H p o) d es :=
  ⟨by rw [upd_ne (ne_of h.ob hp (by intro z; cases z))]; exact h.ob, fun e he => (h.keys e he).upd (noTup_lst hp), h.nd, h.len⟩
theorem look_snoc {es : List Ent} {st st' : Step} {b : Addr} {m m' : Nat} (h : lookS (es ++ [(st, b, m)]) st' = some m') : (st' = st ∧ m' = m) ∨ lookS es st' = some m' := by
  unfold lookS at h ⊢
  rw [List.find?_append] at h
  cases e : es.find? (fun e => decide (e.1 = st')) with
  | some x => rw [e] at h; exact .inr h
  | none =>
    rw [e] at h
    by_cases q : st = st'
    · subst q
      refine .inl ⟨rfl, ?_⟩
      simpa using h.symm
    · simp [q] at h
/-! renamed -/
def spRenamed (K : PySem.W.Frag) : Sp := fun vs H Q _ => ∃ (ls ln : Addr) (srefs : List Addr) (steps : List Step) (names : List Nat), vs = [.ref ls, .ref ln] ∧ SqL K H ls (srefs.map V.ref) ∧ Paired (StepAt K H) srefs steps ∧ SqL K H ln (nL names) ∧
  (∀ s ∈ steps, s.2.length ≤ 4 ∧ ∀ x ∈ s.2, x < names.length) ∧ steps.length ≤ 1000 ∧
  ∀ (H' : Hp) (D : Addr) (refs : List Addr), Same H H' → H' D = some (.lst (refs.map V.ref)) → Paired (StepAt K H') refs (steps.map (ren names)) → Q (.ref D) H'
theorem ok_renamed (T : Pg w K mg) : FnOk P w K mg base CX0 1 T.f_renamed T.d_renamed ["steps", "names"] (spRenamed K) := by
  refine T.F_renamed.ok sc_renamed (fun vs H Q E h => ?_) (fun cdv A outer s H vs Q E hr h => ?_)
  · obtain ⟨ls, ln, _, _, _, rfl, _⟩ := h; rfl
  · obtain ⟨ls, ln, srefs, steps, names, rfl, hL, hP, hN, hw, hlen, q⟩ := h
    refine ⟨_, (pss_one (ps_ret (pe_lc (own := [("gate", 2), ("some", 3)]) (g := gTup K 2 (gCons (gName 2) (gCons (gName 3) gNil))) (tt := tYes) rfl sc_renamed.nd (pi_list (pv 0)) (blkOk_by (by rfl)) (fun _ _ _ _ _ => (pg_tup (by rfl) (pgs_cons (pg_name (i := 2) sc_renamed.nd rfl (by first | exact Or.inl rfl | exact Or.inr rfl)) (pgs_cons (pg_name (i := 3) sc_renamed.nd rfl (by first | exact Or.inl rfl | exact Or.inr rfl)) pgs_nil)))) (fun _ _ _ _ _ => pts_nil) (fun _ _ _ _ _ => (pe_tup (pa_cons (pv 2) (pa_cons (pe_callTy (call_tupleK (K := K) rfl) (by rfl) T.z_tuple (by decide +kernel) (pa_cons (pe_lc (own := [("wire", 4)]) (g := gName 4) (tt := tYes) rfl sc_renamed.nd (pi_tupK (K := K) rfl (pv 3)) (blkOk_by (by rfl)) (fun _ _ _ _ _ => (pg_name (i := 4) sc_renamed.nd rfl (by first | exact Or.inl rfl | exact Or.inr rfl))) (fun _ _ _ _ _ => pts_nil) (fun _ _ _ _ _ => (pe_ix (r := rIxL K) ix_list (pv 1) (pv 4) (fun _ _ => rfl)))) pa_nil)) pa_nil))))))), ?_⟩
    have hpl := hP.length
    refine ⟨_, rfl, ls, rfl, ⟨_, hL⟩, fun D hD => lc_list (K := K) (a := ls) (xs := srefs.map V.ref) (fun i H' => ∃ acc : List Addr, Same H H' ∧ H' D = some (.lst (acc.map V.ref)) ∧ Paired (StepAt K H') acc ((steps.take i).map (ren names)))
      ⟨[], same_new hD, upd_same, .nil⟩ (fun i H' _ h => by obtain ⟨acc, s1, _⟩ := h; exact s1.seq hL) ?_ ?_⟩
    · rintro i x H1 hx ⟨acc, s1, hD1, hp⟩
      rw [List.getElem?_map] at hx
      obtain ⟨a, ha, rfl⟩ := Option.map_eq_some_iff.mp hx
      obtain ⟨st, hst, g, t, h1, h2, h3⟩ := paired_l hP ha
      have hlt : i < steps.length := (List.getElem?_eq_some_iff.mp hst).1
      obtain ⟨hs4, hsw⟩ := hw st (List.mem_of_getElem? hst)
      have hacc : acc.length = i := by rw [hp.length, List.length_map, List.length_take]; omega
      refine ⟨a, _, rfl, sameT s1 h1, rfl, _, _, rfl, _, _, rfl, rfl, rfl, yes_ ?_⟩
      have h31 := sameT s1 h3
      have hN1 := s1.seq hN
      refine ⟨_, rfl, _, rfl, t, rfl, ⟨_, h31⟩, fun D2 hD2 => pure_tup (f := fun x => names.getD x 0) h31 hD2 (by omega) (fun k x H4 R N hx4 s4 hR => ⟨rfl, yes_ ?_⟩) ?_⟩
      · have hxw := hsw x (List.mem_of_getElem? hx4)
        refine ⟨_, rfl, _, rfl, ln, _, _, _, rfl, rfl, s4.seq hN1, atI_nat (nL_at (List.getElem?_eq_getElem hxw)), ?_⟩
        have e : names.getD x 0 = names[x] := by rw [List.getD_eq_getElem?_getD, List.getElem?_eq_getElem hxw]; rfl
        rw [e] at hR
        exact hR
      · refine ⟨D2, _, rfl, .inl ⟨SqL.of upd_same, fun t' ht' => ?_⟩⟩
        have s2 : Same H1 (upd (upd H1 D2 (.lst (nL (st.2.map fun x => names.getD x 0)))) t' (.tup (nL (st.2.map fun x => names.getD x 0)))) := same_upd (same_new hD2) (none_ne ht').2
        refine ⟨by show 2 ≤ sizeLine; decide, fun p hp0 => ?_⟩
        have s3 := same_upd (o := .tup [.ref g, .ref t']) s2 (none_ne (none_ne hp0).2).2
        have hp3 : StepAt K (upd (upd (upd H1 D2 (.lst (nL (st.2.map fun x => names.getD x 0)))) t' (.tup (nL (st.2.map fun x => names.getD x 0)))) p (.tup [.ref g, .ref t'])) p (ren names st) :=
          ⟨g, t', SqT.of upd_same, sameT s3 (sameT s1 h2), SqT.of (by rw [upd_ne (none_ne hp0).1.symm]; exact upd_same)⟩
        generalize upd (upd (upd H1 D2 (.lst (nL (st.2.map fun x => names.getD x 0)))) t' (.tup (nL (st.2.map fun x => names.getD x 0)))) p (.tup [.ref g, .ref t']) = H5 at s3 hp3
        refine ⟨acc.map V.ref, s3 _ _ hD1, by rw [List.length_map]; exact small (by omega), acc ++ [p], same_upd (s1.trans s3) hD, by rw [upd_same, List.map_append]; rfl, ?_⟩
        rw [List.take_add_one, hst, List.map_append]
        have nt := noTup_lst (s3 _ _ hD1)
        exact Paired.snoc (steps_upd nt (steps_same s3 hp)) (hp3.upd nt)
    · rintro H1 ⟨acc, s1, hD1, hp⟩
      rw [List.length_map, hpl, List.take_length] at hp
      exact q H1 D acc s1 hD1 hp
theorem rgV_nL (n : Nat) : rgV 0 (n : Int) = nL (List.range n) := by
  unfold rgV nL
  rw [show ((n : Int) - 0).toNat = n from by omega]
  exact List.map_congr_left fun i _ => by rw [Int.zero_add]
/-! without_alike -/
def spJoin (K : PySem.W.Frag) : Sp := fun vs H Q _ => ∃ (c : Addr) (n : Nat) (steps : List Step) (out : Nat) (gs : List Gate), vs = [.ref c] ∧ CircAt K H c n steps out ∧ Wf gs n steps ∧ (∀ g ∈ gs, g.1 ≤ 4) ∧ out < n + steps.length ∧ n ≤ 4 ∧ steps.length ≤ 1000 ∧
  ∀ (H' : Hp) (c' : Addr) (steps' : List Step) (out' : Nat), Same H H' → CircAt K H' c' n steps' out' → Wf gs n steps' → steps'.length ≤ steps.length → out' < n + steps'.length → (∀ r, wv n steps' r out' = wv n steps r out) → Q (.ref c') H'
theorem ok_without_alike (T : Pg w K mg) : FnOk P w K mg base CX0 1 T.f_without_alike T.d_without_alike ["circuit"] (spJoin K) := by
  refine T.F_without_alike.ok sc_without_alike (fun vs H Q E h => ?_) (fun cdv A outer s H vs Q E hr h => ?_)
  · obtain ⟨c, _, _, _, _, rfl, _⟩ := h; rfl
  · obtain ⟨c, n, steps, out, gs, rfl, ⟨t, srefs, hC, hT, hP⟩, hw, hg4, hout, hn, hlen, q⟩ := h
    have hu := hu_of hr
    refine ⟨_, (pss_cons (ps_asg (pv 0) (pg_tup (by rfl) (pgs_cons (pg_name (i := 1) sc_without_alike.nd rfl (by first | exact Or.inl rfl | exact Or.inr rfl)) (pgs_cons (pg_name (i := 2) sc_without_alike.nd rfl (by first | exact Or.inl rfl | exact Or.inr rfl)) (pgs_cons (pg_name (i := 3) sc_without_alike.nd rfl (by first | exact Or.inl rfl | exact Or.inr rfl)) pgs_nil)))))
  (pss_cons (ps_set (i := 4) sc_without_alike.nd rfl (by first | exact Or.inl rfl | exact Or.inr rfl) (pe_listRg rfl (by rfl) T.z_list (prg_1 (by rfl) T.z_range (pv 1))))
  (pss_cons (ps_set (i := 5) sc_without_alike.nd rfl (by first | exact Or.inl rfl | exact Or.inr rfl) pe_dnewN)
  (pss_cons (ps_set (i := 6) sc_without_alike.nd rfl (by first | exact Or.inl rfl | exact Or.inr rfl) (pe_lst pa_nil))
  (pss_cons (ps_for PassesOwn.never rfl (pi_tup (pv 2)) (pg_tup (by rfl) (pgs_cons (pg_name (i := 7) sc_without_alike.nd rfl (by first | exact Or.inl rfl | exact Or.inr rfl)) (pgs_cons (pg_name (i := 8) sc_without_alike.nd rfl (by first | exact Or.inl rfl | exact Or.inr rfl)) pgs_nil)))
  (pss_cons (ps_set (i := 9) sc_without_alike.nd rfl (by first | exact Or.inl rfl | exact Or.inr rfl) (pe_tup (pa_cons (pv 7) (pa_cons (pe_callTy call_tuple_of (by rfl) T.z_tuple (by decide +kernel) (pa_cons (pe_lc (own := [("wire", 10)]) (g := gName 10) (tt := tYes) rfl sc_without_alike.nd (pi_tup (pv 8)) (blkOk_by (by rfl)) (fun _ _ _ _ _ => (pg_name (i := 10) sc_without_alike.nd rfl (by first | exact Or.inl rfl | exact Or.inr rfl))) (fun _ _ _ _ _ => pts_nil) (fun _ _ _ _ _ => (pe_ix (r := rIxL K) ix_list (pv 4) (pv 10) (fun _ _ => rfl)))) pa_nil)) pa_nil))))
  (pss_cons (ps_if (pt_cmp (pc_nestnotin hr.units (pv 9) (pv 5))) (pss_cons (ps_asg (pe_op op_add (pv 1) (pe_callB call_len_seq (by rfl) T.z_len PySem.boot_len (pa_cons (pv 6) pa_nil))) (pg_sub (pv 5) (pv 9) (set_nest hr.units)))
  (pss_one (ps_expr (pe_bm PySem.F.plainAttrs_list PySem.F.slot_list_append PySem.F.type_list_append mt_append (pv 6) (pa_cons (pv 9) pa_nil))))) pss_nil)
  (pss_one (ps_expr (pe_bm PySem.F.plainAttrs_list PySem.F.slot_list_append PySem.F.type_list_append mt_append (pv 4) (pa_cons (pe_ix (ix_nest hr.units) (pv 5) (pv 9) (fun _ _ => rfl)) pa_nil)))))))
  (pss_one (ps_ret (pe_tup (pa_cons (pv 1) (pa_cons (pe_callTy call_tuple_of (by rfl) T.z_tuple (by decide +kernel) (pa_cons (pv 6) pa_nil)) (pa_cons (pe_ix ix_list (pv 4) (pv 3) (fun _ _ => rfl)) pa_nil))))))))))), ?_⟩
    have b := b62 (n := n) (by omega)
    have hpl := hP.length
    refine ⟨_, rfl, c, _, rfl, hC, rfl, _, _, rfl, _, _, rfl, _, _, rfl, rfl, ?_⟩
    refine ⟨_, rfl, ?_⟩
    dsimp only
    refine ⟨_, rfl, RgOk.of_le (by omega) (by omega) (by omega) (by omega), fun ln hln => ?_⟩
    rw [rgV_nL]
    refine fun d hd => ⟨Nat.zero_le _, fun lk hlk => ?_⟩
    obtain ⟨nld, hd0⟩ := none_ne hd
    obtain ⟨nlk, hlk1⟩ := none_ne hlk
    obtain ⟨nll, hlk0⟩ := none_ne hlk1
    have s0 : Same H (upd (upd (upd H ln (.lst (nL (List.range n)))) d (.ext (NestPhi P w d []))) lk (.lst [])) := same_upd (same_upd (same_new hln) hd0) hlk0
    refine ⟨_, rfl, t, rfl, ⟨_, sameT s0 hT⟩, for_tup (K := K) (a := t) (xs := srefs.map V.ref) (fun i σ H' => ∃ names kept krefs es v7 v8 v9 v10, σ = [some (.ref c), some (nV n), some (.ref t), some (nV out), some (.ref ln), some (.ref d), some (.ref lk), v7, v8, v9, v10] ∧
        Same H H' ∧ H' ln = some (.lst (nL names)) ∧ NestD P w K H' d es ∧ H' lk = some (.lst (krefs.map V.ref)) ∧ Paired (StepAt K H') krefs kept ∧ Al gs n (steps.take i) names kept (lookS es) ∧ es.length = kept.length ∧ kept.length ≤ i)
      ⟨List.range n, [], [], [], none, none, none, none, rfl, s0, ?_, .nil ?_, upd_same, .nil, Al.nil gs n, rfl, Nat.le_refl _⟩ ?_ ?_ ?_⟩
    · rw [upd_ne nll.symm, upd_ne nld.symm, upd_same]
    · rw [upd_ne nlk.symm, upd_same]; rfl
    · rintro i σ H' _ ⟨names, kept, krefs, es, v7, v8, v9, v10, rfl, s1, _⟩
      exact sameT s1 hT
    · rintro i y σ H' hy ⟨names, kept, krefs, es, v7, v8, v9, v10, rfl, s1, hN, hD, hk, hkp, A, hle, hki⟩
      rw [List.getElem?_map] at hy
      obtain ⟨a, ha, rfl⟩ := Option.map_eq_some_iff.mp hy
      obtain ⟨st, hst, g, t1, h1, h2, h3⟩ := paired_l hP ha
      have hlt : i < steps.length := (List.getElem?_eq_some_iff.mp hst).1
      obtain ⟨hg, hsl, hsw⟩ := hw i st hst
      have htl : (steps.take i).length = i := by rw [List.length_take]; omega
      have hsw' : ∀ x ∈ st.2, x < n + (steps.take i).length := by rw [htl]; exact hsw
      have hg4' := hg4 _ hg
      have hnl : names.length = n + i := by rw [A.len, htl]
      have e1 : steps.take (i + 1) = steps.take i ++ [st] := by rw [List.take_add_one, hst]; rfl
      refine ⟨a, _, rfl, sameT s1 h1, rfl, _, _, rfl, _, _, rfl, rfl, ?_⟩
      have h31 := sameT s1 h3
      refine ⟨_, rfl, _, rfl, t1, rfl, ⟨_, h31⟩, fun D2 hD2 => pure_tup (f := fun x => names.getD x 0) h31 hD2 (by omega) (fun k x H4 R N hx4 s4 hR => ⟨rfl, yes_ ?_⟩) ?_⟩
      · have hxw : x < names.length := by rw [hnl]; exact hsw x (List.mem_of_getElem? hx4)
        refine ⟨_, rfl, _, rfl, ln, _, _, _, rfl, rfl, s4.seq (SqL.of hN), atI_nat (nL_at (List.getElem?_eq_getElem hxw)), ?_⟩
        have e : names.getD x 0 = names[x] := by rw [List.getD_eq_getElem?_getD, List.getElem?_eq_getElem hxw]; rfl
        rw [e] at hR
        exact hR
      · refine ⟨D2, _, rfl, .inl ⟨SqL.of upd_same, fun t' ht' => ?_⟩⟩
        have s2 : Same H' (upd (upd H' D2 (.lst (nL (st.2.map fun x => names.getD x 0)))) t' (.tup (nL (st.2.map fun x => names.getD x 0)))) := same_upd (same_new hD2) (none_ne ht').2
        refine ⟨by show 2 ≤ sizeLine; decide, fun p hp0 => ?_⟩
        have s3 := same_upd (o := .tup [.ref g, .ref t']) s2 (none_ne (none_ne hp0).2).2
        have hp3 : StepAt K (upd (upd (upd H' D2 (.lst (nL (st.2.map fun x => names.getD x 0)))) t' (.tup (nL (st.2.map fun x => names.getD x 0)))) p (.tup [.ref g, .ref t'])) p (ren names st) :=
          ⟨g, t', SqT.of upd_same, sameT s3 (sameT s1 h2), SqT.of (by rw [upd_ne (none_ne hp0).1.symm]; exact upd_same)⟩
        generalize upd (upd (upd H' D2 (.lst (nL (st.2.map fun x => names.getD x 0)))) t' (.tup (nL (st.2.map fun x => names.getD x 0)))) p (.tup [.ref g, .ref t']) = H5 at s3 hp3
        have s5 := s1.trans s3
        have hD5 := hD.same s3
        have hN5 := s3 _ _ hN
        have hk5 := s3 _ _ hk
        have hkp5 := steps_same s3 hkp
        have hkl : (krefs.map V.ref).length = kept.length := by rw [List.length_map, hkp.length]
        dsimp only
        refine seq_joinS (M := fun σ' H' => ∃ kept' krefs' es' m, σ' = [some (.ref c), some (nV n), some (.ref t), some (nV out), some (.ref ln), some (.ref d), some (.ref lk), some (.ref g), some (.ref t1), some (.ref p), v10] ∧
          Same H H' ∧ H' ln = some (.lst (nL names)) ∧ NestD P w K H' d es' ∧ StepAt K H' p (ren names st) ∧ H' lk = some (.lst (krefs'.map V.ref)) ∧ Paired (StepAt K H') krefs' kept' ∧ Al gs n (steps.take i) names kept' (lookS es') ∧
          lookS es' (ren names st) = some m ∧ es'.length = kept'.length ∧ kept'.length ≤ i + 1) (fun nx hk' => ?_) ?_
        · refine ⟨_, rfl, _, rfl, d, p, ren names st, es, rfl, rfl, hD5, hp3, _, rfl, ?_⟩
          cases hl : lookS es (ren names st) with
          | some m =>
            refine iteF ?_
            exact hk' _ _ ⟨kept, krefs, es, m, rfl, s5, hN5, hD5, hp3, hk5, hkp5, A, hl, hle, by omega⟩
          | none =>
            refine iteT ?_
            refine ⟨_, rfl, _, rfl, lk, _, rfl, .inl (SqL.of hk5), _, _, rfl, rfl, ?_⟩
            dsimp only
            rw [hkl, ← Int.natCast_add]
            refine ⟨_, rfl, _, rfl, d, p, ren names st, es, n + kept.length, rfl, rfl, rfl, hD5, hp3, hl, by omega, ?_⟩
            dsimp only [cxOf]
            have hD6 := hD5.put (n := n + kept.length) hp3 hl (by omega)
            have nd := noTup_ext hD5.ob
            have hlk6 : upd H5 d (.ext (NestPhi P w d (es ++ [(ren names st, p, n + kept.length)]))) lk = some (.lst (krefs.map V.ref)) := by
              rw [upd_ne (ne_of hk5 hD5.ob (by intro z; cases z))]; exact hk5
            have hN6 : upd H5 d (.ext (NestPhi P w d (es ++ [(ren names st, p, n + kept.length)]))) ln = some (.lst (nL names)) := by
              rw [upd_ne (ne_of hN5 hD5.ob (by intro z; cases z))]; exact hN5
            have hp6 := hp3.upd (o := .ext (NestPhi P w d (es ++ [(ren names st, p, n + kept.length)]))) nd
            have hkp6 := steps_upd (o := .ext (NestPhi P w d (es ++ [(ren names st, p, n + kept.length)]))) nd hkp5
            have s6 := same_upd (o := .ext (NestPhi P w d (es ++ [(ren names st, p, n + kept.length)]))) s5 hd0
            generalize upd H5 d (.ext (NestPhi P w d (es ++ [(ren names st, p, n + kept.length)]))) = H6 at hD6 hlk6 hN6 hp6 hkp6 s6
            refine ⟨_, rfl, .inl ⟨rfl, _, SqL.of hlk6⟩, _, rfl, lk, _, _, rfl, rfl, hlk6, by rw [hkl]; exact small (by omega), ?_⟩
            have nl := noTup_lst hlk6
            refine hk' _ _ ⟨kept ++ [ren names st], krefs ++ [p], _, n + kept.length, rfl, same_upd s6 hlk0, ?_, hD6.upd hlk6, hp6.upd nl, by rw [upd_same, List.map_append]; rfl, Paired.snoc (steps_upd nl hkp6) (hp6.upd nl),
              A.add hg hsl hsw' fun st' m' h => look_snoc h, look_put hl, by simp [hle], by simp; omega⟩
            rw [upd_ne nll.symm]; exact hN6
        · rintro σ' H6 ⟨kept', krefs', es', m, rfl, s6, hN6, hD6, hp6, hk6, hkp6, A6, hl, hle6, hki6⟩
          refine ⟨_, rfl, .inl ⟨rfl, _, SqL.of hN6⟩, _, rfl, _, rfl, d, p, ren names st, es', m, rfl, rfl, hD6, hp6, hl, ln, _, _, rfl, rfl, hN6, by rw [nL_len, hnl]; exact small (by omega), ?_⟩
          have nl := noTup_lst hN6
          refine ⟨names ++ [m], kept', krefs', es', _, _, _, _, rfl, same_upd s6 hln, by rw [upd_same, nL_snoc], hD6.upd hN6, ?_, steps_upd nl hkp6, ?_, hle6, hki6⟩
          · rw [upd_ne nll]; exact hk6
          · rw [e1]; exact A6.found hsw' hl
    · rintro σ H' ⟨names, kept, krefs, es, v7, v8, v9, v10, rfl, s1, hN, hD, hk, hkp, A, hle, hki⟩
      rw [List.length_map, hpl] at hki
      rw [List.length_map, hpl, List.take_length] at A
      have how := A.ok out hout
      have hol : out < names.length := by rw [A.len]; exact hout
      have e : names.getD out 0 = names[out] := by rw [List.getD_eq_getElem?_getD, List.getElem?_eq_getElem hol]; rfl
      rw [e] at how
      refine ⟨_, rfl, _, rfl, lk, _, rfl, .inl ⟨SqL.of hk, fun t' ht' => ?_⟩⟩
      have s2 : Same H' (upd H' t' (.tup (krefs.map V.ref))) := same_new ht'
      refine ⟨_, rfl, _, rfl, ln, _, _, _, rfl, rfl, SqL.of (s2 _ _ hN), atI_nat (nL_at (List.getElem?_eq_getElem hol)), by show 3 ≤ sizeLine; decide, fun p hp => ?_⟩
      have s3 := same_upd (o := .tup [nV n, .ref t', nV names[out]]) s2 (none_ne hp).2
      exact q _ p kept names[out] (s1.trans s3) ⟨t', krefs, SqT.of upd_same, SqT.of (by rw [upd_ne (none_ne hp).1.symm]; exact upd_same), steps_same s3 hkp⟩ A.wf hki how.1 how.2
end
end Gk

namespace Gk
open PySem L2
def useB (kvs : List (Key × V)) (x : Nat) : Bool := (valV kvs (.inl (x : Int))).isSome
theorem useB_put (kvs : List (Key × V)) (x y : Nat) (v : V) : useB (putK kvs (.inl (x : Int)) v) y = (useB kvs y || decide (y = x)) := by
  unfold useB
  rw [valV_put]
  by_cases e : y = x
  · subst e; simp
  · have e' : ¬ (Sum.inl (y : Int) : Key) = Sum.inl (x : Int) := fun z => by injection z with z; omega
    rw [if_neg e']; simp [e]
theorem useB_one (x y : Nat) (v : V) : useB [(.inl (x : Int), v)] y = decide (y = x) := by
  have := useB_put [] x y v
  rw [show putK ([] : List (Key × V)) (.inl (x : Int)) v = [(.inl (x : Int), v)] from rfl] at this
  rw [this]
  show (false || _) = _
  rw [Bool.false_or]
section
variable {P : Program} {w : World} {K : PySem.W.Frag} {mg : Str → Option Value} {base : Heap} {C : Addr}
theorem ok_without_unused (T : Pg w K mg) : FnOk P w K mg base CX0 2 T.f_without_unused T.d_without_unused ["circuit"] (spJoin K) := by
  refine T.F_without_unused.ok (k := 1) sc_without_unused (fun vs H Q E h => ?_) (fun cdv A outer s H vs Q E hr h => ?_)
  · obtain ⟨c, _, _, _, _, rfl, _⟩ := h; rfl
  · obtain ⟨c, n, steps, out, gs, rfl, ⟨t, srefs, hC, hT, hP⟩, hw, hg4, hout, hn, hlen, q⟩ := h
    have hu := hu_of hr
    refine ⟨_, (pss_cons (ps_asg (pv 0) (pg_tup (by rfl) (pgs_cons (pg_name (i := 1) sc_without_unused.nd rfl (by first | exact Or.inl rfl | exact Or.inr rfl)) (pgs_cons (pg_name (i := 2) sc_without_unused.nd rfl (by first | exact Or.inl rfl | exact Or.inr rfl)) (pgs_cons (pg_name (i := 3) sc_without_unused.nd rfl (by first | exact Or.inl rfl | exact Or.inr rfl)) pgs_nil)))))
  (pss_cons (ps_set (i := 4) sc_without_unused.nd rfl (by first | exact Or.inl rfl | exact Or.inr rfl) (pe_disp (pps_cons (pv 3) pe_bl pps_nil) (by rfl) (by rfl) (fun z => by cases z) (by decide)))
  (pss_cons (ps_for PassesOwn.never rfl (pi_range3 (by rfl) T.z_range (pa_cons (pe_op op_sub (pe_callB call_len_seq (by rfl) T.z_len PySem.boot_len (pa_cons (pv 2) pa_nil)) pe_int) (pa_cons (pe_un un_neg pe_int) (pa_cons (pe_un un_neg pe_int) pa_nil)))) (pg_name (i := 5) sc_without_unused.nd rfl (by first | exact Or.inl rfl | exact Or.inr rfl))
  (pss_one (ps_if (pt_cmp (pc_din hu (pe_op op_add (pv 1) (pv 5)) (pv 4))) (pss_one (ps_for PassesOwn.never rfl (pi_tup (pe_ix ix_tup (pe_ix ix_tup (pv 2) (pv 5) (fun _ _ => rfl)) pe_int (fun _ _ => rfl))) (pg_name (i := 6) sc_without_unused.nd rfl (by first | exact Or.inl rfl | exact Or.inr rfl))
  (pss_one (ps_dput hu (pv 4) (pv 6) pe_bl rfl)))) pss_nil)))
  (pss_cons (ps_set (i := 7) sc_without_unused.nd rfl (by first | exact Or.inl rfl | exact Or.inr rfl) (pe_listRg rfl (by rfl) T.z_list (prg_1 (by rfl) T.z_range (pv 1))))
  (pss_cons (ps_set (i := 8) sc_without_unused.nd rfl (by first | exact Or.inl rfl | exact Or.inr rfl) (pe_lst pa_nil))
  (pss_cons (ps_for PassesOwn.never rfl (pi_range1 (by rfl) T.z_range (pa_cons (pe_callB call_len_seq (by rfl) T.z_len PySem.boot_len (pa_cons (pv 2) pa_nil)) pa_nil)) (pg_name (i := 5) sc_without_unused.nd rfl (by first | exact Or.inl rfl | exact Or.inr rfl))
  (pss_cons (ps_expr (pe_bm PySem.F.plainAttrs_list PySem.F.slot_list_append PySem.F.type_list_append mt_append (pv 7) (pa_cons (pe_op op_add (pv 1) (pe_callB call_len_seq (by rfl) T.z_len PySem.boot_len (pa_cons (pv 8) pa_nil))) pa_nil)))
  (pss_one (ps_if (pt_cmp (pc_din hu (pe_op op_add (pv 1) (pv 5)) (pv 4))) (pss_one (ps_expr (pe_bm PySem.F.plainAttrs_list PySem.F.slot_list_append PySem.F.type_list_append mt_append (pv 8) (pa_cons (pe_ix ix_tup (pv 2) (pv 5) (fun _ _ => rfl)) pa_nil)))) pss_nil))))
  (pss_one (ps_ret (pe_tup (pa_cons (pv 1) (pa_cons (pe_callTy call_tuple_of (by rfl) T.z_tuple (by decide +kernel) (pa_cons (pe_call (ok_renamed T) (hr.mono (by decide)) (by rfl) T.m_renamed T.F_renamed.kp T.b_renamed .nil pass0 (pa_cons (pv 8) (pa_cons (pv 7) pa_nil))) pa_nil)) (pa_cons (pe_ix ix_list (pv 7) (pv 3) (fun _ _ => rfl)) pa_nil)))))))))))), ?_⟩
    have hpl := hP.length
    refine ⟨_, rfl, c, _, rfl, hC, rfl, _, _, rfl, _, _, rfl, _, _, rfl, rfl, ?_⟩
    intro d hd
    refine ⟨_, rfl, ?_⟩
    refine ⟨upd_same, [(.inl (out : Int), .bl true)], rfl, by show 1 ≤ 15; decide, ?_⟩
    rw [upd_upd, show mergeK ([] : List (Key × V)) [(.inl (out : Int), .bl true)] = [(.inl (out : Int), .bl true)] from rfl]
    have s0 : Same H (upd H d (.dK [(.inl (out : Int), .bl true)])) := same_new hd
    have hd0 : upd H d (.dK [(.inl (out : Int), .bl true)]) d = some (.dK [(.inl (out : Int), .bl true)]) := upd_same
    dsimp only [tNext]
    refine seq_joinS (M := fun σ' H' => ∃ kvs v5 v6, σ' = [some (.ref c), some (nV n), some (.ref t), some (nV out), some (.ref d), v5, v6, none, none] ∧ Same H H' ∧ H' d = some (.dK kvs) ∧ useB kvs out = true ∧
      ∀ j s, steps[j]? = some s → useB kvs (n + j) = true → ∀ x ∈ s.2, useB kvs x = true) (fun nx hk => ?_) ?_
    · have hml : ((srefs.map V.ref).length : Int) = (steps.length : Int) := by rw [List.length_map, hpl]
      have hrg : RgC ((steps.length : Int) - 1) (-1) (-1) steps.length := by
        have := RgC.neg (i := (steps.length : Int) - 1) (j := -1) (by omega) (by omega) (by omega) (by omega)
        rwa [show ((steps.length : Int) - 1 - -1).toNat = steps.length from by omega] at this
      refine ⟨_, rfl, t, _, rfl, .inr (sameT s0 hT), _, _, rfl, rfl, ?_⟩
      dsimp only
      rw [hml]
      refine ⟨1, rfl, 1, rfl, (steps.length : Int) - 1, -1, -1, steps.length, rfl, hrg, ?_⟩
      refine for_rangeC (lo := (steps.length : Int) - 1) (c := -1) (n := steps.length) (D := { nx := nx, rt := Q }) (fun i σ' H' => ∃ kvs v5 v6, σ' = [some (.ref c), some (nV n), some (.ref t), some (nV out), some (.ref d), v5, v6, none, none] ∧ Same H H' ∧ H' d = some (.dK kvs) ∧ kvs.length ≤ 1 + 4 * i ∧ useB kvs out = true ∧
        ∀ j s, steps.length - i ≤ j → steps[j]? = some s → useB kvs (n + j) = true → ∀ x ∈ s.2, useB kvs x = true)
        ⟨_, none, none, rfl, s0, hd0, Nat.le_refl _, by rw [useB_one]; simp, fun j s hj hs => by have := (List.getElem?_eq_some_iff.mp hs).1; omega⟩ ?_ ?_
      · rintro i σ' H' hi ⟨kvs, v5, v6, rfl, s1, hd1, hkl, hko, hkc⟩
        have en : (steps.length : Int) - 1 + (i : Int) * -1 = ((steps.length - 1 - i : Nat) : Int) := by omega
        rw [en]
        generalize hj : steps.length - 1 - i = j0
        have hjl : j0 < steps.length := by omega
        have hst : steps[j0]? = some steps[j0] := List.getElem?_eq_getElem hjl
        obtain ⟨a, ha, g, t1, h1, h2, h3⟩ := paired_at hP hst
        obtain ⟨hg, hsl, hsw⟩ := hw j0 _ hst
        have hg4' := hg4 _ hg
        generalize steps[j0] = st at hst ha h1 h2 h3 hg hsl hsw hg4'
        refine ⟨_, rfl, _, rfl, _, _, rfl, rfl, _, rfl, d, valV kvs (.inl ((n + j0 : Nat) : Int)), rfl, ?_⟩
        dsimp only
        rw [← Int.natCast_add]
        refine ⟨DGet.k (k := .inl ((n + j0 : Nat) : Int)) hd1, _, rfl, ?_⟩
        cases hub : useB kvs (n + j0) with
        | false =>
          rw [show (valV kvs (.inl ((n + j0 : Nat) : Int))).isSome = false from hub]
          refine iteF ?_
          refine ⟨kvs, _, v6, rfl, s1, hd1, by omega, hko, fun j s hjj hs hu' => ?_⟩
          by_cases e : j = j0
          · subst e; rw [hub] at hu'; cases hu'
          · exact hkc j s (by omega) hs hu'
        | true =>
          rw [show (valV kvs (.inl ((n + j0 : Nat) : Int))).isSome = true from hub]
          refine iteT ?_
          have hj0 : (srefs.map V.ref)[j0]? = some (.ref a) := by rw [List.getElem?_map, ha]; rfl
          refine ⟨_, rfl, _, rfl, t, _, _, _, rfl, rfl, sameT s1 hT, atI_nat hj0, a, _, _, _, rfl, rfl, sameT s1 h1, rfl, t1, rfl, ⟨_, sameT s1 h3⟩, ?_⟩
          refine for_tup (K := K) (a := t1) (xs := nL st.2) (fun k σ' H' => ∃ kvs' v6, σ' = [some (.ref c), some (nV n), some (.ref t), some (nV out), some (.ref d), some (nV j0), v6, none, none] ∧ Same H H' ∧ H' d = some (.dK kvs') ∧ kvs'.length ≤ kvs.length + k ∧ ∀ x, useB kvs' x = (useB kvs x || decide (x ∈ st.2.take k)))
            ⟨kvs, v6, rfl, s1, hd1, Nat.le_refl _, fun x => by simp⟩ (fun k σ' H' _ h => by obtain ⟨_, _, _, s2, _⟩ := h; exact sameT s2 h3) ?_ ?_
          · rintro k y σ' H2 hy ⟨kvs', v6, rfl, s2, hd2, hl2, hu2⟩
            obtain ⟨hi', _⟩ := List.getElem?_eq_some_iff.mp hy
            obtain ⟨x, hx, xm, hx2, hi2⟩ := nL_lt hi'
            rw [hx2] at hy; cases hy
            refine ⟨_, rfl, _, rfl, d, _, rfl, DPut.k (k := .inl (x : Int)) hd2 (small (by omega)), ?_⟩
            refine ⟨_, _, rfl, same_upd s2 hd, upd_same, Nat.le_trans (length_putK _ _ _) (Nat.succ_le_succ hl2), fun z => ?_⟩
            rw [useB_put, hu2, List.take_add_one, hx]
            simp [Bool.or_assoc]
          · rintro σ' H2 ⟨kvs', v6, rfl, s2, hd2, hl2, hu2⟩
            rw [nL_len] at hl2
            rw [nL_len, List.take_length] at hu2
            refine ⟨kvs', _, _, rfl, s2, hd2, by omega, by rw [hu2, hko]; rfl, fun j s hjj hs hu' x hx => ?_⟩
            by_cases e : j = j0
            · subst e
              rw [hst] at hs; cases hs
              rw [hu2, decide_eq_true hx, Bool.or_true]
            · rw [hu2, Bool.or_eq_true] at hu'
              rcases hu' with hu' | hu'
              · rw [hu2, hkc j s (by omega) hs hu' x hx]; rfl
              · have := hsw _ (of_decide_eq_true hu')
                omega
      · rintro σ' H' ⟨kvs, v5, v6, rfl, s1, hd1, hkl, hko, hkc⟩
        exact hk _ _ ⟨kvs, v5, v6, rfl, s1, hd1, hko, fun j s hs => hkc j s (by omega) hs⟩
    · rintro σ' H1 ⟨kvs, v5, v6, rfl, s1, hd1, hko, hkc⟩
      refine ⟨_, rfl, _, rfl, RgOk.of_le (by omega) (by omega) (by omega) (by omega), fun ln hln => ?_⟩
      rw [rgV_nL]
      refine ⟨Nat.zero_le _, fun lk hlk => ?_⟩
      obtain ⟨nll, hlk0⟩ := none_ne hlk
      have s2 : Same H1 (upd (upd H1 ln (.lst (nL (List.range n)))) lk (.lst [])) := same_upd (same_new hln) hlk0
      have hml : ((srefs.map V.ref).length : Int) = (steps.length : Int) := by rw [List.length_map, hpl]
      have b := b62 (n := steps.length) (by omega)
      refine ⟨_, rfl, t, _, rfl, .inr (sameT (s1.trans s2) hT), ?_⟩
      rw [hml]
      refine ⟨_, rfl, b.1, b.2, for_n (n := steps.length) (fun i σ' H' => ∃ names kept krefs v5, σ' = [some (.ref c), some (nV n), some (.ref t), some (nV out), some (.ref d), v5, v6, some (.ref ln), some (.ref lk)] ∧ Same H1 H' ∧ H' ln = some (.lst (nL names)) ∧
        H' lk = some (.lst (krefs.map V.ref)) ∧ Paired (StepAt K H') krefs kept ∧ Un gs n (useB kvs) (steps.take i) names kept ∧ ∀ s ∈ kept, s.2.length ≤ 4)
        ⟨List.range n, [], [], v5, rfl, s2, by rw [upd_ne nll.symm, upd_same], upd_same, .nil, Un.nil gs n _, fun s hs => by cases hs⟩ ?_ ?_⟩
      · rintro i σ' H' hi ⟨names, kept, krefs, v5, rfl, s3, hN, hk, hkp, U, hk4⟩
        have hst : steps[i]? = some steps[i] := List.getElem?_eq_getElem hi
        obtain ⟨a, ha, hSt⟩ := paired_at hP hst
        obtain ⟨hg, hsl, hsw⟩ := hw i _ hst
        have hg4' := hg4 _ hg
        have hkc' := hkc i _ hst
        generalize steps[i] = st at hst ha hSt hg hsl hsw hg4' hkc'
        have htl : (steps.take i).length = i := by rw [List.length_take]; omega
        have e1 : steps.take (i + 1) = steps.take i ++ [st] := by rw [List.take_add_one, hst]; rfl
        have hkl : (krefs.map V.ref).length = kept.length := by rw [List.length_map, hkp.length]
        have hki := U.kl
        have hnl := U.len
        rw [htl] at hki hnl
        refine ⟨_, rfl, .inl ⟨rfl, _, SqL.of hN⟩, _, rfl, _, rfl, lk, _, rfl, .inl (SqL.of hk), _, _, rfl, rfl, ?_⟩
        dsimp only
        rw [hkl, ← Int.natCast_add]
        refine ⟨ln, _, _, rfl, rfl, hN, by rw [nL_len, hnl]; exact small (by omega), ?_⟩
        have nl := noTup_lst hN
        have hN2 : upd H' ln (.lst (nL names ++ [V.int ((n + kept.length : Nat) : Int)])) ln = some (.lst (nL (names ++ [n + kept.length]))) := by rw [upd_same, ← nL_snoc]
        have hk2 : upd H' ln (.lst (nL names ++ [V.int ((n + kept.length : Nat) : Int)])) lk = some (.lst (krefs.map V.ref)) := by rw [upd_ne nll]; exact hk
        have hkp2 := steps_upd (o := .lst (nL names ++ [V.int ((n + kept.length : Nat) : Int)])) nl hkp
        have s4 := same_upd (o := .lst (nL names ++ [V.int ((n + kept.length : Nat) : Int)])) s3 hln
        generalize upd H' ln (.lst (nL names ++ [V.int ((n + kept.length : Nat) : Int)])) = H2 at hN2 hk2 hkp2 s4
        have s14 := s1.trans s4
        refine ⟨_, rfl, _, rfl, _, _, rfl, rfl, _, rfl, d, valV kvs (.inl ((n + i : Nat) : Int)), rfl, ?_⟩
        dsimp only
        rw [← Int.natCast_add]
        refine ⟨DGet.k (k := .inl ((n + i : Nat) : Int)) (s4 _ _ hd1), _, rfl, ?_⟩
        cases hub : useB kvs (n + i) with
        | false =>
          rw [show (valV kvs (.inl ((n + i : Nat) : Int))).isSome = false from hub]
          refine iteF ?_
          exact ⟨_, kept, krefs, _, rfl, s4, hN2, hk2, hkp2, by rw [e1]; exact U.skip st (by rw [htl]; exact hub), hk4⟩
        | true =>
          rw [show (valV kvs (.inl ((n + i : Nat) : Int))).isSome = true from hub]
          refine iteT ?_
          have hj0 : (srefs.map V.ref)[i]? = some (.ref a) := by rw [List.getElem?_map, ha]; rfl
          refine ⟨_, rfl, .inl ⟨rfl, _, SqL.of hk2⟩, _, rfl, _, rfl, t, _, _, _, rfl, rfl, sameT s14 hT, atI_nat hj0, lk, _, _, rfl, rfl, hk2, by rw [hkl]; exact small (by omega), ?_⟩
          have nk := noTup_lst hk2
          refine ⟨_, kept ++ [st], krefs ++ [a], _, rfl, same_upd s4 hlk0, by rw [upd_ne nll.symm]; exact hN2, by rw [upd_same, List.map_append]; rfl, Paired.snoc (steps_upd nk hkp2) ((hSt.same s14).upd nk),
            by rw [e1]; exact U.take hg hsl (by rw [htl]; exact hsw) (hkc' hub), fun s hs => ?_⟩
          rcases List.mem_append.mp hs with hs | hs
          · exact hk4 s hs
          · rw [List.mem_singleton] at hs; subst hs; omega
      · rintro σ' H' ⟨names, kept, krefs, v5, rfl, s3, hN, hk, hkp, U, hk4⟩
        rw [List.take_length] at U
        have how := U.ok out hout (.inr hko)
        have hol : out < names.length := by rw [U.len]; exact hout
        have e : names.getD out 0 = names[out] := by rw [List.getD_eq_getElem?_getD, List.getElem?_eq_getElem hol]; rfl
        rw [e] at how
        have hkl := U.kl
        refine ⟨_, rfl, _, rfl, _, rfl, lk, ln, krefs, kept, names, rfl, SqL.of hk, hkp, SqL.of hN, fun s hs => ⟨hk4 s hs, U.kw s hs⟩, by omega, fun H2 D refs s4 hD hr2 => ?_⟩
        refine ⟨D, _, rfl, .inl ⟨SqL.of hD, fun t' ht' => ?_⟩⟩
        have s5 : Same H2 (upd H2 t' (.tup (refs.map V.ref))) := same_new ht'
        refine ⟨_, rfl, _, rfl, ln, _, _, _, rfl, rfl, SqL.of (s5 _ _ (s4 _ _ hN)), atI_nat (nL_at (List.getElem?_eq_getElem hol)), by show 3 ≤ sizeLine; decide, fun p hp => ?_⟩
        have s6 := same_upd (o := .tup [nV n, .ref t', nV names[out]]) s5 (none_ne hp).2
        exact q _ p _ names[out] (((s1.trans s3).trans s4).trans s6) ⟨t', refs, SqT.of upd_same, SqT.of (by rw [upd_ne (none_ne hp).1.symm]; exact upd_same), steps_same s6 hr2⟩ U.wf (by rw [List.length_map]; exact hkl) (by rw [List.length_map]; exact how.1) how.2
/-! shared -/
theorem ok_shared (T : Pg w K mg) : FnOk P w K mg base CX0 3 T.f_shared T.d_shared ["circuit"] (spJoin K) := by
  refine T.F_shared.ok (k := 2) sc_shared (fun vs H Q E h => ?_) (fun cdv A outer s H vs Q E hr h => ?_)
  · obtain ⟨c, _, _, _, _, rfl, _⟩ := h; rfl
  · obtain ⟨c, n, steps, out, gs, rfl, hC, hw, hg4, hout, hn, hlen, q⟩ := h
    refine ⟨_, (pss_one (ps_ret (pe_call (ok_without_unused T) (hr.mono (by decide)) (by rfl) T.m_without_unused T.F_without_unused.kp T.b_without_unused .nil pass0 (pa_cons (pe_call (ok_without_alike T) (hr.mono (by decide)) (by rfl) T.m_without_alike T.F_without_alike.kp T.b_without_alike .nil pass0 (pa_cons (pv 0) pa_nil)) pa_nil)))), ?_⟩
    refine ⟨_, rfl, c, n, steps, out, gs, rfl, hC, hw, hg4, hout, hn, hlen, fun H1 c1 st1 o1 s1 hC1 hw1 hl1 ho1 hv1 => ?_⟩
    refine ⟨c1, n, st1, o1, gs, rfl, hC1, hw1, hg4, ho1, hn, by omega, fun H2 c2 st2 o2 s2 hC2 hw2 hl2 ho2 hv2 => ?_⟩
    exact q H2 c2 st2 o2 (s1.trans s2) hC2 hw2 (by omega) ho2 fun r => (hv2 r).trans (hv1 r)
end
end Gk

namespace Gk
open PySem L2
section
variable {P : Program} {w : World} {K : PySem.W.Frag} {mg : Str → Option Value} {base : Heap} {C : Addr}
theorem MkOk.nil (n : Nat) (steps : List Step) : MkOk n steps [] := fun t i v e => by cases e
def spBuild (K : PySem.W.Frag) : Sp := fun vs H Q _ => ∃ (lg wi : Addr) (gs : List Gate) (n b : Nat), vs = [.ref lg, .ref wi] ∧ GatesL K H lg gs ∧ SqT K H wi [nV n, nV b] ∧ (∀ c ∈ gs, Valid 3 c) ∧ gs.length ≤ 100 ∧ 0 < n ∧ n ≤ 2 ∧ b < 2 ^ 2 ^ n ∧
  (∀ k ∈ REL5, ∃ c ∈ gs, ¬ Keeps c k.2.1 k.2.2) ∧
  ∀ (H' : Hp) (c : Addr) (steps : List Step) (out : Nat), Same H H' → CircAt K H' c n steps out → Wf gs n steps → steps.length ≤ 700 → out < n + steps.length → (∀ r, wv n steps r out = bt b (r % 2 ^ n)) → Q (.ref c) H'
theorem ok_build (T : Pg w K mg) : FnOk P w K mg base CX0 10 T.f_build T.d_build ["gates", "wish"] (spBuild K) := by
  refine T.F_build.ok (k := 9) sc_build (fun vs H Q E h => ?_) (fun cdv A outer s H vs Q E hr h => ?_)
  · obtain ⟨lg, wi, _, _, _, rfl, _⟩ := h; rfl
  · obtain ⟨lg, wi, gs, n, b, rfl, hG, hW, hv, hgl, hn0, hn2, hb, hbr, q⟩ := h
    refine ⟨_, (pss_cons (ps_for PassesOwn.never rfl (pi_zipM (by rfl) T.z_zip (pa_cons (pe_glob (by rfl) T.m_KINDS T.r_KINDS) (pa_cons (pe_call (ok_kinds T) (hr.mono (by decide)) (by rfl) T.m_kinds T.F_kinds.kp T.b_kinds .nil pass0 (pa_cons (pv 0) pa_nil)) pa_nil))) (pg_tup (by rfl) (pgs_cons (pg_name (i := 2) sc_build.nd rfl (by first | exact Or.inl rfl | exact Or.inr rfl)) (pgs_cons (pg_name (i := 3) sc_build.nd rfl (by first | exact Or.inl rfl | exact Or.inr rfl)) pgs_nil)))
  (pss_one (ps_if (pt_cmpR op_isN (pv 3) pe_non (nomark _)) (pss_one ps_never) pss_nil)))
  (pss_cons (ps_set (i := 4) sc_build.nd rfl (by first | exact Or.inl rfl | exact Or.inr rfl) (pe_make T.mkB (ok_binit T) (hr.mono (by decide)) (by rfl) T.m_Bench T.b_binit .nil pass0 (pa_cons (pv 0) (pa_cons (pe_ix ix_tup (pv 1) pe_int (fun _ _ => rfl)) pa_nil))))
  (pss_cons (ps_expr (pe_meth0 (pv 4) T.cl T.mt_bbegun (ok_bbegun T) (hr.mono (by decide)) T.b_bbegun .nil pass0))
  (pss_cons (ps_set (i := 5) sc_build.nd rfl (by first | exact Or.inl rfl | exact Or.inr rfl) (pe_meth (pv 4) T.cl T.mt_bwire_of (ok_bwire_of T 3) (hr.mono (by decide)) T.b_bwire_of .nil pass0 (pa_cons (pe_ix ix_tup (pv 1) pe_int (fun _ _ => rfl)) (pa_cons (pe_ix ix_tup (pv 1) pe_int (fun _ _ => rfl)) pa_nil))))
  (pss_one (ps_ret (pe_call (ok_shared T) (hr.mono (by decide)) (by rfl) T.m_shared T.F_shared.kp T.b_shared .nil pass0 (pa_cons (pe_tup (pa_cons (pe_ix ix_tup (pv 1) pe_int (fun _ _ => rfl)) (pa_cons (pe_callTy call_tuple_of (by rfl) T.z_tuple (by decide +kernel) (pa_cons (pe_fld (pv 4) rfl) pa_nil)) (pa_cons (pv 5) pa_nil)))) pa_nil)))))))), ?_⟩
    have hGA : GatesAt K H lg gs := by
      obtain ⟨refs, h1, h2⟩ := hG
      exact ⟨refs, SqL.of h1, h2⟩
    dsimp only [tNext]
    refine seq_joinS (M := fun σ' H' => ∃ v2 v3, σ' = [some (.ref lg), some (.ref wi), v2, v3, none, none] ∧ Same H H') (fun nx hk => ?_) ?_
    · refine ⟨_, rfl, lg, gs, rfl, hGA, fun c hc => Nat.le_trans (hv c hc).1 (by decide), hgl, fun p ts H1 s1 hp0 hp1 hpair => ?_⟩
      have hlen : ts.length = 5 := hpair.length
      refine ⟨T.a_KINDS, p, _, _, rfl, T.q_KINDS _, SqL.of hp1, for_it (walk_zipM (xs := REL5.map fun k => V.str k.1) (n := 5) rfl hlen.symm) (D := { nx := nx, rt := Q }) (fun i σ' H' => ∃ v2 v3, σ' = [some (.ref lg), some (.ref wi), v2, v3, none, none] ∧ Same H1 H') ⟨none, none, rfl, Same.refl _⟩ (fun i σ' H' _ h => ?_) ?_ ?_⟩
      · obtain ⟨_, _, _, s2⟩ := h
        exact ⟨T.q_KINDS _, SqL.of (s2 _ _ hp1)⟩
      · rintro i x σ' H2 H3 hi ⟨v2, v3, rfl, s2⟩ ⟨Tp, y, z, rfl, hT, rfl, hy, hz⟩
        obtain ⟨k, hk, hto⟩ := paired_l hpair hz
        obtain ⟨p1, _, _, _, _, rfl, _⟩ := told_some hto (hbr k (List.mem_of_getElem? hk))
        refine ⟨Tp, _, rfl, SqT.of upd_same, rfl, _, _, rfl, _, _, rfl, rfl, ?_⟩
        refine ⟨_, rfl, rfl, _, rfl, ?_⟩
        refine iteF ?_
        exact ⟨_, _, rfl, same_upd s2 (s2.free hT)⟩
      · rintro σ' H' ⟨v2, v3, rfl, s2⟩
        exact hk _ _ ⟨v2, v3, rfl, s1.trans s2⟩
    · rintro σ' H1 ⟨v2, v3, rfl, s1⟩
      have hW1 := sameT s1 hW
      refine ⟨_, rfl, _, rfl, wi, _, _, _, rfl, rfl, hW1, rfl, fun x dx hx hdx hne => ?_⟩
      refine ⟨x, dx, lg, n, rfl, upd_same, fun H2 ls lc dm hkeep hls hlc hdm nlc hx2 hls2 hlc2 hdm2 => ⟨rfl, ?_⟩⟩
      have s2 : Same H1 H2 := fun c o e => hkeep c o (by rw [upd_ne (ne_of_none e hx), upd_ne (ne_of_none e hdx)]; exact e) (ne_of_none e hx)
      have n1 : H1 ls = none := (none_ne (none_ne hls).2).2
      have n2 : H1 lc = none := (none_ne (none_ne hlc).2).2
      have n3 : H1 dm = none := (none_ne (none_ne hdm).2).2
      have n0 : ∀ c ∈ [x, ls, lc, dm], H1 c = none := by
        intro c hc
        simp only [List.mem_cons, List.not_mem_nil, or_false] at hc
        rcases hc with rfl | rfl | rfl | rfl <;> assumption
      obtain ⟨refs, hl, hp⟩ := hG
      have hl2 := s2 _ _ (s1 _ _ hl)
      have B : BAt K T.C ⟨x, dx, lg, ls, lc, dm, n, gs⟩ H2 [] .non .non .non .non [] := ⟨hx2, ⟨[], hls2, .nil⟩, hlc2, hdm2, ⟨refs, hl2, L2.Paired.mapP hp fun _ _ z => sameT s2 (sameT s1 z)⟩,
        fun z => (by have := n0 _ z; rw [s1 _ _ hl] at this; cases this), nlc⟩
      generalize ho : (⟨x, dx, lg, ls, lc, dm, n, gs⟩ : BO) = o at B
      have e1 : x = o.b := by rw [← ho]
      have e2 : dx = o.dx := by rw [← ho]
      have e3 : n = o.n := by rw [← ho]
      have e4 : gs = o.gs := by rw [← ho]
      have e5 : [x, ls, lc, dm] = o.S := by rw [← ho]
      rw [e5] at n0
      rw [e1]
      refine ⟨_, rfl, o.b, o.dx, _, rfl, B.ob, bf_begun .., ?_⟩
      dsimp only [tNil]
      refine ⟨o, [], rfl, B, by rw [← e4]; exact hv, by rw [← e4]; exact hgl, by rw [← e3]; exact hn0, by rw [← e4]; exact hbr, fun H3 rp steps R hsl F1 => ?_⟩
      have F3 : Frm o.S H1 H3 := (Frm.of s2).trans F1
      have W3 : SqT K H3 wi [nV n, nV b] := sameT (same_keep F3 n0) hW1
      -- out
      refine ⟨_, rfl, o.b, o.dx, _, rfl, R.B.ob, bf_wire_of .., _, rfl, wi, _, _, _, rfl, rfl, W3, rfl, _, rfl, wi, _, _, _, rfl, rfl, W3, rfl, ?_⟩
      dsimp only [tNil]
      have hc2 : cost n ≤ 48 := by
        rcases (by omega : n = 1 ∨ n = 2) with rfl | rfl <;> decide
      have hp2 : 2 ^ n ≤ 4 := Nat.pow_le_pow_right (by decide) hn2
      refine ⟨o, rp, steps, [], b, n, rfl, R, MkOk.nil _ _, by omega, by rw [← e3]; exact Nat.le_refl _, by omega, hb, by omega, by show 0 + 2 ^ n ≤ 700; omega, fun H4 st4 mk4 out A => ?_⟩
      have F4 : Frm o.S H1 H4 := F3.trans A.fr
      have W4 : SqT K H4 wi [nV n, nV b] := sameT (same_keep F4 n0) hW1
      have hl4 := A.len
      obtain ⟨srefs, hs, hsp⟩ := A.R.B.st
      refine ⟨_, rfl, wi, _, _, _, rfl, rfl, W4, rfl, _, rfl, o.b, T.C, o.dx, _, _, rfl, A.R.B.ob, T.cl, T.n_steps, bf_steps .., o.ls, _, rfl, .inl ⟨SqL.of hs, fun t ht => ?_⟩⟩
      have s5 : Same H4 (upd H4 t (.tup (srefs.map V.ref))) := same_new ht
      refine ⟨_, rfl, by show 3 ≤ sizeLine; decide, fun p hp => ?_⟩
      have s6 := same_upd (o := .tup [nV n, .ref t, nV out]) s5 (none_ne hp).2
      have hlow := A.low
      rw [← e3] at hlow
      have hwf := A.R.ok.wf
      rw [← e3, ← e4] at hwf
      have hval := A.val
      rw [← e3] at hval
      refine ⟨p, n, st4, out, gs, rfl, ⟨t, srefs, SqT.of upd_same, SqT.of (by rw [upd_ne (none_ne hp).1.symm]; exact upd_same), steps_same s6 hsp⟩, hwf, fun c hc => Nat.le_trans (hv c hc).1 (by decide), hlow, by omega, by omega, fun H7 c7 st7 o7 s7 hC7 hw7 hl7 ho7 hv7 => ?_⟩
      exact q H7 c7 st7 o7 (s1.trans ((same_keep F4 n0).trans (s6.trans s7))) hC7 hw7 (by omega) ho7 fun r => (hv7 r).trans (hval r)
end
end Gk

namespace Gk
open PySem L2
section
variable {P : Program} {w : World} {K : PySem.W.Frag} {mg : Str → Option Value} {base : Heap} {C : Addr}
def spCell (K : PySem.W.Frag) : Sp := fun vs H Q _ => ∃ (l : Addr) (ns : List Int) (k : Nat), vs = [.ref l, nV k] ∧ SqL K H l (ns.map V.int) ∧ ns.length ≤ 63 ∧ k ≤ 100 ∧ ∀ z, Q (.int z) H
theorem ok_law_cell_at (T : Pg w K mg) : FnOk P w K mg base CX0 1 T.f_law_cell_at T.d_law_cell_at ["_law_script", "_law_k"] (spCell K) := by
  refine T.F_law_cell_at.ok sc_law_cell_at (fun vs H Q E h => ?_) (fun cdv A outer s H vs Q E hr h => ?_)
  · obtain ⟨l, _, k, rfl, _⟩ := h; rfl
  · obtain ⟨l, ns, k, rfl, hL, hlen, hk, q⟩ := h
    refine ⟨_, (pss_cons (ps_if (pt_cmpR op_lt (pv 1) (pe_callB call_len_seq (by rfl) T.z_len PySem.boot_len (pa_cons (pv 0) pa_nil)) (nomark _)) (pss_one (ps_ret (pe_ix ix_list (pv 0) (pv 1) (fun _ _ => rfl)))) pss_nil)
  (pss_cons (ps_if (pt_cmpR op_eq (pe_callB call_len_seq (by rfl) T.z_len PySem.boot_len (pa_cons (pv 0) pa_nil)) pe_int (nomark _)) (pss_one (ps_ret (pe_op op_add (pe_op op_mul (pe_op op_mul (pv 1) (pv 1)) pe_int) (pe_op op_mul pe_int (pv 1))))) pss_nil)
  (pss_one (ps_ret (pe_op op_add (pe_op op_fdiv (pe_ix ix_list (pv 0) (pe_op op_mod (pv 1) (pe_callB call_len_seq (by rfl) T.z_len PySem.boot_len (pa_cons (pv 0) pa_nil))) (fun _ _ => rfl)) (pe_op op_add pe_int (pe_op op_fdiv (pv 1) (pe_callB call_len_seq (by rfl) T.z_len PySem.boot_len (pa_cons (pv 0) pa_nil))))) (pe_op op_mul (pe_op op_mul (pv 1) (pv 1)) pe_int)))))), ?_⟩
    have hml : ((ns.map V.int).length : Int) = (ns.length : Int) := by rw [List.length_map]
    refine ⟨_, rfl, _, rfl, l, _, rfl, .inl hL, _, _, rfl, rfl, _, rfl, ?_⟩
    rw [hml]
    refine ite2 (fun h => ?_) (fun h => ?_)
    · have h := of_decide_eq_true h
      have hkl : k < (ns.map V.int).length := by rw [List.length_map]; omega
      have e : (ns.map V.int)[k]? = some (.int (ns[k]'(by omega))) := by rw [List.getElem?_map, List.getElem?_eq_getElem (by omega)]; rfl
      exact ⟨_, rfl, _, rfl, l, _, _, _, rfl, rfl, hL, atI_nat e, q _⟩
    refine ⟨_, rfl, l, _, rfl, .inl hL, rfl, _, rfl, ?_⟩
    rw [hml]
    have c1 : CMul (k : Int) (k : Int) := .inl ⟨by omega, by omega⟩
    refine ite2 (fun h2 => ?_) (fun h2 => ?_)
    · exact ⟨_, rfl, _, rfl, _, _, rfl, rfl, c1, _, _, rfl, rfl, .inr ⟨by decide, by decide⟩, _, rfl, _, _, rfl, rfl, .inl ⟨by decide, by decide⟩, _, _, rfl, rfl, q _⟩
    have h0 : 0 < ns.length := by
      rcases Nat.eq_zero_or_pos ns.length with z | z
      · rw [z] at h2; exact absurd rfl h2
      · exact z
    have hml2 : k % ns.length < ns.length := Nat.mod_lt _ h0
    have e : (ns.map V.int)[k % ns.length]? = some (.int (ns[k % ns.length]'hml2)) := by rw [List.getElem?_map, List.getElem?_eq_getElem hml2]; rfl
    have ea : atI (ns.map V.int) ((k : Int) % ((ns.map V.int).length : Int)) = some (.int (ns[k % ns.length]'hml2)) := by rw [hml]; exact atI_nat e
    obtain ⟨m, hdv, hdl⟩ : ∃ m : Nat, ((k : Int) / (ns.length : Int)) = (m : Int) ∧ m ≤ k := ⟨k / ns.length, rfl, Nat.div_le_self _ _⟩
    refine ⟨_, rfl, _, rfl, _, rfl, l, _, rfl, .inl hL, _, _, rfl, rfl, by rw [hml]; omega, l, _, _, _, rfl, rfl, hL, ea, ?_⟩
    exact ⟨_, rfl, _, rfl, l, _, rfl, .inl hL, _, _, rfl, rfl, ⟨by rw [hml]; omega, by rw [hml]; omega⟩, _, _, rfl, rfl, _, _, rfl, rfl, ⟨by rw [hml, hdv]; omega, by rw [hml, hdv]; omega⟩, _, rfl, _, rfl, _, _, rfl, rfl, c1, _, _, rfl, rfl, .inr ⟨by decide, by decide⟩, _, _, rfl, rfl, q _⟩
theorem atI_mod (l : List Nat) (z : Int) (h : 0 < l.length) : ∃ x, x ∈ l ∧ atI (nL l) (z % (l.length : Int)) = some (nV x) := by
  have h1 : 0 ≤ z % (l.length : Int) := Int.emod_nonneg _ (by omega)
  have h2 : z % (l.length : Int) < (l.length : Int) := Int.emod_lt_of_pos _ (by omega)
  obtain ⟨j, hj⟩ : ∃ j : Nat, z % (l.length : Int) = (j : Int) := ⟨(z % (l.length : Int)).toNat, by omega⟩
  rw [hj] at h2 ⊢
  have hjl : j < l.length := by omega
  exact ⟨l[j], List.getElem_mem hjl, atI_nat (nL_at (List.getElem?_eq_getElem hjl))⟩
def spGate (K : PySem.W.Frag) : Sp := fun vs H Q _ => ∃ z : Int, vs = [.int z] ∧ ∀ (c : Gate) (H' : Hp) (p : Addr), Valid 4 c → Same H H' → H p = none → H' p = some (.tup [nV c.1, nV c.2]) → Q (.ref p) H'
theorem ok_law_gate (T : Pg w K mg) : FnOk P w K mg base CX0 1 T.f_law_gate T.d_law_gate ["_law_cell"] (spGate K) := by
  refine T.F_law_gate.ok sc_law_gate (fun vs H Q E h => ?_) (fun cdv A outer s H vs Q E hr h => ?_)
  · obtain ⟨z, rfl, _⟩ := h; rfl
  · obtain ⟨z, rfl, q⟩ := h
    refine ⟨_, (pss_cons (ps_set (i := 1) sc_law_gate.nd rfl (by first | exact Or.inl rfl | exact Or.inr rfl) (pe_ix ix_list (pe_lst (pa_cons pe_int (pa_cons pe_int (pa_cons pe_int (pa_cons pe_int (pa_cons pe_int (pa_cons pe_int (pa_cons pe_int (pa_cons pe_int (pa_cons pe_int (pa_cons pe_int pa_nil))))))))))) (pe_op op_mod (pv 0) pe_int) (fun _ _ => rfl)))
  (pss_cons (ps_set (i := 0) sc_law_gate.nd rfl (by first | exact Or.inl rfl | exact Or.inr rfl) (pe_op op_fdiv (pv 0) pe_int))
  (pss_cons (ps_set (i := 2) sc_law_gate.nd rfl (by first | exact Or.inl rfl | exact Or.inr rfl) (pe_lst (pa_cons pe_int (pa_cons pe_int (pa_cons pe_int (pa_cons pe_int (pa_cons pe_int (pa_cons pe_int (pa_cons pe_int (pa_cons pe_int pa_nil))))))))))
  (pss_cons (ps_if (PW.pt (pw_and (pt_cmpR op_eq (pv 1) pe_int (nomark _)) (pw_and1 (pt_cmpR op_eq (pe_op op_mod (pv 0) pe_int) pe_int (nomark _))))) (pss_one (ps_ret (pe_tup (pa_cons pe_int (pa_cons (pe_ix ix_list (pv 2) (pe_op op_mod (pe_op op_fdiv (pv 0) pe_int) pe_int) (fun _ _ => rfl)) pa_nil))))) pss_nil)
  (pss_one (ps_ret (pe_tup (pa_cons (pv 1) (pa_cons (pe_op op_mod (pe_op op_add (pe_op op_mul (pe_op op_fdiv (pv 0) pe_int) pe_int) (pv 0)) (pe_ix ix_list (pe_lst (pa_cons pe_int (pa_cons pe_int (pa_cons pe_int (pa_cons pe_int (pa_cons pe_int pa_nil)))))) (pv 1) (fun _ _ => rfl))) pa_nil))))))))), ?_⟩
    refine ⟨by show 10 ≤ sizeLine; decide, fun p hp => ?_⟩
    obtain ⟨n, hn, hat⟩ := atI_mod [2, 2, 1, 3, 2, 2, 3, 1, 0, 4] z (by decide)
    have hn4 : n ≤ 4 := (by decide : ∀ n ∈ [2, 2, 1, 3, 2, 2, 3, 1, 0, 4], n ≤ 4) n hn
    refine ⟨_, rfl, _, _, rfl, rfl, (by decide : (0 : Int) < 10), p, _, _, _, rfl, rfl, SqL.of upd_same, hat, ?_⟩
    refine ⟨_, rfl, _, _, rfl, rfl, ⟨by decide, by decide⟩, ?_⟩
    refine ⟨by show 8 ≤ sizeLine; decide, fun p2 hp2 => ?_⟩
    have s2 : Same H (upd (upd H p (.lst (nL [2, 2, 1, 3, 2, 2, 3, 1, 0, 4]))) p2 (.lst (nL [8, 14, 6, 7, 9, 1, 11, 2]))) := same_upd (same_new hp) (none_ne hp2).2
    have h2 : upd (upd H p (.lst (nL [2, 2, 1, 3, 2, 2, 3, 1, 0, 4]))) p2 (.lst (nL [8, 14, 6, 7, 9, 1, 11, 2])) p2 = some (.lst (nL [8, 14, 6, 7, 9, 1, 11, 2])) := upd_same
    dsimp only
    refine seq_joinS (M := fun σ' H' => σ' = [some (.int (z / 10)), some (nV n), some (.ref p2)] ∧ Same H H') (fun nx hk => ?_) ?_
    · refine ⟨_, rfl, rfl, _, rfl, ?_⟩
      dsimp only
      refine ite2 (fun h => ?_) (fun h => ?_)
      · refine ⟨_, rfl, _, _, rfl, rfl, (by decide : (0 : Int) < 3), rfl, _, rfl, ?_⟩
        refine ite2 (fun h' => ?_) (fun h' => ?_)
        · obtain ⟨b, hb, hat2⟩ := atI_mod [8, 14, 6, 7, 9, 1, 11, 2] (z / 10 / 3) (by decide)
          have hb16 : b < 16 := (by decide : ∀ b ∈ [8, 14, 6, 7, 9, 1, 11, 2], b < 16) b hb
          refine ⟨_, rfl, _, rfl, _, _, rfl, rfl, ⟨by decide, by decide⟩, _, _, rfl, rfl, (by decide : (0 : Int) < 8), p2, _, _, _, rfl, rfl, SqL.of h2, hat2, by show 2 ≤ sizeLine; decide, fun r hr0 => ?_⟩
          exact q (2, b) _ r ⟨by show 2 ≤ 4; decide, hb16⟩ (same_upd s2 (s2.free hr0)) (s2.free hr0) upd_same
        · exact hk _ _ ⟨rfl, s2⟩
      · exact hk _ _ ⟨rfl, s2⟩
    · rintro σ' H' ⟨rfl, s2⟩
      refine ⟨_, rfl, _, rfl, _, _, rfl, rfl, ⟨by decide, by decide⟩, _, _, rfl, rfl, .inr ⟨by decide, by decide⟩, _, rfl, _, _, rfl, rfl, by show 5 ≤ sizeLine; decide, fun p3 hp3 => ?_⟩
      have hl : (nL [2, 4, 16, 256, 65536])[n]? = some (nV (2 ^ 2 ^ n)) := by
        rcases (by omega : n = 0 ∨ n = 1 ∨ n = 2 ∨ n = 3 ∨ n = 4) with rfl | rfl | rfl | rfl | rfl <;> rfl
      have hpos : 0 < 2 ^ 2 ^ n := Nat.pow_pos (by decide)
      refine ⟨_, rfl, p3, _, _, _, rfl, rfl, SqL.of upd_same, atI_nat hl, _, _, rfl, rfl, by omega, ?_⟩
      have h1 : 0 ≤ (z / 10 / 3 * 40503 + z / 10) % ((2 ^ 2 ^ n : Nat) : Int) := Int.emod_nonneg _ (by omega)
      have h3 : (z / 10 / 3 * 40503 + z / 10) % ((2 ^ 2 ^ n : Nat) : Int) < ((2 ^ 2 ^ n : Nat) : Int) := Int.emod_lt_of_pos _ (by omega)
      obtain ⟨b, hb⟩ : ∃ b : Nat, (z / 10 / 3 * 40503 + z / 10) % ((2 ^ 2 ^ n : Nat) : Int) = (b : Int) := ⟨((z / 10 / 3 * 40503 + z / 10) % ((2 ^ 2 ^ n : Nat) : Int)).toNat, by omega⟩
      dsimp only
      rw [hb] at h3 ⊢
      have s3 : Same H (upd H' p3 (.lst (nL [2, 4, 16, 256, 65536]))) := same_upd s2 (s2.free hp3)
      refine ⟨by show 2 ≤ sizeLine; decide, fun r hr0 => ?_⟩
      exact q (n, b) _ r ⟨hn4, by show b < 2 ^ 2 ^ n; omega⟩ (same_upd s3 (s3.free hr0)) (s3.free hr0) upd_same
end
end Gk

/-! what is compared as data -/
namespace Gk
open PySem L2
theorem lay_all : ∀ {ds : List PyData}, (∀ d ∈ ds, d.canLay0 = true ∧ d.depth ≤ 60) → PyData.canLayAll0 ds = true ∧ PyData.depthAll ds ≤ 60
  | [], _ => ⟨by simp [PyData.canLayAll0], by simp [PyData.depthAll]⟩
  | d :: ds, h => by
    obtain ⟨h1, h2⟩ := h d List.mem_cons_self
    obtain ⟨h3, h4⟩ := lay_all (ds := ds) fun x hx => h x (List.mem_cons_of_mem _ hx)
    refine ⟨by simp only [PyData.canLayAll0, h1, h3]; rfl, ?_⟩
    simp only [PyData.depthAll]
    omega
theorem shaped_list {ds : List PyData} (h : ∀ d ∈ ds, d.canLay0 = true ∧ d.depth ≤ 60) : SeqAt.shaped (.list ds) = true := by
  obtain ⟨h1, h2⟩ := lay_all h
  show (PyData.canLay0 (.list ds) && decide (PyData.depth (.list ds) ≤ 64)) = true
  rw [Bool.and_eq_true]
  exact ⟨by simp only [PyData.canLay0]; exact h1, decide_eq_true (by simp only [PyData.depth]; omega)⟩
theorem units65 {k : Nat} {A : Around} (r : Room k A) : A.units + 65 < cLine := by have := r.un; omega
def iD (n : Nat) : PyData := .int (n : Int)
abbrev nD (l : List Nat) : List PyData := l.map iD
def gD (c : Gate) : PyData := .tuple [iD c.1, iD c.2]
theorem iD_lay (n : Nat) : (iD n).canLay0 = true ∧ (iD n).depth ≤ 60 := ⟨by simp [iD, PyData.canLay0], by simp [iD, PyData.depth]⟩
theorem gD_lay (c : Gate) : (gD c).canLay0 = true ∧ (gD c).depth ≤ 60 := ⟨by simp [gD, iD, PyData.canLay0, PyData.canLayAll0], by simp [gD, iD, PyData.depth, PyData.depthAll]⟩
theorem gD_shaped (c : Gate) : SeqAt.shaped (gD c) = true := by simp [SeqAt.shaped, gD, iD, PyData.canLay0, PyData.canLayAll0, PyData.depth, PyData.depthAll]
theorem nD_shaped (l : List Nat) : SeqAt.shaped (.list (nD l)) = true := shaped_list fun d hd => by
  obtain ⟨n, _, rfl⟩ := List.mem_map.mp hd; exact iD_lay n
theorem gDs_shaped (l : List Gate) : SeqAt.shaped (.list (l.map gD)) = true := shaped_list fun d hd => by
  obtain ⟨n, _, rfl⟩ := List.mem_map.mp hd; exact gD_lay n
theorem nil_shaped : SeqAt.shaped (.list []) = true := nD_shaped []
section
variable {K : PySem.W.Frag}
theorem dp_nL {H : Hp} : ∀ l : List Nat, DpAll K H (nL l) (nD l)
  | [] => .nil
  | n :: l => .cons (.int _) (dp_nL l)
theorem dp_gate {H : Hp} {g : Addr} {c : Gate} (h : GateAt K H g c) : Dp K H (.ref g) (gD c) := .tup h (.cons (.int _) (.cons (.int _) .nil))
theorem dp_gates {H : Hp} : ∀ {refs : List Addr} {gs : List Gate}, Paired (GateAt K H) refs gs → DpAll K H (refs.map V.ref) (gs.map gD)
  | _, _, .nil => .nil
  | _, _, .cons h t => .cons (dp_gate h) (dp_gates t)
end
theorem eqv_nD (l : List Nat) : PyData.eqv (.list (nD l)) (.list (nD l)) = true := by
  simp only [PyData.eqv]
  induction l with
  | nil => simp [PyData.eqvAll]
  | cons n l ih =>
    show PyData.eqvAll (iD n :: nD l) (iD n :: nD l) = true
    simp only [PyData.eqvAll, ih, iD, PyData.eqv]
    simp
theorem eqv_gD (c : Gate) : PyData.eqv (gD c) (gD c) = true := by
  simp [gD, iD, PyData.eqv, PyData.eqvAll]
theorem any_gD {gs : List Gate} {c : Gate} (h : c ∈ gs) : ((gs.map gD).any fun z => PyData.eqv z (gD c)) = true :=
  List.any_eq_true.mpr ⟨gD c, List.mem_map_of_mem h, eqv_gD c⟩
theorem eqv_nil : PyData.eqv (.list []) (.list []) = true := eqv_nD []
end Gk

namespace Gk
open PySem L2
theorem or_lt4 {a k n : Nat} (ha : a < 2 ^ n) (hk : k < n) : a ||| 2 ^ k < 2 ^ n := Nat.or_lt_two_pow ha (Nat.pow_lt_pow_right (by decide) hk)
section
variable {P : Program} {w : World} {K : PySem.W.Frag} {mg : Str → Option Value} {base : Heap} {C : Addr}
def spKeeps (K : PySem.W.Frag) : Sp := fun vs H Q _ => ∃ (g : Addr) (c : Gate) (nm : Str), vs = [.ref g, .str nm] ∧ GateAt K H g c ∧ c.1 ≤ 4 ∧ ∀ (b : Bool) (H' : Hp), Same H H' → Q (.bl b) H'
theorem ok_law_keeps (T : Pg w K mg) : FnOk P w K mg base CX0 1 T.f_law_keeps T.d_law_keeps ["_law_gate_here", "_law_name"] (spKeeps K) := by
  refine T.F_law_keeps.ok sc_law_keeps (fun vs H Q E h => ?_) (fun cdv A outer s H vs Q E hr h => ?_)
  · obtain ⟨g, _, _, rfl, _⟩ := h; rfl
  · obtain ⟨g, c, nm, rfl, hG, hc, q⟩ := h
    refine ⟨_, (pss_cons (ps_set (i := 2) sc_law_keeps.nd rfl (by first | exact Or.inl rfl | exact Or.inr rfl) (pe_op op_shl pe_int (pe_ix ix_tup (pv 0) pe_int (fun _ _ => rfl))))
  (pss_cons (ps_set (i := 3) sc_law_keeps.nd rfl (by first | exact Or.inl rfl | exact Or.inr rfl) (pe_lc (own := [("_law_row", 4)]) (g := gName 4) (tt := tYes) rfl sc_law_keeps.nd (pi_range1 (by rfl) T.z_range (pa_cons (pv 2) pa_nil)) (blkOk_by (by rfl)) (fun _ _ _ _ _ => (pg_name (i := 4) sc_law_keeps.nd rfl (by first | exact Or.inl rfl | exact Or.inr rfl))) (fun _ _ _ _ _ => pts_nil) (fun _ _ _ _ _ => (pe_op op_and (pe_op op_shr (pe_ix (r := rIxT K) ix_tup (pv 0) pe_int (fun _ _ => rfl)) (pv 4)) pe_int))))
  (pss_cons (ps_if (pt_cmpR op_eq (pv 1) pe_str (nomark _)) (pss_one (ps_ret (pe_cmpR op_eq (pe_ix ix_list (pv 3) pe_int (fun _ _ => rfl)) pe_int (nomark _)))) pss_nil)
  (pss_cons (ps_if (pt_cmpR op_eq (pv 1) pe_str (nomark _)) (pss_one (ps_ret (pe_cmpR op_eq (pe_ix ix_list (pv 3) (pe_op op_sub (pv 2) pe_int) (fun _ _ => rfl)) pe_int (nomark _)))) pss_nil)
  (pss_cons (ps_if (pt_cmpR op_eq (pv 1) pe_str (nomark _)) (pss_one (ps_ret (pe_cmpR (op_eqD hr.units) (pe_lc (own := [("_law_row", 4)]) (g := gName 4) rfl sc_law_keeps.nd (pi_range1 (by rfl) T.z_range (pa_cons (pv 2) pa_nil)) (blkOk_by (by rfl)) (fun _ _ _ _ _ => (pg_name (i := 4) sc_law_keeps.nd rfl (by first | exact Or.inl rfl | exact Or.inr rfl))) (fun _ _ _ _ _ => (pts_one (pt_cmpR op_eq (pe_ix (r := rIxL K) ix_list (pv 3) (pv 4) (fun _ _ => rfl)) (pe_ix (r := rIxL K) ix_list (pv 3) (pe_op op_sub (pe_op op_sub (pv 2) pe_int) (pv 4)) (fun _ _ => rfl)) (nomark _)))) (fun _ _ _ _ _ => (pv 4))) (pe_lst pa_nil) (nomark _)))) pss_nil)
  (pss_cons (ps_for PassesOwn.never rfl (pi_range1 (by rfl) T.z_range (pa_cons (pv 2) pa_nil)) (pg_name (i := 4) sc_law_keeps.nd rfl (by first | exact Or.inl rfl | exact Or.inr rfl))
  (pss_cons (ps_set (i := 5) sc_law_keeps.nd rfl (by first | exact Or.inl rfl | exact Or.inr rfl) (pe_ix ix_list (pv 3) pe_int (fun _ _ => rfl)))
  (pss_cons (ps_for PassesOwn.never rfl (pi_range1 (by rfl) T.z_range (pa_cons (pe_ix ix_tup (pv 0) pe_int (fun _ _ => rfl)) pa_nil)) (pg_name (i := 6) sc_law_keeps.nd rfl (by first | exact Or.inl rfl | exact Or.inr rfl))
  (pss_cons (ps_if (PW.pt (pw_and (pt_cmpR op_eq (pv 1) pe_str (nomark _)) (pw_and1 (pt_cmpR op_gt (pe_ix ix_list (pv 3) (pv 4) (fun _ _ => rfl)) (pe_ix ix_list (pv 3) (pe_op op_or (pv 4) (pe_op op_shl pe_int (pv 6))) (fun _ _ => rfl)) (nomark _))))) (pss_one (ps_ret pe_bl)) pss_nil)
  (pss_one (ps_set (i := 5) sc_law_keeps.nd rfl (by first | exact Or.inl rfl | exact Or.inr rfl) (pe_op op_add (pv 5) (pe_op op_mul (pe_op op_and (pe_op op_shr (pv 4) (pv 6)) pe_int) (pe_op op_add (pe_ix ix_list (pv 3) (pe_op op_shl pe_int (pv 6)) (fun _ _ => rfl)) (pe_ix ix_list (pv 3) pe_int (fun _ _ => rfl)))))))))
  (pss_one (ps_if (PW.pt (pw_and (pt_cmpR op_eq (pv 1) pe_str (nomark _)) (pw_and1 (pt_cmpR op_ne (pe_op op_mod (pv 5) pe_int) (pe_ix ix_list (pv 3) (pv 4) (fun _ _ => rfl)) (nomark _))))) (pss_one (ps_ret pe_bl)) pss_nil)))))
  (pss_one (ps_ret pe_bl)))))))), ?_⟩
    have p1 := pow16 hc
    have ppos : 0 < 2 ^ c.1 := Nat.pow_pos (by decide)
    have b := b62 (n := 2 ^ c.1) (by omega)
    have bc := b62 (n := c.1) (by omega)
    refine ⟨_, rfl, g, _, _, _, rfl, rfl, hG, rfl, _, _, rfl, rfl, cpow (x := 1) (by omega) (by omega), ?_⟩
    dsimp only
    rw [c_one]
    refine ⟨_, rfl, _, rfl, b.1, b.2, fun D hD => pure_n (n := 2 ^ c.1) (f := fun r => bt c.2 r) hD (by omega) (fun i H2 R N hi s2 hR => ⟨rfl, yes_ ?_⟩) ?_⟩
    · refine ⟨_, rfl, g, _, _, _, rfl, rfl, sameT s2 hG, rfl, _, rfl, _, _, rfl, rfl, Int.natCast_nonneg i, _, _, rfl, rfl, ?_⟩
      dsimp only
      rw [c_bit]
      exact hR
    have s1 : Same H (upd H D (.lst (nL ((List.range (2 ^ c.1)).map fun r => bt c.2 r)))) := same_new hD
    have hv1 : upd H D (.lst (nL ((List.range (2 ^ c.1)).map fun r => bt c.2 r))) D = some (.lst (nL ((List.range (2 ^ c.1)).map fun r => bt c.2 r))) := upd_same
    generalize hvs : (List.range (2 ^ c.1)).map (fun r => bt c.2 r) = vals at s1 hv1
    have hvl : vals.length = 2 ^ c.1 := by rw [← hvs]; simp
    have hat : ∀ i : Nat, i < 2 ^ c.1 → ∃ x, x ≤ 1 ∧ atI (nL vals) (i : Int) = some (nV x) := fun i hi => by
      have hi' : i < vals.length := by omega
      refine ⟨vals[i], ?_, atI_nat (nL_at (List.getElem?_eq_getElem hi'))⟩
      have hall : ∀ x ∈ vals, x ≤ 1 := by
        rw [← hvs]
        intro x hx
        obtain ⟨j, _, rfl⟩ := List.mem_map.mp hx
        exact bt_le _ _
      exact hall _ (List.getElem_mem hi')
    generalize upd H D (.lst (nL vals)) = H1 at s1 hv1
    obtain ⟨x0, hx0, hat0⟩ := hat 0 ppos
    -- low
    refine ⟨_, rfl, rfl, _, rfl, ?_⟩
    refine ite2 (fun _ => ?_) (fun _ => ?_)
    · exact ⟨_, rfl, D, _, _, _, rfl, rfl, SqL.of hv1, hat0, rfl, q _ H1 s1⟩
    -- high
    obtain ⟨xl, hxl, hatl⟩ := hat (2 ^ c.1 - 1) (by omega)
    refine ⟨_, rfl, rfl, _, rfl, ?_⟩
    refine ite2 (fun _ => ?_) (fun _ => ?_)
    · refine ⟨_, rfl, _, rfl, _, _, rfl, rfl, D, _, _, nV xl, rfl, rfl, SqL.of hv1, ?_, rfl, q _ H1 s1⟩
      rw [show ((2 ^ c.1 : Nat) : Int) - 1 = ((2 ^ c.1 - 1 : Nat) : Int) from by omega]
      exact hatl
    -- turn
    refine ⟨_, rfl, rfl, _, rfl, ?_⟩
    refine ite2 (fun _ => ?_) (fun _ => ?_)
    · refine ⟨_, rfl, _, rfl, b.1, b.2, fun D2 hD2 => lc_n (n := 2 ^ c.1) (fun i H' => ∃ l : List Nat, Same H1 H' ∧ H' D2 = some (.lst (nL l)) ∧ l.length ≤ i) ⟨[], same_new hD2, upd_same, Nat.le_refl _⟩ ?_ ?_⟩
      · rintro i H' hi ⟨l, s2, h2, hl⟩
        obtain ⟨x1, hx1, ha1⟩ := hat i hi
        obtain ⟨x2, hx2, ha2⟩ := hat (2 ^ c.1 - 1 - i) (by omega)
        refine ⟨rfl, ?_⟩
        refine ⟨_, rfl, _, rfl, D, _, _, _, rfl, rfl, SqL.of (s2 _ _ hv1), ha1, _, rfl, _, rfl, _, _, rfl, rfl, _, rfl, _, _, rfl, rfl, D, _, _, nV x2, rfl, rfl, SqL.of (s2 _ _ hv1), ?_, rfl, _, rfl, ?_⟩
        · rw [show ((2 ^ c.1 : Nat) : Int) - 1 - (i : Int) = ((2 ^ c.1 - 1 - i : Nat) : Int) from by omega]
          exact ha2
        refine ite2 (fun _ => ?_) (fun _ => ?_)
        · exact ⟨_, rfl, nL l, h2, by rw [nL_len]; exact small (by omega), l ++ [i], same_upd s2 hD2, by rw [upd_same, nL_snoc], by simp; omega⟩
        · exact ⟨l, s2, h2, by omega⟩
      · rintro H' ⟨l, s2, h2, hl⟩
        refine ⟨Nat.zero_le _, fun pe hpe => ?_⟩
        have s3 : Same H' (upd H' pe (.lst [])) := same_new hpe
        exact ⟨_, _, .lst (SqL.of (s3 _ _ h2)) (dp_nL l), .lst (SqL.of upd_same) .nil, nD_shaped l, nil_shaped, q _ _ (s1.trans (s2.trans s3))⟩
    dsimp only [tNext]
    refine seq_joinS (M := fun σ' H' => H' = H1) (fun nx hk => ?_) ?_
    · refine ⟨_, rfl, _, rfl, b.1, b.2, for_n (n := 2 ^ c.1) (D := { nx := nx, rt := Q }) (fun i σ' H' => ∃ v4 v5 v6, σ' = [some (.ref g), some (.str nm), some (nV (2 ^ c.1)), some (.ref D), v4, v5, v6] ∧ H' = H1) ⟨none, none, none, rfl, rfl⟩ ?_ ?_⟩
      · rintro i σ' H' hi ⟨v4, v5, v6, rfl, rfl⟩
        refine ⟨_, rfl, D, _, _, _, rfl, rfl, SqL.of hv1, hat0, ?_⟩
        obtain ⟨xi, hxi, hati⟩ := hat i hi
        dsimp only
        refine seq_joinS (M := fun σ' H2 => ∃ (t : Int) (v6 : Option V), σ' = [some (.ref g), some (.str nm), some (nV (2 ^ c.1)), some (.ref D), some (nV i), some (.int t), v6] ∧ H2 = H') (fun nx2 hk2 => ?_) ?_
        · refine ⟨_, rfl, g, _, _, _, rfl, rfl, sameT s1 hG, rfl, _, rfl, bc.1, bc.2, for_n (n := c.1) (D := { nx := nx2, rt := Q }) (fun k σ' H2 => ∃ (t : Int) (v6 : Option V), σ' = [some (.ref g), some (.str nm), some (nV (2 ^ c.1)), some (.ref D), some (nV i), some (.int t), v6] ∧ H2 = H') ⟨_, v6, rfl, rfl⟩ ?_ ?_⟩
          · rintro k σ' H2 hk3 ⟨t, v6, rfl, rfl⟩
            have hpk : 2 ^ k < 2 ^ c.1 := Nat.pow_lt_pow_right (by decide) hk3
            obtain ⟨xo, hxo, hato⟩ := hat (i ||| 2 ^ k) (or_lt4 hi hk3)
            obtain ⟨xk, hxk, hatk⟩ := hat (2 ^ k) hpk
            have ck : CPow (1 : Int) (k : Int) := cpow (x := 1) (by omega) (by omega)
            dsimp only
            refine seq_joinS (M := fun σ' H3 => σ' = [some (.ref g), some (.str nm), some (nV (2 ^ c.1)), some (.ref D), some (nV i), some (.int t), some (nV k)] ∧ H3 = H2) (fun nx3 hk4 => ?_) ?_
            · refine ⟨_, rfl, rfl, _, rfl, ?_⟩
              refine ite2 (fun _ => ?_) (fun _ => ?_)
              · refine ⟨_, rfl, _, rfl, D, _, _, _, rfl, rfl, SqL.of hv1, hati, _, rfl, _, rfl, _, rfl, _, _, rfl, rfl, ck, _, _, rfl, rfl, D, _, _, nV xo, rfl, rfl, SqL.of hv1, ?_, _, _, rfl, rfl, _, rfl, ?_⟩
                · rw [c_one, c_or16 _ (by omega) _ (by omega)]; exact hato
                refine ite2 (fun _ => ?_) (fun _ => ?_)
                · exact q _ _ s1
                · exact hk4 _ _ ⟨rfl, rfl⟩
              · exact hk4 _ _ ⟨rfl, rfl⟩
            · rintro σ' H3 ⟨rfl, rfl⟩
              refine ⟨_, rfl, _, rfl, _, rfl, _, _, rfl, rfl, Int.natCast_nonneg k, _, _, rfl, rfl, _, rfl, _, rfl, _, _, rfl, rfl, ck, D, _, _, nV xk, rfl, rfl, SqL.of hv1, ?_, _, rfl, D, _, _, _, rfl, rfl, SqL.of hv1, hat0, _, _, rfl, rfl, _, _, rfl, rfl, ?_, _, _, rfl, rfl, ?_⟩
              · rw [c_one]; exact hatk
              · rw [c_bit]
                have := bt_le i k
                exact .inl ⟨by omega, by omega⟩
              · exact ⟨_, _, rfl, rfl⟩
          · rintro σ' H2 ⟨t, v6, rfl, rfl⟩
            exact hk2 _ _ ⟨t, v6, rfl, rfl⟩
        · rintro σ' H2 ⟨t, v6, rfl, rfl⟩
          refine ⟨_, rfl, rfl, _, rfl, ?_⟩
          refine ite2 (fun _ => ?_) (fun _ => ?_)
          · refine ⟨_, rfl, _, _, rfl, rfl, (by decide : (0 : Int) < 2), _, rfl, _, rfl, D, _, _, _, rfl, rfl, SqL.of hv1, hati, rfl, _, rfl, ?_⟩
            refine ite2 (fun _ => ?_) (fun _ => ?_)
            · exact q _ _ s1
            · exact ⟨_, _, _, rfl, rfl⟩
          · exact ⟨_, _, _, rfl, rfl⟩
      · rintro σ' H' ⟨v4, v5, v6, rfl, rfl⟩
        exact hk _ _ rfl
    · rintro σ' H' rfl
      exact q _ _ s1
end
end Gk

namespace Gk
open PySem L2
theorem paired_memL {α β : Type} {F : α → β → Prop} : ∀ {l₁ : List α} {l₂ : List β}, Paired F l₁ l₂ → ∀ a ∈ l₁, ∃ b ∈ l₂, F a b
  | _, _, .nil, _, h => by cases h
  | _, _, .cons f t, a, h => by
    rcases List.mem_cons.mp h with rfl | h
    · exact ⟨_, List.mem_cons_self, f⟩
    · obtain ⟨b, h1, h2⟩ := paired_memL t a h
      exact ⟨b, List.mem_cons_of_mem _ h1, h2⟩
theorem paired_app {α β : Type} {F : α → β → Prop} : ∀ {l₁ : List α} {l₂ : List β} {m₁ : List α} {m₂ : List β}, Paired F l₁ l₂ → Paired F m₁ m₂ → Paired F (l₁ ++ m₁) (l₂ ++ m₂)
  | _, _, _, _, .nil, h => h
  | _, _, _, _, .cons f t, h => .cons f (paired_app t h)
theorem pair_step {k : V} {tv : TE} {r : List (TE × TE)} {σ : L2.St} {H : Hp} {Q : List (V × V) → Hp → Prop} (h : tv σ H fun y H2 => tPairs r σ H2 fun ps H3 => Q ((k, y) :: ps) H3) : tPairs ((tC k, tv) :: r) σ H Q := h
theorem atI_modV (xs : List V) (z : Int) (h : 0 < xs.length) : ∃ x, x ∈ xs ∧ atI xs (z % (xs.length : Int)) = some x := by
  have h1 : 0 ≤ z % (xs.length : Int) := Int.emod_nonneg _ (by omega)
  have h2 : z % (xs.length : Int) < (xs.length : Int) := Int.emod_lt_of_pos _ (by omega)
  obtain ⟨j, hj⟩ : ∃ j : Nat, z % (xs.length : Int) = (j : Int) := ⟨(z % (xs.length : Int)).toNat, by omega⟩
  rw [hj] at h2 ⊢
  have hjl : j < xs.length := by omega
  exact ⟨xs[j], List.getElem_mem hjl, atI_nat (List.getElem?_eq_getElem hjl)⟩
def tGate (c : Gate) : TE := tTup (tCons (tC (nV c.1)) (tCons (tC (nV c.2)) tNil))
def tGates : List Gate → TA
  | [] => tNil
  | c :: gs => tCons (tGate c) (tGates gs)
def tGood : List (List Gate) → TA
  | [] => tNil
  | gs :: gss => tCons (tLst (tGates gs)) (tGood gss)
section
variable {P : Program} {w : World} {K : PySem.W.Frag} {mg : Str → Option Value} {base : Heap} {C : Addr}
theorem GatesL.same {H H' : Hp} {l : Addr} {gs : List Gate} (s : Same H H') (h : GatesL K H l gs) : GatesL K H' l gs :=
  let ⟨refs, h1, h2⟩ := h; ⟨refs, s _ _ h1, L2.Paired.mapP h2 fun _ _ q => sameT s q⟩
theorem tGate_ok (c : Gate) {σ : L2.St} {H : Hp} {Q : VK} (q : ∀ (p : Addr) (H' : Hp), Same H H' → H p = none → GateAt K H' p c → Q (.ref p) H') : tGate c σ H Q :=
  ⟨by show 2 ≤ sizeLine; decide, fun p hp => q p _ (same_new hp) hp (SqT.of upd_same)⟩
theorem tGates_ok : ∀ (gs : List Gate) {σ : L2.St} {H : Hp} {Q : List V → Hp → Prop}, (∀ (refs : List Addr) (H' : Hp), Same H H' → Paired (GateAt K H') refs gs → Q (refs.map V.ref) H') → tGates gs σ H Q
  | [], σ, H, Q, q => q [] H (Same.refl _) .nil
  | c :: gs, σ, H, Q, q => by
    show tGate c σ H fun x H1 => tGates gs σ H1 fun xs H2 => Q (x :: xs) H2
    exact tGate_ok (K := K) c fun p H1 s1 _ h1 => tGates_ok gs fun refs H2 s2 h2 => q (p :: refs) H2 (s1.trans s2) (.cons (sameT s2 h1) h2)
theorem tGood_ok : ∀ (gss : List (List Gate)) {σ : L2.St} {H : Hp} {Q : List V → Hp → Prop}, (∀ gs ∈ gss, gs.length ≤ 100) → (∀ (refs : List Addr) (H' : Hp), Same H H' → Paired (GatesL K H') refs gss → Q (refs.map V.ref) H') → tGood gss σ H Q
  | [], σ, H, Q, _, q => q [] H (Same.refl _) .nil
  | gs :: gss, σ, H, Q, hl, q => by
    show tGates gs σ H fun xs H1 => xs.length ≤ sizeLine ∧ ∀ p, H1 p = none → tGood gss σ (upd H1 p (.lst xs)) fun ys H2 => Q (.ref p :: ys) H2
    refine tGates_ok (K := K) gs fun refs H1 s1 h1 => ?_
    have hgl := hl gs List.mem_cons_self
    refine ⟨by rw [List.length_map, h1.length]; exact small' (by omega), fun p hp => ?_⟩
    have s2 : Same H1 (upd H1 p (.lst (refs.map V.ref))) := same_new hp
    refine tGood_ok gss (fun g hg => hl g (List.mem_cons_of_mem _ hg)) fun refs' H2 s3 h2 => q (p :: refs') H2 (s1.trans (s2.trans s3)) (.cons ⟨refs, s3 _ _ upd_same, L2.Paired.mapP h1 fun _ _ z => sameT s3 (sameT s2 z)⟩ h2)
theorem tLstGood_ok (gss : List (List Gate)) {σ : L2.St} {H : Hp} {Q : VK} (h : gss.length ≤ 100) (hl : ∀ gs ∈ gss, gs.length ≤ 100) (q : ∀ (p : Addr) (refs : List Addr) (H' : Hp), Same H H' → H p = none → H' p = some (.lst (refs.map V.ref)) → Paired (GatesL K H') refs gss → Q (.ref p) H') : tLst (tGood gss) σ H Q :=
  by
    show tGood gss σ H fun xs H1 => xs.length ≤ sizeLine ∧ ∀ p, H1 p = none → Q (.ref p) (upd H1 p (.lst xs))
    refine tGood_ok (K := K) gss hl fun refs H1 s1 h1 => ?_
    refine ⟨by rw [List.length_map, h1.length]; exact small' (by omega), fun p hp => ?_⟩
    have s2 : Same H1 (upd H1 p (.lst (refs.map V.ref))) := same_new hp
    exact q p refs _ (s1.trans s2) (s1.free hp) upd_same (L2.Paired.mapP h1 fun _ _ z => z.same s2)
def good1 : List (List Gate) := [[(2, 7)], [(2, 1)], [(2, 8), (1, 1)], [(2, 14), (1, 1)], [(2, 8), (2, 6), (0, 1)], [(2, 13), (0, 0)]]
def good2 : List (List Gate) := [[(3, 23), (2, 7)], [(2, 2), (0, 1)], [(3, 202), (0, 0), (0, 1)], [(2, 11), (1, 1)], [(4, 32767)]]
theorem good1_eq : (tLst (tCons (tLst (tCons (tTup (tCons (tC (V.int 2)) (tCons (tC (V.int 7)) tNil))) tNil)) (tCons (tLst (tCons (tTup (tCons (tC (V.int 2)) (tCons (tC (V.int 1)) tNil))) tNil)) (tCons (tLst (tCons (tTup (tCons (tC (V.int 2)) (tCons (tC (V.int 8)) tNil))) (tCons (tTup (tCons (tC (V.int 1)) (tCons (tC (V.int 1)) tNil))) tNil))) (tCons (tLst (tCons (tTup (tCons (tC (V.int 2)) (tCons (tC (V.int 14)) tNil))) (tCons (tTup (tCons (tC (V.int 1)) (tCons (tC (V.int 1)) tNil))) tNil))) (tCons (tLst (tCons (tTup (tCons (tC (V.int 2)) (tCons (tC (V.int 8)) tNil))) (tCons (tTup (tCons (tC (V.int 2)) (tCons (tC (V.int 6)) tNil))) (tCons (tTup (tCons (tC (V.int 0)) (tCons (tC (V.int 1)) tNil))) tNil)))) (tCons (tLst (tCons (tTup (tCons (tC (V.int 2)) (tCons (tC (V.int 13)) tNil))) (tCons (tTup (tCons (tC (V.int 0)) (tCons (tC (V.int 0)) tNil))) tNil))) tNil)))))) : TE) = tLst (tGood good1) := rfl
theorem good2_eq : (tLst (tCons (tLst (tCons (tTup (tCons (tC (V.int 3)) (tCons (tC (V.int 23)) tNil))) (tCons (tTup (tCons (tC (V.int 2)) (tCons (tC (V.int 7)) tNil))) tNil))) (tCons (tLst (tCons (tTup (tCons (tC (V.int 2)) (tCons (tC (V.int 2)) tNil))) (tCons (tTup (tCons (tC (V.int 0)) (tCons (tC (V.int 1)) tNil))) tNil))) (tCons (tLst (tCons (tTup (tCons (tC (V.int 3)) (tCons (tC (V.int 202)) tNil))) (tCons (tTup (tCons (tC (V.int 0)) (tCons (tC (V.int 0)) tNil))) (tCons (tTup (tCons (tC (V.int 0)) (tCons (tC (V.int 1)) tNil))) tNil)))) (tCons (tLst (tCons (tTup (tCons (tC (V.int 2)) (tCons (tC (V.int 11)) tNil))) (tCons (tTup (tCons (tC (V.int 1)) (tCons (tC (V.int 1)) tNil))) tNil))) (tCons (tLst (tCons (tTup (tCons (tC (V.int 4)) (tCons (tC (V.int 32767)) tNil))) tNil)) tNil))))) : TE) = tLst (tGood good2) := rfl
theorem asg_seq {te : TE} {g : TG} {rest : TS} {D : Ends} {σ : L2.St} {H : Hp} (h : te σ H fun x H1 => g x σ H1 fun σ2 H2 => rest D σ2 H2) : tSeq (tAsg te g) rest D σ H := h
theorem good_ok : ∀ gs ∈ good1 ++ good2, gs.length ≤ 6 ∧ ∀ c ∈ gs, c.1 ≤ 4 ∧ c.2 < 2 ^ 2 ^ c.1 := by decide
theorem subs_at (q1 q2 q3 q4 q5 : Addr) : ∀ nm ∈ (["low", "high", "turn", "rise", "even"] : List Str), ∃ q c, valV (mergeK ([] : List (Key × V)) [(.inr "low", .ref q1), (.inr "high", .ref q2), (.inr "turn", .ref q3), (.inr "rise", .ref q4), (.inr "even", .ref q5)]) (.inr nm) = some (.ref q) ∧
    (q, c) ∈ [(q1, ((2, 8) : Gate)), (q2, (2, 14)), (q3, (1, 1)), (q4, (2, 8)), (q5, (2, 6))] := by
  intro nm h
  simp only [List.mem_cons, List.not_mem_nil, or_false] at h
  rcases h with rfl | rfl | rfl | rfl | rfl
  · exact ⟨q1, (2, 8), by kernel_rfl, by simp⟩
  · exact ⟨q2, (2, 14), by kernel_rfl, by simp⟩
  · exact ⟨q3, (1, 1), by kernel_rfl, by simp⟩
  · exact ⟨q4, (2, 8), by kernel_rfl, by simp⟩
  · exact ⟨q5, (2, 6), by kernel_rfl, by simp⟩
def five : List Str := ["low", "high", "turn", "rise", "even"]
def spSet (K : PySem.W.Frag) : Sp := fun vs H Q _ => ∃ (l : Addr) (ns : List Int), vs = [.ref l, nV 0] ∧ SqL K H l (ns.map V.int) ∧ ns.length ≤ 63 ∧
  ∀ (H' : Hp) (p : Addr) (gs : List Gate), Same H H' → GatesL K H' p gs → gs.length ≤ 6 → (∀ c ∈ gs, Valid 4 c) → Q (.ref p) H'
theorem ok_law_set (T : Pg w K mg) : FnOk P w K mg base CX0 2 T.f_law_set T.d_law_set ["_law_script", "_law_start"] (spSet K) := by
  refine T.F_law_set.ok (k := 1) sc_law_set (fun vs H Q E h => ?_) (fun cdv A outer s H vs Q E hr h => ?_)
  · obtain ⟨l, _, rfl, _⟩ := h; rfl
  · obtain ⟨l, ns, rfl, hL, hlen, q⟩ := h
    have hu := hu_of hr
    refine ⟨_, (pss_cons (ps_set (i := 2) sc_law_set.nd rfl (by first | exact Or.inl rfl | exact Or.inr rfl) (pe_call (ok_law_cell_at T) (hr.mono (by decide)) (by rfl) T.m_law_cell_at T.F_law_cell_at.kp T.b_law_cell_at .nil pass0 (pa_cons (pv 0) (pa_cons (pv 1) pa_nil))))
  (pss_cons (ps_set (i := 3) sc_law_set.nd rfl (by first | exact Or.inl rfl | exact Or.inr rfl) (pe_ix ix_list (pe_lst (pa_cons pe_str (pa_cons pe_str (pa_cons pe_str (pa_cons pe_str (pa_cons pe_str pa_nil)))))) (pe_op op_mod (pe_op op_fdiv (pv 2) pe_int) pe_int) (fun _ _ => rfl)))
  (pss_cons (ps_set (i := 4) sc_law_set.nd rfl (by first | exact Or.inl rfl | exact Or.inr rfl) (pe_lst (pa_cons (pe_lst (pa_cons (pe_tup (pa_cons pe_int (pa_cons pe_int pa_nil))) pa_nil)) (pa_cons (pe_lst (pa_cons (pe_tup (pa_cons pe_int (pa_cons pe_int pa_nil))) pa_nil)) (pa_cons (pe_lst (pa_cons (pe_tup (pa_cons pe_int (pa_cons pe_int pa_nil))) (pa_cons (pe_tup (pa_cons pe_int (pa_cons pe_int pa_nil))) pa_nil))) (pa_cons (pe_lst (pa_cons (pe_tup (pa_cons pe_int (pa_cons pe_int pa_nil))) (pa_cons (pe_tup (pa_cons pe_int (pa_cons pe_int pa_nil))) pa_nil))) (pa_cons (pe_lst (pa_cons (pe_tup (pa_cons pe_int (pa_cons pe_int pa_nil))) (pa_cons (pe_tup (pa_cons pe_int (pa_cons pe_int pa_nil))) (pa_cons (pe_tup (pa_cons pe_int (pa_cons pe_int pa_nil))) pa_nil)))) (pa_cons (pe_lst (pa_cons (pe_tup (pa_cons pe_int (pa_cons pe_int pa_nil))) (pa_cons (pe_tup (pa_cons pe_int (pa_cons pe_int pa_nil))) pa_nil))) pa_nil))))))))
  (pss_cons (ps_set (i := 4) sc_law_set.nd rfl (by first | exact Or.inl rfl | exact Or.inr rfl) (pe_op op_cat (pv 4) (pe_lst (pa_cons (pe_lst (pa_cons (pe_tup (pa_cons pe_int (pa_cons pe_int pa_nil))) (pa_cons (pe_tup (pa_cons pe_int (pa_cons pe_int pa_nil))) pa_nil))) (pa_cons (pe_lst (pa_cons (pe_tup (pa_cons pe_int (pa_cons pe_int pa_nil))) (pa_cons (pe_tup (pa_cons pe_int (pa_cons pe_int pa_nil))) pa_nil))) (pa_cons (pe_lst (pa_cons (pe_tup (pa_cons pe_int (pa_cons pe_int pa_nil))) (pa_cons (pe_tup (pa_cons pe_int (pa_cons pe_int pa_nil))) (pa_cons (pe_tup (pa_cons pe_int (pa_cons pe_int pa_nil))) pa_nil)))) (pa_cons (pe_lst (pa_cons (pe_tup (pa_cons pe_int (pa_cons pe_int pa_nil))) (pa_cons (pe_tup (pa_cons pe_int (pa_cons pe_int pa_nil))) pa_nil))) (pa_cons (pe_lst (pa_cons (pe_tup (pa_cons pe_int (pa_cons pe_int pa_nil))) pa_nil)) pa_nil))))))))
  (pss_cons (ps_if (pt_cmpR op_eq (pe_op op_mod (pv 2) pe_int) pe_int (nomark _)) (pss_one (ps_ret (pe_callTy call_list_of (by rfl) T.z_list (by decide +kernel) (pa_cons (pe_ix ix_list (pv 4) (pe_op op_mod (pe_op op_fdiv (pv 2) pe_int) pe_int) (fun _ _ => rfl)) pa_nil)))) pss_nil)
  (pss_cons (ps_set (i := 5) sc_law_set.nd rfl (by first | exact Or.inl rfl | exact Or.inr rfl) (pe_lst pa_nil))
  (pss_cons (ps_for PassesOwn.never rfl (pi_range1 (by rfl) T.z_range (pa_cons (pe_op op_mod (pe_op op_fdiv (pv 2) pe_int) pe_int) pa_nil)) (pg_name (i := 6) sc_law_set.nd rfl (by first | exact Or.inl rfl | exact Or.inr rfl))
  (pss_cons (ps_set (i := 7) sc_law_set.nd rfl (by first | exact Or.inl rfl | exact Or.inr rfl) (pe_call (ok_law_gate T) (hr.mono (by decide)) (by rfl) T.m_law_gate T.F_law_gate.kp T.b_law_gate .nil pass0 (pa_cons (pe_call (ok_law_cell_at T) (hr.mono (by decide)) (by rfl) T.m_law_cell_at T.F_law_cell_at.kp T.b_law_cell_at .nil pass0 (pa_cons (pv 0) (pa_cons (pe_op op_add (pe_op op_add (pv 1) pe_int) (pv 6)) pa_nil))) pa_nil)))
  (pss_cons (ps_if (PW.pt (pw_and (pt_cmpR op_lt (pe_op op_mod (pv 2) pe_int) pe_int (nomark _)) (pw_and1 (pt_not (pt_val (pe_call (ok_law_keeps T) (hr.mono (by decide)) (by rfl) T.m_law_keeps T.F_law_keeps.kp T.b_law_keeps .nil pass0 (pa_cons (pv 7) (pa_cons (pv 3) pa_nil)))))))) (pss_one (ps_set (i := 7) sc_law_set.nd rfl (by first | exact Or.inl rfl | exact Or.inr rfl) (pe_dget hu (pe_disp (pps_cons pe_str (pe_tup (pa_cons pe_int (pa_cons pe_int pa_nil))) (pps_cons pe_str (pe_tup (pa_cons pe_int (pa_cons pe_int pa_nil))) (pps_cons pe_str (pe_tup (pa_cons pe_int (pa_cons pe_int pa_nil))) (pps_cons pe_str (pe_tup (pa_cons pe_int (pa_cons pe_int pa_nil))) (pps_cons pe_str (pe_tup (pa_cons pe_int (pa_cons pe_int pa_nil))) pps_nil))))) (by rfl) (by rfl) (fun z => by cases z) (by decide)) (pv 3) (fun _ _ => rfl)))) pss_nil)
  (pss_one (ps_expr (pe_bm PySem.F.plainAttrs_list PySem.F.slot_list_append PySem.F.type_list_append mt_append (pv 5) (pa_cons (pv 7) pa_nil)))))))
  (pss_one (ps_ret (pv 5)))))))))), ?_⟩
    refine ⟨_, rfl, _, rfl, l, ns, 0, rfl, hL, hlen, by decide, fun z => ?_⟩
    refine ⟨by show 5 ≤ sizeLine; decide, fun pn hpn => ?_⟩
    obtain ⟨x, hx, hat⟩ := atI_modV (five.map V.str) (z / 4) (by decide)
    obtain ⟨nm, hnm, rfl⟩ := List.mem_map.mp hx
    have s1 : Same H (upd H pn (.lst (five.map V.str))) := same_new hpn
    refine ⟨_, rfl, _, _, rfl, rfl, ⟨by decide, by decide⟩, _, _, rfl, rfl, (by decide : (0 : Int) < 5), pn, five.map V.str, _, _, rfl, rfl, SqL.of upd_same, hat, ?_⟩
    dsimp only
    rw [good1_eq, good2_eq]
    refine asg_seq ?_
    refine tLstGood_ok (K := K) good1 (by decide) (by decide) fun p1 r1 H1 s2 hp1 hl1 hg1 => ?_
    refine asg_seq ?_
    refine ⟨_, rfl, ?_⟩
    dsimp only
    refine tLstGood_ok (K := K) good2 (by decide) (by decide) fun p2 r2 H2 s3 hp2 hl2 hg2 => ?_
    refine ⟨p1, p2, _, _, rfl, rfl, s3 _ _ hl1, hl2, ?_, fun p hp => ?_⟩
    · rw [List.length_map, List.length_map, hg1.length, hg2.length]; decide
    have s4 : Same H2 (upd H2 p (.lst (r1.map V.ref ++ r2.map V.ref))) := same_new hp
    have hp4 : upd H2 p (.lst (r1.map V.ref ++ r2.map V.ref)) p = some (.lst ((r1 ++ r2).map V.ref)) := by rw [upd_same, List.map_append]
    have hg4 : Paired (GatesL K (upd H2 p (.lst (r1.map V.ref ++ r2.map V.ref)))) (r1 ++ r2) (good1 ++ good2) :=
      paired_app (L2.Paired.mapP hg1 fun _ _ z => (z.same s3).same s4) (L2.Paired.mapP hg2 fun _ _ z => z.same s4)
    have s04 := s1.trans (s2.trans (s3.trans s4))
    generalize upd H2 p (.lst (r1.map V.ref ++ r2.map V.ref)) = H3 at s4 hp4 hg4 s04
    refine ⟨_, rfl, _, _, rfl, rfl, (by decide : (0 : Int) < 4), rfl, _, rfl, ?_⟩
    refine ite2 (fun _ => ?_) (fun _ => ?_)
    · have h11 : ((r1 ++ r2).map V.ref).length = 11 := by rw [List.length_map, hg4.length]; rfl
      obtain ⟨x, hx, hat3⟩ := atI_modV ((r1 ++ r2).map V.ref) (z / 4) (by omega)
      rw [h11] at hat3
      obtain ⟨l0, hl0, rfl⟩ := List.mem_map.mp hx
      obtain ⟨gs, hgs, refs, hr1, hr2⟩ := paired_memL hg4 l0 hl0
      obtain ⟨k1, k2⟩ := good_ok gs hgs
      refine ⟨_, rfl, _, rfl, _, _, rfl, rfl, ⟨by decide, by decide⟩, _, _, rfl, rfl, (by decide : (0 : Int) < 11), p, _, _, _, rfl, rfl, SqL.of hp4, hat3, l0, _, rfl, .inl (SqL.of hr1), fun pl hpl => ?_⟩
      have s5 : Same H3 (upd H3 pl (.lst (refs.map V.ref))) := same_new hpl
      exact q _ pl gs (s04.trans s5) ⟨refs, upd_same, L2.Paired.mapP hr2 fun _ _ y => sameT s5 y⟩ k1 k2
    refine ⟨Nat.zero_le _, fun lf hlf => ?_⟩
    have hm0 : 0 ≤ z / 20 % 7 := Int.emod_nonneg _ (by decide)
    have hm7 : z / 20 % 7 < 7 := Int.emod_lt_of_pos _ (by decide)
    obtain ⟨m, hm⟩ : ∃ m : Nat, z / 20 % 7 = (m : Int) := ⟨(z / 20 % 7).toNat, by omega⟩
    dsimp only
    refine seq_joinS (M := fun σ' H' => ∃ gs v6 v7, σ' = [some (.ref l), some (nV 0), some (.int z), some (.str nm), some (.ref p), some (.ref lf), v6, v7] ∧ Same H H' ∧ GatesL K H' lf gs ∧ gs.length ≤ 6 ∧ ∀ c ∈ gs, Valid 4 c) (fun nx hk => ?_) ?_
    · have b := b62 (n := m) (by omega)
      refine ⟨_, rfl, _, _, rfl, rfl, ⟨by decide, by decide⟩, _, _, rfl, rfl, (by decide : (0 : Int) < 7), ?_⟩
      dsimp only
      rw [hm]
      refine ⟨_, rfl, b.1, b.2, for_n (n := m) (D := { nx := nx, rt := Q }) (fun k σ' H' => ∃ refs gs v6 v7, σ' = [some (.ref l), some (nV 0), some (.int z), some (.str nm), some (.ref p), some (.ref lf), v6, v7] ∧ Same H3 H' ∧ H' lf = some (.lst (refs.map V.ref)) ∧ Paired (GateAt K H') refs gs ∧ gs.length ≤ k ∧ ∀ c ∈ gs, Valid 4 c)
        ⟨[], [], none, none, rfl, same_new hlf, upd_same, .nil, Nat.le_refl _, fun c hc => by cases hc⟩ ?_ ?_⟩
      · rintro k σ' H' hk7 ⟨refs, gs, v6, v7, rfl, s5, hlf5, hgp, hgl, hgv⟩
        refine ⟨_, rfl, _, rfl, _, _, rfl, rfl, _, rfl, _, _, rfl, rfl, l, ns, 1 + k, ?_, (s04.trans s5).seq hL, hlen, by omega, fun z2 => ⟨z2, rfl, fun c H4 pg hv s6 hpg hpt => ?_⟩⟩
        · show [V.ref l, V.int (((0 : Nat) : Int) + 1 + (k : Int))] = [V.ref l, V.int ((1 + k : Nat) : Int)]
          rw [show ((0 : Nat) : Int) + 1 + (k : Int) = ((1 + k : Nat) : Int) from by omega]
        have s56 := s5.trans s6
        dsimp only
        refine seq_joinS (M := fun σ' H' => ∃ pg' c', σ' = [some (.ref l), some (nV 0), some (.int z), some (.str nm), some (.ref p), some (.ref lf), some (nV k), some (.ref pg')] ∧ Same H4 H' ∧ GateAt K H' pg' c' ∧ Valid 4 c') (fun nx2 hk2 => ?_) ?_
        · refine ⟨_, rfl, _, _, rfl, rfl, (by decide : (0 : Int) < 4), _, _, rfl, rfl, _, rfl, ?_⟩
          refine ite2 (fun _ => ?_) (fun _ => ?_)
          · refine ⟨_, rfl, _, rfl, pg, c, nm, rfl, SqT.of hpt, hv.1, fun b H5 s7 => ⟨b, rfl, ?_⟩⟩
            cases b with
            | true =>
              refine iteF ?_
              exact hk2 _ _ ⟨pg, c, rfl, s7, sameT s7 (SqT.of hpt), hv⟩
            | false =>
              refine iteT ?_
              intro d hd
              refine pair_step ?_
              refine tGate_ok (K := K) (2, 8) fun q1 Ha sa _ ga => ?_
              refine pair_step ?_
              refine tGate_ok (K := K) (2, 14) fun q2 Hb sb _ gb => ?_
              refine pair_step ?_
              refine tGate_ok (K := K) (1, 1) fun q3 Hc sc _ gc => ?_
              refine pair_step ?_
              refine tGate_ok (K := K) (2, 8) fun q4 Hd sd _ gd => ?_
              refine pair_step ?_
              refine tGate_ok (K := K) (2, 6) fun q5 He se _ ge => ?_
              have sde := sd.trans se
              have sce := sc.trans sde
              have sbe := sb.trans sce
              refine ⟨sbe _ _ (sa _ _ upd_same), [(.inr "low", .ref q1), (.inr "high", .ref q2), (.inr "turn", .ref q3), (.inr "rise", .ref q4), (.inr "even", .ref q5)], rfl, by show 5 ≤ 15; decide, ?_⟩
              obtain ⟨qx, cx, hqx, hmem⟩ := subs_at q1 q2 q3 q4 q5 nm hnm
              have s9 : Same H5 (upd He d (.dK (mergeK ([] : List (Key × V)) [(.inr "low", .ref q1), (.inr "high", .ref q2), (.inr "turn", .ref q3), (.inr "rise", .ref q4), (.inr "even", .ref q5)]))) := fun a o e => by
                rw [upd_ne (ne_of_none e hd)]
                exact sbe _ _ (sa _ _ (same_new hd a o e))
              have hd9 : upd He d (.dK (mergeK ([] : List (Key × V)) [(.inr "low", .ref q1), (.inr "high", .ref q2), (.inr "turn", .ref q3), (.inr "rise", .ref q4), (.inr "even", .ref q5)])) d = some (.dK (mergeK ([] : List (Key × V)) [(.inr "low", .ref q1), (.inr "high", .ref q2), (.inr "turn", .ref q3), (.inr "rise", .ref q4), (.inr "even", .ref q5)])) := upd_same
              have hdk : He d = some (.dK []) := sbe _ _ (sa _ _ upd_same)
              have nd := noTup_dK hdk
              have hgx : GateAt K (upd He d (.dK (mergeK ([] : List (Key × V)) [(.inr "low", .ref q1), (.inr "high", .ref q2), (.inr "turn", .ref q3), (.inr "rise", .ref q4), (.inr "even", .ref q5)]))) qx cx ∧ Valid 4 cx := by
                simp only [List.mem_cons, Prod.mk.injEq, List.not_mem_nil, or_false] at hmem
                rcases hmem with ⟨rfl, rfl⟩ | ⟨rfl, rfl⟩ | ⟨rfl, rfl⟩ | ⟨rfl, rfl⟩ | ⟨rfl, rfl⟩
                · exact ⟨updT nd (sameT sbe ga), by unfold Valid; decide⟩
                · exact ⟨updT nd (sameT sce gb), by unfold Valid; decide⟩
                · exact ⟨updT nd (sameT sde gc), by unfold Valid; decide⟩
                · exact ⟨updT nd (sameT se gd), by unfold Valid; decide⟩
                · exact ⟨updT nd ge, by unfold Valid; decide⟩
              have hdg := DGet.k (k := .inr nm) hd9
              rw [hqx] at hdg
              exact ⟨_, rfl, d, _, rfl, hdg, hk2 _ _ ⟨qx, cx, rfl, s7.trans s9, hgx.1, hgx.2⟩⟩
          · exact hk2 _ _ ⟨pg, c, rfl, Same.refl _, SqT.of hpt, hv⟩
        · rintro σ' H5 ⟨pg', c', rfl, s7, hG, hv'⟩
          have hlf6 := s7 _ _ (s6 _ _ hlf5)
          refine ⟨_, rfl, .inl ⟨rfl, _, SqL.of hlf6⟩, _, rfl, lf, _, _, rfl, rfl, hlf6, by rw [List.length_map, hgp.length]; exact small (by omega), ?_⟩
          have nl := noTup_lst hlf6
          refine ⟨refs ++ [pg'], gs ++ [c'], _, _, rfl, same_upd (s56.trans s7) hlf, by rw [upd_same, List.map_append]; rfl, Paired.snoc (L2.Paired.mapP hgp fun _ _ y => updT nl (sameT s7 (sameT s6 y))) (updT nl hG), by simp; omega, fun x hx => ?_⟩
          rcases List.mem_append.mp hx with hx | hx
          · exact hgv x hx
          · rw [List.mem_singleton] at hx; subst hx; exact hv'
      · rintro σ' H' ⟨refs, gs, v6, v7, rfl, s5, hlf5, hgp, hgl, hgv⟩
        exact hk _ _ ⟨gs, v6, v7, rfl, s04.trans s5, ⟨refs, hlf5, hgp⟩, by omega, hgv⟩
    · rintro σ' H' ⟨gs, v6, v7, rfl, s5, hG, hgl, hgv⟩
      exact ⟨_, rfl, q H' lf gs s5 hG hgl hgv⟩
end
end Gk

/-! the law's own tables -/
namespace Gk
/-- what a gate gives of tables -/
def putT (c : Gate) (ts : List Nat) (m : Nat) : Nat := numOf ((List.range (2 ^ m)).map fun r => gv c (ts.map (bt · r)))
theorem putT_bits (c : Gate) (ts : List Nat) (m : Nat) : ∀ x ∈ (List.range (2 ^ m)).map (fun r => gv c (ts.map (bt · r))), x ≤ 1 := fun x hx => by
  obtain ⟨r, _, rfl⟩ := List.mem_map.mp hx
  exact gv_le _ _
theorem putT_bt (c : Gate) (ts : List Nat) (m : Nat) {r : Nat} (h : r < 2 ^ m) : bt (putT c ts m) r = gv c (ts.map (bt · r)) := by
  unfold putT
  rw [numOf_bt _ (putT_bits c ts m), List.getD_eq_getElem?_getD, List.getElem?_map, List.getElem?_range h]
  rfl
theorem putT_lt (c : Gate) (ts : List Nat) (m : Nat) : putT c ts m < 2 ^ 2 ^ m := by
  have := numOf_lt _ (putT_bits c ts m)
  simpa [putT] using this
/-- a bit put on top -/
theorem or_top {a b i : Nat} (h : a < 2 ^ i) : a ||| b * 2 ^ i = a + b * 2 ^ i := by
  have := Nat.two_pow_add_eq_or_of_lt h b
  rw [Nat.or_comm, Nat.mul_comm b, ← this, Nat.add_comm]
theorem nodup_le : ∀ (n : Nat) (l : List Nat), l.Nodup → (∀ x ∈ l, x < n) → l.length ≤ n
  | 0, l, _, h => by
    cases l with
    | nil => exact Nat.le_refl _
    | cons a l => exact absurd (h a List.mem_cons_self) (Nat.not_lt_zero _)
  | n + 1, l, hn, h => by
    have ih := nodup_le n (l.erase n) (hn.erase n) fun x hx => by
      have h1 := (hn.mem_erase_iff).mp hx
      have h2 := h x h1.2
      have := h1.1
      omega
    by_cases hm : n ∈ l
    · rw [List.length_erase_of_mem hm] at ih; omega
    · rw [List.erase_of_not_mem hm] at ih; omega
/-- closed under the gates -/
def Clo (gs : List Gate) (S : Nat → Prop) : Prop := S 10 ∧ S 12 ∧ ∀ c ∈ gs, ∀ ts : List Nat, ts.length = c.1 → (∀ t ∈ ts, S t) → S (putT c ts 2)
def Made (gs : List Gate) (t : Nat) : Prop := ∀ S : Nat → Prop, Clo gs S → S t
theorem Made.put {gs : List Gate} {c : Gate} {ts : List Nat} (hc : c ∈ gs) (hl : ts.length = c.1) (h : ∀ t ∈ ts, Made gs t) : Made gs (putT c ts 2) := fun S hS => hS.2.2 c hc ts hl fun t ht => h t ht S hS
end Gk

namespace Gk
open PySem L2
section
variable {P : Program} {w : World} {K : PySem.W.Frag} {mg : Str → Option Value} {base : Heap} {C : Addr}
/-! light -/
def spLight (K : PySem.W.Frag) : Sp := fun vs H Q _ => ∃ (l : Addr) (gs : List Gate), vs = [.ref l] ∧ GatesL K H l gs ∧ gs.length ≤ 6 ∧ (∀ c ∈ gs, Valid 4 c) ∧
  ∀ (H' : Hp) (p : Addr) (gs' : List Gate), Same H H' → GatesL K H' p gs' → gs'.length ≤ 6 → (∀ c ∈ gs', Valid 3 c) → Q (.ref p) H'
theorem ok_law_light (T : Pg w K mg) : FnOk P w K mg base CX0 1 T.f_law_light T.d_law_light ["_law_gates"] (spLight K) := by
  refine T.F_law_light.ok sc_law_light (fun vs H Q E h => ?_) (fun cdv A outer s H vs Q E hr h => ?_)
  · obtain ⟨l, _, rfl, _⟩ := h; rfl
  · obtain ⟨l, gs, rfl, ⟨refs, hl, hp⟩, hlen, hv, q⟩ := h
    refine ⟨_, (pss_cons (ps_set (i := 1) sc_law_light.nd rfl (by first | exact Or.inl rfl | exact Or.inr rfl) (pe_lst pa_nil))
  (pss_cons (ps_for PassesOwn.never rfl (pi_list (pv 0)) (pg_name (i := 2) sc_law_light.nd rfl (by first | exact Or.inl rfl | exact Or.inr rfl))
  (pss_one (ps_if (PW.pt (pw_or (pt_cmpR op_lt (pe_ix ix_tup (pv 2) pe_int (fun _ _ => rfl)) pe_int (nomark _)) (pw_or1 (PW.pt (pw_and (pt_cmpR op_eq (pe_ix ix_tup (pv 2) pe_int (fun _ _ => rfl)) pe_int (nomark _)) (pw_and1 (pt_cmpR (op_eqD hr.units) (pe_lc (own := [("_law_one", 3)]) (g := gName 3) rfl sc_law_light.nd (pi_list (pv 1)) (blkOk_by (by rfl)) (fun _ _ _ _ _ => (pg_name (i := 3) sc_law_light.nd rfl (by first | exact Or.inl rfl | exact Or.inr rfl))) (fun _ _ _ _ _ => (pts_one (pt_cmpR op_eq (pe_ix (r := rIxT K) ix_tup (pv 3) pe_int (fun _ _ => rfl)) pe_int (nomark _)))) (fun _ _ _ _ _ => (pv 3))) (pe_lst pa_nil) (nomark _)))))))) (pss_one (ps_expr (pe_bm PySem.F.plainAttrs_list PySem.F.slot_list_append PySem.F.type_list_append mt_append (pv 1) (pa_cons (pv 2) pa_nil)))) pss_nil)))
  (pss_one (ps_ret (pv 1))))), ?_⟩
    have hpl := hp.length
    refine ⟨Nat.zero_le _, fun pf hpf => ?_⟩
    have s0 : Same H (upd H pf (.lst [])) := same_new hpf
    refine ⟨_, rfl, l, rfl, ⟨_, SqL.of (s0 _ _ hl)⟩, for_list (K := K) (a := l) (xs := refs.map V.ref) (fun i σ' H' => ∃ (rs : List Addr) (gs' : List Gate) (v2 v3 : Option V), σ' = [some (.ref l), some (.ref pf), v2, v3] ∧ Same H H' ∧ H' pf = some (.lst (rs.map V.ref)) ∧ Paired (GateAt K H') rs gs' ∧ gs'.length ≤ i ∧ ∀ c ∈ gs', Valid 3 c)
      ⟨[], [], none, none, rfl, s0, upd_same, .nil, Nat.le_refl _, fun c hc => by cases hc⟩ ?_ ?_ ?_⟩
    · rintro i σ' H' _ ⟨_, _, _, _, _, s1, _⟩
      exact SqL.of (s1 _ _ hl)
    · rintro i y σ' H' hy ⟨rs, gs', v2, v3, rfl, s1, hpf1, hgp, hgl, hgv⟩
      rw [List.getElem?_map] at hy
      obtain ⟨g, hg, rfl⟩ := Option.map_eq_some_iff.mp hy
      obtain ⟨c, hc, hG⟩ := paired_l hp hg
      have hcv := hv c (List.mem_of_getElem? hc)
      have hi : i < gs.length := (List.getElem?_eq_some_iff.mp hc).1
      have hG1 : GateAt K H' g c := sameT s1 hG
      have fin : ∀ (nx : L2.St → Hp → Prop) (H2 : Hp) (v3 : Option V), Same H' H2 → c.1 ≤ 3 → (∀ σ' H', (∃ (rs : List Addr) (gs' : List Gate) (v2 v3 : Option V), σ' = [some (.ref l), some (.ref pf), v2, v3] ∧ Same H H' ∧ H' pf = some (.lst (rs.map V.ref)) ∧ Paired (GateAt K H') rs gs' ∧ gs'.length ≤ i + 1 ∧ ∀ c ∈ gs', Valid 3 c) → nx σ' H') →
          H2 pf = some (.lst (rs.map V.ref)) ∧ (rs.map V.ref).length < sizeLine ∧ nx [some (.ref l), some (.ref pf), some (.ref g), v3] (upd H2 pf (.lst (rs.map V.ref ++ [.ref g]))) := fun nx H2 v3 s2 hc3 hk => by
        have hpf2 := s2 _ _ hpf1
        have nl := noTup_lst hpf2
        refine ⟨hpf2, by rw [List.length_map, hgp.length]; exact small (by omega), hk _ _ ⟨rs ++ [g], gs' ++ [c], _, v3, rfl, same_upd (s1.trans s2) hpf, by rw [upd_same, List.map_append]; rfl, Paired.snoc (L2.Paired.mapP hgp fun _ _ z => updT nl (sameT s2 z)) (updT nl (sameT s2 hG1)), by simp; omega, fun x hx => ?_⟩⟩
        rcases List.mem_append.mp hx with hx | hx
        · exact hgv x hx
        · rw [List.mem_singleton] at hx; subst hx; exact ⟨hc3, hcv.2⟩
      refine ⟨_, rfl, g, _, _, _, rfl, rfl, hG1, rfl, _, _, rfl, rfl, _, rfl, ?_⟩
      refine ite2 (fun h => ?_) (fun h => ?_)
      · have hc3 : c.1 < 3 := by
          have := of_decide_eq_true h
          omega
        refine iteT ?_
        obtain ⟨f1, f2, f3⟩ := fin _ H' v3 (Same.refl _) (by omega) (fun σ' H' z => z)
        exact ⟨_, rfl, .inl ⟨rfl, _, SqL.of hpf1⟩, _, rfl, pf, _, _, rfl, rfl, f1, f2, f3⟩
      · refine ⟨_, rfl, g, _, _, _, rfl, rfl, hG1, rfl, rfl, _, rfl, ?_⟩
        refine ite2 (fun h3 => ?_) (fun h3 => ?_)
        · have hc3 : c.1 = 3 := by
            have h3 := of_decide_eq_true h3
            injection h3 with h3
            omega
          refine ⟨_, rfl, pf, rfl, ⟨_, SqL.of hpf1⟩, fun D hD => lc_list (K := K) (a := pf) (xs := rs.map V.ref) (fun j H2 => ∃ (rs2 : List Addr) (gs2 : List Gate), Same H' H2 ∧ H2 D = some (.lst (rs2.map V.ref)) ∧ Paired (GateAt K H2) rs2 gs2 ∧ gs2.length ≤ j)
            ⟨[], [], same_new hD, upd_same, .nil, Nat.le_refl _⟩ ?_ ?_ ?_⟩
          · rintro j H2 _ ⟨_, _, s2, _⟩
            exact SqL.of (s2 _ _ hpf1)
          · rintro j x H2 hx ⟨rs2, gs2, s2, hD2, hgp2, hgl2⟩
            rw [List.getElem?_map] at hx
            obtain ⟨g2, hg2, rfl⟩ := Option.map_eq_some_iff.mp hx
            obtain ⟨c2, hc2, hG2⟩ := paired_l hgp hg2
            have hj : j < gs'.length := (List.getElem?_eq_some_iff.mp hc2).1
            refine ⟨rfl, ?_⟩
            refine ⟨_, rfl, g2, _, _, _, rfl, rfl, sameT s2 hG2, rfl, rfl, _, rfl, ?_⟩
            refine ite2 (fun _ => ?_) (fun _ => ?_)
            · have nl := noTup_lst hD2
              exact ⟨_, rfl, _, hD2, by rw [List.length_map, hgp2.length]; exact small (by omega), rs2 ++ [g2], gs2 ++ [c2], same_upd s2 hD, by rw [upd_same, List.map_append]; rfl, Paired.snoc (L2.Paired.mapP hgp2 fun _ _ z => updT nl z) (updT nl (sameT s2 hG2)), by simp; omega⟩
            · exact ⟨rs2, gs2, s2, hD2, hgp2, by omega⟩
          · rintro H2 ⟨rs2, gs2, s2, hD2, hgp2, hgl2⟩
            refine ⟨Nat.zero_le _, fun pe hpe => ?_⟩
            have s3 : Same H2 (upd H2 pe (.lst [])) := same_new hpe
            refine ⟨_, _, .lst (SqL.of (s3 _ _ hD2)) (dp_gates (L2.Paired.mapP hgp2 fun _ _ z => sameT s3 z)), .lst (SqL.of upd_same) .nil, gDs_shaped gs2, nil_shaped, _, rfl, ?_⟩
            refine ite2 (fun _ => ?_) (fun _ => ?_)
            · obtain ⟨f1, f2, f3⟩ := fin _ _ v3 (s2.trans s3) (by omega) (fun σ' H' z => z)
              exact ⟨_, rfl, .inl ⟨rfl, _, SqL.of f1⟩, _, rfl, pf, _, _, rfl, rfl, f1, f2, f3⟩
            · have s13 := s1.trans (s2.trans s3)
              exact ⟨rs, gs', _, v3, rfl, s13, (s2.trans s3) _ _ hpf1, L2.Paired.mapP hgp fun _ _ z => sameT (s2.trans s3) z, by omega, hgv⟩
        · refine iteF ?_
          exact ⟨rs, gs', _, v3, rfl, s1, hpf1, hgp, by omega, hgv⟩
    · rintro σ' H' ⟨rs, gs', v2, v3, rfl, s1, hpf1, hgp, hgl, hgv⟩
      rw [List.length_map, hpl] at hgl
      exact ⟨_, rfl, q H' pf gs' s1 ⟨rs, hpf1, hgp⟩ (by omega) hgv⟩
end
end Gk

namespace Gk
open PySem L2
/-- a tracked list of numbers -/
def LsAt (H : Hp) (r : Addr) (ls : List Nat) : Prop := H r = some (.lst (nL ls))
theorem LsAt.same {H H' : Hp} {r : Addr} {ls : List Nat} (s : Same H H') (h : LsAt H r ls) : LsAt H' r ls := s _ _ h
theorem ne_ints {H : Hp} {r p : Addr} {ls : List Nat} {refs : List Addr} (h1 : LsAt H r ls) (h2 : H p = some (.lst (refs.map V.ref))) (hne : ls ≠ []) : r ≠ p := fun e => by
  subst e
  rw [h1] at h2
  have e : nL ls = refs.map V.ref := by
    have := Option.some.inj h2
    injection this
  cases ls with
  | nil => exact hne rfl
  | cons x xs => cases refs with
    | nil => cases e
    | cons y ys => cases e
theorem paired_imp {α β : Type} {F G : α → β → Prop} : ∀ {l₁ : List α} {l₂ : List β}, Paired F l₁ l₂ → (∀ a b, b ∈ l₂ → F a b → G a b) → Paired G l₁ l₂
  | _, _, .nil, _ => .nil
  | _, _, .cons f t, h => .cons (h _ _ List.mem_cons_self f) (paired_imp t fun a b hb => h a b (List.mem_cons_of_mem _ hb))
section
variable {P : Program} {w : World} {K : PySem.W.Frag} {mg : Str → Option Value} {base : Heap} {C : Addr}
/-! lists -/
def spLists (K : PySem.W.Frag) : Sp := fun vs H Q _ => ∃ (lt : Addr) (th : List Nat) (n : Nat), vs = [.ref lt, nV n] ∧ SqL K H lt (nL th) ∧ th.length ≤ 16 ∧ n ≤ 3 ∧
  ∀ (H' : Hp) (p : Addr) (lrefs : List Addr) (lls : List (List Nat)), Same H H' → H' p = some (.lst (lrefs.map V.ref)) → Paired (LsAt H') lrefs lls → lls.length ≤ 4096 → (∀ ls ∈ lls, ls.length = n ∧ ∀ x ∈ ls, x ∈ th) → Q (.ref p) H'
theorem pow16' {a k : Nat} (h : a ≤ 16) (hk : k ≤ 3) : a ^ k ≤ 4096 :=
  Nat.le_trans (Nat.pow_le_pow_left h k) (Nat.le_trans (Nat.pow_le_pow_right (by decide) hk) (by decide))
theorem ok_law_lists (T : Pg w K mg) : FnOk P w K mg base CX0 1 T.f_law_lists T.d_law_lists ["_law_things", "_law_size"] (spLists K) := by
  refine T.F_law_lists.ok sc_law_lists (fun vs H Q E h => ?_) (fun cdv A outer s H vs Q E hr h => ?_)
  · obtain ⟨lt, _, n, rfl, _⟩ := h; rfl
  · obtain ⟨lt, th, n, rfl, hT, hth, hn, q⟩ := h
    refine ⟨_, (pss_cons (ps_set (i := 2) sc_law_lists.nd rfl (by first | exact Or.inl rfl | exact Or.inr rfl) (pe_lst (pa_cons (pe_lst pa_nil) pa_nil)))
  (pss_cons (ps_for PassesOwn.never rfl (pi_range1 (by rfl) T.z_range (pa_cons (pv 1) pa_nil)) (pg_name (i := 3) sc_law_lists.nd rfl (by first | exact Or.inl rfl | exact Or.inr rfl))
  (pss_cons (ps_set (i := 4) sc_law_lists.nd rfl (by first | exact Or.inl rfl | exact Or.inr rfl) (pe_lst pa_nil))
  (pss_cons (ps_for PassesOwn.never rfl (pi_list (pv 2)) (pg_name (i := 5) sc_law_lists.nd rfl (by first | exact Or.inl rfl | exact Or.inr rfl))
  (pss_one (ps_expr (pe_bm PySem.F.plainAttrs_list PySem.F.slot_list_extend PySem.F.type_list_extend mt_extend (pv 4) (pa_cons (pe_lc (own := [("_law_one", 6)]) (g := gName 6) (tt := tYes) rfl sc_law_lists.nd (pi_list (pv 0)) (blkOk_by (by rfl)) (fun _ _ _ _ _ => (pg_name (i := 6) sc_law_lists.nd rfl (by first | exact Or.inl rfl | exact Or.inr rfl))) (fun _ _ _ _ _ => pts_nil) (fun _ _ _ _ _ => (pe_op op_cat (pv 5) (pe_lst (pa_cons (pv 6) pa_nil))))) pa_nil)))))
  (pss_one (ps_set (i := 2) sc_law_lists.nd rfl (by first | exact Or.inl rfl | exact Or.inr rfl) (pv 4))))))
  (pss_one (ps_ret (pv 2))))), ?_⟩
    have b := b62 (n := n) (by omega)
    refine ⟨Nat.zero_le _, fun p0 hp0 => ⟨by show 1 ≤ sizeLine; decide, fun pf hpf => ?_⟩⟩
    have s0 : Same H (upd (upd H p0 (.lst [])) pf (.lst [.ref p0])) := same_upd (same_new hp0) (none_ne hpf).2
    refine ⟨_, rfl, _, rfl, b.1, b.2, for_n (n := n) (fun k σ' H' => ∃ (pf : Addr) (lrefs : List Addr) (lls : List (List Nat)) (v3 v4 v5 v6 : Option V), σ' = [some (.ref lt), some (nV n), some (.ref pf), v3, v4, v5, v6] ∧ Same H H' ∧ H' pf = some (.lst (lrefs.map V.ref)) ∧ Paired (LsAt H') lrefs lls ∧ lls.length = th.length ^ k ∧ ∀ ls ∈ lls, ls.length = k ∧ ∀ x ∈ ls, x ∈ th)
      ⟨pf, [p0], [[]], none, none, none, none, rfl, s0, upd_same, .cons (by show (upd _ _ _) _ = _; rw [upd_ne (none_ne hpf).1.symm]; exact upd_same) .nil, rfl, fun ls hls => by rw [List.mem_singleton] at hls; subst hls; exact ⟨rfl, fun x hx => by cases hx⟩⟩ ?_ ?_⟩
    · rintro k σ' H1 hk ⟨pf, lrefs, lls, v3, v4, v5, v6, rfl, s1, hpf1, hlp, hll, hlv⟩
      have hlpl := hlp.length
      have hpw := pow16' hth (show k ≤ 3 by omega)
      have hpw1 := pow16' hth (show k + 1 ≤ 3 by omega)
      rw [Nat.pow_succ] at hpw1
      refine ⟨Nat.zero_le _, fun pw hpw0 => ?_⟩
      have s2 : Same H1 (upd H1 pw (.lst [])) := same_new hpw0
      dsimp only
      refine seq_joinS (M := fun σ' H' => ∃ (wrefs : List Addr) (wls : List (List Nat)) (v5 v6 : Option V), σ' = [some (.ref lt), some (nV n), some (.ref pf), some (nV k), some (.ref pw), v5, v6] ∧ Same H1 H' ∧ H' pw = some (.lst (wrefs.map V.ref)) ∧ Paired (LsAt H') wrefs wls ∧ wls.length = lls.length * th.length ∧ ∀ ls ∈ wls, ls.length = k + 1 ∧ ∀ x ∈ ls, x ∈ th) (fun nx hk => ?_) ?_
      · refine ⟨_, rfl, pf, rfl, ⟨_, SqL.of (s2 _ _ hpf1)⟩, for_list (K := K) (a := pf) (xs := lrefs.map V.ref) (D := { nx := nx, rt := Q }) (fun j σ' H' => ∃ (wrefs : List Addr) (wls : List (List Nat)) (v5 v6 : Option V), σ' = [some (.ref lt), some (nV n), some (.ref pf), some (nV k), some (.ref pw), v5, v6] ∧ Same H1 H' ∧ H' pw = some (.lst (wrefs.map V.ref)) ∧ Paired (LsAt H') wrefs wls ∧ wls.length = j * th.length ∧ ∀ ls ∈ wls, ls.length = k + 1 ∧ ∀ x ∈ ls, x ∈ th)
          ⟨[], [], v5, v6, rfl, s2, upd_same, .nil, by simp, fun ls hls => by cases hls⟩ ?_ ?_ ?_⟩
        · rintro j σ' H' _ ⟨_, _, _, _, _, s3, _⟩
          exact SqL.of (s3 _ _ hpf1)
        · rintro j y σ' H2 hy ⟨wrefs, wls, v5, v6, rfl, s3, hpw2, hwp, hwl, hwv⟩
          rw [List.getElem?_map] at hy
          obtain ⟨r, hr1, rfl⟩ := Option.map_eq_some_iff.mp hy
          obtain ⟨ls, hls, hat⟩ := paired_l hlp hr1
          have hj : j < lls.length := (List.getElem?_eq_some_iff.mp hls).1
          obtain ⟨hlk, hlx⟩ := hlv ls (List.mem_of_getElem? hls)
          have hat2 := hat.same s3
          have hT2 := (s1.trans s3).seq hT
          have hjm : j * th.length + th.length ≤ 4096 := by
            have h1 : (j + 1) * th.length ≤ lls.length * th.length := Nat.mul_le_mul_right _ hj
            rw [hll] at h1
            rw [Nat.succ_mul] at h1
            omega
          refine ⟨_, rfl, .inl ⟨rfl, _, SqL.of hpw2⟩, _, rfl, lt, rfl, ⟨_, hT2⟩, fun D hD => lc_list (K := K) (a := lt) (xs := nL th) (fun i H' => ∃ drefs : List Addr, Same H2 H' ∧ H' D = some (.lst (drefs.map V.ref)) ∧ Paired (LsAt H') drefs ((th.take i).map fun x => ls ++ [x]))
            ⟨[], same_new hD, upd_same, .nil⟩ (fun i H' _ h => by obtain ⟨_, s4, _⟩ := h; exact s4.seq hT2) ?_ ?_⟩
          · rintro i x H3 hx ⟨drefs, s4, hD3, hdp⟩
            obtain ⟨hi', _⟩ := List.getElem?_eq_some_iff.mp hx
            obtain ⟨z, hz, zm, hz2, hi2⟩ := nL_lt hi'
            rw [hz2] at hx; cases hx
            have hdl : drefs.length = i := by rw [hdp.length, List.length_map, List.length_take]; omega
            refine ⟨rfl, yes_ ?_⟩
            refine ⟨_, rfl, _, rfl, by show 1 ≤ sizeLine; decide, fun q1 hq1 => ?_⟩
            have s5 : Same H3 (upd H3 q1 (.lst [nV z])) := same_new hq1
            refine ⟨r, q1, _, _, rfl, rfl, s5 _ _ (s4 _ _ hat2), upd_same, by rw [nL_len, hlk]; exact small' (by show k + 1 ≤ 100000; omega), fun q2 hq2 => ?_⟩
            have s6 := same_upd (o := .lst (nL ls ++ [nV z])) s5 (none_ne hq2).2
            have hq2a : LsAt (upd (upd H3 q1 (.lst [nV z])) q2 (.lst (nL ls ++ [nV z]))) q2 (ls ++ [z]) := by show upd _ _ _ _ = _; rw [upd_same, nL_snoc]
            generalize upd (upd H3 q1 (.lst [nV z])) q2 (.lst (nL ls ++ [nV z])) = H4 at s6 hq2a
            have hD4 := s6 _ _ hD3
            refine ⟨_, hD4, by rw [List.length_map, hdl]; exact small (by omega), drefs ++ [q2], same_upd (s4.trans s6) hD, by rw [upd_same, List.map_append]; rfl, ?_⟩
            have up : ∀ {a : Addr} {l : List Nat}, l ≠ [] → LsAt H4 a l → LsAt (upd H4 D (.lst (drefs.map V.ref ++ [.ref q2]))) a l := fun hne h => by
              show upd _ _ _ _ = _
              rw [upd_ne (ne_ints h hD4 hne)]; exact h
            rw [List.take_add_one, hz, List.map_append]
            refine Paired.snoc ?_ (up (by simp) hq2a)
            refine paired_imp (L2.Paired.mapP hdp fun _ _ y => y.same s6) fun a l hl y => up ?_ y
            obtain ⟨u, _, rfl⟩ := List.mem_map.mp hl
            simp
          · rintro H3 ⟨drefs, s4, hD3, hdp⟩
            rw [nL_len, List.take_length] at hdp
            have hpw3 := s4 _ _ hpw2
            have hdl : drefs.length = th.length := by rw [hdp.length, List.length_map]
            have hwl2 : wrefs.length = j * th.length := by rw [hwp.length, hwl]
            refine ⟨pw, D, _, _, rfl, rfl, hpw3, hD3, by rw [List.length_map, List.length_map, hdl, hwl2]; exact small' (by omega), ?_⟩
            have up : ∀ {a : Addr} {l : List Nat}, l ≠ [] → LsAt H3 a l → LsAt (upd H3 pw (.lst (wrefs.map V.ref ++ drefs.map V.ref))) a l := fun hne h => by
              show upd _ _ _ _ = _
              rw [upd_ne (ne_ints h hpw3 hne)]; exact h
            refine ⟨wrefs ++ drefs, wls ++ th.map fun x => ls ++ [x], _, v6, rfl, same_upd (s3.trans s4) hpw0, by rw [upd_same, List.map_append], paired_app ?_ ?_, by rw [List.length_append, List.length_map, hwl, Nat.succ_mul], fun l hl => ?_⟩
            · refine paired_imp (L2.Paired.mapP hwp fun _ _ y => y.same s4) fun a l hl y => up ?_ y
              intro e
              have := (hwv l hl).1
              rw [e] at this; cases this
            · refine paired_imp hdp fun a l hl y => up ?_ y
              obtain ⟨u, _, rfl⟩ := List.mem_map.mp hl
              simp
            · rcases List.mem_append.mp hl with hl | hl
              · exact hwv l hl
              · obtain ⟨u, hu, rfl⟩ := List.mem_map.mp hl
                refine ⟨by rw [List.length_append, hlk]; rfl, fun x hx => ?_⟩
                rcases List.mem_append.mp hx with hx | hx
                · exact hlx x hx
                · rw [List.mem_singleton] at hx; subst hx; exact hu
        · rintro σ' H2 ⟨wrefs, wls, v5, v6, rfl, s3, hpw2, hwp, hwl, hwv⟩
          rw [List.length_map, hlpl] at hwl
          exact hk _ _ ⟨wrefs, wls, v5, v6, rfl, s3, hpw2, hwp, hwl, hwv⟩
      · rintro σ' H2 ⟨wrefs, wls, v5, v6, rfl, s3, hpw2, hwp, hwl, hwv⟩
        exact ⟨_, rfl, pw, wrefs, wls, _, _, _, _, rfl, s1.trans s3, hpw2, hwp, by rw [hwl, hll, Nat.pow_succ], hwv⟩
    · rintro σ' H1 ⟨pf, lrefs, lls, v3, v4, v5, v6, rfl, s1, hpf1, hlp, hll, hlv⟩
      exact ⟨_, rfl, q H1 pf lrefs lls s1 hpf1 hlp (by rw [hll]; exact pow16' hth hn) hlv⟩
end
end Gk

namespace Gk
open PySem L2
section
variable {P : Program} {w : World} {K : PySem.W.Frag} {mg : Str → Option Value} {base : Heap} {C : Addr}
/-! put -/
def spPut (K : PySem.W.Frag) : Sp := fun vs H Q _ => ∃ (g l : Addr) (c : Gate) (ts : List Nat), vs = [.ref g, .ref l, nV 2] ∧ GateAt K H g c ∧ SqL K H l (nL ts) ∧ ts.length ≤ 4 ∧ ∀ H', Same H H' → Q (nV (putT c ts 2)) H'
theorem ok_law_put (T : Pg w K mg) : FnOk P w K mg base CX0 1 T.f_law_put T.d_law_put ["_law_gate_here", "_law_some", "_law_inputs"] (spPut K) := by
  refine T.F_law_put.ok sc_law_put (fun vs H Q E h => ?_) (fun cdv A outer s H vs Q E hr h => ?_)
  · obtain ⟨g, l, _, _, rfl, _⟩ := h; rfl
  · obtain ⟨g, l, c, ts, rfl, hG, hL, hl4, q⟩ := h
    refine ⟨_, (pss_cons (ps_set (i := 3) sc_law_put.nd rfl (by first | exact Or.inl rfl | exact Or.inr rfl) pe_int)
  (pss_cons (ps_for PassesOwn.never rfl (pi_range1 (by rfl) T.z_range (pa_cons (pe_op op_shl pe_int (pv 2)) pa_nil)) (pg_name (i := 4) sc_law_put.nd rfl (by first | exact Or.inl rfl | exact Or.inr rfl))
  (pss_cons (ps_set (i := 5) sc_law_put.nd rfl (by first | exact Or.inl rfl | exact Or.inr rfl) (pe_callB (cr_sum rfl) (by rfl) T.z_sum (by decide +kernel) (pa_cons (pe_lc (own := [("_law_k", 6), ("_law_one", 7)]) (g := gTup K 2 (gCons (gName 6) (gCons (gName 7) gNil))) (tt := tYes) rfl sc_law_put.nd (pi_enum (by rfl) T.z_enumerate (pa_cons (pv 1) pa_nil)) (blkOk_by (by rfl)) (fun _ _ _ _ _ => (pg_tup (by rfl) (pgs_cons (pg_name (i := 6) sc_law_put.nd rfl (by first | exact Or.inl rfl | exact Or.inr rfl)) (pgs_cons (pg_name (i := 7) sc_law_put.nd rfl (by first | exact Or.inl rfl | exact Or.inr rfl)) pgs_nil)))) (fun _ _ _ _ _ => pts_nil) (fun _ _ _ _ _ => (pe_op op_shl (pe_op op_and (pe_op op_shr (pv 7) (pv 4)) pe_int) (pv 6)))) pa_nil)))
  (pss_one (ps_set (i := 3) sc_law_put.nd rfl (by first | exact Or.inl rfl | exact Or.inr rfl) (pe_op op_or (pv 3) (pe_op op_shl (pe_op op_and (pe_op op_shr (pe_ix ix_tup (pv 0) pe_int (fun _ _ => rfl)) (pv 5)) pe_int) (pv 4)))))))
  (pss_one (ps_ret (pv 3))))), ?_⟩
    have b := b62 (n := 2 ^ 2) (by decide)
    refine ⟨_, rfl, _, _, rfl, rfl, cpow (x := 1) (by decide) (by decide), ?_⟩
    dsimp only
    rw [c_one]
    generalize hbs : (List.range (2 ^ 2)).map (fun r => gv c (ts.map (bt · r))) = bits
    have hbl : bits.length = 4 := by rw [← hbs]; rfl
    have hb1 : ∀ x ∈ bits, x ≤ 1 := by rw [← hbs]; exact putT_bits c ts 2
    refine ⟨_, rfl, b.1, b.2, for_n (n := 2 ^ 2) (D := { nx := tRet (tVar 3) { nx := fun _ H' => Q .non H', rt := Q }, rt := Q }) (fun i σ' H' => ∃ v4 v5 v6 v7, σ' = [some (.ref g), some (.ref l), some (nV 2), some (nV (numOf (bits.take i))), v4, v5, v6, v7] ∧ Same H H') ⟨none, none, none, none, rfl, Same.refl _⟩ ?_ ?_⟩
    · rintro i σ' H1 hi ⟨v4, v5, v6, v7, rfl, s1⟩
      have hi4 : i < 4 := hi
      have hL1 := s1.seq hL
      refine ⟨_, rfl, l, _, rfl, hL1, fun D hD => pure_enum (f := fun k x => bt x i * 2 ^ k) walk_enum (fun H h => h.seq hL1) hD (by omega) (fun k x H4 Tp R N hx s4 hT4 hR => ?_) (fun H4 s4 hD4 => ?_)⟩
      · refine ⟨Tp, _, rfl, SqT.of hT4, rfl, _, _, rfl, _, _, rfl, rfl, rfl, yes_ ?_⟩
        have hk := (List.getElem?_eq_some_iff.mp hx).1
        refine ⟨_, rfl, _, rfl, _, _, rfl, rfl, Int.natCast_nonneg i, _, _, rfl, rfl, _, rfl, _, _, rfl, rfl, ?_, ?_⟩
        · rw [c_bit]; exact cpow (by have := bt_le x i; omega) (by omega)
        · dsimp only
          rw [c_bit, c_shl]
          exact hR
      rw [nL_ints] at hD4
      refine ⟨D, _, rfl, SqL.of hD4, ?_⟩
      rw [sum_ints]
      have en : ((List.range ts.length).map fun k => bt (ts.getD k 0) i * 2 ^ k).sum = numOf (ts.map (bt · i)) := by
        have := sum_enum (ts.map (bt · i)) (fun k => bt (ts.getD k 0) i * 2 ^ k) fun k hk => by
          rw [List.length_map] at hk
          rw [List.getD_eq_getElem?_getD, List.getD_eq_getElem?_getD, List.getElem?_map, List.getElem?_eq_getElem hk]; rfl
        rw [List.length_map] at this
        exact this
      rw [en]
      have hbi : bits[i]? = some (gv c (ts.map (bt · i))) := by
        rw [← hbs, List.getElem?_map, List.getElem?_range hi]; rfl
      refine ⟨_, rfl, _, rfl, g, _, _, _, rfl, rfl, sameT (s1.trans s4) hG, rfl, _, rfl, _, _, rfl, rfl, Int.natCast_nonneg _, _, _, rfl, rfl, _, rfl, _, _, rfl, rfl, ?_, _, _, rfl, rfl, ?_⟩
      · rw [c_bit]; exact cpow (by have := bt_le c.2 (numOf (ts.map (bt · i))); omega) (by omega)
      dsimp only
      rw [c_bit, c_shl]
      have htk : numOf (bits.take i) < 2 ^ i := by
        have := numOf_lt (bits.take i) fun x hx => hb1 x (List.mem_of_mem_take hx)
        rw [List.length_take, Nat.min_eq_left (by omega)] at this
        exact this
      have h2i : 2 ^ i ≤ 8 := Nat.le_trans (Nat.pow_le_pow_right (by decide) (by omega : i ≤ 3)) (by decide)
      have hgv := gv_le c (ts.map (bt · i))
      have e1 := numOf_take hbi
      have hmm : gv c (ts.map (bt · i)) * 2 ^ i ≤ 8 := by
        have := Nat.mul_le_mul_right (2 ^ i) hgv
        omega
      refine ⟨some (nV i), some (nV (numOf (ts.map (bt · i)))), v6, v7, ?_, s1.trans s4⟩
      rw [c_or16 _ (by omega) _ (show bt c.2 (numOf (ts.map (bt · i))) * 2 ^ i < 16 from Nat.lt_of_le_of_lt hmm (by decide)), or_top htk, e1]
      rfl
    · rintro σ' H1 ⟨v4, v5, v6, v7, rfl, s1⟩
      refine ⟨_, rfl, ?_⟩
      have e : numOf (bits.take (2 ^ 2)) = putT c ts 2 := by
        rw [show (2 ^ 2 : Nat) = bits.length from hbl.symm, List.take_length, ← hbs]; rfl
      rw [e]
      exact q H1 s1
end
end Gk

namespace Gk
open PySem L2
/-- the tables found -/
def TabOk (gs : List Gate) (kvs : List (Key × V)) : Prop := ∃ tl : List Nat, kvs.map (·.1) = tl.map (fun n : Nat => (Sum.inl (n : Int) : Key)) ∧ tl.Nodup ∧ ∀ t ∈ tl, t < 16 ∧ Made gs t
theorem TabOk.nil (gs : List Gate) : TabOk gs [] := ⟨[], rfl, List.nodup_nil, fun t ht => by cases ht⟩
theorem TabOk.len {gs : List Gate} {kvs : List (Key × V)} (h : TabOk gs kvs) : kvs.length ≤ 16 := by
  obtain ⟨tl, h1, h2, h3⟩ := h
  have := congrArg List.length h1
  rw [List.length_map, List.length_map] at this
  rw [this]
  exact nodup_le 16 tl h2 fun t ht => (h3 t ht).1
theorem keys_has {kvs : List (Key × V)} {tl : List Nat} (h : kvs.map (·.1) = tl.map (fun n : Nat => (Sum.inl (n : Int) : Key))) {t : Nat} {kv : Key × V} (hm : kv ∈ kvs) (e : kv.1 = Sum.inl (t : Int)) : t ∈ tl := by
  have : kv.1 ∈ kvs.map (·.1) := List.mem_map_of_mem hm
  rw [h, e] at this
  obtain ⟨n, hn, e2⟩ := List.mem_map.mp this
  injection e2 with e2
  have : n = t := by omega
  rw [← this]; exact hn
theorem TabOk.put {gs : List Gate} {kvs : List (Key × V)} (h : TabOk gs kvs) {t : Nat} (ht : t < 16) (hm : Made gs t) (v : V) : TabOk gs (putK kvs (.inl (t : Int)) v) ∧ kvs.length ≤ (putK kvs (.inl (t : Int)) v).length := by
  obtain ⟨tl, h1, h2, h3⟩ := h
  unfold putK
  by_cases a : (kvs.any fun kv => decide (kv.1 = (Sum.inl (t : Int) : Key))) = true
  · rw [if_pos a]
    refine ⟨⟨tl, ?_, h2, h3⟩, by rw [List.length_map]; exact Nat.le_refl _⟩
    rw [List.map_map, ← h1]
    refine List.map_congr_left fun kv _ => ?_
    by_cases e : kv.1 = (Sum.inl (t : Int) : Key)
    · simp [e]
    · simp [e]
  · rw [if_neg a]
    have hn : t ∉ tl := fun hmem => a (by
      have : (Sum.inl (t : Int) : Key) ∈ kvs.map (·.1) := by rw [h1]; exact List.mem_map.mpr ⟨t, hmem, rfl⟩
      obtain ⟨kv, hk, e⟩ := List.mem_map.mp this
      exact List.any_eq_true.mpr ⟨kv, hk, decide_eq_true e⟩)
    refine ⟨⟨tl ++ [t], by rw [List.map_append, List.map_append, h1]; rfl, ?_, fun x hx => ?_⟩, by rw [List.length_append]; omega⟩
    · refine List.nodup_append.mpr ⟨h2, by simp, fun x hx y hy e => ?_⟩
      rw [List.mem_singleton] at hy
      subst hy; subst e; exact hn hx
    · rcases List.mem_append.mp hx with hx | hx
      · exact h3 x hx
      · rw [List.mem_singleton] at hx; subst hx; exact ⟨ht, hm⟩
theorem TabOk.made {gs : List Gate} {kvs : List (Key × V)} (h : TabOk gs kvs) {t : Nat} (ht : (valV kvs (.inl (t : Int))).isSome = true) : Made gs t := by
  obtain ⟨tl, h1, h2, h3⟩ := h
  unfold valV at ht
  rw [Option.isSome_map] at ht
  cases e : kvs.find? (fun kv => decide (kv.1 = (Sum.inl (t : Int) : Key))) with
  | none => rw [e] at ht; cases ht
  | some kv =>
    have hm := List.mem_of_find?_eq_some e
    have he := List.find?_some e
    exact (h3 t (keys_has h1 hm (of_decide_eq_true he))).2
section
variable {P : Program} {w : World} {K : PySem.W.Frag} {mg : Str → Option Value} {base : Heap} {C : Addr}
def spMade (K : PySem.W.Frag) : Sp := fun vs H Q _ => ∃ (lg : Addr) (gs : List Gate), vs = [.ref lg, nV 2] ∧ GatesL K H lg gs ∧ gs.length ≤ 6 ∧ (∀ c ∈ gs, Valid 3 c) ∧
  ∀ (H' : Hp) (p : Addr) (kvs : List (Key × V)), Same H H' → H' p = some (.dK kvs) → TabOk gs kvs → Q (.ref p) H'
theorem ok_law_made (T : Pg w K mg) : FnOk P w K mg base CX0 2 T.f_law_made T.d_law_made ["_law_gates", "_law_inputs"] (spMade K) := by
  refine T.F_law_made.ok (k := 1) sc_law_made (fun vs H Q E h => ?_) (fun cdv A outer s H vs Q E hr h => ?_)
  · obtain ⟨lg, _, rfl, _⟩ := h; rfl
  · obtain ⟨lg, gs, rfl, ⟨refs, hl, hp⟩, hlen, hv, q⟩ := h
    have hu := hu_of hr
    refine ⟨_, (pss_cons (ps_set (i := 2) sc_law_made.nd rfl (by first | exact Or.inl rfl | exact Or.inr rfl) (pe_listRg rfl (by rfl) T.z_list (prg_1 (by rfl) T.z_range (pe_op op_shl pe_int (pv 1)))))
  (pss_cons (ps_set (i := 3) sc_law_made.nd rfl (by first | exact Or.inl rfl | exact Or.inr rfl) pe_dnewK)
  (pss_cons (ps_for PassesOwn.never rfl (pi_range1 (by rfl) T.z_range (pa_cons (pv 1) pa_nil)) (pg_name (i := 4) sc_law_made.nd rfl (by first | exact Or.inl rfl | exact Or.inr rfl))
  (pss_one (ps_dput hu (pv 3) (pe_callB (cr_sum rfl) (by rfl) T.z_sum (by decide +kernel) (pa_cons (pe_lc (own := [("_law_row", 8)]) (g := gName 8) (tt := tYes) rfl sc_law_made.nd (pi_list (pv 2)) (blkOk_by (by rfl)) (fun _ _ _ _ _ => (pg_name (i := 8) sc_law_made.nd rfl (by first | exact Or.inl rfl | exact Or.inr rfl))) (fun _ _ _ _ _ => pts_nil) (fun _ _ _ _ _ => (pe_op op_shl (pe_op op_and (pe_op op_shr (pv 8) (pv 4)) pe_int) (pv 8)))) pa_nil)) pe_bl rfl)))
  (pss_cons (ps_set (i := 5) sc_law_made.nd rfl (by first | exact Or.inl rfl | exact Or.inr rfl) (pe_un un_neg pe_int))
  (pss_cons (ps_while PassesOwn.never (pt_cmpR op_ne (pv 5) (pe_callB call_lenD (by rfl) T.z_len PySem.boot_len (pa_cons (pv 3) pa_nil)) (nomark _)) (pss_cons (ps_set (i := 5) sc_law_made.nd rfl (by first | exact Or.inl rfl | exact Or.inr rfl) (pe_callB call_lenD (by rfl) T.z_len PySem.boot_len (pa_cons (pv 3) pa_nil)))
  (pss_one (ps_for PassesOwn.never rfl (pi_list (pv 0)) (pg_name (i := 6) sc_law_made.nd rfl (by first | exact Or.inl rfl | exact Or.inr rfl))
  (pss_one (ps_for PassesOwn.never rfl (pi_list (pe_call (ok_law_lists T) (hr.mono (by decide)) (by rfl) T.m_law_lists T.F_law_lists.kp T.b_law_lists .nil pass0 (pa_cons (pe_callB (call_sortedDI rfl) (by rfl) T.z_sorted (by decide +kernel) (pa_cons (pv 3) pa_nil)) (pa_cons (pe_ix ix_tup (pv 6) pe_int (fun _ _ => rfl)) pa_nil)))) (pg_name (i := 7) sc_law_made.nd rfl (by first | exact Or.inl rfl | exact Or.inr rfl))
  (pss_one (ps_dput hu (pv 3) (pe_call (ok_law_put T) (hr.mono (by decide)) (by rfl) T.m_law_put T.F_law_put.kp T.b_law_put .nil pass0 (pa_cons (pv 6) (pa_cons (pv 7) (pa_cons (pv 1) pa_nil)))) pe_bl rfl))))))))
  (pss_one (ps_ret (pv 3)))))))), ?_⟩
    have hpl := hp.length
    have b4 := b62 (n := 2 ^ 2) (by decide)
    have b2 := b62 (n := 2) (by decide)
    refine ⟨_, rfl, _, _, rfl, rfl, cpow (x := 1) (by decide) (by decide), ?_⟩
    dsimp only
    rw [c_one]
    refine ⟨_, rfl, RgOk.of_le (by decide) (by decide) (by decide) (by decide), fun lr hlr => ?_⟩
    rw [rgV_nL]
    intro pd hpd
    obtain ⟨ndr, hpd0⟩ := none_ne hpd
    have s0 : Same H (upd (upd H lr (.lst (nL (List.range (2 ^ 2))))) pd (.dK [])) := same_upd (same_new hlr) hpd0
    have hlr0 : upd (upd H lr (.lst (nL (List.range (2 ^ 2))))) pd (.dK []) lr = some (.lst (nL (List.range (2 ^ 2)))) := by rw [upd_ne ndr.symm, upd_same]
    have hpd1 : upd (upd H lr (.lst (nL (List.range (2 ^ 2))))) pd (.dK []) pd = some (.dK []) := upd_same
    dsimp only
    refine seq_joinS (M := fun σ' H' => ∃ (kvs : List (Key × V)) (v4 : Option V), σ' = [some (.ref lg), some (nV 2), some (.ref lr), some (.ref pd), v4, none, none, none, none] ∧ Same H H' ∧ H' pd = some (.dK kvs) ∧ TabOk gs kvs) (fun nx hk => ?_) ?_
    · refine ⟨_, rfl, _, rfl, b2.1, b2.2, for_n (n := 2) (D := { nx := nx, rt := Q }) (fun j σ' H' => ∃ (kvs : List (Key × V)) (v4 : Option V), σ' = [some (.ref lg), some (nV 2), some (.ref lr), some (.ref pd), v4, none, none, none, none] ∧ Same H H' ∧ H' lr = some (.lst (nL (List.range (2 ^ 2)))) ∧ H' pd = some (.dK kvs) ∧ TabOk gs kvs)
        ⟨[], none, rfl, s0, hlr0, hpd1, TabOk.nil gs⟩ ?_ ?_⟩
      · rintro j σ' H1 hj ⟨kvs, v4, rfl, s1, hlr1, hpd1, hT⟩
        refine ⟨_, rfl, _, rfl, lr, rfl, ⟨_, SqL.of hlr1⟩, fun D hD => pure_list (f := fun x => bt x j * 2 ^ x) (SqL.of hlr1) hD (by decide) (fun k x H4 R N hx s4 hR => ⟨rfl, yes_ ?_⟩) ?_⟩
        · have hx4 : x < 4 := by
            have := List.mem_of_getElem? hx
            exact List.mem_range.mp this
          refine ⟨_, rfl, _, rfl, _, _, rfl, rfl, Int.natCast_nonneg j, _, _, rfl, rfl, _, rfl, _, _, rfl, rfl, ?_, ?_⟩
          · rw [c_bit]; exact cpow (by have := bt_le x j; omega) (by omega)
          · dsimp only
            rw [c_bit, c_shl]
            exact hR
        have s2 : Same H1 (upd H1 D (.lst (nL ((List.range (2 ^ 2)).map fun x => bt x j * 2 ^ x)))) := same_new hD
        refine ⟨D, _, rfl, SqL.of (by rw [upd_same, nL_ints]), ?_⟩
        rw [sum_ints]
        have hm : ((List.range (2 ^ 2)).map fun x => bt x j * 2 ^ x).sum < 16 ∧ Made gs ((List.range (2 ^ 2)).map fun x => bt x j * 2 ^ x).sum := by
          rcases (by omega : j = 0 ∨ j = 1) with rfl | rfl
          · exact ⟨by decide, fun S hS => hS.1⟩
          · exact ⟨by decide, fun S hS => hS.2.1⟩
        generalize ((List.range (2 ^ 2)).map fun x => bt x j * 2 ^ x).sum = t at hm
        have hlen16 := hT.len
        obtain ⟨hT2, hle⟩ := hT.put hm.1 hm.2 (.bl true)
        refine ⟨pd, _, rfl, DPut.k (k := .inl (t : Int)) (s2 _ _ hpd1) (small (by omega)), ?_⟩
        refine ⟨_, _, rfl, same_upd (s1.trans s2) hpd0, ?_, upd_same, hT2⟩
        rw [upd_ne ndr.symm]; exact s2 _ _ hlr1
      · rintro σ' H1 ⟨kvs, v4, rfl, s1, hlr1, hpd1, hT⟩
        exact hk _ _ ⟨kvs, v4, rfl, s1, hpd1, hT⟩
    · rintro σ' H1 ⟨kvs, v4, rfl, s1, hpd1, hT⟩
      refine ⟨1, rfl, ?_⟩
      dsimp only
      refine seq_joinS (M := fun σ' H' => ∃ (kvs : List (Key × V)) (v4 v5 v6 v7 : Option V), σ' = [some (.ref lg), some (nV 2), some (.ref lr), some (.ref pd), v4, v5, v6, v7, none] ∧ Same H H' ∧ H' pd = some (.dK kvs) ∧ TabOk gs kvs) (fun nx hk => ?_) ?_
      · refine ⟨fun m σ' H' => ∃ (kvs : List (Key × V)) (bf : Int) (v4 v6 v7 : Option V), σ' = [some (.ref lg), some (nV 2), some (.ref lr), some (.ref pd), v4, some (.int bf), v6, v7, none] ∧ Same H H' ∧ H' pd = some (.dK kvs) ∧ TabOk gs kvs ∧ -1 ≤ bf ∧ bf ≤ (kvs.length : Int) ∧ m = (17 - bf).toNat,
          ⟨_, kvs, -1, v4, none, none, rfl, s1, hpd1, hT, by decide, by omega, rfl⟩, ?_⟩
        rintro m σ' H2 ⟨kvs, bf, v4, v6, v7, rfl, s1, hpd1, hT, hb1, hb2, rfl⟩
        have hlen16 := hT.len
        refine ⟨_, rfl, _, rfl, pd, kvs, rfl, hpd1, rfl, _, rfl, ?_⟩
        refine ite2 (fun hne => ?_) (fun _ => ?_)
        · have hne' : bf ≠ (kvs.length : Int) := fun e => by
            rw [e] at hne
            simp at hne
          refine ⟨fun σ' H' => ∃ (kvs2 : List (Key × V)) (v4 v6 v7 : Option V), σ' = [some (.ref lg), some (nV 2), some (.ref lr), some (.ref pd), v4, some (.int (kvs.length : Int)), v6, v7, none] ∧ Same H H' ∧ H' pd = some (.dK kvs2) ∧ TabOk gs kvs2 ∧ kvs.length ≤ kvs2.length,
            fun σ' H' ⟨kvs2, v4, v6, v7, e, s2, h2, hT2, hle⟩ => ⟨(17 - (kvs.length : Int)).toNat, by omega, kvs2, (kvs.length : Int), v4, v6, v7, e, s2, h2, hT2, by omega, by omega, rfl⟩, ?_⟩
          refine ⟨_, rfl, pd, kvs, rfl, hpd1, ?_⟩
          refine ⟨_, rfl, lg, rfl, ⟨_, SqL.of (s1 _ _ hl)⟩, for_list (K := K) (a := lg) (xs := refs.map V.ref) (fun i σ' H' => ∃ (kvs2 : List (Key × V)) (v6 v7 : Option V), σ' = [some (.ref lg), some (nV 2), some (.ref lr), some (.ref pd), v4, some (.int (kvs.length : Int)), v6, v7, none] ∧ Same H H' ∧ H' pd = some (.dK kvs2) ∧ TabOk gs kvs2 ∧ kvs.length ≤ kvs2.length)
            ⟨kvs, v6, v7, rfl, s1, hpd1, hT, Nat.le_refl _⟩ ?_ ?_ ?_⟩
          · rintro i σ' H' _ ⟨_, _, _, _, s2, _⟩
            exact SqL.of (s2 _ _ hl)
          · rintro i y σ' H3 hy ⟨kvs2, v6, v7, rfl, s3, hpd3, hT3, hle3⟩
            rw [List.getElem?_map] at hy
            obtain ⟨g, hg, rfl⟩ := Option.map_eq_some_iff.mp hy
            obtain ⟨c, hc, hG⟩ := paired_l hp hg
            have hcm := List.mem_of_getElem? hc
            have hcv := hv c hcm
            obtain ⟨tl, hk1, hk2, hk3⟩ := id hT3
            have hl3 := hT3.len
            have hkl : tl.length = kvs2.length := by
              have := congrArg List.length hk1
              rw [List.length_map, List.length_map] at this
              exact this.symm
            refine ⟨_, rfl, pd, kvs2, tl.map (fun n : Nat => (n : Int)), rfl, .inl hpd3, by rw [hk1, List.map_map]; rfl, by rw [List.length_map]; omega, fun ys ps hperm _ hps => ?_⟩
            have hys : ∀ y ∈ ys, ∃ t ∈ tl, y = (t : Int) := fun y hy => by
              obtain ⟨t, ht, e⟩ := List.mem_map.mp (hperm.mem_iff.mp hy)
              exact ⟨t, ht, e.symm⟩
            have hth : ys.map V.int = nL (ys.map Int.toNat) := by
              rw [nL, List.map_map]
              refine List.map_congr_left fun y hy => ?_
              obtain ⟨t, _, rfl⟩ := hys y hy
              rfl
            have hthm : ∀ x ∈ ys.map Int.toNat, x ∈ tl := fun x hx => by
              obtain ⟨y, hy, rfl⟩ := List.mem_map.mp hx
              obtain ⟨t, ht, rfl⟩ := hys y hy
              exact ht
            have hthl : (ys.map Int.toNat).length ≤ 16 := by
              rw [List.length_map, hperm.length_eq, List.length_map]; omega
            have s4 : Same H3 (upd H3 ps (.lst (ys.map V.int))) := same_new hps
            rw [hth] at s4 ⊢
            have hps4 : upd H3 ps (.lst (nL (ys.map Int.toNat))) ps = some (.lst (nL (ys.map Int.toNat))) := upd_same
            generalize ys.map Int.toNat = th at hthm hthl s4 hps4
            have hpd4 := s4 _ _ hpd3
            generalize upd H3 ps (.lst (nL th)) = H4 at s4 hps4 hpd4
            have hG4 : GateAt K H4 g c := sameT (s3.trans s4) hG
            refine ⟨_, rfl, g, _, _, _, rfl, rfl, hG4, rfl, ps, th, c.1, rfl, SqL.of hps4, hthl, hcv.1, fun H5 p lrefs lls s5 hp5 hlp hll hlv => ?_⟩
            have hpd5 := s5 _ _ hpd4
            have s05 := s3.trans (s4.trans s5)
            refine ⟨p, rfl, ⟨_, SqL.of hp5⟩, for_list (K := K) (a := p) (xs := lrefs.map V.ref) (fun j σ' H' => ∃ (kvs3 : List (Key × V)) (v7 : Option V), σ' = [some (.ref lg), some (nV 2), some (.ref lr), some (.ref pd), v4, some (.int (kvs.length : Int)), some (.ref g), v7, none] ∧ Same H H' ∧ Frm [pd] H5 H' ∧ H' pd = some (.dK kvs3) ∧ TabOk gs kvs3 ∧ kvs.length ≤ kvs3.length)
              ⟨kvs2, v7, rfl, s05, Frm.refl _ _, hpd5, hT3, hle3⟩ ?_ ?_ ?_⟩
            · rintro j σ' H' _ ⟨_, _, _, _, f6, _⟩
              exact SqL.of (f6 _ _ hp5 (by simpa using ne_of hp5 hpd5 (by intro z; cases z)))
            · rintro j y σ' H6 hy ⟨kvs3, v7, rfl, s6, f6, hpd6, hT6, hle6⟩
              rw [List.getElem?_map] at hy
              obtain ⟨r, hr1, rfl⟩ := Option.map_eq_some_iff.mp hy
              obtain ⟨ls, hls, hat⟩ := paired_l hlp hr1
              obtain ⟨hl1, hl2⟩ := hlv ls (List.mem_of_getElem? hls)
              have hat6 : H6 r = some (.lst (nL ls)) := f6 _ _ hat (by simpa using ne_of hat hpd5 (by intro z; cases z))
              have hl16 := hT6.len
              have h3 := hcv.1
              refine ⟨_, rfl, _, rfl, _, rfl, _, rfl, g, r, c, ls, rfl, sameT s6 hG, SqL.of hat6, by omega, fun H7 s7 => ?_⟩
              have hmade : Made gs (putT c ls 2) := Made.put hcm hl1 fun t ht => (hk3 t (hthm t (hl2 t ht))).2
              obtain ⟨hT8, hle8⟩ := hT6.put (putT_lt c ls 2) hmade (.bl true)
              refine ⟨pd, _, rfl, DPut.k (k := .inl ((putT c ls 2 : Nat) : Int)) (s7 _ _ hpd6) (small (by omega)), ?_⟩
              exact ⟨_, _, rfl, same_upd (s6.trans s7) hpd0, frm_upd (f6.trans (Frm.of s7)) (.inl (by simp)), upd_same, hT8, by omega⟩
            · rintro σ' H6 ⟨kvs3, v7, rfl, s6, f6, hpd6, hT6, hle6⟩
              exact ⟨kvs3, _, v7, rfl, s6, hpd6, hT6, hle6⟩
          · rintro σ' H3 ⟨kvs2, v6, v7, rfl, s3, hpd3, hT3, hle3⟩
            exact ⟨kvs2, v4, v6, v7, rfl, s3, hpd3, hT3, hle3⟩
        · exact hk _ _ ⟨kvs, v4, _, v6, v7, rfl, s1, hpd1, hT⟩
      · rintro σ' H2 ⟨kvs, v4, v5, v6, v7, rfl, s2, hpd2, hT2⟩
        exact ⟨_, rfl, q H2 pd kvs s2 hpd2 hT2⟩
end
end Gk

namespace Gk
open PySem L2
section
variable {P : Program} {w : World} {K : PySem.W.Frag} {mg : Str → Option Value} {base : Heap} {C : Addr}
/-! out -/
def spOut (K : PySem.W.Frag) : Sp := fun vs H Q _ => ∃ (c : Addr) (n : Nat) (steps : List Step) (out r : Nat) (gs : List Gate), vs = [.ref c, nV r] ∧ CircAt K H c n steps out ∧ n ≤ 4 ∧ steps.length ≤ 700 ∧ Wf gs n steps ∧ (∀ g ∈ gs, g.1 ≤ 4) ∧ out < n + steps.length ∧
  ∀ H', Same H H' → Q (nV (wv n steps r out)) H'
theorem ok_law_out (T : Pg w K mg) : FnOk P w K mg base CX0 1 T.f_law_out T.d_law_out ["_law_circuit", "_law_row"] (spOut K) := by
  refine T.F_law_out.ok sc_law_out (fun vs H Q E h => ?_) (fun cdv A outer s H vs Q E hr h => ?_)
  · obtain ⟨c, _, _, _, r, _, rfl, _⟩ := h; rfl
  · obtain ⟨c, n, steps, out, r, gs, rfl, ⟨t, srefs, hC, hT, hP⟩, hn, hlen, hw, hg4, hout, q⟩ := h
    refine ⟨_, (pss_cons (ps_set (i := 2) sc_law_out.nd rfl (by first | exact Or.inl rfl | exact Or.inr rfl) (pe_lc (own := [("_law_j", 6)]) (g := gName 6) (tt := tYes) rfl sc_law_out.nd (pi_range1 (by rfl) T.z_range (pa_cons (pe_ix ix_tup (pv 0) pe_int (fun _ _ => rfl)) pa_nil)) (blkOk_by (by rfl)) (fun _ _ _ _ _ => (pg_name (i := 6) sc_law_out.nd rfl (by first | exact Or.inl rfl | exact Or.inr rfl))) (fun _ _ _ _ _ => pts_nil) (fun _ _ _ _ _ => (pe_op op_and (pe_op op_shr (pv 1) (pv 6)) pe_int))))
  (pss_cons (ps_for PassesOwn.never rfl (pi_tup (pe_ix ix_tup (pv 0) pe_int (fun _ _ => rfl))) (pg_tup (by rfl) (pgs_cons (pg_name (i := 3) sc_law_out.nd rfl (by first | exact Or.inl rfl | exact Or.inr rfl)) (pgs_cons (pg_name (i := 4) sc_law_out.nd rfl (by first | exact Or.inl rfl | exact Or.inr rfl)) pgs_nil)))
  (pss_cons (ps_set (i := 5) sc_law_out.nd rfl (by first | exact Or.inl rfl | exact Or.inr rfl) (pe_callB (cr_sum rfl) (by rfl) T.z_sum (by decide +kernel) (pa_cons (pe_lc (own := [("_law_k", 7), ("_law_wire", 8)]) (g := gTup K 2 (gCons (gName 7) (gCons (gName 8) gNil))) (tt := tYes) rfl sc_law_out.nd (pi_enumT (K := K) rfl (by rfl) T.z_enumerate (pa_cons (pv 4) pa_nil)) (blkOk_by (by rfl)) (fun _ _ _ _ _ => (pg_tup (by rfl) (pgs_cons (pg_name (i := 7) sc_law_out.nd rfl (by first | exact Or.inl rfl | exact Or.inr rfl)) (pgs_cons (pg_name (i := 8) sc_law_out.nd rfl (by first | exact Or.inl rfl | exact Or.inr rfl)) pgs_nil)))) (fun _ _ _ _ _ => pts_nil) (fun _ _ _ _ _ => (pe_op op_shl (pe_ix (r := rIxL K) ix_list (pv 2) (pv 8) (fun _ _ => rfl)) (pv 7)))) pa_nil)))
  (pss_one (ps_expr (pe_bm PySem.F.plainAttrs_list PySem.F.slot_list_append PySem.F.type_list_append mt_append (pv 2) (pa_cons (pe_op op_and (pe_op op_shr (pe_ix ix_tup (pv 3) pe_int (fun _ _ => rfl)) (pv 5)) pe_int) pa_nil))))))
  (pss_one (ps_ret (pe_ix ix_list (pv 2) (pe_ix ix_tup (pv 0) pe_int (fun _ _ => rfl)) (fun _ _ => rfl)))))), ?_⟩
    have b := b62 (n := n) (by omega)
    have hpl := hP.length
    refine ⟨_, rfl, c, _, _, _, rfl, rfl, hC, rfl, _, rfl, b.1, b.2, fun D hD => pure_n (n := n) (f := fun j => bt r j) hD (by omega) (fun i H2 R N hi s2 hR => ⟨rfl, yes_ ?_⟩) ?_⟩
    · refine ⟨_, rfl, _, rfl, _, _, rfl, rfl, Int.natCast_nonneg i, _, _, rfl, rfl, ?_⟩
      dsimp only
      rw [c_bit]
      exact hR
    have s1 : Same H (upd H D (.lst (nL ((List.range n).map fun j => bt r j)))) := same_new hD
    refine ⟨_, rfl, c, _, _, _, rfl, rfl, sameT s1 hC, rfl, t, rfl, ⟨_, sameT s1 hT⟩, for_tup (K := K) (a := t) (xs := srefs.map V.ref) (fun i σ' H' => ∃ v3 v4 v5, σ' = [some (.ref c), some (nV r), some (.ref D), v3, v4, v5, none, none, none] ∧ Same H H' ∧ H' D = some (.lst (nL (run n (steps.take i) r))))
      ⟨none, none, none, rfl, s1, upd_same⟩ ?_ ?_ ?_⟩
    · rintro i σ' H' _ ⟨v3, v4, v5, rfl, s2, _⟩
      exact sameT s2 hT
    · rintro i y σ' H1 hy ⟨v3, v4, v5, rfl, s2, hD2⟩
      rw [List.getElem?_map] at hy
      obtain ⟨a, ha, rfl⟩ := Option.map_eq_some_iff.mp hy
      obtain ⟨st, hst, g, t1, h1, h2, h3⟩ := paired_l hP ha
      have hlt : i < steps.length := (List.getElem?_eq_some_iff.mp hst).1
      obtain ⟨hg, hsl, hsw⟩ := hw i st hst
      have hg4' := hg4 _ hg
      have htl : (steps.take i).length = i := by rw [List.length_take]; omega
      have hrl : (run n (steps.take i) r).length = n + i := by rw [run_len, htl]
      have hr1 := run_le n (steps.take i) r
      have er : run n (steps.take (i + 1)) r = run n (steps.take i) r ++ [stepv (run n (steps.take i) r) st] := by
        rw [List.take_add_one, hst]; exact run_snoc ..
      generalize run n (steps.take i) r = vals at hD2 hrl hr1 er
      refine ⟨a, _, rfl, sameT s2 h1, rfl, _, _, rfl, _, _, rfl, rfl, ?_⟩
      have h31 := sameT s2 h3
      refine ⟨_, rfl, t1, _, rfl, h31, fun D2 hDD => pure_enum (f := fun k x => vals.getD x 0 * 2 ^ k) walk_enumT (fun H h => sameT h h31) hDD (by omega) (fun k x H4 Tp R N hx s4 hT4 hR => ?_) (fun H4 s4 hD4 => ?_)⟩
      · refine ⟨Tp, _, rfl, SqT.of hT4, rfl, _, _, rfl, _, _, rfl, rfl, rfl, yes_ ?_⟩
        have hk := (List.getElem?_eq_some_iff.mp hx).1
        have hxw := hsw x (List.mem_of_getElem? hx)
        have hxl : x < vals.length := by omega
        have e : vals.getD x 0 = vals[x] := by rw [List.getD_eq_getElem?_getD, List.getElem?_eq_getElem hxl]; rfl
        rw [e] at hR
        have hv1 := hr1 _ (List.getElem_mem hxl)
        refine ⟨_, rfl, _, rfl, D, _, _, _, rfl, rfl, SqL.of (s4 _ _ hD2), atI_nat (nL_at (List.getElem?_eq_getElem hxl)), _, rfl, _, _, rfl, rfl, cpow (by omega) (by omega), ?_⟩
        dsimp only
        rw [c_shl]
        exact hR
      rw [nL_ints] at hD4
      refine ⟨D2, _, rfl, SqL.of hD4, ?_⟩
      rw [sum_ints]
      have en : ((List.range st.2.length).map fun k => vals.getD (st.2.getD k 0) 0 * 2 ^ k).sum = numOf (st.2.map (vals.getD · 0)) := by
        have := sum_enum (st.2.map (vals.getD · 0)) (fun k => vals.getD (st.2.getD k 0) 0 * 2 ^ k) fun k hk => by
          rw [List.length_map] at hk
          rw [List.getD_eq_getElem?_getD (l := List.map _ _), List.getElem?_map, List.getD_eq_getElem?_getD (l := st.2), List.getElem?_eq_getElem hk]; rfl
        rw [List.length_map] at this
        exact this
      rw [en]
      have hD5 := s4 _ _ hD2
      refine ⟨_, rfl, .inl ⟨rfl, _, SqL.of hD5⟩, _, rfl, g, _, _, _, rfl, rfl, sameT (s2.trans s4) h2, rfl, _, rfl, _, _, rfl, rfl, Int.natCast_nonneg _, _, _, rfl, rfl, ?_⟩
      dsimp only
      rw [c_bit]
      refine ⟨D, _, _, rfl, rfl, hD5, by rw [nL_len, hrl]; exact small (by omega), ?_⟩
      refine ⟨_, _, _, rfl, same_upd (s2.trans s4) hD, ?_⟩
      rw [upd_same, er, ← nL_snoc]
      rfl
    · rintro σ' H1 ⟨v3, v4, v5, rfl, s2, hD2⟩
      rw [List.length_map, hpl, List.take_length] at hD2
      have hol : out < (run n steps r).length := by rw [run_len]; exact hout
      have e : wv n steps r out = (run n steps r)[out] := by unfold wv; rw [List.getD_eq_getElem?_getD, List.getElem?_eq_getElem hol]; rfl
      have q1 := q H1 s2
      rw [e] at q1
      exact ⟨_, rfl, _, rfl, c, _, _, _, rfl, rfl, sameT s2 hC, rfl, D, _, _, _, rfl, rfl, SqL.of hD2, atI_nat (nL_at (List.getElem?_eq_getElem hol)), q1⟩
/-! built -/
def spBuilt (K : PySem.W.Frag) : Sp := fun vs H Q _ => ∃ (lg wi : Addr) (gs : List Gate) (n b : Nat), vs = [.ref lg, .ref wi] ∧ GatesL K H lg gs ∧ SqT K H wi [nV n, nV b] ∧ (∀ c ∈ gs, Valid 3 c) ∧ gs.length ≤ 100 ∧ 0 < n ∧ n ≤ 2 ∧ b < 2 ^ 2 ^ n ∧
  (∀ k ∈ REL5, ∃ c ∈ gs, ¬ Keeps c k.2.1 k.2.2) ∧ ∀ H', Same H H' → Q (.bl true) H'
theorem ok_law_built (T : Pg w K mg) : FnOk P w K mg base CX0 11 T.f_law_built T.d_law_built ["_law_gates", "_law_wish"] (spBuilt K) := by
  refine T.F_law_built.ok (k := 10) sc_law_built (fun vs H Q E h => ?_) (fun cdv A outer s H vs Q E hr h => ?_)
  · obtain ⟨lg, wi, _, _, _, rfl, _⟩ := h; rfl
  · obtain ⟨lg, wi, gs, n, b, rfl, hG, hW, hv, hgl, hn0, hn2, hb, hbr, q⟩ := h
    refine ⟨_, (pss_cons (ps_set (i := 2) sc_law_built.nd rfl (by first | exact Or.inl rfl | exact Or.inr rfl) (pe_call (ok_build T) (hr.mono (by decide)) (by rfl) T.m_build T.F_build.kp T.b_build .nil pass0 (pa_cons (pv 0) (pa_cons (pv 1) pa_nil))))
  (pss_cons (ps_if (PW.pt (pw_or (pt_cmpR op_ne (pe_ix ix_tup (pv 2) pe_int (fun _ _ => rfl)) (pe_ix ix_tup (pv 1) pe_int (fun _ _ => rfl)) (nomark _)) (pw_or1 (pt_cmpR (op_neD hr.units) (pe_lc (own := [("_law_step", 3)]) (g := gName 3) rfl sc_law_built.nd (pi_tup (pe_ix ix_tup (pv 2) pe_int (fun _ _ => rfl))) (blkOk_by (by rfl)) (fun _ _ _ _ _ => (pg_name (i := 3) sc_law_built.nd rfl (by first | exact Or.inl rfl | exact Or.inr rfl))) (fun _ _ _ _ _ => (pts_one (pt_cmpR (r := rNotInD K) (op_notInD (units65 hr)) (pe_ix (r := rIxT K) ix_tup (pv 3) pe_int (fun _ _ => rfl)) (pv 0) (by rfl)))) (fun _ _ _ _ _ => (pv 3))) (pe_lst pa_nil) (nomark _))))) (pss_one (ps_ret pe_bl)) pss_nil)
  (pss_one (ps_ret (pe_cmpR (op_eqD hr.units) (pe_lc (own := [("_law_row", 4)]) (g := gName 4) (tt := tYes) rfl sc_law_built.nd (pi_range1 (by rfl) T.z_range (pa_cons (pe_op op_shl pe_int (pe_ix ix_tup (pv 1) pe_int (fun _ _ => rfl))) pa_nil)) (blkOk_by (by rfl)) (fun _ _ _ _ _ => (pg_name (i := 4) sc_law_built.nd rfl (by first | exact Or.inl rfl | exact Or.inr rfl))) (fun _ _ _ _ _ => pts_nil) (fun _ _ _ _ _ => (pe_call (ok_law_out T) (hr.mono (by decide)) (by rfl) T.m_law_out T.F_law_out.kp T.b_law_out .nil pass0 (pa_cons (pv 2) (pa_cons (pv 4) pa_nil))))) (pe_lc (own := [("_law_row", 4)]) (g := gName 4) (tt := tYes) rfl sc_law_built.nd (pi_range1 (by rfl) T.z_range (pa_cons (pe_op op_shl pe_int (pe_ix ix_tup (pv 1) pe_int (fun _ _ => rfl))) pa_nil)) (blkOk_by (by rfl)) (fun _ _ _ _ _ => (pg_name (i := 4) sc_law_built.nd rfl (by first | exact Or.inl rfl | exact Or.inr rfl))) (fun _ _ _ _ _ => pts_nil) (fun _ _ _ _ _ => (pe_op op_and (pe_op op_shr (pe_ix (r := rIxT K) ix_tup (pv 1) pe_int (fun _ _ => rfl)) (pv 4)) pe_int))) (nomark _)))))), ?_⟩
    have hp2 : 2 ^ n ≤ 4 := Nat.pow_le_pow_right (by decide) hn2
    have bn := b62 (n := 2 ^ n) (by omega)
    refine ⟨_, rfl, _, rfl, lg, wi, gs, n, b, rfl, hG, hW, hv, hgl, hn0, hn2, hb, hbr, fun H1 c steps out s1 hCi hw hlen hout hval => ?_⟩
    obtain ⟨t, srefs, hC, hT, hP⟩ := id hCi
    have hW1 := sameT s1 hW
    obtain ⟨refs, hl, hgp⟩ := id (hG.same s1)
    refine ⟨_, rfl, c, _, _, _, rfl, rfl, hC, rfl, _, rfl, wi, _, _, _, rfl, rfl, hW1, rfl, rfl, _, rfl, ?_⟩
    rw [decide_eq_true rfl]
    refine iteF ?_
    refine ⟨_, rfl, c, _, _, _, rfl, rfl, hC, rfl, t, rfl, ⟨_, hT⟩, fun D hD => lc_tup (K := K) (a := t) (xs := srefs.map V.ref) (fun i H2 => Same H1 H2 ∧ H2 D = some (.lst [])) ⟨same_new hD, upd_same⟩ (fun i H2 _ h => sameT h.1 hT) ?_ ?_⟩
    · rintro i x H2 hx ⟨s2, hD2⟩
      rw [List.getElem?_map] at hx
      obtain ⟨a, ha, rfl⟩ := Option.map_eq_some_iff.mp hx
      obtain ⟨st, hst, g, t1, h1, h2, h3⟩ := paired_l hP ha
      obtain ⟨hg, _, _⟩ := hw i st hst
      refine ⟨rfl, ?_⟩
      refine ⟨_, rfl, a, _, _, _, rfl, rfl, sameT s2 h1, rfl, _, rfl, gD st.1, gs.map gD, dp_gate (sameT s2 h2), .lst (SqL.of (s2 _ _ hl)) (dp_gates (L2.Paired.mapP hgp fun _ _ z => sameT s2 z)), gD_shaped _, gDs_shaped gs, _, rfl, ?_⟩
      rw [any_gD hg]
      refine iteF ?_
      exact ⟨s2, hD2⟩
    · rintro H2 ⟨s2, hD2⟩
      refine ⟨Nat.zero_le _, fun pe hpe => ?_⟩
      have s3 : Same H2 (upd H2 pe (.lst [])) := same_new hpe
      refine ⟨.list [], .list [], .lst (SqL.of (s3 _ _ hD2)) .nil, .lst (SqL.of upd_same) .nil, nil_shaped, nil_shaped, _, rfl, ?_⟩
      rw [eqv_nil]
      refine iteF ?_
      have s13 := s2.trans s3
      generalize upd H2 pe (.lst []) = H3 at s13
      have hW3 := sameT s13 hW1
      have hC3 := hCi.same s13
      refine ⟨_, rfl, wi, _, _, _, rfl, rfl, hW3, rfl, _, _, rfl, rfl, cpow (x := 1) (by omega) (by omega), ?_⟩
      dsimp only
      rw [c_one]
      refine ⟨_, rfl, bn.1, bn.2, fun D1 hD1 => lc_n (n := 2 ^ n) (fun i H4 => Same H3 H4 ∧ H4 D1 = some (.lst (nL ((List.range i).map fun r => bt b r)))) ⟨same_new hD1, upd_same⟩ ?_ ?_⟩
      · rintro i H4 hi ⟨s4, hD4⟩
        refine ⟨rfl, yes_ ?_⟩
        refine ⟨_, rfl, _, rfl, c, n, steps, out, i, gs, rfl, hC3.same s4, by omega, hlen, hw, fun g hg => Nat.le_trans (hv g hg).1 (by decide), hout, fun H5 s5 => ?_⟩
        refine ⟨_, s5 _ _ hD4, by rw [nL_len, List.length_map, List.length_range]; exact small (by omega), same_upd (s4.trans s5) hD1, ?_⟩
        rw [upd_same, nL_snoc, List.range_succ, List.map_append, hval, Nat.mod_eq_of_lt hi]
        rfl
      · rintro H4 ⟨s4, hD4⟩
        have hW4 := sameT s4 hW3
        refine ⟨_, rfl, wi, _, _, _, rfl, rfl, hW4, rfl, _, _, rfl, rfl, cpow (x := 1) (by omega) (by omega), ?_⟩
        dsimp only
        rw [c_one]
        refine ⟨_, rfl, bn.1, bn.2, fun D5 hD5 => pure_n (n := 2 ^ n) (f := fun r => bt b r) hD5 (by omega) (fun i H5 R N hi s5 hR => ⟨rfl, yes_ ?_⟩) ?_⟩
        · refine ⟨_, rfl, wi, _, _, _, rfl, rfl, sameT s5 hW4, rfl, _, rfl, _, _, rfl, rfl, Int.natCast_nonneg i, _, _, rfl, rfl, ?_⟩
          dsimp only
          rw [c_bit]
          exact hR
        · have s5 : Same H4 (upd H4 D5 (.lst (nL ((List.range (2 ^ n)).map fun r => bt b r)))) := same_new hD5
          refine ⟨.list (nD ((List.range (2 ^ n)).map fun r => bt b r)), .list (nD ((List.range (2 ^ n)).map fun r => bt b r)), .lst (SqL.of (s5 _ _ hD4)) (dp_nL _), .lst (SqL.of upd_same) (dp_nL _), nD_shaped _, nD_shaped _, ?_⟩
          rw [eqv_nD]
          exact q _ (s1.trans (s13.trans (s4.trans s5)))
end
end Gk

/-! where all gates keep a kind, its outsider is not made -/
namespace Gk
/-- what the columns of a table come to -/
def colN (cols : List Nat) (t : Nat) : Nat := numOf (cols.map (bt t))
theorem colN_put {c : Gate} {ts cols : List Nat} (hl : ts.length = c.1) (hc : ∀ x ∈ cols, x < 4) : colN cols (putT c ts 2) = prow c (ts.map (colN cols)) cols.length := by
  have hb : ∀ t : Nat, ∀ x ∈ cols.map (bt t), x ≤ 1 := fun t x hx => by
    obtain ⟨j, _, rfl⟩ := List.mem_map.mp hx; exact bt_le _ _
  have hl2 : (ts.map (colN cols)).length = c.1 := by rw [List.length_map]; exact hl
  refine bt_ext (n := cols.length) ?_ (prow_lt hl2) fun j hj => ?_
  · have := numOf_lt _ (hb (putT c ts 2))
    rwa [List.length_map] at this
  · rw [prow_bit hl2, if_pos hj]
    have e : ∀ t, bt (colN cols t) j = bt t cols[j] := fun t => by
      unfold colN
      rw [numOf_bt _ (hb t), List.getD_eq_getElem?_getD, List.getElem?_map, List.getElem?_eq_getElem hj]
      rfl
    rw [e, putT_bt c ts 2 (hc _ (List.getElem_mem hj)), List.map_map]
    congr 1
    exact List.map_congr_left fun t _ => (e t).symm
theorem clo_of {gs : List Gate} {rows cols : List Nat} (hc : ∀ x ∈ cols, x < 4) (h : ∀ c ∈ gs, Keeps c cols.length rows) (h10 : colN cols 10 ∈ rows) (h12 : colN cols 12 ∈ rows) : Clo gs fun t => colN cols t ∈ rows := by
  refine ⟨h10, h12, fun c hcm ts hl ht => ?_⟩
  show colN cols (putT c ts 2) ∈ rows
  rw [colN_put hl hc]
  obtain ⟨n, hn, e⟩ := lnum_all (rs := rows) (l := ts.map (colN cols)) fun x hx => by
    obtain ⟨t, ht2, rfl⟩ := List.mem_map.mp hx
    exact ht t ht2
  have el : (ts.map (colN cols)).length = c.1 := by rw [List.length_map]; exact hl
  rw [el] at hn e
  have := h c hcm n hn
  rw [e] at this
  exact this
/-- the rows asked of the outsider -/
def someOf (m : Nat) : List Nat := (([12, 10] : List Nat).take m).reverse
theorem not_made {gs : List Gate} : ∀ k ∈ REL5, ∀ o ∈ OUT5, o.1 = k.1 → (∀ c ∈ gs, Keeps c k.2.1 k.2.2) → ¬ Made gs (putT o.2 (someOf o.2.1) 2) := by
  intro k hk o ho e h hm
  simp only [REL5, List.mem_cons, List.not_mem_nil, or_false] at hk
  simp only [OUT5, List.mem_cons, List.not_mem_nil, or_false] at ho
  rcases hk with rfl | rfl | rfl | rfl | rfl <;> rcases ho with rfl | rfl | rfl | rfl | rfl <;>
    first
    | exact absurd e (by decide)
    | skip
  · exact absurd (hm _ (clo_of (cols := [0]) (by decide) h (by decide) (by decide))) (by decide)
  · exact absurd (hm _ (clo_of (cols := [3]) (by decide) h (by decide) (by decide))) (by decide)
  · exact absurd (hm _ (clo_of (cols := [0, 3]) (by decide) h (by decide) (by decide))) (by decide)
  · exact absurd (hm _ (clo_of (cols := [0, 2]) (by decide) h (by decide) (by decide))) (by decide)
  · exact absurd (hm _ (clo_of (cols := [0, 1, 2, 3]) (by decide) h (by decide) (by decide))) (by decide)
theorem out_of : ∀ k ∈ REL5, ∃ o ∈ OUT5, o.1 = k.1 ∧ o.2.1 ≤ 2 := by
  intro k hk
  simp only [REL5, List.mem_cons, List.not_mem_nil, or_false] at hk
  rcases hk with rfl | rfl | rfl | rfl | rfl
  · exact ⟨("low", 0, 1), by decide, rfl, by decide⟩
  · exact ⟨("high", 0, 0), by decide, rfl, by decide⟩
  · exact ⟨("turn", 0, 0), by decide, rfl, by decide⟩
  · exact ⟨("rise", 1, 1), by decide, rfl, by decide⟩
  · exact ⟨("even", 2, 8), by decide, rfl, by decide⟩
end Gk

namespace Gk
open PySem L2
theorem none_shaped : SeqAt.shaped .none = true := by simp [SeqAt.shaped, PyData.canLay0, PyData.depth]
theorem not_keeps {c : Gate} {wd n : Nat} {rs : List Nat} (h1 : n < rs.length ^ c.1) (h2 : ¬ prow c (lnum rs c.1 n) wd ∈ rs) : ¬ Keeps c wd rs := fun h => h2 (h n h1)
theorem told_data {K : PySem.W.Frag} {Nw : Addr → Prop} {H : Hp} {gs : List Gate} : ∀ {ts : List V} {ks : List (Str × Nat × List Nat)}, Paired (fun v k => ToldV Nw H v gs k) ts ks →
    ∃ ds, DpAll K H ts ds ∧ (∀ d ∈ ds, d.canLay0 = true ∧ d.depth ≤ 60) ∧ ((ds.any fun z => PyData.eqv z .none) = false → ∀ k ∈ ks, ∃ c ∈ gs, ¬ Keeps c k.2.1 k.2.2)
  | _, _, .nil => ⟨[], .nil, fun d hd => (by cases hd), fun _ k hk => (by cases hk)⟩
  | _, _, .cons (b := k) h t => by
    obtain ⟨ds, h1, h2, h3⟩ := told_data (K := K) t
    rcases h with ⟨rfl, _⟩ | ⟨p, r, i, c, n, rfl, hc, hn, hnb, _, _, hp, hr⟩
    · refine ⟨.none :: ds, .cons .non h1, fun d hd => ?_, fun e => ?_⟩
      · rcases List.mem_cons.mp hd with rfl | hd
        · exact ⟨by simp [PyData.canLay0], by simp [PyData.depth]⟩
        · exact h2 d hd
      · rw [List.any_cons, show PyData.eqv .none .none = true from by simp [PyData.eqv]] at e
        cases e
    · refine ⟨.tuple [iD i, .list (nD (lnum k.2.2 c.1 n))] :: ds, .cons (.tup (SqT.of hp) (.cons (.int _) (.cons (.lst (SqL.of hr) (dp_nL _)) .nil))) h1, fun d hd => ?_, fun e k' hk' => ?_⟩
      · rcases List.mem_cons.mp hd with rfl | hd
        · obtain ⟨a1, a2⟩ := lay_all (ds := nD (lnum k.2.2 c.1 n)) fun d hd => by
            obtain ⟨m, _, rfl⟩ := List.mem_map.mp hd; exact ⟨by simp [iD, PyData.canLay0], by simp [iD, PyData.depth]⟩
          have a3 : PyData.depthAll (nD (lnum k.2.2 c.1 n)) = 0 := by
            generalize lnum k.2.2 c.1 n = l
            induction l with
            | nil => simp [PyData.depthAll]
            | cons x l ih => 
              show PyData.depthAll (iD x :: nD l) = 0
              simp only [PyData.depthAll, ih, iD, PyData.depth]; decide
          refine ⟨by simp [PyData.canLay0, PyData.canLayAll0, iD, a1], ?_⟩
          simp only [PyData.depth, PyData.depthAll, iD, a3]; decide
        · exact h2 d hd
      · rw [List.any_cons, Bool.or_eq_false_iff] at e
        rcases List.mem_cons.mp hk' with rfl | hk'
        · exact ⟨c, List.mem_of_getElem? hc, not_keeps hn hnb⟩
        · exact h3 e.2 k' hk'
section
variable {P : Program} {w : World} {K : PySem.W.Frag} {mg : Str → Option Value} {base : Heap} {C : Addr}
def spLaw (K : PySem.W.Frag) : Sp := fun vs H Q _ => ∃ (a : Addr) (ns : List Int), vs = [.ref a] ∧ SqL K H a (ns.map V.int) ∧ ns.length ≤ 63 ∧ ∀ H', Q (.bl true) H'
theorem ok_law (T : Pg w K mg) : FnOk P w K mg base CX0 12 T.f_law T.d_law ["_law_script"] (spLaw K) := by
  refine T.F_law.ok (k := 11) sc_law (fun vs H Q E h => ?_) (fun cdv A outer s H vs Q E hr h => ?_)
  · obtain ⟨a, _, rfl, _⟩ := h; rfl
  · obtain ⟨a, ns, rfl, hS, hlen, q⟩ := h
    have hu := hu_of hr
    refine ⟨_, (pss_cons (ps_set (i := 1) sc_law.nd rfl (by first | exact Or.inl rfl | exact Or.inr rfl) (pe_call (ok_law_light T) (hr.mono (by decide)) (by rfl) T.m_law_light T.F_law_light.kp T.b_law_light .nil pass0 (pa_cons (pe_call (ok_law_set T) (hr.mono (by decide)) (by rfl) T.m_law_set T.F_law_set.kp T.b_law_set .nil pass0 (pa_cons (pv 0) (pa_cons pe_int pa_nil))) pa_nil)))
  (pss_cons (ps_set (i := 2) sc_law.nd rfl (by first | exact Or.inl rfl | exact Or.inr rfl) (pe_call (ok_kinds T) (hr.mono (by decide)) (by rfl) T.m_kinds T.F_kinds.kp T.b_kinds .nil pass0 (pa_cons (pv 1) pa_nil)))
  (pss_cons (ps_if (pt_cmpR (op_notInD (units65 hr)) pe_non (pv 2) (by rfl)) (pss_cons (ps_for PassesOwn.never rfl (pi_range1 (by rfl) T.z_range (pa_cons pe_int pa_nil)) (pg_name (i := 3) sc_law.nd rfl (by first | exact Or.inl rfl | exact Or.inr rfl))
  (pss_cons (ps_set (i := 4) sc_law.nd rfl (by first | exact Or.inl rfl | exact Or.inr rfl) (pe_op op_mod (pe_op op_add (pe_call (ok_law_cell_at T) (hr.mono (by decide)) (by rfl) T.m_law_cell_at T.F_law_cell_at.kp T.b_law_cell_at .nil pass0 (pa_cons (pv 0) (pa_cons pe_int pa_nil))) (pe_op op_mul pe_int (pv 3))) pe_int))
  (pss_one (ps_if (PW.pt (pw_or (pt_not (pt_val (pe_call (ok_law_built T) (hr.mono (by decide)) (by rfl) T.m_law_built T.F_law_built.kp T.b_law_built .nil pass0 (pa_cons (pv 1) (pa_cons (pe_tup (pa_cons pe_int (pa_cons (pv 4) pa_nil))) pa_nil))))) (pw_or1 (pt_not (pt_val (pe_call (ok_law_built T) (hr.mono (by decide)) (by rfl) T.m_law_built T.F_law_built.kp T.b_law_built .nil pass0 (pa_cons (pv 1) (pa_cons (pe_tup (pa_cons pe_int (pa_cons (pe_op op_mod (pv 4) pe_int) pa_nil))) pa_nil)))))))) (pss_one (ps_ret pe_bl)) pss_nil))))
  (pss_one (ps_ret pe_bl))) pss_nil)
  (pss_cons (ps_set (i := 5) sc_law.nd rfl (by first | exact Or.inl rfl | exact Or.inr rfl) (pe_call (ok_law_made T) (hr.mono (by decide)) (by rfl) T.m_law_made T.F_law_made.kp T.b_law_made .nil pass0 (pa_cons (pv 1) (pa_cons pe_int pa_nil))))
  (pss_cons (ps_for PassesOwn.never rfl (pi_zipM (by rfl) T.z_zip (pa_cons (pe_glob (by rfl) T.m_KINDS T.r_KINDS) (pa_cons (pv 2) pa_nil))) (pg_tup (by rfl) (pgs_cons (pg_name (i := 6) sc_law.nd rfl (by first | exact Or.inl rfl | exact Or.inr rfl)) (pgs_cons (pg_name (i := 7) sc_law.nd rfl (by first | exact Or.inl rfl | exact Or.inr rfl)) pgs_nil)))
  (pss_one (ps_if (pt_cmpR op_isN (pv 7) pe_non (nomark _)) (pss_cons (ps_set (i := 8) sc_law.nd rfl (by first | exact Or.inl rfl | exact Or.inr rfl) (pe_call (ok_outsider T) (hr.mono (by decide)) (by rfl) T.m_outsider T.F_outsider.kp T.b_outsider .nil pass0 (pa_cons (pv 6) pa_nil)))
  (pss_cons (ps_set (i := 9) sc_law.nd rfl (by first | exact Or.inl rfl | exact Or.inr rfl) (pe_slice sl_list (pe_lst (pa_cons pe_int (pa_cons pe_int pa_nil))) po_none (po_some (pe_ix ix_tup (pv 8) pe_int (fun _ _ => rfl)))))
  (pss_one (ps_if (pt_cmp (pc_din hu (pe_call (ok_law_put T) (hr.mono (by decide)) (by rfl) T.m_law_put T.F_law_put.kp T.b_law_put .nil pass0 (pa_cons (pv 8) (pa_cons (pe_revL (pv 9)) (pa_cons pe_int pa_nil)))) (pv 5))) (pss_one (ps_ret pe_bl)) pss_nil)))) pss_nil)))
  (pss_one (ps_ret pe_bl))))))), ?_⟩
    refine ⟨_, rfl, a, ns, rfl, hS, hlen, fun H1 p1 gs1 s1 hG1 hl1 hv1 => ⟨p1, gs1, rfl, hG1, hl1, hv1, fun H2 lg gs s2 hG hgl hv => ?_⟩⟩
    have hGA : GatesAt K H2 lg gs := by
      obtain ⟨refs, h1, h2⟩ := hG
      exact ⟨refs, SqL.of h1, h2⟩
    refine ⟨_, rfl, lg, gs, rfl, hGA, fun c hc => Nat.le_trans (hv c hc).1 (by decide), by omega, fun pt ts H3 s3 hpt0 hpt hpair => ?_⟩
    have hS3 := (s1.trans (s2.trans s3)).seq hS
    have hG3 := hG.same s3
    obtain ⟨ds, hd1, hd2, hd3⟩ := told_data (K := K) hpair
    have htl : ts.length = 5 := hpair.length
    refine ⟨_, rfl, .none, ds, .non, .lst (SqL.of hpt) hd1, none_shaped, shaped_list hd2, _, rfl, ?_⟩
    cases hany : (ds.any fun z => PyData.eqv z .none) with
    | false =>
      have hbr := hd3 hany
      refine iteT ?_
      dsimp only [tNext]
      refine seq_joinS (M := fun σ' H' => True) (fun nx hk => ?_) (fun σ' H' _ => q H')
      refine ⟨5, rfl, by decide, by decide, for_n (n := 5) (D := { nx := nx, rt := Q }) (fun k σ' H' => ∃ v3 v4, σ' = [some (.ref a), some (.ref lg), some (.ref pt), v3, v4, none, none, none, none, none] ∧ Same H3 H') ⟨none, none, rfl, Same.refl _⟩ ?_ (fun σ' H' _ => hk _ _ trivial)⟩
      rintro k σ' H4 hk5 ⟨v3, v4, rfl, s4⟩
      refine ⟨_, rfl, a, ns, 9, rfl, s4.seq hS3, hlen, by decide, fun z => ⟨_, rfl, _, _, rfl, rfl, .inl ⟨by decide, by decide⟩, _, _, rfl, rfl, _, _, rfl, rfl, (by decide : (0 : Int) < 16), ?_⟩⟩
      have h0 : 0 ≤ (z + 3 * (k : Int)) % 16 := Int.emod_nonneg _ (by decide)
      have h16 : (z + 3 * (k : Int)) % 16 < 16 := Int.emod_lt_of_pos _ (by decide)
      obtain ⟨b, hb⟩ : ∃ b : Nat, (z + 3 * (k : Int)) % 16 = (b : Int) := ⟨((z + 3 * (k : Int)) % 16).toNat, by omega⟩
      dsimp only
      rw [hb] at h16 ⊢
      refine ⟨_, rfl, _, rfl, by show 2 ≤ sizeLine; decide, fun p hp => ?_⟩
      have s5 : Same H4 (upd H4 p (.tup [.int 2, nV b])) := same_new hp
      refine ⟨lg, p, gs, 2, b, rfl, hG3.same (s4.trans s5), SqT.of upd_same, hv, by omega, by decide, by decide, by show b < 16; omega, hbr, fun H6 s6 => ⟨true, rfl, ?_⟩⟩
      refine iteF ?_
      refine ⟨_, rfl, _, rfl, _, _, rfl, rfl, (by decide : (0 : Int) < 4), by show 2 ≤ sizeLine; decide, fun p2 hp2 => ?_⟩
      have s46 := s4.trans (s5.trans s6)
      have s7 : Same H6 (upd H6 p2 (.tup [.int 1, .int ((b : Int) % 4)])) := same_new hp2
      refine ⟨lg, p2, gs, 1, b % 4, rfl, hG3.same (s46.trans s7), SqT.of upd_same, hv, by omega, by decide, by decide, by show b % 4 < 4; omega, hbr, fun H8 s8 => ⟨true, rfl, ?_⟩⟩
      refine iteF ?_
      exact ⟨_, _, rfl, s46.trans (s7.trans s8)⟩
    | true =>
      refine iteF ?_
      refine ⟨_, rfl, lg, gs, rfl, hG3, hgl, hv, fun H4 pd kvs s4 hpd hT => ?_⟩
      have hpt4 := s4 _ _ hpt
      dsimp only
      refine seq_joinS (M := fun σ' H' => True) (fun nx hk => ?_) (fun σ' H' _ => q H')
      refine ⟨_, rfl, T.a_KINDS, pt, _, _, rfl, T.q_KINDS _, SqL.of hpt4, for_it (walk_zipM (xs := REL5.map fun k => V.str k.1) (n := 5) rfl htl.symm) (D := { nx := nx, rt := Q }) (fun i σ' H' => ∃ v6 v7 v8 v9, σ' = [some (.ref a), some (.ref lg), some (.ref pt), none, none, some (.ref pd), v6, v7, v8, v9] ∧ Same H4 H')
        ⟨none, none, none, none, rfl, Same.refl _⟩ (fun i σ' H' _ h => ?_) ?_ (fun σ' H' _ => hk _ _ trivial)⟩
      · obtain ⟨_, _, _, _, _, s5⟩ := h
        exact ⟨T.q_KINDS _, SqL.of (s5 _ _ hpt4)⟩
      · rintro i x σ' H5 H6 hi ⟨v6, v7, v8, v9, rfl, s5⟩ ⟨Tp, y, z, rfl, hTp, rfl, hy, hz⟩
        obtain ⟨k, hk5, hto⟩ := paired_l hpair hz
        have hy' : y = .str k.1 := by
          have hy : (REL5.map fun k => V.str k.1)[i]? = some y := hy
          rw [List.getElem?_map, hk5] at hy
          exact (Option.some.inj hy).symm
        subst hy'
        have s6 := same_upd (o := .tup [.str k.1, z]) s5 (s5.free hTp)
        refine ⟨Tp, _, rfl, SqT.of upd_same, rfl, _, _, rfl, _, _, rfl, rfl, ?_⟩
        rcases hto with ⟨rfl, hkeep⟩ | ⟨p, r, _, _, _, rfl, _⟩
        · obtain ⟨o, ho, eo, ho2⟩ := out_of k (List.mem_of_getElem? hk5)
          refine ⟨_, rfl, rfl, _, rfl, ?_⟩
          refine iteT ?_
          refine ⟨_, rfl, o, by rw [eo]; rfl, ho, fun ao hao => ?_⟩
          refine ⟨by show 2 ≤ sizeLine; decide, fun q1 hq1 => ?_⟩
          have s7 := same_upd (o := .lst (nL [12, 10])) s6 (s6.free hq1)
          refine ⟨_, rfl, ao, _, _, _, rfl, rfl, hao _, rfl, _, rfl, q1, _, rfl, SqL.of upd_same, fun q2 hq2 => ?_⟩
          have hcut : cutV [V.int 12, V.int 10] none (some (o.2.1 : Int)) = nL (([12, 10] : List Nat).take o.2.1) := by
            rcases (by omega : o.2.1 = 0 ∨ o.2.1 = 1 ∨ o.2.1 = 2) with e | e | e <;> rw [e] <;> rfl
          dsimp only
          rw [hcut]
          have s8 := same_upd (o := .lst (nL (([12, 10] : List Nat).take o.2.1))) s7 (s7.free hq2)
          refine ⟨_, rfl, _, rfl, q2, _, rfl, SqL.of upd_same, fun q3 hq3 => ?_⟩
          have erev : (nL (([12, 10] : List Nat).take o.2.1)).reverse = nL (someOf o.2.1) := by unfold someOf nL; rw [List.map_reverse]
          rw [erev]
          have s9 := same_upd (o := .lst (nL (someOf o.2.1))) s8 (s8.free hq3)
          refine ⟨ao, q3, o.2, someOf o.2.1, rfl, hao _, SqL.of upd_same, by unfold someOf; rw [List.length_reverse, List.length_take]; omega, fun H9 s10 => ?_⟩
          have s11 := s9.trans s10
          refine ⟨_, rfl, pd, valV kvs (.inl ((putT o.2 (someOf o.2.1) 2 : Nat) : Int)), rfl, DGet.k (k := .inl ((putT o.2 (someOf o.2.1) 2 : Nat) : Int)) (s11 _ _ hpd), _, rfl, ?_⟩
          cases hsome : (valV kvs (.inl ((putT o.2 (someOf o.2.1) 2 : Nat) : Int))).isSome with
          | true => exact absurd (hT.made hsome) (not_made k (List.mem_of_getElem? hk5) o ho eo hkeep)
          | false =>
            refine iteF ?_
            exact ⟨_, _, _, _, rfl, s11⟩
        · refine ⟨_, rfl, rfl, _, rfl, ?_⟩
          refine iteF ?_
          exact ⟨_, _, _, _, rfl, s6⟩
end
end Gk

/-! what the top has written; the head -/
namespace Gk
open PySem L2
theorem sqT_K {K : PySem.W.Frag} {a : Addr} {xs : List V} {od : Option Addr} {its : Array Value} {n : Nat} {sl : Array (Option Value)} (h : K.lookup a = some ⟨.type "tuple", od, .seq its n, sl⟩) (hz : its.size ≤ sizeLine) (hv : Vals xs its.toList) : ∀ H : Hp, SqT K H a xs := fun _ => .inr ⟨_, its, n, h, rfl, rfl, hz, hv⟩
theorem all_mk {l : PySem.W.OpenLaw} {w : World} {K : PySem.W.Frag} {h : Heap} {mg : Str → Option Value} {fa : Addr} (X : K.In h) (G : h.Ns mainGlobals mg) (hfa : mg "law" = some (.ref fa))
    {C : Addr}
    {f_bit_of : Addr} {od_bit_of an_bit_of : Option Addr} {sl_bit_of : Array (Option Value)} {oc_bit_of kV_bit_of dc_bit_of pm_bit_of cd_bit_of ct_bit_of : Value}
    {f_number_of : Addr} {od_number_of an_number_of : Option Addr} {sl_number_of : Array (Option Value)} {oc_number_of kV_number_of dc_number_of pm_number_of cd_number_of ct_number_of : Value}
    {f_value : Addr} {od_value an_value : Option Addr} {sl_value : Array (Option Value)} {oc_value kV_value dc_value pm_value cd_value ct_value : Value}
    {f_renamed : Addr} {od_renamed an_renamed : Option Addr} {sl_renamed : Array (Option Value)} {oc_renamed kV_renamed dc_renamed pm_renamed cd_renamed ct_renamed : Value}
    {f_without_alike : Addr} {od_without_alike an_without_alike : Option Addr} {sl_without_alike : Array (Option Value)} {oc_without_alike kV_without_alike dc_without_alike pm_without_alike cd_without_alike ct_without_alike : Value}
    {f_without_unused : Addr} {od_without_unused an_without_unused : Option Addr} {sl_without_unused : Array (Option Value)} {oc_without_unused kV_without_unused dc_without_unused pm_without_unused cd_without_unused ct_without_unused : Value}
    {f_shared : Addr} {od_shared an_shared : Option Addr} {sl_shared : Array (Option Value)} {oc_shared kV_shared dc_shared pm_shared cd_shared ct_shared : Value}
    {f_put_rows : Addr} {od_put_rows an_put_rows : Option Addr} {sl_put_rows : Array (Option Value)} {oc_put_rows kV_put_rows dc_put_rows pm_put_rows cd_put_rows ct_put_rows : Value}
    {f_members : Addr} {od_members an_members : Option Addr} {sl_members : Array (Option Value)} {oc_members kV_members dc_members pm_members cd_members ct_members : Value}
    {f_to_power : Addr} {od_to_power an_to_power : Option Addr} {sl_to_power : Array (Option Value)} {oc_to_power kV_to_power dc_to_power pm_to_power cd_to_power ct_to_power : Value}
    {f_list_number : Addr} {od_list_number an_list_number : Option Addr} {sl_list_number : Array (Option Value)} {oc_list_number kV_list_number dc_list_number pm_list_number cd_list_number ct_list_number : Value}
    {f_broken : Addr} {od_broken an_broken : Option Addr} {sl_broken : Array (Option Value)} {oc_broken kV_broken dc_broken pm_broken cd_broken ct_broken : Value}
    {f_kind : Addr} {od_kind an_kind : Option Addr} {sl_kind : Array (Option Value)} {oc_kind kV_kind dc_kind pm_kind cd_kind ct_kind : Value}
    {f_outsider : Addr} {od_outsider an_outsider : Option Addr} {sl_outsider : Array (Option Value)} {oc_outsider kV_outsider dc_outsider pm_outsider cd_outsider ct_outsider : Value}
    {f_first_break : Addr} {od_first_break an_first_break : Option Addr} {sl_first_break : Array (Option Value)} {oc_first_break kV_first_break dc_first_break pm_first_break cd_first_break ct_first_break : Value}
    {f_kinds : Addr} {od_kinds an_kinds : Option Addr} {sl_kinds : Array (Option Value)} {oc_kinds kV_kinds dc_kinds pm_kinds cd_kinds ct_kinds : Value}
    {f_odd_corner : Addr} {od_odd_corner an_odd_corner : Option Addr} {sl_odd_corner : Array (Option Value)} {oc_odd_corner kV_odd_corner dc_odd_corner pm_odd_corner cd_odd_corner ct_odd_corner : Value}
    {f_build : Addr} {od_build an_build : Option Addr} {sl_build : Array (Option Value)} {oc_build kV_build dc_build pm_build cd_build ct_build : Value}
    {f_law_cell_at : Addr} {od_law_cell_at an_law_cell_at : Option Addr} {sl_law_cell_at : Array (Option Value)} {oc_law_cell_at kV_law_cell_at dc_law_cell_at pm_law_cell_at cd_law_cell_at ct_law_cell_at : Value}
    {f_law_gate : Addr} {od_law_gate an_law_gate : Option Addr} {sl_law_gate : Array (Option Value)} {oc_law_gate kV_law_gate dc_law_gate pm_law_gate cd_law_gate ct_law_gate : Value}
    {f_law_keeps : Addr} {od_law_keeps an_law_keeps : Option Addr} {sl_law_keeps : Array (Option Value)} {oc_law_keeps kV_law_keeps dc_law_keeps pm_law_keeps cd_law_keeps ct_law_keeps : Value}
    {f_law_set : Addr} {od_law_set an_law_set : Option Addr} {sl_law_set : Array (Option Value)} {oc_law_set kV_law_set dc_law_set pm_law_set cd_law_set ct_law_set : Value}
    {f_law_lists : Addr} {od_law_lists an_law_lists : Option Addr} {sl_law_lists : Array (Option Value)} {oc_law_lists kV_law_lists dc_law_lists pm_law_lists cd_law_lists ct_law_lists : Value}
    {f_law_made : Addr} {od_law_made an_law_made : Option Addr} {sl_law_made : Array (Option Value)} {oc_law_made kV_law_made dc_law_made pm_law_made cd_law_made ct_law_made : Value}
    {f_law_put : Addr} {od_law_put an_law_put : Option Addr} {sl_law_put : Array (Option Value)} {oc_law_put kV_law_put dc_law_put pm_law_put cd_law_put ct_law_put : Value}
    {f_law_out : Addr} {od_law_out an_law_out : Option Addr} {sl_law_out : Array (Option Value)} {oc_law_out kV_law_out dc_law_out pm_law_out cd_law_out ct_law_out : Value}
    {f_law_built : Addr} {od_law_built an_law_built : Option Addr} {sl_law_built : Array (Option Value)} {oc_law_built kV_law_built dc_law_built pm_law_built cd_law_built ct_law_built : Value}
    {f_law_light : Addr} {od_law_light an_law_light : Option Addr} {sl_law_light : Array (Option Value)} {oc_law_light kV_law_light dc_law_light pm_law_light cd_law_light ct_law_light : Value}
    {f_law : Addr} {od_law an_law : Option Addr} {sl_law : Array (Option Value)} {oc_law kV_law dc_law pm_law cd_law ct_law : Value}
    {f_binit : Addr} {od_binit an_binit : Option Addr} {sl_binit : Array (Option Value)} {oc_binit kV_binit dc_binit pm_binit cd_binit ct_binit : Value}
    {f_blaid : Addr} {od_blaid an_blaid : Option Addr} {sl_blaid : Array (Option Value)} {oc_blaid kV_blaid dc_blaid pm_blaid cd_blaid ct_blaid : Value}
    {f_bat_one : Addr} {od_bat_one an_bat_one : Option Addr} {sl_bat_one : Array (Option Value)} {oc_bat_one kV_bat_one dc_bat_one pm_bat_one cd_bat_one ct_bat_one : Value}
    {f_bends : Addr} {od_bends an_bends : Option Addr} {sl_bends : Array (Option Value)} {oc_bends kV_bends dc_bends pm_bends cd_bends ct_bends : Value}
    {f_bexchanged : Addr} {od_bexchanged an_bexchanged : Option Addr} {sl_bexchanged : Array (Option Value)} {oc_bexchanged kV_bexchanged dc_bexchanged pm_bexchanged cd_bexchanged ct_bexchanged : Value}
    {f_bby_rise : Addr} {od_bby_rise an_bby_rise : Option Addr} {sl_bby_rise : Array (Option Value)} {oc_bby_rise kV_bby_rise dc_bby_rise pm_bby_rise cd_bby_rise ct_bby_rise : Value}
    {f_bby_turn : Addr} {od_bby_turn an_bby_turn : Option Addr} {sl_bby_turn : Array (Option Value)} {oc_bby_turn kV_bby_turn dc_bby_turn pm_bby_turn cd_bby_turn ct_bby_turn : Value}
    {f_bbegun : Addr} {od_bbegun an_bbegun : Option Addr} {sl_bbegun : Array (Option Value)} {oc_bbegun kV_bbegun dc_bbegun pm_bbegun cd_bbegun ct_bbegun : Value}
    {f_bas_value : Addr} {od_bas_value an_bas_value : Option Addr} {sl_bas_value : Array (Option Value)} {oc_bas_value kV_bas_value dc_bas_value pm_bas_value cd_bas_value ct_bas_value : Value}
    {f_bboth : Addr} {od_bboth an_bboth : Option Addr} {sl_bboth : Array (Option Value)} {oc_bboth kV_bboth dc_bboth pm_bboth cd_bboth ct_bboth : Value}
    {f_beither : Addr} {od_beither an_beither : Option Addr} {sl_beither : Array (Option Value)} {oc_beither kV_beither dc_beither pm_beither cd_beither ct_beither : Value}
    {f_bwire_of : Addr} {od_bwire_of an_bwire_of : Option Addr} {sl_bwire_of : Array (Option Value)} {oc_bwire_of kV_bwire_of dc_bwire_of pm_bwire_of cd_bwire_of ct_bwire_of : Value}
    {tMW : Tok}
    {aK : Addr}
    {od_aK : Option Addr} {sl_aK : Array (Option Value)} {nn_aK : Nat}
    {tk0 tk1 tk2 tk3 tk4 : Tok}
    {aR : Addr} {esR : Array DictEntry} {neR : Nat}
    {pR0 : Addr}
    {r0 : Addr}
    {od_pR0 : Option Addr} {sl_pR0 : Array (Option Value)} {nn_pR0 : Nat}
    {tw0 : Tok}
    {od_r0 : Option Addr} {sl_r0 : Array (Option Value)} {nn_r0 : Nat}
    {tr0_0 : Tok}
    {pR1 : Addr}
    {r1 : Addr}
    {od_pR1 : Option Addr} {sl_pR1 : Array (Option Value)} {nn_pR1 : Nat}
    {tw1 : Tok}
    {od_r1 : Option Addr} {sl_r1 : Array (Option Value)} {nn_r1 : Nat}
    {tr1_0 : Tok}
    {pR2 : Addr}
    {r2 : Addr}
    {od_pR2 : Option Addr} {sl_pR2 : Array (Option Value)} {nn_pR2 : Nat}
    {tw2 : Tok}
    {od_r2 : Option Addr} {sl_r2 : Array (Option Value)} {nn_r2 : Nat}
    {tr2_0 tr2_1 : Tok}
    {pR3 : Addr}
    {r3 : Addr}
    {od_pR3 : Option Addr} {sl_pR3 : Array (Option Value)} {nn_pR3 : Nat}
    {tw3 : Tok}
    {od_r3 : Option Addr} {sl_r3 : Array (Option Value)} {nn_r3 : Nat}
    {tr3_0 tr3_1 tr3_2 : Tok}
    {pR4 : Addr}
    {r4 : Addr}
    {od_pR4 : Option Addr} {sl_pR4 : Array (Option Value)} {nn_pR4 : Nat}
    {tw4 : Tok}
    {od_r4 : Option Addr} {sl_r4 : Array (Option Value)} {nn_r4 : Nat}
    {tr4_0 tr4_1 tr4_2 tr4_3 tr4_4 tr4_5 tr4_6 tr4_7 : Tok}
    {aO : Addr} {esO : Array DictEntry} {neO : Nat}
    {pO0 : Addr}
    {od_pO0 : Option Addr} {sl_pO0 : Array (Option Value)} {nn_pO0 : Nat}
    {to0 tp0 : Tok}
    {pO1 : Addr}
    {od_pO1 : Option Addr} {sl_pO1 : Array (Option Value)} {nn_pO1 : Nat}
    {to1 tp1 : Tok}
    {pO2 : Addr}
    {od_pO2 : Option Addr} {sl_pO2 : Array (Option Value)} {nn_pO2 : Nat}
    {to2 tp2 : Tok}
    {pO3 : Addr}
    {od_pO3 : Option Addr} {sl_pO3 : Array (Option Value)} {nn_pO3 : Nat}
    {to3 tp3 : Tok}
    {pO4 : Addr}
    {od_pO4 : Option Addr} {sl_pO4 : Array (Option Value)} {nn_pO4 : Nat}
    {to4 tp4 : Tok}
    (aC : PySem.W.nsIn K mainGlobals "Bench" = some (some (.ref C)))
    (a_bit_of : PySem.W.nsIn K mainGlobals "bit_of" = some (some (.ref f_bit_of)))
    (l_bit_of : K.lookup f_bit_of = some ⟨oc_bit_of, od_bit_of, .func (PySem.W.fnOf "bit_of" "bit_of" (defArgs s_bit_of) (defBody s_bit_of) (defScope s_bit_of) .none kV_bit_of dc_bit_of pm_bit_of an_bit_of cd_bit_of ct_bit_of), sl_bit_of⟩)
    (c_bit_of : PySem.W.codeIn K cd_bit_of "bit_of" = true)
    (k_bit_of : PySem.W.keepIn K (.ref f_bit_of) = true)
    (a_number_of : PySem.W.nsIn K mainGlobals "number_of" = some (some (.ref f_number_of)))
    (l_number_of : K.lookup f_number_of = some ⟨oc_number_of, od_number_of, .func (PySem.W.fnOf "number_of" "number_of" (defArgs s_number_of) (defBody s_number_of) (defScope s_number_of) .none kV_number_of dc_number_of pm_number_of an_number_of cd_number_of ct_number_of), sl_number_of⟩)
    (c_number_of : PySem.W.codeIn K cd_number_of "number_of" = true)
    (k_number_of : PySem.W.keepIn K (.ref f_number_of) = true)
    (a_value : PySem.W.nsIn K mainGlobals "value" = some (some (.ref f_value)))
    (l_value : K.lookup f_value = some ⟨oc_value, od_value, .func (PySem.W.fnOf "value" "value" (defArgs s_value) (defBody s_value) (defScope s_value) .none kV_value dc_value pm_value an_value cd_value ct_value), sl_value⟩)
    (c_value : PySem.W.codeIn K cd_value "value" = true)
    (k_value : PySem.W.keepIn K (.ref f_value) = true)
    (a_renamed : PySem.W.nsIn K mainGlobals "renamed" = some (some (.ref f_renamed)))
    (l_renamed : K.lookup f_renamed = some ⟨oc_renamed, od_renamed, .func (PySem.W.fnOf "renamed" "renamed" (defArgs s_renamed) (defBody s_renamed) (defScope s_renamed) .none kV_renamed dc_renamed pm_renamed an_renamed cd_renamed ct_renamed), sl_renamed⟩)
    (c_renamed : PySem.W.codeIn K cd_renamed "renamed" = true)
    (k_renamed : PySem.W.keepIn K (.ref f_renamed) = true)
    (a_without_alike : PySem.W.nsIn K mainGlobals "without_alike" = some (some (.ref f_without_alike)))
    (l_without_alike : K.lookup f_without_alike = some ⟨oc_without_alike, od_without_alike, .func (PySem.W.fnOf "without_alike" "without_alike" (defArgs s_without_alike) (defBody s_without_alike) (defScope s_without_alike) .none kV_without_alike dc_without_alike pm_without_alike an_without_alike cd_without_alike ct_without_alike), sl_without_alike⟩)
    (c_without_alike : PySem.W.codeIn K cd_without_alike "without_alike" = true)
    (k_without_alike : PySem.W.keepIn K (.ref f_without_alike) = true)
    (a_without_unused : PySem.W.nsIn K mainGlobals "without_unused" = some (some (.ref f_without_unused)))
    (l_without_unused : K.lookup f_without_unused = some ⟨oc_without_unused, od_without_unused, .func (PySem.W.fnOf "without_unused" "without_unused" (defArgs s_without_unused) (defBody s_without_unused) (defScope s_without_unused) .none kV_without_unused dc_without_unused pm_without_unused an_without_unused cd_without_unused ct_without_unused), sl_without_unused⟩)
    (c_without_unused : PySem.W.codeIn K cd_without_unused "without_unused" = true)
    (k_without_unused : PySem.W.keepIn K (.ref f_without_unused) = true)
    (a_shared : PySem.W.nsIn K mainGlobals "shared" = some (some (.ref f_shared)))
    (l_shared : K.lookup f_shared = some ⟨oc_shared, od_shared, .func (PySem.W.fnOf "shared" "shared" (defArgs s_shared) (defBody s_shared) (defScope s_shared) .none kV_shared dc_shared pm_shared an_shared cd_shared ct_shared), sl_shared⟩)
    (c_shared : PySem.W.codeIn K cd_shared "shared" = true)
    (k_shared : PySem.W.keepIn K (.ref f_shared) = true)
    (a_put_rows : PySem.W.nsIn K mainGlobals "put_rows" = some (some (.ref f_put_rows)))
    (l_put_rows : K.lookup f_put_rows = some ⟨oc_put_rows, od_put_rows, .func (PySem.W.fnOf "put_rows" "put_rows" (defArgs s_put_rows) (defBody s_put_rows) (defScope s_put_rows) .none kV_put_rows dc_put_rows pm_put_rows an_put_rows cd_put_rows ct_put_rows), sl_put_rows⟩)
    (c_put_rows : PySem.W.codeIn K cd_put_rows "put_rows" = true)
    (k_put_rows : PySem.W.keepIn K (.ref f_put_rows) = true)
    (a_members : PySem.W.nsIn K mainGlobals "members" = some (some (.ref f_members)))
    (l_members : K.lookup f_members = some ⟨oc_members, od_members, .func (PySem.W.fnOf "members" "members" (defArgs s_members) (defBody s_members) (defScope s_members) .none kV_members dc_members pm_members an_members cd_members ct_members), sl_members⟩)
    (c_members : PySem.W.codeIn K cd_members "members" = true)
    (k_members : PySem.W.keepIn K (.ref f_members) = true)
    (a_to_power : PySem.W.nsIn K mainGlobals "to_power" = some (some (.ref f_to_power)))
    (l_to_power : K.lookup f_to_power = some ⟨oc_to_power, od_to_power, .func (PySem.W.fnOf "to_power" "to_power" (defArgs s_to_power) (defBody s_to_power) (defScope s_to_power) .none kV_to_power dc_to_power pm_to_power an_to_power cd_to_power ct_to_power), sl_to_power⟩)
    (c_to_power : PySem.W.codeIn K cd_to_power "to_power" = true)
    (k_to_power : PySem.W.keepIn K (.ref f_to_power) = true)
    (a_list_number : PySem.W.nsIn K mainGlobals "list_number" = some (some (.ref f_list_number)))
    (l_list_number : K.lookup f_list_number = some ⟨oc_list_number, od_list_number, .func (PySem.W.fnOf "list_number" "list_number" (defArgs s_list_number) (defBody s_list_number) (defScope s_list_number) .none kV_list_number dc_list_number pm_list_number an_list_number cd_list_number ct_list_number), sl_list_number⟩)
    (c_list_number : PySem.W.codeIn K cd_list_number "list_number" = true)
    (k_list_number : PySem.W.keepIn K (.ref f_list_number) = true)
    (a_broken : PySem.W.nsIn K mainGlobals "broken" = some (some (.ref f_broken)))
    (l_broken : K.lookup f_broken = some ⟨oc_broken, od_broken, .func (PySem.W.fnOf "broken" "broken" (defArgs s_broken) (defBody s_broken) (defScope s_broken) .none kV_broken dc_broken pm_broken an_broken cd_broken ct_broken), sl_broken⟩)
    (c_broken : PySem.W.codeIn K cd_broken "broken" = true)
    (k_broken : PySem.W.keepIn K (.ref f_broken) = true)
    (a_kind : PySem.W.nsIn K mainGlobals "kind" = some (some (.ref f_kind)))
    (l_kind : K.lookup f_kind = some ⟨oc_kind, od_kind, .func (PySem.W.fnOf "kind" "kind" (defArgs s_kind) (defBody s_kind) (defScope s_kind) .none kV_kind dc_kind pm_kind an_kind cd_kind ct_kind), sl_kind⟩)
    (c_kind : PySem.W.codeIn K cd_kind "kind" = true)
    (k_kind : PySem.W.keepIn K (.ref f_kind) = true)
    (a_outsider : PySem.W.nsIn K mainGlobals "outsider" = some (some (.ref f_outsider)))
    (l_outsider : K.lookup f_outsider = some ⟨oc_outsider, od_outsider, .func (PySem.W.fnOf "outsider" "outsider" (defArgs s_outsider) (defBody s_outsider) (defScope s_outsider) .none kV_outsider dc_outsider pm_outsider an_outsider cd_outsider ct_outsider), sl_outsider⟩)
    (c_outsider : PySem.W.codeIn K cd_outsider "outsider" = true)
    (k_outsider : PySem.W.keepIn K (.ref f_outsider) = true)
    (a_first_break : PySem.W.nsIn K mainGlobals "first_break" = some (some (.ref f_first_break)))
    (l_first_break : K.lookup f_first_break = some ⟨oc_first_break, od_first_break, .func (PySem.W.fnOf "first_break" "first_break" (defArgs s_first_break) (defBody s_first_break) (defScope s_first_break) .none kV_first_break dc_first_break pm_first_break an_first_break cd_first_break ct_first_break), sl_first_break⟩)
    (c_first_break : PySem.W.codeIn K cd_first_break "first_break" = true)
    (k_first_break : PySem.W.keepIn K (.ref f_first_break) = true)
    (a_kinds : PySem.W.nsIn K mainGlobals "kinds" = some (some (.ref f_kinds)))
    (l_kinds : K.lookup f_kinds = some ⟨oc_kinds, od_kinds, .func (PySem.W.fnOf "kinds" "kinds" (defArgs s_kinds) (defBody s_kinds) (defScope s_kinds) .none kV_kinds dc_kinds pm_kinds an_kinds cd_kinds ct_kinds), sl_kinds⟩)
    (c_kinds : PySem.W.codeIn K cd_kinds "kinds" = true)
    (k_kinds : PySem.W.keepIn K (.ref f_kinds) = true)
    (a_odd_corner : PySem.W.nsIn K mainGlobals "odd_corner" = some (some (.ref f_odd_corner)))
    (l_odd_corner : K.lookup f_odd_corner = some ⟨oc_odd_corner, od_odd_corner, .func (PySem.W.fnOf "odd_corner" "odd_corner" (defArgs s_odd_corner) (defBody s_odd_corner) (defScope s_odd_corner) .none kV_odd_corner dc_odd_corner pm_odd_corner an_odd_corner cd_odd_corner ct_odd_corner), sl_odd_corner⟩)
    (c_odd_corner : PySem.W.codeIn K cd_odd_corner "odd_corner" = true)
    (k_odd_corner : PySem.W.keepIn K (.ref f_odd_corner) = true)
    (a_build : PySem.W.nsIn K mainGlobals "build" = some (some (.ref f_build)))
    (l_build : K.lookup f_build = some ⟨oc_build, od_build, .func (PySem.W.fnOf "build" "build" (defArgs s_build) (defBody s_build) (defScope s_build) .none kV_build dc_build pm_build an_build cd_build ct_build), sl_build⟩)
    (c_build : PySem.W.codeIn K cd_build "build" = true)
    (k_build : PySem.W.keepIn K (.ref f_build) = true)
    (a_law_cell_at : PySem.W.nsIn K mainGlobals "_law_cell_at" = some (some (.ref f_law_cell_at)))
    (l_law_cell_at : K.lookup f_law_cell_at = some ⟨oc_law_cell_at, od_law_cell_at, .func (PySem.W.fnOf "_law_cell_at" "_law_cell_at" (defArgs s_law_cell_at) (defBody s_law_cell_at) (defScope s_law_cell_at) .none kV_law_cell_at dc_law_cell_at pm_law_cell_at an_law_cell_at cd_law_cell_at ct_law_cell_at), sl_law_cell_at⟩)
    (c_law_cell_at : PySem.W.codeIn K cd_law_cell_at "_law_cell_at" = true)
    (k_law_cell_at : PySem.W.keepIn K (.ref f_law_cell_at) = true)
    (a_law_gate : PySem.W.nsIn K mainGlobals "_law_gate" = some (some (.ref f_law_gate)))
    (l_law_gate : K.lookup f_law_gate = some ⟨oc_law_gate, od_law_gate, .func (PySem.W.fnOf "_law_gate" "_law_gate" (defArgs s_law_gate) (defBody s_law_gate) (defScope s_law_gate) .none kV_law_gate dc_law_gate pm_law_gate an_law_gate cd_law_gate ct_law_gate), sl_law_gate⟩)
    (c_law_gate : PySem.W.codeIn K cd_law_gate "_law_gate" = true)
    (k_law_gate : PySem.W.keepIn K (.ref f_law_gate) = true)
    (a_law_keeps : PySem.W.nsIn K mainGlobals "_law_keeps" = some (some (.ref f_law_keeps)))
    (l_law_keeps : K.lookup f_law_keeps = some ⟨oc_law_keeps, od_law_keeps, .func (PySem.W.fnOf "_law_keeps" "_law_keeps" (defArgs s_law_keeps) (defBody s_law_keeps) (defScope s_law_keeps) .none kV_law_keeps dc_law_keeps pm_law_keeps an_law_keeps cd_law_keeps ct_law_keeps), sl_law_keeps⟩)
    (c_law_keeps : PySem.W.codeIn K cd_law_keeps "_law_keeps" = true)
    (k_law_keeps : PySem.W.keepIn K (.ref f_law_keeps) = true)
    (a_law_set : PySem.W.nsIn K mainGlobals "_law_set" = some (some (.ref f_law_set)))
    (l_law_set : K.lookup f_law_set = some ⟨oc_law_set, od_law_set, .func (PySem.W.fnOf "_law_set" "_law_set" (defArgs s_law_set) (defBody s_law_set) (defScope s_law_set) .none kV_law_set dc_law_set pm_law_set an_law_set cd_law_set ct_law_set), sl_law_set⟩)
    (c_law_set : PySem.W.codeIn K cd_law_set "_law_set" = true)
    (k_law_set : PySem.W.keepIn K (.ref f_law_set) = true)
    (a_law_lists : PySem.W.nsIn K mainGlobals "_law_lists" = some (some (.ref f_law_lists)))
    (l_law_lists : K.lookup f_law_lists = some ⟨oc_law_lists, od_law_lists, .func (PySem.W.fnOf "_law_lists" "_law_lists" (defArgs s_law_lists) (defBody s_law_lists) (defScope s_law_lists) .none kV_law_lists dc_law_lists pm_law_lists an_law_lists cd_law_lists ct_law_lists), sl_law_lists⟩)
    (c_law_lists : PySem.W.codeIn K cd_law_lists "_law_lists" = true)
    (k_law_lists : PySem.W.keepIn K (.ref f_law_lists) = true)
    (a_law_made : PySem.W.nsIn K mainGlobals "_law_made" = some (some (.ref f_law_made)))
    (l_law_made : K.lookup f_law_made = some ⟨oc_law_made, od_law_made, .func (PySem.W.fnOf "_law_made" "_law_made" (defArgs s_law_made) (defBody s_law_made) (defScope s_law_made) .none kV_law_made dc_law_made pm_law_made an_law_made cd_law_made ct_law_made), sl_law_made⟩)
    (c_law_made : PySem.W.codeIn K cd_law_made "_law_made" = true)
    (k_law_made : PySem.W.keepIn K (.ref f_law_made) = true)
    (a_law_put : PySem.W.nsIn K mainGlobals "_law_put" = some (some (.ref f_law_put)))
    (l_law_put : K.lookup f_law_put = some ⟨oc_law_put, od_law_put, .func (PySem.W.fnOf "_law_put" "_law_put" (defArgs s_law_put) (defBody s_law_put) (defScope s_law_put) .none kV_law_put dc_law_put pm_law_put an_law_put cd_law_put ct_law_put), sl_law_put⟩)
    (c_law_put : PySem.W.codeIn K cd_law_put "_law_put" = true)
    (k_law_put : PySem.W.keepIn K (.ref f_law_put) = true)
    (a_law_out : PySem.W.nsIn K mainGlobals "_law_out" = some (some (.ref f_law_out)))
    (l_law_out : K.lookup f_law_out = some ⟨oc_law_out, od_law_out, .func (PySem.W.fnOf "_law_out" "_law_out" (defArgs s_law_out) (defBody s_law_out) (defScope s_law_out) .none kV_law_out dc_law_out pm_law_out an_law_out cd_law_out ct_law_out), sl_law_out⟩)
    (c_law_out : PySem.W.codeIn K cd_law_out "_law_out" = true)
    (k_law_out : PySem.W.keepIn K (.ref f_law_out) = true)
    (a_law_built : PySem.W.nsIn K mainGlobals "_law_built" = some (some (.ref f_law_built)))
    (l_law_built : K.lookup f_law_built = some ⟨oc_law_built, od_law_built, .func (PySem.W.fnOf "_law_built" "_law_built" (defArgs s_law_built) (defBody s_law_built) (defScope s_law_built) .none kV_law_built dc_law_built pm_law_built an_law_built cd_law_built ct_law_built), sl_law_built⟩)
    (c_law_built : PySem.W.codeIn K cd_law_built "_law_built" = true)
    (k_law_built : PySem.W.keepIn K (.ref f_law_built) = true)
    (a_law_light : PySem.W.nsIn K mainGlobals "_law_light" = some (some (.ref f_law_light)))
    (l_law_light : K.lookup f_law_light = some ⟨oc_law_light, od_law_light, .func (PySem.W.fnOf "_law_light" "_law_light" (defArgs s_law_light) (defBody s_law_light) (defScope s_law_light) .none kV_law_light dc_law_light pm_law_light an_law_light cd_law_light ct_law_light), sl_law_light⟩)
    (c_law_light : PySem.W.codeIn K cd_law_light "_law_light" = true)
    (k_law_light : PySem.W.keepIn K (.ref f_law_light) = true)
    (a_law : PySem.W.nsIn K mainGlobals "law" = some (some (.ref f_law)))
    (l_law : K.lookup f_law = some ⟨oc_law, od_law, .func (PySem.W.fnOf "law" "law" (defArgs s_law) (defBody s_law) (defScope s_law) .none kV_law dc_law pm_law an_law cd_law ct_law), sl_law⟩)
    (c_law : PySem.W.codeIn K cd_law "law" = true)
    (k_law : PySem.W.keepIn K (.ref f_law) = true)
    (a_binit : PySem.W.findIn K (.ref C) "__init__" = some (some (.ref f_binit)))
    (i_binit : PySem.W.isFn K (.ref f_binit) = true)
    (l_binit : K.lookup f_binit = some ⟨oc_binit, od_binit, .func (PySem.W.fnOf "__init__" "Bench.__init__" (defArgs s_binit) (defBody s_binit) (defScope s_binit) .none kV_binit dc_binit pm_binit an_binit cd_binit ct_binit), sl_binit⟩)
    (c_binit : PySem.W.codeIn K cd_binit "Bench.__init__" = true)
    (k_binit : PySem.W.keepIn K (.ref f_binit) = true)
    (a_blaid : PySem.W.findIn K (.ref C) "laid" = some (some (.ref f_blaid)))
    (i_blaid : PySem.W.isFn K (.ref f_blaid) = true)
    (l_blaid : K.lookup f_blaid = some ⟨oc_blaid, od_blaid, .func (PySem.W.fnOf "laid" "Bench.laid" (defArgs s_blaid) (defBody s_blaid) (defScope s_blaid) .none kV_blaid dc_blaid pm_blaid an_blaid cd_blaid ct_blaid), sl_blaid⟩)
    (c_blaid : PySem.W.codeIn K cd_blaid "Bench.laid" = true)
    (k_blaid : PySem.W.keepIn K (.ref f_blaid) = true)
    (a_bat_one : PySem.W.findIn K (.ref C) "at_one" = some (some (.ref f_bat_one)))
    (i_bat_one : PySem.W.isFn K (.ref f_bat_one) = true)
    (l_bat_one : K.lookup f_bat_one = some ⟨oc_bat_one, od_bat_one, .func (PySem.W.fnOf "at_one" "Bench.at_one" (defArgs s_bat_one) (defBody s_bat_one) (defScope s_bat_one) .none kV_bat_one dc_bat_one pm_bat_one an_bat_one cd_bat_one ct_bat_one), sl_bat_one⟩)
    (c_bat_one : PySem.W.codeIn K cd_bat_one "Bench.at_one" = true)
    (k_bat_one : PySem.W.keepIn K (.ref f_bat_one) = true)
    (a_bends : PySem.W.findIn K (.ref C) "ends" = some (some (.ref f_bends)))
    (i_bends : PySem.W.isFn K (.ref f_bends) = true)
    (l_bends : K.lookup f_bends = some ⟨oc_bends, od_bends, .func (PySem.W.fnOf "ends" "Bench.ends" (defArgs s_bends) (defBody s_bends) (defScope s_bends) .none kV_bends dc_bends pm_bends an_bends cd_bends ct_bends), sl_bends⟩)
    (c_bends : PySem.W.codeIn K cd_bends "Bench.ends" = true)
    (k_bends : PySem.W.keepIn K (.ref f_bends) = true)
    (a_bexchanged : PySem.W.findIn K (.ref C) "exchanged" = some (some (.ref f_bexchanged)))
    (i_bexchanged : PySem.W.isFn K (.ref f_bexchanged) = true)
    (l_bexchanged : K.lookup f_bexchanged = some ⟨oc_bexchanged, od_bexchanged, .func (PySem.W.fnOf "exchanged" "Bench.exchanged" (defArgs s_bexchanged) (defBody s_bexchanged) (defScope s_bexchanged) .none kV_bexchanged dc_bexchanged pm_bexchanged an_bexchanged cd_bexchanged ct_bexchanged), sl_bexchanged⟩)
    (c_bexchanged : PySem.W.codeIn K cd_bexchanged "Bench.exchanged" = true)
    (k_bexchanged : PySem.W.keepIn K (.ref f_bexchanged) = true)
    (a_bby_rise : PySem.W.findIn K (.ref C) "by_rise" = some (some (.ref f_bby_rise)))
    (i_bby_rise : PySem.W.isFn K (.ref f_bby_rise) = true)
    (l_bby_rise : K.lookup f_bby_rise = some ⟨oc_bby_rise, od_bby_rise, .func (PySem.W.fnOf "by_rise" "Bench.by_rise" (defArgs s_bby_rise) (defBody s_bby_rise) (defScope s_bby_rise) .none kV_bby_rise dc_bby_rise pm_bby_rise an_bby_rise cd_bby_rise ct_bby_rise), sl_bby_rise⟩)
    (c_bby_rise : PySem.W.codeIn K cd_bby_rise "Bench.by_rise" = true)
    (k_bby_rise : PySem.W.keepIn K (.ref f_bby_rise) = true)
    (a_bby_turn : PySem.W.findIn K (.ref C) "by_turn" = some (some (.ref f_bby_turn)))
    (i_bby_turn : PySem.W.isFn K (.ref f_bby_turn) = true)
    (l_bby_turn : K.lookup f_bby_turn = some ⟨oc_bby_turn, od_bby_turn, .func (PySem.W.fnOf "by_turn" "Bench.by_turn" (defArgs s_bby_turn) (defBody s_bby_turn) (defScope s_bby_turn) .none kV_bby_turn dc_bby_turn pm_bby_turn an_bby_turn cd_bby_turn ct_bby_turn), sl_bby_turn⟩)
    (c_bby_turn : PySem.W.codeIn K cd_bby_turn "Bench.by_turn" = true)
    (k_bby_turn : PySem.W.keepIn K (.ref f_bby_turn) = true)
    (a_bbegun : PySem.W.findIn K (.ref C) "begun" = some (some (.ref f_bbegun)))
    (i_bbegun : PySem.W.isFn K (.ref f_bbegun) = true)
    (l_bbegun : K.lookup f_bbegun = some ⟨oc_bbegun, od_bbegun, .func (PySem.W.fnOf "begun" "Bench.begun" (defArgs s_bbegun) (defBody s_bbegun) (defScope s_bbegun) .none kV_bbegun dc_bbegun pm_bbegun an_bbegun cd_bbegun ct_bbegun), sl_bbegun⟩)
    (c_bbegun : PySem.W.codeIn K cd_bbegun "Bench.begun" = true)
    (k_bbegun : PySem.W.keepIn K (.ref f_bbegun) = true)
    (a_bas_value : PySem.W.findIn K (.ref C) "as_value" = some (some (.ref f_bas_value)))
    (i_bas_value : PySem.W.isFn K (.ref f_bas_value) = true)
    (l_bas_value : K.lookup f_bas_value = some ⟨oc_bas_value, od_bas_value, .func (PySem.W.fnOf "as_value" "Bench.as_value" (defArgs s_bas_value) (defBody s_bas_value) (defScope s_bas_value) .none kV_bas_value dc_bas_value pm_bas_value an_bas_value cd_bas_value ct_bas_value), sl_bas_value⟩)
    (c_bas_value : PySem.W.codeIn K cd_bas_value "Bench.as_value" = true)
    (k_bas_value : PySem.W.keepIn K (.ref f_bas_value) = true)
    (a_bboth : PySem.W.findIn K (.ref C) "both" = some (some (.ref f_bboth)))
    (i_bboth : PySem.W.isFn K (.ref f_bboth) = true)
    (l_bboth : K.lookup f_bboth = some ⟨oc_bboth, od_bboth, .func (PySem.W.fnOf "both" "Bench.both" (defArgs s_bboth) (defBody s_bboth) (defScope s_bboth) .none kV_bboth dc_bboth pm_bboth an_bboth cd_bboth ct_bboth), sl_bboth⟩)
    (c_bboth : PySem.W.codeIn K cd_bboth "Bench.both" = true)
    (k_bboth : PySem.W.keepIn K (.ref f_bboth) = true)
    (a_beither : PySem.W.findIn K (.ref C) "either" = some (some (.ref f_beither)))
    (i_beither : PySem.W.isFn K (.ref f_beither) = true)
    (l_beither : K.lookup f_beither = some ⟨oc_beither, od_beither, .func (PySem.W.fnOf "either" "Bench.either" (defArgs s_beither) (defBody s_beither) (defScope s_beither) .none kV_beither dc_beither pm_beither an_beither cd_beither ct_beither), sl_beither⟩)
    (c_beither : PySem.W.codeIn K cd_beither "Bench.either" = true)
    (k_beither : PySem.W.keepIn K (.ref f_beither) = true)
    (a_bwire_of : PySem.W.findIn K (.ref C) "wire_of" = some (some (.ref f_bwire_of)))
    (i_bwire_of : PySem.W.isFn K (.ref f_bwire_of) = true)
    (l_bwire_of : K.lookup f_bwire_of = some ⟨oc_bwire_of, od_bwire_of, .func (PySem.W.fnOf "wire_of" "Bench.wire_of" (defArgs s_bwire_of) (defBody s_bwire_of) (defScope s_bwire_of) .none kV_bwire_of dc_bwire_of pm_bwire_of an_bwire_of cd_bwire_of ct_bwire_of), sl_bwire_of⟩)
    (c_bwire_of : PySem.W.codeIn K cd_bwire_of "Bench.wire_of" = true)
    (k_bwire_of : PySem.W.keepIn K (.ref f_bwire_of) = true)
    (pg : PySem.W.plainGet K C Str.empty = true)
    (hd : PySem.W.hasDictIn K C = true)
    (po : PySem.W.plainOver K C = true)
    (sa : PySem.W.findIn K (.ref C) "__setattr__" = some (some (.builtin "object.__setattr__")))
    (mk : PySem.W.makesIn K C = true)
    (kc : PySem.W.keepIn K (.ref C) = true)
    (n_gates : PySem.W.findIn K (.ref C) "gates" = some none)
    (n_inputs : PySem.W.findIn K (.ref C) "inputs" = some none)
    (n_steps : PySem.W.findIn K (.ref C) "steps" = some none)
    (n_turner : PySem.W.findIn K (.ref C) "turner" = some none)
    (n_constants : PySem.W.findIn K (.ref C) "constants" = some none)
    (n_corner : PySem.W.findIn K (.ref C) "corner" = some none)
    (n_made : PySem.W.findIn K (.ref C) "made" = some none)
    (z_len : PySem.W.nsIn K mainGlobals "len" = some none)
    (z_sum : PySem.W.nsIn K mainGlobals "sum" = some none)
    (z_range : PySem.W.nsIn K mainGlobals "range" = some none)
    (z_list : PySem.W.nsIn K mainGlobals "list" = some none)
    (z_tuple : PySem.W.nsIn K mainGlobals "tuple" = some none)
    (z_int : PySem.W.nsIn K mainGlobals "int" = some none)
    (z_enumerate : PySem.W.nsIn K mainGlobals "enumerate" = some none)
    (z_sorted : PySem.W.nsIn K mainGlobals "sorted" = some none)
    (z_zip : PySem.W.nsIn K mainGlobals "zip" = some none)
    (aMW : PySem.W.nsIn K mainGlobals "MOST_WORK" = some (some (.int 20000 tMW)))
    (aKn : PySem.W.nsIn K mainGlobals "KINDS" = some (some (.ref aK)))
    (l_aK : K.lookup aK = some ⟨.type "tuple", od_aK, .seq #[.str "low" tk0, .str "high" tk1, .str "turn" tk2, .str "rise" tk3, .str "even" tk4] nn_aK, sl_aK⟩)
    (aRn : PySem.W.nsIn K mainGlobals "RELATIONS" = some (some (.ref aR)))
    (lR : K.lookup aR = some ⟨.type "dict", none, .dict esR neR, #[]⟩)
    (yR : PySem.W.KeysLit w.params esR.toList)
    (gR0 : PySem.W.nsIn K aR "low" = some (some (.ref pR0)))
    (l_pR0 : K.lookup pR0 = some ⟨.type "tuple", od_pR0, .seq #[.int 1 tw0, .ref r0] nn_pR0, sl_pR0⟩)
    (l_r0 : K.lookup r0 = some ⟨.type "tuple", od_r0, .seq #[.int 0 tr0_0] nn_r0, sl_r0⟩)
    (gR1 : PySem.W.nsIn K aR "high" = some (some (.ref pR1)))
    (l_pR1 : K.lookup pR1 = some ⟨.type "tuple", od_pR1, .seq #[.int 1 tw1, .ref r1] nn_pR1, sl_pR1⟩)
    (l_r1 : K.lookup r1 = some ⟨.type "tuple", od_r1, .seq #[.int 1 tr1_0] nn_r1, sl_r1⟩)
    (gR2 : PySem.W.nsIn K aR "turn" = some (some (.ref pR2)))
    (l_pR2 : K.lookup pR2 = some ⟨.type "tuple", od_pR2, .seq #[.int 2 tw2, .ref r2] nn_pR2, sl_pR2⟩)
    (l_r2 : K.lookup r2 = some ⟨.type "tuple", od_r2, .seq #[.int 1 tr2_0, .int 2 tr2_1] nn_r2, sl_r2⟩)
    (gR3 : PySem.W.nsIn K aR "rise" = some (some (.ref pR3)))
    (l_pR3 : K.lookup pR3 = some ⟨.type "tuple", od_pR3, .seq #[.int 2 tw3, .ref r3] nn_pR3, sl_pR3⟩)
    (l_r3 : K.lookup r3 = some ⟨.type "tuple", od_r3, .seq #[.int 0 tr3_0, .int 2 tr3_1, .int 3 tr3_2] nn_r3, sl_r3⟩)
    (gR4 : PySem.W.nsIn K aR "even" = some (some (.ref pR4)))
    (l_pR4 : K.lookup pR4 = some ⟨.type "tuple", od_pR4, .seq #[.int 4 tw4, .ref r4] nn_pR4, sl_pR4⟩)
    (l_r4 : K.lookup r4 = some ⟨.type "tuple", od_r4, .seq #[.int 0 tr4_0, .int 3 tr4_1, .int 5 tr4_2, .int 6 tr4_3, .int 9 tr4_4, .int 10 tr4_5, .int 12 tr4_6, .int 15 tr4_7] nn_r4, sl_r4⟩)
    (aOn : PySem.W.nsIn K mainGlobals "OUTSIDERS" = some (some (.ref aO)))
    (lO : K.lookup aO = some ⟨.type "dict", none, .dict esO neO, #[]⟩)
    (yO : PySem.W.KeysLit w.params esO.toList)
    (gO0 : PySem.W.nsIn K aO "low" = some (some (.ref pO0)))
    (l_pO0 : K.lookup pO0 = some ⟨.type "tuple", od_pO0, .seq #[.int 0 to0, .int 1 tp0] nn_pO0, sl_pO0⟩)
    (gO1 : PySem.W.nsIn K aO "high" = some (some (.ref pO1)))
    (l_pO1 : K.lookup pO1 = some ⟨.type "tuple", od_pO1, .seq #[.int 0 to1, .int 0 tp1] nn_pO1, sl_pO1⟩)
    (gO2 : PySem.W.nsIn K aO "turn" = some (some (.ref pO2)))
    (l_pO2 : K.lookup pO2 = some ⟨.type "tuple", od_pO2, .seq #[.int 0 to2, .int 0 tp2] nn_pO2, sl_pO2⟩)
    (gO3 : PySem.W.nsIn K aO "rise" = some (some (.ref pO3)))
    (l_pO3 : K.lookup pO3 = some ⟨.type "tuple", od_pO3, .seq #[.int 1 to3, .int 1 tp3] nn_pO3, sl_pO3⟩)
    (gO4 : PySem.W.nsIn K aO "even" = some (some (.ref pO4)))
    (l_pO4 : K.lookup pO4 = some ⟨.type "tuple", od_pO4, .seq #[.int 2 to4, .int 8 tp4] nn_pO4, sl_pO4⟩) :
    ∃ fd : FuncData, (∀ (s : Shared) (v : Value), BindsTo s fd ⟨[v], []⟩ [("_law_script", v)]) ∧ ∀ base : Heap, K.In base → base.Ns mainGlobals mg → FnOk l.prog w K mg base CX0 12 fa fd ["_law_script"] (spLaw K) := by
  have e := hfa.symm.trans (PySem.W.mg_of X G a_law)
  cases e
  let T : Pg w K mg := {
    f_bit_of := f_bit_of
    d_bit_of := _
    F_bit_of := fun_mk (st := s_bit_of) l_bit_of c_bit_of k_bit_of
    m_bit_of := PySem.W.mg_of X G a_bit_of
    f_number_of := f_number_of
    d_number_of := _
    F_number_of := fun_mk (st := s_number_of) l_number_of c_number_of k_number_of
    m_number_of := PySem.W.mg_of X G a_number_of
    f_value := f_value
    d_value := _
    F_value := fun_mk (st := s_value) l_value c_value k_value
    m_value := PySem.W.mg_of X G a_value
    f_renamed := f_renamed
    d_renamed := _
    F_renamed := fun_mk (st := s_renamed) l_renamed c_renamed k_renamed
    m_renamed := PySem.W.mg_of X G a_renamed
    f_without_alike := f_without_alike
    d_without_alike := _
    F_without_alike := fun_mk (st := s_without_alike) l_without_alike c_without_alike k_without_alike
    m_without_alike := PySem.W.mg_of X G a_without_alike
    f_without_unused := f_without_unused
    d_without_unused := _
    F_without_unused := fun_mk (st := s_without_unused) l_without_unused c_without_unused k_without_unused
    m_without_unused := PySem.W.mg_of X G a_without_unused
    f_shared := f_shared
    d_shared := _
    F_shared := fun_mk (st := s_shared) l_shared c_shared k_shared
    m_shared := PySem.W.mg_of X G a_shared
    f_put_rows := f_put_rows
    d_put_rows := _
    F_put_rows := fun_mk (st := s_put_rows) l_put_rows c_put_rows k_put_rows
    m_put_rows := PySem.W.mg_of X G a_put_rows
    f_members := f_members
    d_members := _
    F_members := fun_mk (st := s_members) l_members c_members k_members
    m_members := PySem.W.mg_of X G a_members
    f_to_power := f_to_power
    d_to_power := _
    F_to_power := fun_mk (st := s_to_power) l_to_power c_to_power k_to_power
    m_to_power := PySem.W.mg_of X G a_to_power
    f_list_number := f_list_number
    d_list_number := _
    F_list_number := fun_mk (st := s_list_number) l_list_number c_list_number k_list_number
    m_list_number := PySem.W.mg_of X G a_list_number
    f_broken := f_broken
    d_broken := _
    F_broken := fun_mk (st := s_broken) l_broken c_broken k_broken
    m_broken := PySem.W.mg_of X G a_broken
    f_kind := f_kind
    d_kind := _
    F_kind := fun_mk (st := s_kind) l_kind c_kind k_kind
    m_kind := PySem.W.mg_of X G a_kind
    f_outsider := f_outsider
    d_outsider := _
    F_outsider := fun_mk (st := s_outsider) l_outsider c_outsider k_outsider
    m_outsider := PySem.W.mg_of X G a_outsider
    f_first_break := f_first_break
    d_first_break := _
    F_first_break := fun_mk (st := s_first_break) l_first_break c_first_break k_first_break
    m_first_break := PySem.W.mg_of X G a_first_break
    f_kinds := f_kinds
    d_kinds := _
    F_kinds := fun_mk (st := s_kinds) l_kinds c_kinds k_kinds
    m_kinds := PySem.W.mg_of X G a_kinds
    f_odd_corner := f_odd_corner
    d_odd_corner := _
    F_odd_corner := fun_mk (st := s_odd_corner) l_odd_corner c_odd_corner k_odd_corner
    m_odd_corner := PySem.W.mg_of X G a_odd_corner
    f_binit := f_binit
    d_binit := _
    F_binit := fun_mk (st := s_binit) l_binit c_binit k_binit
    f_blaid := f_blaid
    d_blaid := _
    F_blaid := fun_mk (st := s_blaid) l_blaid c_blaid k_blaid
    mt_blaid := ⟨a_blaid, i_blaid, k_blaid⟩
    f_bat_one := f_bat_one
    d_bat_one := _
    F_bat_one := fun_mk (st := s_bat_one) l_bat_one c_bat_one k_bat_one
    mt_bat_one := ⟨a_bat_one, i_bat_one, k_bat_one⟩
    f_bends := f_bends
    d_bends := _
    F_bends := fun_mk (st := s_bends) l_bends c_bends k_bends
    mt_bends := ⟨a_bends, i_bends, k_bends⟩
    f_bexchanged := f_bexchanged
    d_bexchanged := _
    F_bexchanged := fun_mk (st := s_bexchanged) l_bexchanged c_bexchanged k_bexchanged
    mt_bexchanged := ⟨a_bexchanged, i_bexchanged, k_bexchanged⟩
    f_bby_rise := f_bby_rise
    d_bby_rise := _
    F_bby_rise := fun_mk (st := s_bby_rise) l_bby_rise c_bby_rise k_bby_rise
    mt_bby_rise := ⟨a_bby_rise, i_bby_rise, k_bby_rise⟩
    f_bby_turn := f_bby_turn
    d_bby_turn := _
    F_bby_turn := fun_mk (st := s_bby_turn) l_bby_turn c_bby_turn k_bby_turn
    mt_bby_turn := ⟨a_bby_turn, i_bby_turn, k_bby_turn⟩
    f_bbegun := f_bbegun
    d_bbegun := _
    F_bbegun := fun_mk (st := s_bbegun) l_bbegun c_bbegun k_bbegun
    mt_bbegun := ⟨a_bbegun, i_bbegun, k_bbegun⟩
    f_bas_value := f_bas_value
    d_bas_value := _
    F_bas_value := fun_mk (st := s_bas_value) l_bas_value c_bas_value k_bas_value
    mt_bas_value := ⟨a_bas_value, i_bas_value, k_bas_value⟩
    f_bboth := f_bboth
    d_bboth := _
    F_bboth := fun_mk (st := s_bboth) l_bboth c_bboth k_bboth
    mt_bboth := ⟨a_bboth, i_bboth, k_bboth⟩
    f_beither := f_beither
    d_beither := _
    F_beither := fun_mk (st := s_beither) l_beither c_beither k_beither
    mt_beither := ⟨a_beither, i_beither, k_beither⟩
    f_bwire_of := f_bwire_of
    d_bwire_of := _
    F_bwire_of := fun_mk (st := s_bwire_of) l_bwire_of c_bwire_of k_bwire_of
    mt_bwire_of := ⟨a_bwire_of, i_bwire_of, k_bwire_of⟩
    f_build := f_build
    d_build := _
    F_build := fun_mk (st := s_build) l_build c_build k_build
    m_build := PySem.W.mg_of X G a_build
    f_law_cell_at := f_law_cell_at
    d_law_cell_at := _
    F_law_cell_at := fun_mk (st := s_law_cell_at) l_law_cell_at c_law_cell_at k_law_cell_at
    m_law_cell_at := PySem.W.mg_of X G a_law_cell_at
    f_law_gate := f_law_gate
    d_law_gate := _
    F_law_gate := fun_mk (st := s_law_gate) l_law_gate c_law_gate k_law_gate
    m_law_gate := PySem.W.mg_of X G a_law_gate
    f_law_keeps := f_law_keeps
    d_law_keeps := _
    F_law_keeps := fun_mk (st := s_law_keeps) l_law_keeps c_law_keeps k_law_keeps
    m_law_keeps := PySem.W.mg_of X G a_law_keeps
    f_law_set := f_law_set
    d_law_set := _
    F_law_set := fun_mk (st := s_law_set) l_law_set c_law_set k_law_set
    m_law_set := PySem.W.mg_of X G a_law_set
    f_law_lists := f_law_lists
    d_law_lists := _
    F_law_lists := fun_mk (st := s_law_lists) l_law_lists c_law_lists k_law_lists
    m_law_lists := PySem.W.mg_of X G a_law_lists
    f_law_made := f_law_made
    d_law_made := _
    F_law_made := fun_mk (st := s_law_made) l_law_made c_law_made k_law_made
    m_law_made := PySem.W.mg_of X G a_law_made
    f_law_put := f_law_put
    d_law_put := _
    F_law_put := fun_mk (st := s_law_put) l_law_put c_law_put k_law_put
    m_law_put := PySem.W.mg_of X G a_law_put
    f_law_out := f_law_out
    d_law_out := _
    F_law_out := fun_mk (st := s_law_out) l_law_out c_law_out k_law_out
    m_law_out := PySem.W.mg_of X G a_law_out
    f_law_built := f_law_built
    d_law_built := _
    F_law_built := fun_mk (st := s_law_built) l_law_built c_law_built k_law_built
    m_law_built := PySem.W.mg_of X G a_law_built
    f_law_light := f_law_light
    d_law_light := _
    F_law_light := fun_mk (st := s_law_light) l_law_light c_law_light k_law_light
    m_law_light := PySem.W.mg_of X G a_law_light
    f_law := fa
    d_law := _
    F_law := fun_mk (st := s_law) l_law c_law k_law
    m_law := PySem.W.mg_of X G a_law
    C := C
    cl := ⟨pg, hd, po, sa⟩
    m_Bench := PySem.W.mg_of X G aC
    mkB := ⟨mk, a_binit, i_binit, kc⟩
    n_gates := n_gates
    n_inputs := n_inputs
    n_steps := n_steps
    n_turner := n_turner
    n_constants := n_constants
    n_corner := n_corner
    n_made := n_made
    z_len := PySem.W.mg_none_of X G z_len
    z_sum := PySem.W.mg_none_of X G z_sum
    z_range := PySem.W.mg_none_of X G z_range
    z_list := PySem.W.mg_none_of X G z_list
    z_tuple := PySem.W.mg_none_of X G z_tuple
    z_int := PySem.W.mg_none_of X G z_int
    z_enumerate := PySem.W.mg_none_of X G z_enumerate
    z_sorted := PySem.W.mg_none_of X G z_sorted
    z_zip := PySem.W.mg_none_of X G z_zip
    t_MOST := tMW
    m_MOST_WORK := PySem.W.mg_of X G aMW
    a_KINDS := aK
    m_KINDS := PySem.W.mg_of X G aKn
    q_KINDS := sqT_K l_aK (by show 5 ≤ sizeLine; decide) (.cons ⟨_, rfl⟩ (.cons ⟨_, rfl⟩ (.cons ⟨_, rfl⟩ (.cons ⟨_, rfl⟩ (.cons ⟨_, rfl⟩ .nil)))))
    a_REL := aR
    m_RELATIONS := PySem.W.mg_of X G aRn
    a_OUT := aO
    m_OUTSIDERS := PySem.W.mg_of X G aOn
    q_REL := fun k hk => by
      simp only [REL5, List.mem_cons, List.not_mem_nil, or_false] at hk
      rcases hk with rfl | rfl | rfl | rfl | rfl
      · exact ⟨pR0, r0, ⟨esR, neR, _, lR, yR, gR0, rfl⟩, sqT_K l_pR0 (by show 2 ≤ sizeLine; decide) (.cons ⟨_, rfl⟩ (.cons rfl .nil)), sqT_K l_r0 (by show 1 ≤ sizeLine; decide) (.cons ⟨_, rfl⟩ .nil)⟩
      · exact ⟨pR1, r1, ⟨esR, neR, _, lR, yR, gR1, rfl⟩, sqT_K l_pR1 (by show 2 ≤ sizeLine; decide) (.cons ⟨_, rfl⟩ (.cons rfl .nil)), sqT_K l_r1 (by show 1 ≤ sizeLine; decide) (.cons ⟨_, rfl⟩ .nil)⟩
      · exact ⟨pR2, r2, ⟨esR, neR, _, lR, yR, gR2, rfl⟩, sqT_K l_pR2 (by show 2 ≤ sizeLine; decide) (.cons ⟨_, rfl⟩ (.cons rfl .nil)), sqT_K l_r2 (by show 2 ≤ sizeLine; decide) (.cons ⟨_, rfl⟩ (.cons ⟨_, rfl⟩ .nil))⟩
      · exact ⟨pR3, r3, ⟨esR, neR, _, lR, yR, gR3, rfl⟩, sqT_K l_pR3 (by show 2 ≤ sizeLine; decide) (.cons ⟨_, rfl⟩ (.cons rfl .nil)), sqT_K l_r3 (by show 3 ≤ sizeLine; decide) (.cons ⟨_, rfl⟩ (.cons ⟨_, rfl⟩ (.cons ⟨_, rfl⟩ .nil)))⟩
      · exact ⟨pR4, r4, ⟨esR, neR, _, lR, yR, gR4, rfl⟩, sqT_K l_pR4 (by show 2 ≤ sizeLine; decide) (.cons ⟨_, rfl⟩ (.cons rfl .nil)), sqT_K l_r4 (by show 8 ≤ sizeLine; decide) (.cons ⟨_, rfl⟩ (.cons ⟨_, rfl⟩ (.cons ⟨_, rfl⟩ (.cons ⟨_, rfl⟩ (.cons ⟨_, rfl⟩ (.cons ⟨_, rfl⟩ (.cons ⟨_, rfl⟩ (.cons ⟨_, rfl⟩ .nil))))))))⟩
    q_OUT := fun k hk => by
      simp only [OUT5, List.mem_cons, List.not_mem_nil, or_false] at hk
      rcases hk with rfl | rfl | rfl | rfl | rfl
      · exact ⟨pO0, ⟨esO, neO, _, lO, yO, gO0, rfl⟩, sqT_K l_pO0 (by show 2 ≤ sizeLine; decide) (.cons ⟨_, rfl⟩ (.cons ⟨_, rfl⟩ .nil))⟩
      · exact ⟨pO1, ⟨esO, neO, _, lO, yO, gO1, rfl⟩, sqT_K l_pO1 (by show 2 ≤ sizeLine; decide) (.cons ⟨_, rfl⟩ (.cons ⟨_, rfl⟩ .nil))⟩
      · exact ⟨pO2, ⟨esO, neO, _, lO, yO, gO2, rfl⟩, sqT_K l_pO2 (by show 2 ≤ sizeLine; decide) (.cons ⟨_, rfl⟩ (.cons ⟨_, rfl⟩ .nil))⟩
      · exact ⟨pO3, ⟨esO, neO, _, lO, yO, gO3, rfl⟩, sqT_K l_pO3 (by show 2 ≤ sizeLine; decide) (.cons ⟨_, rfl⟩ (.cons ⟨_, rfl⟩ .nil))⟩
      · exact ⟨pO4, ⟨esO, neO, _, lO, yO, gO4, rfl⟩, sqT_K l_pO4 (by show 2 ≤ sizeLine; decide) (.cons ⟨_, rfl⟩ (.cons ⟨_, rfl⟩ .nil))⟩ }
  exact ⟨PySem.W.fnOf "law" "law" (defArgs s_law) (defBody s_law) (defScope s_law) .none kV_law dc_law pm_law an_law cd_law ct_law, fun s v => .of_eq rfl, fun base _ _ => ok_law T⟩
theorem walk {l : PySem.W.OpenLaw} {q : Program} {loose : List Str} {XP : (Str → Option Value) → Heap → Prop} {YP : World → Heap → Prop} {d : DefRec} {K : Params → PySem.W.Frag} (hn : l.most = some 63) (hdf : d.params.defaults = [])
    (hY : ∀ (w : World) (h : Heap), YP w h → (K w.params).In h)
    (F : ∀ (w : World) (mg : Str → Option Value) (fa : Addr) (h : Heap), (K w.params).In h → h.Ns mainGlobals mg → mg d.name = some (.ref fa) →
      ∃ fd : FuncData, (∀ (s : Shared) (u : Value), BindsTo s fd ⟨[u], []⟩ [("_law_script", u)]) ∧ ∀ base : Heap, (K w.params).In base → base.Ns mainGlobals mg → FnOk l.prog w (K w.params) mg base CX0 12 fa fd ["_law_script"] (spLaw (K w.params))) :
    PySem.W.WalkO q loose XP YP l.row.toRowW d [] (fun f vs => PySem.call f vs) :=
  L2.walk_of (n := 63) (k := 12) (x := "_law_script") (CX := fun _ => CX0) (sp := fun w => spLaw (K w.params)) hn (by decide) hdf ⟨rfl, by decide, by decide⟩ hY F (fun _ _ a ns hl _ hS => ⟨a, ns, rfl, hS, hl, fun _ => rfl⟩) fun _ _ _ _ _ z => z
end Gk

open PySem PySem.W PyProof.Rows in
set_option maxRecDepth 100000 in
set_option maxHeartbeats 0 in
theorem PySem.Challenge.cw_gatekin_k46_whole_five_kinds_holds : PySem.Challenge.rw_gatekin_k46_whole_five_kinds.Holds := by
  w_on; o_law; k_head; (case hw => w_witness2)
  k_fill
  refine Gk.walk (l := PySem.Challenge.rw_gatekin_k46_whole_five_kinds) rfl rfl (fun w h Y => PySem.W.kIn_of Y) ?F
  case F =>
    intro w mg fa h KX G hmg
    refine' Gk.all_mk KX G hmg ?aC ?a_bit_of ?l_bit_of ?c_bit_of ?k_bit_of ?a_number_of ?l_number_of ?c_number_of ?k_number_of ?a_value ?l_value ?c_value ?k_value ?a_renamed ?l_renamed ?c_renamed ?k_renamed ?a_without_alike ?l_without_alike ?c_without_alike ?k_without_alike ?a_without_unused ?l_without_unused ?c_without_unused ?k_without_unused ?a_shared ?l_shared ?c_shared ?k_shared ?a_put_rows ?l_put_rows ?c_put_rows ?k_put_rows ?a_members ?l_members ?c_members ?k_members ?a_to_power ?l_to_power ?c_to_power ?k_to_power ?a_list_number ?l_list_number ?c_list_number ?k_list_number ?a_broken ?l_broken ?c_broken ?k_broken ?a_kind ?l_kind ?c_kind ?k_kind ?a_outsider ?l_outsider ?c_outsider ?k_outsider ?a_first_break ?l_first_break ?c_first_break ?k_first_break ?a_kinds ?l_kinds ?c_kinds ?k_kinds ?a_odd_corner ?l_odd_corner ?c_odd_corner ?k_odd_corner ?a_build ?l_build ?c_build ?k_build ?a_law_cell_at ?l_law_cell_at ?c_law_cell_at ?k_law_cell_at ?a_law_gate ?l_law_gate ?c_law_gate ?k_law_gate ?a_law_keeps ?l_law_keeps ?c_law_keeps ?k_law_keeps ?a_law_set ?l_law_set ?c_law_set ?k_law_set ?a_law_lists ?l_law_lists ?c_law_lists ?k_law_lists ?a_law_made ?l_law_made ?c_law_made ?k_law_made ?a_law_put ?l_law_put ?c_law_put ?k_law_put ?a_law_out ?l_law_out ?c_law_out ?k_law_out ?a_law_built ?l_law_built ?c_law_built ?k_law_built ?a_law_light ?l_law_light ?c_law_light ?k_law_light ?a_law ?l_law ?c_law ?k_law ?a_binit ?i_binit ?l_binit ?c_binit ?k_binit ?a_blaid ?i_blaid ?l_blaid ?c_blaid ?k_blaid ?a_bat_one ?i_bat_one ?l_bat_one ?c_bat_one ?k_bat_one ?a_bends ?i_bends ?l_bends ?c_bends ?k_bends ?a_bexchanged ?i_bexchanged ?l_bexchanged ?c_bexchanged ?k_bexchanged ?a_bby_rise ?i_bby_rise ?l_bby_rise ?c_bby_rise ?k_bby_rise ?a_bby_turn ?i_bby_turn ?l_bby_turn ?c_bby_turn ?k_bby_turn ?a_bbegun ?i_bbegun ?l_bbegun ?c_bbegun ?k_bbegun ?a_bas_value ?i_bas_value ?l_bas_value ?c_bas_value ?k_bas_value ?a_bboth ?i_bboth ?l_bboth ?c_bboth ?k_bboth ?a_beither ?i_beither ?l_beither ?c_beither ?k_beither ?a_bwire_of ?i_bwire_of ?l_bwire_of ?c_bwire_of ?k_bwire_of ?pg ?hd ?po ?sa ?mk ?kc ?n_gates ?n_inputs ?n_steps ?n_turner ?n_constants ?n_corner ?n_made ?z_len ?z_sum ?z_range ?z_list ?z_tuple ?z_int ?z_enumerate ?z_sorted ?z_zip ?aMW ?aKn ?l_aK ?aRn ?lR ?yR ?gR0 ?l_pR0 ?l_r0 ?gR1 ?l_pR1 ?l_r1 ?gR2 ?l_pR2 ?l_r2 ?gR3 ?l_pR3 ?l_r3 ?gR4 ?l_pR4 ?l_r4 ?aOn ?lO ?yO ?gO0 ?l_pO0 ?gO1 ?l_pO1 ?gO2 ?l_pO2 ?gO3 ?l_pO3 ?gO4 ?l_pO4
    (case aC => k_is)
    (case a_bit_of => k_is)
    (case l_bit_of => k_is)
    (case c_bit_of => k_is)
    (case k_bit_of => k_is)
    (case a_number_of => k_is)
    (case l_number_of => k_is)
    (case c_number_of => k_is)
    (case k_number_of => k_is)
    (case a_value => k_is)
    (case l_value => k_is)
    (case c_value => k_is)
    (case k_value => k_is)
    (case a_renamed => k_is)
    (case l_renamed => k_is)
    (case c_renamed => k_is)
    (case k_renamed => k_is)
    (case a_without_alike => k_is)
    (case l_without_alike => k_is)
    (case c_without_alike => k_is)
    (case k_without_alike => k_is)
    (case a_without_unused => k_is)
    (case l_without_unused => k_is)
    (case c_without_unused => k_is)
    (case k_without_unused => k_is)
    (case a_shared => k_is)
    (case l_shared => k_is)
    (case c_shared => k_is)
    (case k_shared => k_is)
    (case a_put_rows => k_is)
    (case l_put_rows => k_is)
    (case c_put_rows => k_is)
    (case k_put_rows => k_is)
    (case a_members => k_is)
    (case l_members => k_is)
    (case c_members => k_is)
    (case k_members => k_is)
    (case a_to_power => k_is)
    (case l_to_power => k_is)
    (case c_to_power => k_is)
    (case k_to_power => k_is)
    (case a_list_number => k_is)
    (case l_list_number => k_is)
    (case c_list_number => k_is)
    (case k_list_number => k_is)
    (case a_broken => k_is)
    (case l_broken => k_is)
    (case c_broken => k_is)
    (case k_broken => k_is)
    (case a_kind => k_is)
    (case l_kind => k_is)
    (case c_kind => k_is)
    (case k_kind => k_is)
    (case a_outsider => k_is)
    (case l_outsider => k_is)
    (case c_outsider => k_is)
    (case k_outsider => k_is)
    (case a_first_break => k_is)
    (case l_first_break => k_is)
    (case c_first_break => k_is)
    (case k_first_break => k_is)
    (case a_kinds => k_is)
    (case l_kinds => k_is)
    (case c_kinds => k_is)
    (case k_kinds => k_is)
    (case a_odd_corner => k_is)
    (case l_odd_corner => k_is)
    (case c_odd_corner => k_is)
    (case k_odd_corner => k_is)
    (case a_build => k_is)
    (case l_build => k_is)
    (case c_build => k_is)
    (case k_build => k_is)
    (case a_law_cell_at => k_is)
    (case l_law_cell_at => k_is)
    (case c_law_cell_at => k_is)
    (case k_law_cell_at => k_is)
    (case a_law_gate => k_is)
    (case l_law_gate => k_is)
    (case c_law_gate => k_is)
    (case k_law_gate => k_is)
    (case a_law_keeps => k_is)
    (case l_law_keeps => k_is)
    (case c_law_keeps => k_is)
    (case k_law_keeps => k_is)
    (case a_law_set => k_is)
    (case l_law_set => k_is)
    (case c_law_set => k_is)
    (case k_law_set => k_is)
    (case a_law_lists => k_is)
    (case l_law_lists => k_is)
    (case c_law_lists => k_is)
    (case k_law_lists => k_is)
    (case a_law_made => k_is)
    (case l_law_made => k_is)
    (case c_law_made => k_is)
    (case k_law_made => k_is)
    (case a_law_put => k_is)
    (case l_law_put => k_is)
    (case c_law_put => k_is)
    (case k_law_put => k_is)
    (case a_law_out => k_is)
    (case l_law_out => k_is)
    (case c_law_out => k_is)
    (case k_law_out => k_is)
    (case a_law_built => k_is)
    (case l_law_built => k_is)
    (case c_law_built => k_is)
    (case k_law_built => k_is)
    (case a_law_light => k_is)
    (case l_law_light => k_is)
    (case c_law_light => k_is)
    (case k_law_light => k_is)
    (case a_law => k_is)
    (case l_law => k_is)
    (case c_law => k_is)
    (case k_law => k_is)
    (case a_binit => k_is)
    (case i_binit => k_is)
    (case l_binit => k_is)
    (case c_binit => k_is)
    (case k_binit => k_is)
    (case a_blaid => k_is)
    (case i_blaid => k_is)
    (case l_blaid => k_is)
    (case c_blaid => k_is)
    (case k_blaid => k_is)
    (case a_bat_one => k_is)
    (case i_bat_one => k_is)
    (case l_bat_one => k_is)
    (case c_bat_one => k_is)
    (case k_bat_one => k_is)
    (case a_bends => k_is)
    (case i_bends => k_is)
    (case l_bends => k_is)
    (case c_bends => k_is)
    (case k_bends => k_is)
    (case a_bexchanged => k_is)
    (case i_bexchanged => k_is)
    (case l_bexchanged => k_is)
    (case c_bexchanged => k_is)
    (case k_bexchanged => k_is)
    (case a_bby_rise => k_is)
    (case i_bby_rise => k_is)
    (case l_bby_rise => k_is)
    (case c_bby_rise => k_is)
    (case k_bby_rise => k_is)
    (case a_bby_turn => k_is)
    (case i_bby_turn => k_is)
    (case l_bby_turn => k_is)
    (case c_bby_turn => k_is)
    (case k_bby_turn => k_is)
    (case a_bbegun => k_is)
    (case i_bbegun => k_is)
    (case l_bbegun => k_is)
    (case c_bbegun => k_is)
    (case k_bbegun => k_is)
    (case a_bas_value => k_is)
    (case i_bas_value => k_is)
    (case l_bas_value => k_is)
    (case c_bas_value => k_is)
    (case k_bas_value => k_is)
    (case a_bboth => k_is)
    (case i_bboth => k_is)
    (case l_bboth => k_is)
    (case c_bboth => k_is)
    (case k_bboth => k_is)
    (case a_beither => k_is)
    (case i_beither => k_is)
    (case l_beither => k_is)
    (case c_beither => k_is)
    (case k_beither => k_is)
    (case a_bwire_of => k_is)
    (case i_bwire_of => k_is)
    (case l_bwire_of => k_is)
    (case c_bwire_of => k_is)
    (case k_bwire_of => k_is)
    (case pg => k_is)
    (case hd => k_is)
    (case po => k_is)
    (case sa => k_is)
    (case mk => k_is)
    (case kc => k_is)
    (case n_gates => k_is)
    (case n_inputs => k_is)
    (case n_steps => k_is)
    (case n_turner => k_is)
    (case n_constants => k_is)
    (case n_corner => k_is)
    (case n_made => k_is)
    (case z_len => k_is)
    (case z_sum => k_is)
    (case z_range => k_is)
    (case z_list => k_is)
    (case z_tuple => k_is)
    (case z_int => k_is)
    (case z_enumerate => k_is)
    (case z_sorted => k_is)
    (case z_zip => k_is)
    (case aMW => k_is)
    (case aKn => k_is)
    (case l_aK => k_is)
    (case aRn => k_is)
    (case lR => k_is)
    (case yR => exact ⟨⟨_, _, rfl, rfl⟩, ⟨_, _, rfl, rfl⟩, ⟨_, _, rfl, rfl⟩, ⟨_, _, rfl, rfl⟩, ⟨_, _, rfl, rfl⟩, trivial⟩)
    (case gR0 => k_is)
    (case l_pR0 => k_is)
    (case l_r0 => k_is)
    (case gR1 => k_is)
    (case l_pR1 => k_is)
    (case l_r1 => k_is)
    (case gR2 => k_is)
    (case l_pR2 => k_is)
    (case l_r2 => k_is)
    (case gR3 => k_is)
    (case l_pR3 => k_is)
    (case l_r3 => k_is)
    (case gR4 => k_is)
    (case l_pR4 => k_is)
    (case l_r4 => k_is)
    (case aOn => k_is)
    (case lO => k_is)
    (case yO => exact ⟨⟨_, _, rfl, rfl⟩, ⟨_, _, rfl, rfl⟩, ⟨_, _, rfl, rfl⟩, ⟨_, _, rfl, rfl⟩, ⟨_, _, rfl, rfl⟩, trivial⟩)
    (case gO0 => k_is)
    (case l_pO0 => k_is)
    (case gO1 => k_is)
    (case l_pO1 => k_is)
    (case gO2 => k_is)
    (case l_pO2 => k_is)
    (case gO3 => k_is)
    (case l_pO3 => k_is)
    (case gO4 => k_is)
    (case l_pO4 => k_is)
